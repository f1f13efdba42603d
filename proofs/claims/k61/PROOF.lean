import PyProof.Rows.All
import Wide.All
import OpenK.AllK
import Wide.FinOn
import HandS.ForMost
import HandS.ForExc
import HandS.Codes
import HandS.Style
import HandS.Wide
import HandS.IsInst
import HandS.TupAny
import HandS.HotCalls
import HandS.ExcIs
import HandS.ExcCtx
import HandS.Hot
import HandS.Conv
import HandS.SortRule
import KE.KDictDisplayH
import KE.KDictWalk
import KE.DataMinMax
import KE.SortData
import HandS.SetFor
import KE.GoesEnum
import HandS.TupMul
import HandS.Flow
import PySem.Challenge.RW_strikewheel_k61_turns_written
set_option Elab.async false
set_option linter.all false
set_option maxRecDepth 100000
set_option maxHeartbeats 4000000
set_option exponentiation.threshold 2000
section
/-! The layer of all laws: names for readings, calls by their promises, texts, draws. -/
namespace Sw
open PySem PySem.Spec PyProof.Rows L2 SX

/-! ### names for what operators and built-ins read -/
abbrev rAdd : R2 := rI0 fun i j => .int (i + j)
abbrev rSub : R2 := rI0 fun i j => .int (i - j)
abbrev rMulW : R2 := rI CMulW fun i j => .int (i * j)
abbrev rDivW : R2 := rI CDivW fun i j => .int (i / j)
abbrev rMod : R2 := rI (fun _ j => 0 < j) fun i j => .int (i % j)
abbrev rPow : R2 := rI CPow fun i j => .int (i ^ j.toNat)
abbrev rNeg : V → Hp → VK → Prop := rU fun i => .int (-i)
abbrev rLt : R2 := rI0 fun i j => .bl (decide (i < j))
abbrev rLe : R2 := rI0 fun i j => .bl (decide (i ≤ j))
abbrev rGt : R2 := rI0 fun i j => .bl (decide (j < i))
abbrev rGe : R2 := rI0 fun i j => .bl (decide (j ≤ i))
abbrev rLtS : R2 := fun x y H Q => ∃ i j, x = .str i ∧ y = .str j ∧ Q (.bl (decide (i.cps.toList < j.cps.toList))) H
abbrev rLeS : R2 := fun x y H Q => ∃ i j, x = .str i ∧ y = .str j ∧ Q (.bl (!decide (j.cps.toList < i.cps.toList))) H
abbrev rGtS : R2 := fun x y H Q => ∃ i j, x = .str i ∧ y = .str j ∧ Q (.bl (decide (j.cps.toList < i.cps.toList))) H
abbrev rGeS : R2 := fun x y H Q => ∃ i j, x = .str i ∧ y = .str j ∧ Q (.bl (!decide (i.cps.toList < j.cps.toList))) H
abbrev rAddS : R2 := fun x y H Q => ∃ i j, x = .str i ∧ y = .str j ∧ i.length + j.length ≤ sizeLine ∧ Q (.str (i ++ j)) H
abbrev rInSign : R2 := fun x y H Q => ∃ (c : Nat) (z : Str), x = .str ⟨#[c]⟩ ∧ y = .str z ∧ Q (.bl (decide (c ∈ z.cps.toList))) H
abbrev rNotInSign : R2 := fun x y H Q => ∃ (c : Nat) (z : Str), x = .str ⟨#[c]⟩ ∧ y = .str z ∧ Q (.bl (!decide (c ∈ z.cps.toList))) H
abbrev rIsNn : R2 := fun x y H Q => y = .non ∧ Q (.bl (decide (x = .non))) H
abbrev rNotNn : R2 := fun x y H Q => y = .non ∧ Q (.bl (!decide (x = .non))) H
abbrev RC := List V → Hp → VK → Prop
abbrev rLenStr : RC := fun xs H Q => ∃ z, xs = [.str z] ∧ z.length ≤ sizeLine ∧ Q (.int z.length) H
abbrev rLenSq (K : PySem.W.Frag) : RC := fun xs H Q => ∃ p ys, xs = [.ref p] ∧ (SqL K H p ys ∨ SqT K H p ys) ∧ Q (.int ys.length) H
abbrev rAbs : RC := fun xs H Q => ∃ i, xs = [.int i] ∧ Q (.int (if i < 0 then -i else i)) H
abbrev rMax2 : RC := fun xs H Q => ∃ i j, xs = [.int i, .int j] ∧ Q (.int (if j > i then j else i)) H
abbrev rMin2 : RC := fun xs H Q => ∃ i j, xs = [.int i, .int j] ∧ Q (.int (if j < i then j else i)) H
abbrev rInt1 : RC := fun xs H Q => (∃ i, xs = [.int i] ∧ Q (.int i) H) ∨ ∃ k, xs = [.bl k] ∧ Q (.int (if k then 1 else 0)) H
abbrev rListOf (K : PySem.W.Frag) : RC := fun xs H Q => ∃ p ys, xs = [.ref p] ∧ (SqL K H p ys ∨ SqT K H p ys) ∧ ∀ l, H l = none → Q (.ref l) (upd H l (.lst ys))
abbrev rTupleOf (K : PySem.W.Frag) : RC := fun xs H Q => ∃ p ys, xs = [.ref p] ∧ ((SqL K H p ys ∧ ∀ l, H l = none → Q (.ref l) (upd H l (.tup ys))) ∨ (SqT K H p ys ∧ Q (.ref p) H))
abbrev rListT : RC := fun xs H Q => ∃ d kvs, xs = [V.ref d] ∧ Rd H d (.dT kvs) ∧ ∀ p bs, H p = none → IsKeys H kvs bs → Q (.ref p) (upd H p (.lst (bs.map V.ref)))
abbrev rCount : V → List V → Hp → VK → Prop := fun x xs H Q => ∃ a b, x = .str a ∧ xs = [.str b] ∧ Q (.int (Txt.count a b)) H
abbrev rStrInt : RC := fun xs H Q => ∃ i, xs = [.int i] ∧ i.natAbs.log2 < 1920 ∧ Q (.str (toString i)) H
abbrev rJoin (K : PySem.W.Frag) : V → List V → Hp → VK → Prop := fun x xs H Q => ∃ a p, ∃ ys : List Str, x = .str a ∧ xs = [.ref p] ∧ (SqL K H p (ys.map V.str) ∨ SqT K H p (ys.map V.str)) ∧ (ys.map (·.length)).sum + ys.length * a.length ≤ 16777216 ∧ Q (.str (Txt.join a ys)) H

/-! ### calls by promises -/
/-- the def under the name x keeps sp, by level k; nothing leaves it -/
structure Cal (P : Program) (w : World) (K : PySem.W.Frag) (mg : Str → Option Value) (base : Heap) (k : Nat) (x : Str) (sp : Sp) : Prop where
  ex : ∃ (f : Addr) (fd : FuncData) (ps : List Str), FnOk P w K mg base CX0 k f fd ps sp ∧ mg x = some (.ref f) ∧ PySem.W.keepIn K (.ref f) = true ∧ Binds K fd ps []
section
variable {X : Cx} {k j : Nat} {x : Str} {sp : Sp} {p pos : Pos} {e : Expr} {es : List Expr} {t : TA}
theorem pe_cal (c : Cal X.prog X.w X.K X.mg X.base k x sp) (hr : Room j X.A) (hk : k ≤ j) (hg : Gl X x) (ha : PA X (e :: es) t) (hdb : (x == ("__debug__" : Str)) = false := by decide)
    (he : starEach (e :: es) X.env = (false, eval e X.env) :: starEach es X.env := by rfl) (hpl : (backTo pos (starEach es X.env)).any (·.1) = false := by rfl) : PE X (.Call (.Name x p) (e :: es) [] pos) (tCall sp [] E0 t) := by
  obtain ⟨f, fd, ps, F, hm, kp, b⟩ := c.ex
  exact pe_call F (hr.mono hk) hg hm kp b .nil pass0 ha hdb he hpl
theorem pe_gc {v : V} (hg : Gl X x) (h : ∃ u, X.mg x = some u ∧ RelV v u) (hd : (x == ("__debug__" : Str)) = false := by decide) : PE X (.Name x pos) (tC v) := by
  obtain ⟨u, hm, r⟩ := h
  exact pe_glob hg hm r hd
end

/-! ### a text told from its end: s[::-1] -/
def tRevS (te : TE) : TE := fun σ H Q => te σ H fun x H1 => ∃ l : List Nat, x = .str (S l) ∧ l.length ≤ sizeLine ∧ Q (.str (S l.reverse)) H1
theorem rev_pick (l : List Nat) : (Builtin.Str.strSliceIndices none none (-1) (S l).length).filterMap ((S l).cps[·]?) = l.reverse := by
  rw [PyProof.Rows.picked_rev, PySem.W.krv_range, List.filterMap_reverse, S_len]
  have h := PySem.W.krv_all (S l).cps
  have e : (S l).cps.size = l.length := by simp
  rw [e] at h
  rw [h]
section
variable {X : Cx}
theorem pe_revS {e : Expr} {te : TE} {k : Nat} {p1 p2 p3 pos : Pos} (he : PE X e te) : PE X (.Subscript e (.Slice none none (some (.UnaryOp .USub (.Constant (.int 1) k p1) p2)) p3) pos) (tRevS te) := by
  refine ⟨fun pins s σ H Q I h => ?_⟩
  refine Subscript_ (thn (he.run pins s σ H _ I h) fun v s1 ⟨x, H1, I1, r1, q1⟩ => ?_)
  obtain ⟨l, ex, hz, q⟩ := q1
  subst ex
  obtain ⟨tk, rfl⟩ := r1
  have hst : PO X (some (.UnaryOp .USub (.Constant (.int 1) k p1) p2)) (tPart (tUn (rU fun i => .int (-i)) (tC (.int 1)))) := po_some (pe_un un_neg pe_int)
  refine wpAny_Slice (thn (po_none.run pins s1 σ H1 (fun o H2 => o = none ∧ H2 = H1) I1 ⟨rfl, rfl⟩) fun vl s2 ⟨lo, H2, I2, pl, el, e2⟩ => ?_)
  subst el e2
  refine thn (po_none.run pins s2 σ H2 (fun o H3 => o = none ∧ H3 = H2) I2 ⟨rfl, rfl⟩) fun vu s3 ⟨u, H3, I3, pu, eu, e3⟩ => ?_
  subst eu e3
  refine thn (hst.run pins s3 σ H3 (fun o H4 => o = some (-1) ∧ H4 = H3) I3 ⟨1, rfl, -1, rfl, rfl, rfl⟩) fun vs s4 ⟨o, H4, I4, ps, eo, e4⟩ => ?_
  subst eo e4
  have I5 : Inv X pins σ H4 { s4 with heap := s4.heap.push { cls := .type "slice", data := .fields #[vl, vu, vs] } } := I4.kept (t' := s4.toks) fun b ob q => Heap.get?_push_of_some _ q
  obtain ⟨pl', rfl, epl⟩ := IsPart.raw pl
  obtain ⟨pu', rfl, epu⟩ := IsPart.raw pu
  obtain ⟨ps', rfl, eps⟩ := IsPart.raw ps
  have hsl := Heap.IsSliceOf.new s4.heap (partValue pl') (partValue pu') (partValue ps')
  obtain ⟨os, hos, hcs, hds⟩ := hsl
  show wpAny (model X.prog X.w) X.A (subscriptTail e (.Slice none none (some (.UnaryOp .USub (.Constant (.int 1) k p1) p2)) p3) (.str (S l) tk) (.ref s4.heap.objs.size)) (EP X pins σ Q) X.xe _
  refine tail_any (ops := [.str (S l) tk, .ref s4.heap.objs.size]) (typeIs_str _ _ _) (F.slot_str_getitem.lookup) ?_ (by with_unfolding_all rfl)
  have h1 : ps'.map (·.1) = some (-1) := eps
  have h2 : pl'.map (·.1) = none := epl
  have h3 : pu'.map (·.1) = none := epu
  refine wpAny_getItem_str_slice (l := pl') (u := pu') (st := ps') ⟨os, hos, hcs, hds⟩ (by rw [h1]; rfl) ?_
  unfold sliceMade slicePicked
  rw [h1, h2, h3, if_neg (by simp)]
  show Made.post (Made.str ⟨((Builtin.Str.strSliceIndices none none (-1) (S l).length).filterMap ((S l).cps[·]?)).toArray⟩) _ _
  rw [rev_pick]
  exact ⟨by rw [S_len, List.length_reverse]; exact hz, .str (S l.reverse), H4, I5.tok _, ⟨_, rfl⟩, q⟩
end
/-! ### a text told again and again: s * n -/
abbrev rMulS : R2 := fun x y H Q => ∃ (l : List Nat) (n : Int), x = .str (S l) ∧ y = .int n ∧ 0 ≤ n ∧ n ≤ 1000 ∧ l.length ≤ 1000 ∧ Q (.str (S (List.replicate n.toNat l).flatten)) H
theorem fold_cat (a : Array Nat) : ∀ (n : Nat) (b : Array Nat), (List.replicate n a).foldl (· ++ ·) b = (b.toList ++ (List.replicate n a.toList).flatten).toArray
  | 0, b => by simp
  | n + 1, b => by
    rw [List.replicate_succ, List.foldl_cons, fold_cat a n, List.replicate_succ, List.flatten_cons]
    simp
theorem rep_len (l : List Nat) (n : Nat) : (List.replicate n l).flatten.length = n * l.length := by simp
section
variable {X : Cx}
theorem op_mulS : OpR X (binaryOp .Mult) rMulS := by
  intro pins s σ H x y v u Q I rx ry h
  obtain ⟨l, n, rfl, rfl, n0, n1, hl, q⟩ := h
  obtain ⟨t, rfl⟩ := rx
  obtain ⟨t', rfl⟩ := ry
  have hm : l.length * n.toNat ≤ 1000 * 1000 := Nat.mul_le_mul hl (by omega)
  refine PySem.P.mul_str (by
      have h1 : ¬ n < -(2 ^ 63 : Int) := by omega
      have h2 : ¬ n ≥ 2 ^ 63 := by omega
      rw [decide_eq_false h1, decide_eq_false h2]; rfl) (fun a _ => ?_) (fun _ _ => ?_) ?_
  · rw [S_len]
    have : (1000 : Int) ≤ (2 ^ 63 - 1) / n := (Int.le_ediv_iff_mul_le (by omega)).mpr (by omega)
    omega
  · rw [S_len]
    refine decide_eq_false ?_
    have : (1000 * 1000 : Nat) ≤ sizeLine := by decide
    omega
  · by_cases h1 : n < 1
    · rw [if_pos h1]
      have e : n.toNat = 0 := by omega
      rw [e] at q
      exact ⟨by decide, .str (S []), H, I.tok _, ⟨_, rfl⟩, q⟩
    · rw [if_neg h1]
      by_cases h2 : (n == 1 || (S l).length == 0) = true
      · rw [if_pos h2]
        have e : (List.replicate n.toNat l).flatten = l := by
          rcases (by simpa using h2 : n = 1 ∨ (S l).length = 0) with e | e
          · subst e
            show (List.replicate 1 l).flatten = l
            simp
          · rw [S_len] at e
            have : l = [] := List.length_eq_zero_iff.mp e
            subst this
            simp
        rw [e] at q
        exact ⟨.str (S l), H, I, ⟨_, rfl⟩, q⟩
      · rw [if_neg h2]
        rw [fold_cat]
        have e : (⟨((#[] : Array Nat).toList ++ (List.replicate n.toNat (S l).cps.toList).flatten).toArray⟩ : Str) = S (List.replicate n.toNat l).flatten := rfl
        rw [e]
        refine ⟨?_, .str _, H, I.tok _, ⟨_, rfl⟩, q⟩
        rw [S_len, rep_len]
        have : (1000 * 1000 : Nat) ≤ sizeLine := by decide
        rw [Nat.mul_comm]
        omega
end
end Sw
end
section
namespace Sw
open PySem PySem.Spec PyProof.Rows L2 SX
/-! ### reading, step by step -/
section
variable {K : PySem.W.Frag} {σ : L2.St} {H : Hp} {Q : VK} {QT : Bool → Hp → Prop} {QA : List V → Hp → Prop} {D : Ends} {te ta tb tc : TE} {tr : TA} {t u : TS} {tt tu : TT} {r r' : R2} {i : Nat} {v x y : V} {a b : Int}
theorem g_seqasg (h : te σ H fun x H1 => u D (σ.set i (some x)) H1) : tSeq (tAsg te (gName i)) u D σ H := h
theorem g_seqdrop (h : te σ H fun _ H1 => u D σ H1) : tSeq (tDrop te) u D σ H := h
theorem g_seqsub {to ti : TE} {rs : TSet} (h : te σ H fun x H1 => to σ H1 fun o H2 => ti σ H2 fun k H3 => rs o k x H3 fun H4 => u D σ H4) : tSeq (tAsg te (gSub to ti rs)) u D σ H := h
/-- what follows is shown once, for all states of I, then the ways to it -/
theorem g_join (I : L2.St → Hp → Prop) (hu : ∀ σ' H', I σ' H' → u D σ' H') (h : ∀ U : L2.St → Hp → Prop, (∀ σ' H', I σ' H' → U σ' H') → t { D with nx := U } σ H) : tSeq t u D σ H := h _ hu
theorem g_seqif (h : tt σ H fun b H1 => if b = true then t { D with nx := u D } σ H1 else u D σ H1) {w : TS} (e : w = tNext) : tSeq (tIfS tt t w) u D σ H := by subst e; exact h
theorem g_seq (h : t { D with nx := u D } σ H) : tSeq t u D σ H := h
theorem g_asg (h : te σ H fun x H1 => D.nx (σ.set i (some x)) H1) : tAsg te (gName i) D σ H := h
theorem g_asgsub {to ti : TE} {rs : TSet} (h : te σ H fun x H1 => to σ H1 fun o H2 => ti σ H2 fun k H3 => rs o k x H3 fun H4 => D.nx σ H4) : tAsg te (gSub to ti rs) D σ H := h
theorem g_ret (h : te σ H fun x H1 => D.rt x H1) : tRet te D σ H := h
theorem g_drop (h : te σ H fun _ H1 => D.nx σ H1) : tDrop te D σ H := h
theorem g_name {QS : L2.St → Hp → Prop} (h : QS (σ.set i (some v)) H) : gName i v σ H QS := h
theorem g_next (h : D.nx σ H) : tNext D σ H := h
theorem g_if (h : tt σ H fun b H1 => if b = true then t D σ H1 else u D σ H1) : tIfS tt t u D σ H := h
theorem g_test (h : te σ H fun x H1 => ∃ k, x = .bl k ∧ QT k H1) : tTest te σ H QT := h
theorem g_yes (h : QT true H) : tYes σ H QT := h
theorem g_B (h : te σ H fun x H1 => ∃ k, x = .bl k ∧ QT k H1) : tB te σ H QT := h
theorem g_not (h : tt σ H fun c H1 => QT (!c) H1) : tNot tt σ H QT := h
theorem g_and (h : tt σ H fun c H1 => if c = true then tu σ H1 QT else QT false H1) : tAnd tt tu σ H QT := h
theorem g_or (h : tt σ H fun c H1 => if c = true then QT true H1 else tu σ H1 QT) : tOr tt tu σ H QT := h
theorem g_andV (h : ta σ H fun x H1 => ∃ c, x = .bl c ∧ if c = true then tb σ H1 Q else Q (.bl false) H1) : tAndV ta tb σ H Q := h
theorem g_orV (h : ta σ H fun x H1 => ∃ c, x = .bl c ∧ if c = true then Q (.bl true) H1 else tb σ H1 Q) : tOrV ta tb σ H Q := h
theorem g_notV (h : ta σ H fun x H1 => ∃ c, x = .bl c ∧ Q (.bl (!c)) H1) : tNotV ta σ H Q := h
theorem g_ifE (h : tt σ H fun c H1 => if c = true then ta σ H1 Q else tb σ H1 Q) : tIf tt ta tb σ H Q := h
theorem g_chain (h : ta σ H fun x H1 => tb σ H1 fun y H2 => r x y H2 fun z H3 => ∃ k, z = .bl k ∧ (if k = true then tc σ H3 fun w' H4 => r' y w' H4 Q else Q (.bl false) H3)) : tChain r r' ta tb tc σ H Q := h
theorem g_op (h : ta σ H fun x H1 => tb σ H1 fun y H2 => r x y H2 Q) : tOp r ta tb σ H Q := h
theorem g_un {ru : V → Hp → VK → Prop} (h : ta σ H fun x H1 => ru x H1 Q) : tUn ru ta σ H Q := h
theorem g_cons (h : ta σ H fun x H1 => tr σ H1 fun xs H2 => QA (x :: xs) H2) : tCons ta tr σ H QA := h
theorem g_nil (h : QA [] H) : tNil σ H QA := h
theorem g_cb {rc : RC} (h : tr σ H fun vs H1 => rc vs H1 Q) : tCB rc tr σ H Q := h
theorem g_call {sp : Sp} {E : XK} (h : tr σ H fun vs H1 => sp vs H1 Q E) : tCall sp [] E tr σ H Q := by
  unfold tCall
  have e : (fun vs H1 => sp (vs ++ []) H1 Q E) = (fun vs H1 => sp vs H1 Q E) := by
    funext vs H1
    rw [List.append_nil]
  rw [e]
  exact h
theorem g_tup (h : tr σ H fun xs H1 => xs.length ≤ sizeLine ∧ ∀ p, H1 p = none → Q (.ref p) (upd H1 p (.tup xs))) : tTup tr σ H Q := h
theorem g_lst (h : tr σ H fun xs H1 => xs.length ≤ sizeLine ∧ ∀ p, H1 p = none → Q (.ref p) (upd H1 p (.lst xs))) : tLst tr σ H Q := h
theorem g_var (hv : σ[i]? = some (some v)) (h : Q v H) : tVar i σ H Q := ⟨v, hv, h⟩
theorem g_c (h : Q v H) : tC v σ H Q := h
theorem g_sl {rs : V → Option Int → Option Int → Hp → VK → Prop} {tl th : TO} (h : te σ H fun x H1 => tl σ H1 fun l H2 => th σ H2 fun u H3 => rs x l u H3 Q) : tSl rs te tl th σ H Q := h
theorem g_part {QO : Option Int → Hp → Prop} (h : te σ H fun x H1 => ∃ i, x = .int i ∧ QO (some i) H1) : tPart te σ H QO := h
theorem g_m1 {rm : V → List V → Hp → VK → Prop} (h : ta σ H fun x H1 => (∃ a, x = .str a) ∧ tb σ H1 fun y H2 => rm x [y] H2 Q) : tM1 rm ta tb σ H Q := h
theorem g_nopart {QO : Option Int → Hp → Prop} (h : QO none H) : tNoPart σ H QO := h
/-! by values -/
theorem g_I0 {g : Int → Int → V} (h : Q (g a b) H) : rI0 g (.int a) (.int b) H Q := ⟨a, b, rfl, rfl, h⟩
theorem g_I {C : Int → Int → Prop} {g : Int → Int → V} (hc : C a b) (h : Q (g a b) H) : rI C g (.int a) (.int b) H Q := ⟨a, b, rfl, rfl, hc, h⟩
theorem g_U {g : Int → V} (h : Q (g a) H) : rU g (.int a) H Q := ⟨a, rfl, h⟩
theorem g_eq (hs : scal x y = true) (h : Q (.bl (decide (x = y))) H) : rEq x y H Q := ⟨hs, h⟩
theorem g_ne (hs : scal x y = true) (h : Q (.bl (!decide (x = y))) H) : rNe x y H Q := ⟨hs, h⟩
theorem g_ixL {p : Addr} {xs : List V} (h : H p = some (.lst xs)) (ha : atI xs a = some v) (q : Q v H) : rIxL K (.ref p) (.int a) H Q := ⟨p, xs, a, v, rfl, rfl, .inl (.inl h), ha, q⟩
theorem g_ixT {p : Addr} {xs : List V} (h : H p = some (.tup xs)) (ha : atI xs a = some v) (q : Q v H) : rIxT K (.ref p) (.int a) H Q := ⟨p, xs, a, v, rfl, rfl, .inl (.inl h), ha, q⟩
theorem g_setL {p : Addr} {xs ys : List V} {j : Nat} {QS : Hp → Prop} (h : H p = some (.lst xs)) (ha : ixN xs.length a = some j) (hy : xs.set j v = ys) (q : ∀ H', H' p = some (.lst ys) → (∀ b, b ≠ p → H' b = H b) → QS H') : rSetL (.ref p) (.int a) v H QS :=
  ⟨p, xs, a, j, rfl, rfl, h, ha, by rw [hy]; exact q _ upd_same fun b hb => upd_ne hb⟩
theorem cm {i j : Int} (h1 : -(2 ^ 500) < i) (h2 : i < 2 ^ 500) (h3 : -(2 ^ 500) < j) (h4 : j < 2 ^ 500) : CMulW i j := wide_mul (a := 500) (b := 500) (by omega) (by omega) (by decide) (by decide) (by decide)
theorem cd {i j : Int} (h1 : 0 < j) (h4 : j < 2 ^ 500) : CDivW i j := wide_div (b := 500) h1 (by omega) (by decide) (by decide)
theorem g_bl {c : Bool} {F : Bool → Prop} (h : F c) : ∃ k, V.bl c = .bl k ∧ F k := ⟨c, rfl, h⟩
theorem g_int {F : Int → Prop} (h : F a) : ∃ k, V.int a = .int k ∧ F k := ⟨a, rfl, h⟩
theorem ite_d {c A B : Prop} [Decidable c] (h1 : c → A) (h2 : ¬ c → B) : if decide c = true then A else B := by
  by_cases h : c
  · rw [if_pos (decide_eq_true h)]; exact h1 h
  · rw [if_neg (by rw [decide_eq_false h]; exact Bool.false_ne_true)]; exact h2 h
theorem ite_n {c A B : Prop} [Decidable c] (h1 : ¬ c → A) (h2 : c → B) : if (!decide c) = true then A else B := by
  by_cases h : c
  · rw [if_neg (by rw [decide_eq_true h]; exact Bool.false_ne_true)]; exact h2 h
  · rw [if_pos (by rw [decide_eq_false h]; rfl)]; exact h1 h
theorem ite_b {c : Bool} {A B : Prop} (h1 : c = true → A) (h2 : c = false → B) : if c = true then A else B := by
  cases c with
  | true => exact h1 rfl
  | false => exact h2 rfl
end

theorem iteNT {A B : Prop} (h : B) : if (!true) = true then A else B := h
theorem iteNF {A B : Prop} (h : A) : if (!false) = true then A else B := h
/-! ### loops -/
section
variable {K : PySem.W.Frag} {σ : L2.St} {H : Hp} {Q : VK} {D : Ends} {te ta : TE} {tr : TA} {tb : TS} {tt : TT} {g : TG} {j : Nat} {vs : List Nat}
/-- for i in range(e): C: what e comes to; Pv: the invariant -/
theorem for1 (C : Int → Hp → Prop) (hn : ∀ QA : List V → Hp → Prop, (∀ n H1, C n H1 → QA [.int n] H1) → tr σ H QA) (Pv : Int → Nat → L2.St → Hp → Prop) (p0 : ∀ n H1, C n H1 → n < 2 ^ 62 ∧ -(2 ^ 62) ≤ n ∧ Pv n 0 σ H1)
    (ps : ∀ (n : Int) (i : Nat) σ' H', (i : Int) < n → Pv n i σ' H' → tb { D with nx := Pv n (i + 1), ct := Pv n (i + 1), bk := D.nx } (σ'.set j (some (.int (i : Int)))) H') (pd : ∀ n σ' H', Pv n n.toNat σ' H' → D.nx σ' H') : tFor (iRng1 tr) (gName j) tb D σ H := by
  refine hn _ fun n H1 c => ?_
  obtain ⟨h1, h2, h0⟩ := p0 n H1 c
  refine ⟨n, rfl, h2, h1, for_range (lo := 0) (n := n.toNat) (Pv n) h0 (fun i σ' H' hi p => ?_) (pd n)⟩
  show tb _ (σ'.set j (some (.int ((0 : Int) + (i : Int))))) H'
  rw [Int.zero_add]
  exact ps n i σ' H' (by omega) p
/-- for i in range(lo, e) -/
theorem for2 (C : Int → Int → Hp → Prop) (hn : ∀ QA : List V → Hp → Prop, (∀ m n H1, C m n H1 → QA [.int m, .int n] H1) → tr σ H QA) (Pv : Int → Int → Nat → L2.St → Hp → Prop) (p0 : ∀ m n H1, C m n H1 → m < 2 ^ 62 ∧ -(2 ^ 62) ≤ m ∧ n < 2 ^ 62 ∧ -(2 ^ 62) ≤ n ∧ Pv m n 0 σ H1)
    (ps : ∀ (m n : Int) (i : Nat) σ' H', m + (i : Int) < n → Pv m n i σ' H' → tb { D with nx := Pv m n (i + 1), ct := Pv m n (i + 1), bk := D.nx } (σ'.set j (some (.int (m + (i : Int))))) H') (pd : ∀ m n σ' H', Pv m n (n - m).toNat σ' H' → D.nx σ' H') : tFor (iRng2 tr) (gName j) tb D σ H := by
  refine hn _ fun m n H1 c => ?_
  obtain ⟨h1, h2, h3, h4, h0⟩ := p0 m n H1 c
  exact ⟨m, n, rfl, ⟨h2, h1, h4, h3⟩, for_range (lo := m) (n := (n - m).toNat) (Pv m n) h0 (fun i σ' H' hi p => ps m n i σ' H' (by omega) p) (pd m n)⟩
/-- [.. for i in range(e) if ..] -/
theorem lc1 (C : Int → Hp → Prop) (hn : ∀ QA : List V → Hp → Prop, (∀ n H1, C n H1 → QA [.int n] H1) → tr σ H QA) (hC : ∀ n H1, C n H1 → n < 2 ^ 62 ∧ -(2 ^ 62) ≤ n) (Pv : Addr → Int → Nat → Hp → Prop) (p0 : ∀ Dl n H1, C n H1 → H1 Dl = none → Pv Dl n 0 (upd H1 Dl (.lst [])))
    (hw : ∀ x : V, wipe ((wipe σ vs).set j (some x)) vs = wipe σ vs)
    (ps : ∀ Dl (n : Int) (i : Nat) H', (i : Int) < n → Pv Dl n i H' → tt ((wipe σ vs).set j (some (.int (i : Int)))) H' fun b H3 => if b = true then te ((wipe σ vs).set j (some (.int (i : Int)))) H3 fun y H4 => ∃ acc, H4 Dl = some (.lst acc) ∧ acc.length < sizeLine ∧ Pv Dl n (i + 1) (upd H4 Dl (.lst (acc ++ [y]))) else Pv Dl n (i + 1) H3)
    (pd : ∀ Dl n H', Pv Dl n n.toNat H' → Q (.ref Dl) H') : tLc (iRng1 tr) (gName j) tt te vs σ H Q := by
  refine hn _ fun n H1 c => ?_
  obtain ⟨h1, h2⟩ := hC n H1 c
  refine ⟨n, rfl, h2, h1, fun Dl hD => lc_range (lo := 0) (n := n.toNat) (Pv Dl n) (p0 Dl n H1 c hD) (fun i H' hi p => ?_) (fun H' q => pd Dl n H' q)⟩
  have e : (0 : Int) + (i : Int) = (i : Int) := Int.zero_add _
  show wipe ((wipe σ vs).set j (some (.int ((0 : Int) + (i : Int))))) vs = wipe σ vs ∧ tt ((wipe σ vs).set j (some (.int ((0 : Int) + (i : Int))))) H' _
  rw [e]
  exact ⟨hw _, ps Dl n i H' (by omega) p⟩
/-- for c in text -/
theorem forS {l : List Nat} (hn : ∀ Q : VK, Q (.str (S l)) H → te σ H Q) (Pv : Nat → L2.St → Hp → Prop) (p0 : Pv 0 σ H)
    (ps : ∀ (i : Nat) (c : Nat) σ' H', l[i]? = some c → Pv i σ' H' → tb { D with nx := Pv (i + 1), ct := Pv (i + 1), bk := D.nx } (σ'.set j (some (.str (S [c])))) H') (pd : ∀ σ' H', Pv l.length σ' H' → D.nx σ' H') : tFor (iStr te) (gName j) tb D σ H := by
  refine hn _ ⟨S l, rfl, fun i m σ H => m = l.length - i ∧ i ≤ l.length ∧ Pv i σ H, ⟨l.length, by omega, by omega, p0⟩, ?_⟩
  rintro i m σ' H' ⟨rfl, hi, p⟩
  have es : (S l).cps.size = l.length := by simp
  by_cases hlt : i < l.length
  · refine .inr ⟨by show i < (S l).cps.size; omega, Pv (i + 1), fun σ2 H2 p' => ⟨l.length - (i + 1), by omega, rfl, by omega, p'⟩, fun v H2 y => ?_⟩
    obtain ⟨e, c, hc, ev⟩ := y
    subst e ev
    exact ps i c σ' _ (by simpa using hc) p
  · have e : i = l.length := by omega
    subst e
    exact .inl ⟨by show (S l).cps.size ≤ l.length; omega, pd σ' H' p⟩
/-- for x in a list that stays -/
theorem forL {a : Addr} {xs : List V} (hn : ∀ Q : VK, Q (.ref a) H → te σ H Q) (Pv : Nat → L2.St → Hp → Prop) (p0 : Pv 0 σ H) (hl : ∀ i σ' H', i ≤ xs.length → Pv i σ' H' → SqL K H' a xs)
    (ps : ∀ (i : Nat) (x : V) σ' H', xs[i]? = some x → Pv i σ' H' → g x σ' H' fun σ2 H2 => tb { D with nx := Pv (i + 1), ct := Pv (i + 1), bk := D.nx } σ2 H2) (pd : ∀ σ' H', Pv xs.length σ' H' → D.nx σ' H') : tFor (iList K te) g tb D σ H := by
  have h0 := hl 0 σ H (Nat.zero_le _) p0
  exact hn _ ⟨a, rfl, ⟨xs, h0⟩, for_list Pv p0 hl ps pd⟩
/-! ### comprehensions whose tests and items leave the heap as it is -/
/-- the items of the turns that are taken -/
def given (n : Nat) (f : Nat → Bool) (v : Nat → V) : List V := ((List.range n).filter f).map v
theorem given_yes {n : Nat} {f : Nat → Bool} {v : Nat → V} (h : f n = true) : given (n + 1) f v = given n f v ++ [v n] := by
  unfold given
  rw [List.range_succ, List.filter_append, List.map_append]
  simp [h]
theorem given_no {n : Nat} {f : Nat → Bool} {v : Nat → V} (h : f n = false) : given (n + 1) f v = given n f v := by
  unfold given
  rw [List.range_succ, List.filter_append, List.map_append]
  simp [h]
theorem given_len (n : Nat) (f : Nat → Bool) (v : Nat → V) : (given n f v).length ≤ n := by
  unfold given
  rw [List.length_map]
  have h := List.length_filter_le f (List.range n)
  rw [List.length_range] at h
  exact h
/-- between two turns: the new list at Dl -/
def Lw (H : Hp) (f : Nat → Bool) (v : Nat → V) (Dl : Addr) (i : Nat) (H' : Hp) : Prop := H Dl = none ∧ Same H H' ∧ H' Dl = some (.lst (given i f v))
theorem lw_start {f : Nat → Bool} {v : Nat → V} {Dl : Addr} (h : H Dl = none) : Lw H f v Dl 0 (upd H Dl (.lst [])) := ⟨h, fun b o e => by rw [upd_ne (ne_of_none e h)]; exact e, upd_same⟩
theorem lw_turn {H' : Hp} {f : Nat → Bool} {v : Nat → V} {Dl : Addr} {i : Nat} {τ : L2.St} (p : Lw H f v Dl i H') (hi : i < 1000000) (ht : ∀ QT : Bool → Hp → Prop, QT (f i) H' → tt τ H' QT) (he : f i = true → ∀ Q : VK, Q (v i) H' → te τ H' Q) :
    tt τ H' fun b H3 => if b = true then te τ H3 fun y H4 => ∃ acc, H4 Dl = some (.lst acc) ∧ acc.length < sizeLine ∧ Lw H f v Dl (i + 1) (upd H4 Dl (.lst (acc ++ [y]))) else Lw H f v Dl (i + 1) H3 := by
  obtain ⟨p1, p2, p3⟩ := p
  refine ht _ ?_
  cases hf : f i with
  | true =>
    refine iteT (he hf _ ⟨_, p3, ?_, p1, fun b o e => ?_, ?_⟩)
    · exact Nat.lt_of_le_of_lt (given_len i f v) (Nat.lt_trans hi (by decide))
    · rw [upd_ne (ne_of_none e p1)]; exact p2 b o e
    · rw [given_yes hf]; exact upd_same
  | false =>
    refine iteF ⟨p1, p2, ?_⟩
    rw [given_no hf]; exact p3
theorem lcP1 {n : Int} (f : Nat → Bool) (v : Nat → V) (hn : ∀ QA : List V → Hp → Prop, QA [.int n] H → tr σ H QA) (h1 : n ≤ 100000) (h2 : -100000 ≤ n) (hw : ∀ x : V, wipe ((wipe σ vs).set j (some x)) vs = wipe σ vs)
    (ht : ∀ (i : Nat) H' (QT : Bool → Hp → Prop), (i : Int) < n → Same H H' → QT (f i) H' → tt ((wipe σ vs).set j (some (.int (i : Int)))) H' QT)
    (he : ∀ (i : Nat) H' (Q : VK), (i : Int) < n → Same H H' → f i = true → Q (v i) H' → te ((wipe σ vs).set j (some (.int (i : Int)))) H' Q)
    (pd : ∀ Dl H', H Dl = none → Same H H' → H' Dl = some (.lst (given n.toNat f v)) → Q (.ref Dl) H') : tLc (iRng1 tr) (gName j) tt te vs σ H Q := by
  refine lc1 (fun m H1 => m = n ∧ H1 = H) (fun QA h => hn QA (h _ _ ⟨rfl, rfl⟩)) (fun m H1 e => by omega) (fun Dl m i H' => m = n ∧ Lw H f v Dl i H') (fun Dl m H1 e nD => ?_) hw (fun Dl m i H' hi p => ?_) (fun Dl m H' p => ?_)
  · obtain ⟨rfl, rfl⟩ := e
    exact ⟨rfl, lw_start nD⟩
  · obtain ⟨rfl, p⟩ := p
    have z := lw_turn (tt := tt) (te := te) (τ := (wipe σ vs).set j (some (.int (i : Int)))) p (by omega) (fun QT q => ht i H' QT hi p.2.1 q) (fun hf Q q => he i H' Q hi p.2.1 hf q)
    simp only [eq_self, true_and]
    exact z
  · obtain ⟨rfl, p⟩ := p
    exact pd Dl H' p.1 p.2.1 p.2.2
theorem lc2 (C : Int → Int → Hp → Prop) (hn : ∀ QA : List V → Hp → Prop, (∀ m n H1, C m n H1 → QA [.int m, .int n] H1) → tr σ H QA) (hC : ∀ m n H1, C m n H1 → m < 2 ^ 62 ∧ -(2 ^ 62) ≤ m ∧ n < 2 ^ 62 ∧ -(2 ^ 62) ≤ n) (Pv : Addr → Int → Int → Nat → Hp → Prop)
    (p0 : ∀ Dl m n H1, C m n H1 → H1 Dl = none → Pv Dl m n 0 (upd H1 Dl (.lst []))) (hw : ∀ x : V, wipe ((wipe σ vs).set j (some x)) vs = wipe σ vs)
    (ps : ∀ Dl (m n : Int) (i : Nat) H', m + (i : Int) < n → Pv Dl m n i H' → tt ((wipe σ vs).set j (some (.int (m + (i : Int))))) H' fun b H3 => if b = true then te ((wipe σ vs).set j (some (.int (m + (i : Int))))) H3 fun y H4 => ∃ acc, H4 Dl = some (.lst acc) ∧ acc.length < sizeLine ∧ Pv Dl m n (i + 1) (upd H4 Dl (.lst (acc ++ [y]))) else Pv Dl m n (i + 1) H3)
    (pd : ∀ Dl m n H', Pv Dl m n (n - m).toNat H' → Q (.ref Dl) H') : tLc (iRng2 tr) (gName j) tt te vs σ H Q := by
  refine hn _ fun m n H1 c => ?_
  obtain ⟨h1, h2, h3, h4⟩ := hC m n H1 c
  exact ⟨m, n, rfl, ⟨h2, h1, h4, h3⟩, fun Dl hD => lc_range (lo := m) (n := (n - m).toNat) (Pv Dl m n) (p0 Dl m n H1 c hD) (fun i H' hi p => ⟨hw _, ps Dl m n i H' (by omega) p⟩) (fun H' q => pd Dl m n H' q)⟩
theorem lcP2 {m n : Int} (f : Nat → Bool) (v : Nat → V) (hn : ∀ QA : List V → Hp → Prop, QA [.int m, .int n] H → tr σ H QA) (h1 : n ≤ 100000) (h2 : -100000 ≤ n) (h3 : m ≤ 100000) (h4 : -100000 ≤ m) (hw : ∀ x : V, wipe ((wipe σ vs).set j (some x)) vs = wipe σ vs)
    (ht : ∀ (i : Nat) H' (QT : Bool → Hp → Prop), m + (i : Int) < n → Same H H' → QT (f i) H' → tt ((wipe σ vs).set j (some (.int (m + (i : Int))))) H' QT)
    (he : ∀ (i : Nat) H' (Q : VK), m + (i : Int) < n → Same H H' → f i = true → Q (v i) H' → te ((wipe σ vs).set j (some (.int (m + (i : Int))))) H' Q)
    (pd : ∀ Dl H', H Dl = none → Same H H' → H' Dl = some (.lst (given (n - m).toNat f v)) → Q (.ref Dl) H') : tLc (iRng2 tr) (gName j) tt te vs σ H Q := by
  refine lc2 (fun a b H1 => a = m ∧ b = n ∧ H1 = H) (fun QA h => hn QA (h _ _ _ ⟨rfl, rfl, rfl⟩)) (fun a b H1 e => by omega) (fun Dl a b i H' => a = m ∧ b = n ∧ Lw H f v Dl i H') (fun Dl a b H1 e nD => ?_) hw (fun Dl a b i H' hi p => ?_) (fun Dl a b H' p => ?_)
  · obtain ⟨rfl, rfl, rfl⟩ := e
    exact ⟨rfl, rfl, lw_start nD⟩
  · obtain ⟨rfl, rfl, p⟩ := p
    have z := lw_turn (tt := tt) (te := te) (τ := (wipe σ vs).set j (some (.int (a + (i : Int))))) p (by omega) (fun QT q => ht i H' QT hi p.2.1 q) (fun hf Q q => he i H' Q hi p.2.1 hf q)
    simp only [eq_self, true_and]
    exact z
  · obtain ⟨rfl, rfl, p⟩ := p
    exact pd Dl H' p.1 p.2.1 p.2.2
/-- over a list -/
theorem lcPL {a : Addr} {xs : List V} (f : Nat → Bool) (v : Nat → V) (hn : ∀ Q : VK, Q (.ref a) H → ta σ H Q) (hx : SqL K H a xs) (hz : xs.length ≤ 100000) (hw : ∀ x : V, wipe ((wipe σ vs).set j (some x)) vs = wipe σ vs)
    (ht : ∀ (i : Nat) x H' (QT : Bool → Hp → Prop), xs[i]? = some x → Same H H' → QT (f i) H' → tt ((wipe σ vs).set j (some x)) H' QT)
    (he : ∀ (i : Nat) x H' (Q : VK), xs[i]? = some x → Same H H' → f i = true → Q (v i) H' → te ((wipe σ vs).set j (some x)) H' Q)
    (pd : ∀ Dl H', H Dl = none → Same H H' → H' Dl = some (.lst (given xs.length f v)) → Q (.ref Dl) H') : tLc (iList K ta) (gName j) tt te vs σ H Q := by
  refine hn _ ⟨a, rfl, ⟨xs, hx⟩, fun Dl hD => lc_list (xs := xs) (Lw H f v Dl) (lw_start hD) (fun i H' _ p => p.2.1.seq hx) (fun i x H' hi p => ⟨hw x, ?_⟩) (fun H' p => pd Dl H' p.1 p.2.1 p.2.2)⟩
  have := (List.getElem?_eq_some_iff.mp hi).1
  exact lw_turn (tt := tt) (te := te) p (by omega) (fun QT q => ht i x H' QT hi p.2.1 q) (fun hf Q q => he i x H' Q hi p.2.1 hf q)
/-- over a text -/
theorem lcPS {l : List Nat} (f : Nat → Bool) (v : Nat → V) (hn : ∀ Q : VK, Q (.str (S l)) H → ta σ H Q) (hz : l.length ≤ 100000) (hw : ∀ x : V, wipe ((wipe σ vs).set j (some x)) vs = wipe σ vs)
    (ht : ∀ (i : Nat) c H' (QT : Bool → Hp → Prop), l[i]? = some c → Same H H' → QT (f i) H' → tt ((wipe σ vs).set j (some (.str (S [c])))) H' QT)
    (he : ∀ (i : Nat) c H' (Q : VK), l[i]? = some c → Same H H' → f i = true → Q (v i) H' → te ((wipe σ vs).set j (some (.str (S [c])))) H' Q)
    (pd : ∀ Dl H', H Dl = none → Same H H' → H' Dl = some (.lst (given l.length f v)) → Q (.ref Dl) H') : tLc (iStr ta) (gName j) tt te vs σ H Q := by
  have es : (S l).cps.size = l.length := by simp
  refine hn _ ⟨S l, rfl, fun Dl hD => ⟨fun i m H' => m = l.length - i ∧ i ≤ l.length ∧ Lw H f v Dl i H', ⟨l.length, by omega, by omega, lw_start hD⟩, ?_⟩⟩
  rintro i m H' ⟨rfl, hi, p⟩
  by_cases hlt : i < l.length
  · refine .inr ⟨by show i < (S l).cps.size; omega, fun H2 => Lw H f v Dl (i + 1) H2, fun H2 p' => ⟨l.length - (i + 1), by omega, rfl, by omega, p'⟩, fun x H2 y => ?_⟩
    obtain ⟨e, c, hc, ev⟩ := y
    subst e ev
    have hc' : l[i]? = some c := by simpa using hc
    exact ⟨hw _, lw_turn (tt := tt) (te := te) p (by omega) (fun QT q => ht i c _ QT hc' p.2.1 q) (fun hf Q q => he i c _ Q hc' p.2.1 hf q)⟩
  · have e : i = l.length := by omega
    subst e
    exact .inl ⟨by show (S l).cps.size ≤ l.length; omega, pd Dl H' p.1 p.2.1 p.2.2⟩
end
section
variable {K : PySem.W.Frag} {σ : L2.St} {H H' : Hp} {Q : VK} {D : Ends} {te ta : TE} {tr : TA} {T : String}
theorem g_bm {rm : V → List V → Hp → VK → Prop} (h : ta σ H fun x H1 => tyV K T x H1 ∧ tr σ H1 fun ys H2 => rm x ys H2 Q) : tBM K T rm ta tr σ H Q := h
theorem ty_lst {l : Addr} {xs : List V} (h : H l = some (.lst xs)) : tyV K "list" (.ref l) H := .inl ⟨rfl, _, .inl (.inl h)⟩
theorem g_sput {td ty tv : TE} {u : TS} (h : tv σ H fun v H1 => td σ H1 fun x H2 => ty σ H2 fun y H3 => ∃ a H4, x = .ref a ∧ DPut H3 a y v H4 ∧ u D σ H4) : tSeq (sDPut td ty tv) u D σ H := h
theorem g_put {td ty tv : TE} (h : tv σ H fun v H1 => td σ H1 fun x H2 => ty σ H2 fun y H3 => ∃ a H4, x = .ref a ∧ DPut H3 a y v H4 ∧ D.nx σ H4) : sDPut td ty tv D σ H := h
theorem g_dget2 {td ty tx : TE} (h : td σ H fun x H1 => ∃ a, x = .ref a ∧ IsD H1 a ∧ ty σ H1 fun y H2 => tx σ H2 fun z H3 => ∃ o, DGet H3 a y o ∧ Q (o.getD z) H3) : tDGet2 td ty tx σ H Q := h
theorem g_dget {td ty : TE} (h : td σ H fun x H1 => ty σ H1 fun y H2 => ∃ a v, x = .ref a ∧ DGet H2 a y (some v) ∧ Q v H2) : tDGet td ty σ H Q := h
theorem g_dnotin {td ty : TE} (h : ty σ H fun y H1 => td σ H1 fun x H2 => ∃ a o, x = .ref a ∧ DGet H2 a y o ∧ Q (.bl (!o.isSome)) H2) : tDNotIn ty td σ H Q := h
theorem g_din {td ty : TE} (h : ty σ H fun y H1 => td σ H1 fun x H2 => ∃ a o, x = .ref a ∧ DGet H2 a y o ∧ Q (.bl o.isSome) H2) : tDIn ty td σ H Q := h
theorem g_dT (h : ∀ p, H p = none → Q (.ref p) (upd H p (.dT []))) : tDNewT σ H Q := h
theorem g_bm0 {rm : V → List V → Hp → VK → Prop} (h : ta σ H fun x H1 => tyV K T x H1 ∧ rm x [] H1 Q) : tBM0 K T rm ta σ H Q := h
theorem g_dK (h : ∀ p, H p = none → Q (.ref p) (upd H p (.dK []))) : tDNewK σ H Q := h
end
end Sw
end
section
local macro_rules | `(tactic| walk_at "go1") => `(tactic| first
  | with_reducible refine Sw.g_seqasg ?_ | with_reducible refine Sw.g_op ?_ | with_reducible refine Sw.g_var rfl ?_ | with_reducible refine Sw.g_c ?_ | with_reducible refine Sw.g_I0 ?_
  | with_reducible refine Sw.g_cons ?_ | with_reducible refine Sw.g_nil ?_ | with_reducible refine Sw.g_call ?_ | with_reducible refine Sw.g_cb ?_ | with_reducible refine Sw.g_test ?_ | with_reducible refine Sw.g_bl ?_
  | with_reducible refine Sw.g_seqdrop ?_ | with_reducible refine Sw.g_seqsub ?_ | with_reducible refine Sw.g_asg ?_ | with_reducible refine Sw.g_asgsub ?_ | with_reducible refine Sw.g_ret ?_ | with_reducible refine Sw.g_drop ?_ | with_reducible refine Sw.g_if ?_ | with_reducible refine Sw.g_next ?_ | with_reducible refine Sw.g_name ?_
  | with_reducible refine Sw.g_B ?_ | with_reducible refine Sw.g_not ?_ | with_reducible refine Sw.g_and ?_ | with_reducible refine Sw.g_or ?_ | with_reducible refine Sw.g_andV ?_ | with_reducible refine Sw.g_orV ?_ | with_reducible refine Sw.g_notV ?_
  | with_reducible refine Sw.g_ifE ?_ | with_reducible refine Sw.g_chain ?_ | with_reducible refine Sw.g_un ?_ | with_reducible refine Sw.g_tup ?_ | with_reducible refine Sw.g_lst ?_ | with_reducible refine Sw.g_sl ?_ | with_reducible refine Sw.g_part ?_ | with_reducible refine Sw.g_nopart ?_
  | with_reducible refine Sw.g_U ?_ | with_reducible refine Sw.g_eq rfl ?_ | with_reducible refine Sw.g_ne rfl ?_ | with_reducible refine Sw.g_int ?_ | with_reducible refine Sw.g_yes ?_ | with_reducible refine L2.iteT ?_ | with_reducible refine L2.iteF ?_ | with_reducible refine Sw.iteNT ?_ | with_reducible refine Sw.iteNF ?_ | with_reducible refine Sw.g_m1 ?_ | with_reducible refine Sw.g_bm ?_ | with_reducible refine ⟨Sw.ty_lst (by assumption), ?_⟩ | with_reducible refine Sw.g_sput ?_ | with_reducible refine Sw.g_put ?_ | with_reducible refine Sw.g_dget2 ?_ | with_reducible refine Sw.g_dget ?_ | with_reducible refine Sw.g_dK ?_ | with_reducible refine Sw.g_dT ?_ | with_reducible refine Sw.g_dnotin ?_ | with_reducible refine Sw.g_din ?_ | with_reducible refine Sw.g_bm0 ?_
  | with_reducible refine Sw.g_ixL (by assumption) rfl ?_ | with_reducible refine Sw.g_ixT (by assumption) rfl ?_)
local macro_rules | `(tactic| walk_at "go") => `(tactic| repeat walk_at "go1")
local macro_rules | `(tactic| walk_at "bd") => `(tactic| repeat (first | with_reducible exact Sw.all_nil | refine Sw.all_cons ⟨_, rfl, by omega, by omega⟩ ?_))
local macro_rules | `(tactic| walk_at "new") => `(tactic| (refine ⟨Nat.le_of_ble_eq_true rfl, fun p np => ?_⟩; generalize hX : L2.upd _ p _ = H'; have sm : L2.Same _ H' := hX ▸ Sw.same_upd np; have hp : H' p = some _ := hX ▸ L2.upd_same; clear hX))
namespace Sw
open PySem PySem.Spec PyProof.Rows L2 SX
/-! ### draws -/
def Dr (H : Hp) (d : Addr) : Prop := ∃ c s p : Int, H d = some (.lst [.int c, .int s, .int p]) ∧ 0 ≤ s ∧ s ≤ 2147500000 ∧ 0 < p ∧ p ≤ 2147483647
/-- all but d stays -/
def Fr (d : Addr) (H H' : Hp) : Prop := ∀ b o, b ≠ d → H b = some o → H' b = some o
theorem Fr.refl (d : Addr) (H : Hp) : Fr d H H := fun _ _ _ h => h
theorem Fr.trans {d : Addr} {H H1 H2 : Hp} (a : Fr d H H1) (b : Fr d H1 H2) : Fr d H H2 := fun x o n h => b x o n (a x o n h)
theorem Fr.of {d : Addr} {H H' : Hp} (a : Same H H') : Fr d H H' := fun x o _ h => a x o h
theorem same_upd {H : Hp} {p : Addr} {o : HO} (h : H p = none) : Same H (upd H p o) := fun b x e => by
  rw [upd_ne (ne_of_none e h)]
  exact e
theorem Same.tup {K : PySem.W.Frag} {H H' : Hp} {a : Addr} {xs : List V} (e : Same H H') (h : SqT K H a xs) : SqT K H' a xs := by
  rcases h with (h | ⟨o, h⟩) | h
  · exact .inl (.inl (e _ _ h))
  · exact .inl (.inr ⟨o, e _ _ h⟩)
  · exact .inr h
/-- the law's state: draws stand at d; G: what stays -/
structure LS (G : Hp) (d : Addr) (H : Hp) : Prop where
  dr : Dr H d
  ex : Same G H
  no : G d = none
section
variable {G H H' : Hp} {d p : Addr} {o : HO}
theorem LS.to (hs : LS G d H) (dr : Dr H' d) (fr : Fr d H H') : LS G d H' := ⟨dr, fun b x e => fr b x (ne_of_none e hs.no) (hs.ex b x e), hs.no⟩
theorem Dr.same (h : Dr H d) (e : Same H H') : Dr H' d := by
  obtain ⟨c, s, p, h1, h2⟩ := h
  exact ⟨c, s, p, e _ _ h1, h2⟩
theorem Dr.ne (h : Dr H d) (np : H p = none) : p ≠ d := fun e => by
  obtain ⟨c, s, q, h1, _⟩ := h
  rw [← e, np] at h1
  cases h1
/-- all but d stays -/
def but (H : Hp) (d : Addr) : Hp := fun b => if b = d then none else H b
theorem LS.of (dr : Dr H d) : LS (but H d) d H := ⟨dr, fun b o e => by
  unfold but at e
  by_cases hb : b = d
  · rw [if_pos hb] at e; cases e
  · rw [if_neg hb] at e; exact e, if_pos rfl⟩
theorem LS.fr (hs : LS (but H d) d H') : Fr d H H' := fun b o n e => hs.ex b o (by unfold but; rw [if_neg n]; exact e)
theorem LS.nog (hs : LS G d H) (np : H p = none) : G p = none := hs.ex.free np
/-- a new object that stays -/
theorem LS.new (hs : LS G d H) (np : H p = none) : LS (upd G p o) d (upd H p o) :=
  ⟨hs.dr.same (same_upd np), fun b x e => by
    by_cases hb : b = p
    · subst hb
      rw [upd_same] at e ⊢
      exact e
    · rw [upd_ne hb] at e ⊢
      exact hs.ex b x e, by rw [upd_ne (hs.dr.ne np).symm]; exact hs.no⟩
/-- a new object that doesn't matter -/
theorem LS.old (hs : LS G d H) (np : H p = none) : LS G d (upd H p o) := ⟨hs.dr.same (same_upd np), fun b x e => same_upd np b x (hs.ex b x e), hs.no⟩
/-- another object than d, of which G knows nothing, is changed -/
theorem LS.put (hs : LS G d H) (np : G p = none) (hp : p ≠ d) : LS G d (upd H p o) := by
  obtain ⟨c, s, q, h1, h2⟩ := hs.dr
  exact ⟨⟨c, s, q, by rw [upd_ne hp.symm]; exact h1, h2⟩, fun b x e => by rw [upd_ne (ne_of_none e np)]; exact hs.ex b x e, hs.no⟩
theorem LS.less {G' : Hp} (hs : LS G' d H) (e : Same G G') : LS G d H := ⟨hs.dr, fun b x q => hs.ex b x (e b x q), e.free hs.no⟩
theorem LS.same (hs : LS G d H) (e : Same H H') : LS G d H' := ⟨hs.dr.same e, fun b x q => e b x (hs.ex b x q), hs.no⟩
theorem LS.drop (hs : LS (upd G p o) d H) (np : G p = none) : LS G d H := hs.less (same_upd np)
end
theorem all_nil {P : V → Prop} : ∀ x ∈ ([] : List V), P x := fun _ h => nomatch h
theorem all_cons {P : V → Prop} {y : V} {l : List V} (h : P y) (hl : ∀ x ∈ l, P x) : ∀ x ∈ y :: l, P x := fun x hx => by
  rcases List.mem_cons.mp hx with e | e
  · rw [e]; exact h
  · exact hl x e
theorem atI_of {α : Type} {xs : List α} {r : Int} (h0 : 0 ≤ r) (h1 : r < (xs.length : Int)) : ∃ v, atI xs r = some v ∧ v ∈ xs ∧ xs[r.toNat]? = some v := by
  have hl : r.toNat < xs.length := by omega
  have e : ((r.toNat : Nat) : Int) = r := by omega
  have z := atI_nat (xs := xs) (j := r.toNat) (List.getElem?_eq_getElem hl)
  rw [e] at z
  exact ⟨xs[r.toNat], z, List.getElem_mem hl, List.getElem?_eq_getElem hl⟩
/-- a drawn item of a list that was just made -/
theorem LS.at {K : PySem.W.Frag} {G H : Hp} {d p : Addr} {xs : List V} {r : Int} {Q : VK} (hs : LS (upd G p (.lst xs)) d H) (np : G p = none) (P : V → Prop) (hP : ∀ x ∈ xs, P x) (h0 : 0 ≤ r) (h1 : r < (xs.length : Int)) (q : ∀ v, P v → LS G d H → Q v H) : rIxL K (.ref p) (.int r) H Q := by
  obtain ⟨v, e, hv, _⟩ := atI_of h0 h1
  exact ⟨p, xs, r, v, rfl, rfl, .inl (.inl (hs.ex p _ upd_same)), e, q v (hP v hv) (hs.drop np)⟩
def sp_law_draw (K : PySem.W.Frag) : Sp := fun vs H Q _ => ∃ (d : Addr) (m : Int), vs = [.ref d, .int m] ∧ Dr H d ∧ 0 < m ∧ m < 2 ^ 300 ∧ ∀ r H', 0 ≤ r → r < m → Dr H' d → (∀ b, b ≠ d → H' b = H b) → Q (.int r) H'
def t_law_draw (K : PySem.W.Frag) : TS :=
  (tSeq (tIfS (tTest (tOp rGt (tOp (rIxL K) (tVar 0) (tC (.int 0))) (tC (.int 0)))) (tSeq (tAsg (tOp rMod (tOp (rIxL K) (tVar 0) (tC (.int 0))) (tVar 1)) (gName 2))
  (tSeq (tAsg (tOp rDivW (tOp (rIxL K) (tVar 0) (tC (.int 0))) (tVar 1)) (gSub (tVar 0) (tC (.int 0)) rSetL))
  (tRet (tVar 2)))) tNext)
  (tSeq (tAsg (tOp rAdd (tOp rMod (tOp rMulW (tOp (rIxL K) (tVar 0) (tC (.int 1))) (tC (.int 69621))) (tOp (rIxL K) (tVar 0) (tC (.int 2)))) (tC (.int 1))) (gSub (tVar 0) (tC (.int 1)) rSetL))
  (tRet (tOp rMod (tOp rDivW (tOp rMod (tOp rMulW (tOp (rIxL K) (tVar 0) (tC (.int 1))) (tOp rAdd (tOp rDivW (tOp (rIxL K) (tVar 0) (tC (.int 1))) (tC (.int 128))) (tC (.int 3)))) (tC (.int 2147483423))) (tC (.int 8))) (tVar 1)))))

theorem LS.draw {K : PySem.W.Frag} {G H : Hp} {d : Addr} {m : Int} {Q : VK} {E : XK} (hs : LS G d H) (m0 : 0 < m) (m1 : m < 2 ^ 300) (k : ∀ r H', 0 ≤ r → r < m → LS G d H' → Q (.int r) H') : sp_law_draw K [.ref d, .int m] H Q E :=
  ⟨d, m, rfl, hs.dr, m0, m1, fun r H' h0 h1 dr kp => k r H' h0 h1 (hs.to dr fun b o n e => (kp b n).trans e)⟩
/-- .. and another object stays -/
theorem LS.drawP {K : PySem.W.Frag} {G H : Hp} {d p : Addr} {o : HO} {m : Int} {Q : VK} {E : XK} (hs : LS G d H) (m0 : 0 < m) (m1 : m < 2 ^ 300) (hp : p ≠ d) (ho : H p = some o) (k : ∀ r H', 0 ≤ r → r < m → LS G d H' → H' p = some o → Q (.int r) H') : sp_law_draw K [.ref d, .int m] H Q E :=
  ⟨d, m, rfl, hs.dr, m0, m1, fun r H' h0 h1 dr kp => k r H' h0 h1 (hs.to dr fun b o n e => (kp b n).trans e) ((kp p hp).trans ho)⟩
theorem ln_law_draw {K : PySem.W.Frag} {vs : List V} {H : Hp} {Q : VK} {E : XK} (h : sp_law_draw K vs H Q E) : vs.length = 2 := by
  obtain ⟨_, _, rfl, _⟩ := h
  rfl
theorem rd_law_draw {K : PySem.W.Frag} {vs : List V} {H : Hp} {Q : VK} {E : XK} (h : sp_law_draw K vs H Q E) : t_law_draw K { nx := fun _ H' => Q .non H', rt := Q } (start ["draws", "many", "found"] vs) H := by
  obtain ⟨d, m, rfl, ⟨c, s, p, hd, s0, s1, p0, p1⟩, m0, m1, k⟩ := h
  show t_law_draw K _ [some (.ref d), some (.int m), none] H
  unfold t_law_draw
  refine g_seq ?_
  walk_at "go"
  refine ite_d (fun hc => ?_) (fun hc => ?_)
  · walk_at "go"
    refine g_I m0 ?_
    walk_at "go"
    refine g_I (cd m0 (by omega)) ?_
    walk_at "go"
    refine g_setL hd rfl rfl fun H1 h1 kp => ?_
    walk_at "go"
    exact k _ _ (Int.emod_nonneg _ (by omega)) (Int.emod_lt_of_pos _ m0) ⟨c / m, s, p, h1, s0, s1, p0, p1⟩ kp
  · walk_at "go"
    refine g_I (cm (by omega) (by omega) (by omega) (by omega)) ?_
    walk_at "go"
    refine g_I p0 ?_
    have e0 : 0 ≤ s * 69621 % p := Int.emod_nonneg _ (by omega)
    have e1 : s * 69621 % p < p := Int.emod_lt_of_pos _ p0
    generalize s * 69621 % p = z at e0 e1
    walk_at "go"
    refine g_setL hd rfl rfl fun H1 h1 kp => ?_
    walk_at "go"
    refine g_I (cd (by decide) (by decide)) ?_
    walk_at "go"
    refine g_I (cm (by omega) (by omega) (by omega) (by omega)) ?_
    walk_at "go"
    refine g_I (by decide) ?_
    walk_at "go"
    refine g_I (cd (by decide) (by decide)) ?_
    walk_at "go"
    refine g_I m0 ?_
    exact k _ _ (Int.emod_nonneg _ (by omega)) (Int.emod_lt_of_pos _ m0) ⟨c, z + 1, p, h1, by omega, by omega, p0, p1⟩ kp
/-! ### the draws of a cell -/
def sp_law_draws (K : PySem.W.Frag) : Sp := fun vs H Q _ => ∃ (a : Addr) (ns : List Int) (k : Int), vs = [.ref a, .int k] ∧ SqL K H a (ns.map V.int) ∧ ns.length ≤ 63 ∧ 0 ≤ k ∧ k ≤ 1000 ∧ ∀ d H', H d = none → Same H H' → Dr H' d → Q (.ref d) H'
theorem ln_law_draws {K : PySem.W.Frag} {vs : List V} {H : Hp} {Q : VK} {E : XK} (h : sp_law_draws K vs H Q E) : vs.length = 2 := by
  obtain ⟨_, _, _, rfl, _⟩ := h
  rfl
def t_law_draws (K : PySem.W.Frag) : TS :=
  (tSeq (tAsg (tTup (tCons (tC (.int 2147483647)) (tCons (tC (.int 2147483629)) (tCons (tC (.int 2147483587)) (tCons (tC (.int 2147483579)) (tCons (tC (.int 2147483563)) (tCons (tC (.int 2147483549)) (tCons (tC (.int 2147483543)) (tCons (tC (.int 2147483497)) tNil))))))))) (gName 2))
  (tSeq (tAsg (tOp rAdd (tOp rMulW (tC (.int 15485863)) (tVar 1)) (tC (.int 7))) (gName 3))
  (tSeq (tIfS (tTest (tOp rLt (tVar 1) (tCB (rLenSq K) (tCons (tVar 0) tNil)))) (tAsg (tOp rMod (tOp (rIxL K) (tVar 0) (tVar 1)) (tOp rMulW (tOp rPow (tC (.int 10)) (tC (.int 60))) (tOp rPow (tC (.int 10)) (tC (.int 60))))) (gName 3)) (tIfS (tTest (tOp rGt (tCB (rLenSq K) (tCons (tVar 0) tNil)) (tC (.int 0)))) (tAsg (tOp rAdd (tOp rMod (tOp (rIxL K) (tVar 0) (tOp rMod (tVar 1) (tCB (rLenSq K) (tCons (tVar 0) tNil)))) (tOp rPow (tC (.int 10)) (tC (.int 15)))) (tOp rMulW (tC (.int 15485863)) (tVar 1))) (gName 3)) tNext))
  (tSeq (tAsg (tOp rMod (tOp rMulW (tOp rAdd (tOp rAdd (tOp rMod (tVar 3) (tC (.int 2147483423))) (tOp rMulW (tC (.int 3)) (tVar 1))) (tC (.int 1))) (tOp rAdd (tC (.int 48271)) (tOp rMulW (tOp rMulW (tC (.int 2)) (tVar 1)) (tVar 1)))) (tC (.int 2147483423))) (gName 4))
  (tSeq (tAsg (tOp rAdd (tOp rAdd (tOp rMod (tOp rMulW (tOp rMulW (tVar 4) (tVar 4)) (tVar 4)) (tC (.int 2147483399))) (tVar 1)) (tC (.int 1))) (gName 4))
  (tRet (tLst (tCons (tOp rMulW (tVar 3) (tCB rInt1 (tCons (tOp rGe (tVar 3) (tOp rPow (tC (.int 10)) (tC (.int 18)))) tNil))) (tCons (tVar 4) (tCons (tOp (rIxT K) (tVar 2) (tOp rMod (tVar 1) (tC (.int 8)))) tNil))))))))))

theorem emod_bd {z m : Int} (h : 0 < m) : 0 ≤ z % m ∧ z % m < m := ⟨Int.emod_nonneg _ (by omega), Int.emod_lt_of_pos _ h⟩
theorem at_map {ns : List Int} {z : Int} (h0 : 0 ≤ z) (h1 : z < (ns.length : Int)) : ∃ n, atI (ns.map V.int) z = some (.int n) := by
  obtain ⟨v, e, hv, _⟩ := atI_of (xs := ns.map V.int) h0 (by rw [List.length_map]; exact h1)
  obtain ⟨n, _, rfl⟩ := List.mem_map.mp hv
  exact ⟨n, e⟩
theorem mul_bd {a b A B : Int} (a0 : 0 ≤ a) (a1 : a ≤ A) (b0 : 0 ≤ b) (b1 : b ≤ B) : 0 ≤ a * b ∧ a * b ≤ A * B :=
  ⟨Int.mul_nonneg a0 b0, Int.mul_le_mul a1 b1 b0 (Int.le_trans a0 a1)⟩
set_option maxHeartbeats 8000000 in
theorem rd_law_draws {K : PySem.W.Frag} {vs : List V} {H : Hp} {Q : VK} {E : XK} (h : sp_law_draws K vs H Q E) : t_law_draws K { nx := fun _ H' => Q .non H', rt := Q } (start ["script", "k", "primes", "cell", "seed"] vs) H := by
  obtain ⟨a, ns, k, rfl, hS, hn, k0, k1, q⟩ := h
  show t_law_draws K _ [some (.ref a), some (.int k), none, none, none] H
  unfold t_law_draws
  walk_at "go"
  refine ⟨by decide, fun p np => ?_⟩
  have s1 := same_upd (o := .tup [.int 2147483647, .int 2147483629, .int 2147483587, .int 2147483579, .int 2147483563, .int 2147483549, .int 2147483543, .int 2147483497]) np
  have hp : upd H p (.tup [.int 2147483647, .int 2147483629, .int 2147483587, .int 2147483579, .int 2147483563, .int 2147483549, .int 2147483543, .int 2147483497]) p = _ := upd_same
  generalize upd H p (.tup [.int 2147483647, .int 2147483629, .int 2147483587, .int 2147483579, .int 2147483563, .int 2147483549, .int 2147483543, .int 2147483497]) = H1 at s1 hp
  have hS1 := s1.seq hS
  have e60 : (10 : Int) ^ (60 : Int).toNat = 10 ^ 60 := rfl
  have e15 : (10 : Int) ^ (15 : Int).toNat = 10 ^ 15 := rfl
  have e18 : (10 : Int) ^ (18 : Int).toNat = 10 ^ 18 := rfl
  walk_at "go"
  refine g_I (cm (by omega) (by omega) (by omega) (by omega)) ?_
  walk_at "go"
  refine g_join (fun σ' H' => ∃ c : Int, σ' = [some (.ref a), some (.int k), some (.ref p), some (.int c), none] ∧ 0 ≤ c ∧ c < 10 ^ 121 ∧ H' = H1) ?_ fun U hu => ?_
  · rintro σ' H' ⟨c, rfl, c0, c1, rfl⟩
    walk_at "go"
    refine g_I (by decide) ?_
    obtain ⟨x0, x1⟩ := emod_bd (z := c) (m := 2147483423) (by decide)
    generalize c % 2147483423 = x at x0 x1
    walk_at "go"
    refine g_I (cm (by omega) (by omega) (by omega) (by omega)) ?_
    walk_at "go"
    refine g_I (cm (by omega) (by omega) (by omega) (by omega)) ?_
    walk_at "go"
    refine g_I (cm (by omega) (by omega) (by omega) (by omega)) ?_
    walk_at "go"
    obtain ⟨y0, y1⟩ := mul_bd (a := 2 * k) (b := k) (A := 2000) (B := 1000) (by omega) (by omega) (by omega) (by omega)
    generalize 2 * k * k = y at y0 y1
    refine g_I (cm (by omega) (by omega) (by omega) (by omega)) ?_
    walk_at "go"
    refine g_I (by decide) ?_
    generalize (x + 3 * k + 1) * (48271 + y) = z
    obtain ⟨z0, z1⟩ := emod_bd (z := z) (m := 2147483423) (by decide)
    generalize z % 2147483423 = s at z0 z1
    walk_at "go"
    refine g_I (cm (by omega) (by omega) (by omega) (by omega)) ?_
    obtain ⟨u0, u1⟩ := mul_bd (a := s) (b := s) (A := 2147483423) (B := 2147483423) (by omega) (by omega) (by omega) (by omega)
    generalize s * s = u at u0 u1
    walk_at "go"
    refine g_I (cm (by omega) (by omega) (by omega) (by omega)) ?_
    walk_at "go"
    refine g_I (by decide) ?_
    obtain ⟨v0, v1⟩ := emod_bd (z := u * s) (m := 2147483399) (by decide)
    generalize u * s % 2147483399 = v at v0 v1
    walk_at "go"
    refine g_I ⟨by decide, by decide, by decide⟩ ?_
    walk_at "go"
    refine .inr ⟨_, rfl, ?_⟩
    have ci : ∀ b : Bool, 0 ≤ (if b = true then (1 : Int) else 0) ∧ (if b = true then (1 : Int) else 0) ≤ 1 := fun b => by cases b <;> decide
    obtain ⟨w0, w1⟩ := ci (decide (10 ^ (18 : Int).toNat ≤ c))
    generalize (if decide (10 ^ (18 : Int).toNat ≤ c) = true then (1 : Int) else 0) = w at w0 w1
    refine g_I (cm (by omega) (by omega) (by omega) (by omega)) ?_
    walk_at "go"
    refine g_I (by decide) ?_
    obtain ⟨i0, i1⟩ := emod_bd (z := k) (m := 8) (by decide)
    obtain ⟨pv, ea, hv, _⟩ := atI_of (xs := [V.int 2147483647, .int 2147483629, .int 2147483587, .int 2147483579, .int 2147483563, .int 2147483549, .int 2147483543, .int 2147483497]) i0 i1
    have hP : ∃ pr : Int, pv = .int pr ∧ 0 < pr ∧ pr ≤ 2147483647 := all_cons (P := fun v => ∃ pr : Int, v = .int pr ∧ 0 < pr ∧ pr ≤ 2147483647) ⟨_, rfl, by decide, by decide⟩ (all_cons ⟨_, rfl, by decide, by decide⟩ (all_cons ⟨_, rfl, by decide, by decide⟩ (all_cons ⟨_, rfl, by decide, by decide⟩
      (all_cons ⟨_, rfl, by decide, by decide⟩ (all_cons ⟨_, rfl, by decide, by decide⟩ (all_cons ⟨_, rfl, by decide, by decide⟩ (all_cons ⟨_, rfl, by decide, by decide⟩ all_nil))))))) pv hv
    obtain ⟨pr, rfl, r0, r1⟩ := hP
    refine g_ixT hp ea ?_
    walk_at "go"
    refine ⟨by show 3 ≤ sizeLine; decide, fun d nd => ?_⟩
    refine q d _ (s1.free nd) (s1.trans (same_upd nd)) ⟨_, _, _, upd_same, by omega, by omega, r0, r1⟩
  · walk_at "go"
    refine ⟨a, _, rfl, .inl hS1, ?_⟩
    walk_at "go"
    rw [List.length_map]
    refine ite_d (fun hc => ?_) (fun hc => ?_)
    · walk_at "go"
      obtain ⟨n, en⟩ := at_map (ns := ns) k0 hc
      refine ⟨a, _, k, _, rfl, rfl, hS1, en, ?_⟩
      walk_at "go"
      refine g_I ⟨by decide, by decide, by decide⟩ ?_
      walk_at "go"
      refine g_I ⟨by decide, by decide, by decide⟩ ?_
      refine g_I (cm (by rw [e60]; decide) (by rw [e60]; decide) (by rw [e60]; decide) (by rw [e60]; decide)) ?_
      refine g_I (by rw [e60]; decide) ?_
      obtain ⟨b0, b1⟩ := emod_bd (z := n) (m := 10 ^ (60 : Int).toNat * 10 ^ (60 : Int).toNat) (by rw [e60]; decide)
      refine hu _ _ ⟨_, rfl, b0, Int.lt_trans b1 (by rw [e60]; decide), rfl⟩
    · walk_at "go"
      refine ⟨a, _, rfl, .inl hS1, ?_⟩
      walk_at "go"
      rw [List.length_map]
      refine ite_d (fun hc2 => ?_) (fun hc2 => ?_)
      · walk_at "go"
        refine ⟨a, _, rfl, .inl hS1, ?_⟩
        rw [List.length_map]
        refine g_I hc2 ?_
        obtain ⟨j0, j1⟩ := emod_bd (z := k) hc2
        obtain ⟨n, en⟩ := at_map (ns := ns) j0 j1
        refine ⟨a, _, _, _, rfl, rfl, hS1, en, ?_⟩
        walk_at "go"
        refine g_I ⟨by decide, by decide, by decide⟩ ?_
        refine g_I (by rw [e15]; decide) ?_
        obtain ⟨b0, b1⟩ := emod_bd (z := n) (m := 10 ^ (15 : Int).toNat) (by rw [e15]; decide)
        rw [e15] at b0 b1 ⊢
        walk_at "go"
        refine g_I (cm (by omega) (by omega) (by omega) (by omega)) ?_
        walk_at "go"
        exact hu _ _ ⟨_, rfl, by omega, by omega, rfl⟩
      · walk_at "go"
        exact hu _ _ ⟨_, rfl, by omega, by omega, rfl⟩
end Sw
end
section
local macro_rules | `(tactic| walk_at "go1") => `(tactic| first
  | with_reducible refine Sw.g_seqasg ?_ | with_reducible refine Sw.g_op ?_ | with_reducible refine Sw.g_var rfl ?_ | with_reducible refine Sw.g_c ?_ | with_reducible refine Sw.g_I0 ?_
  | with_reducible refine Sw.g_cons ?_ | with_reducible refine Sw.g_nil ?_ | with_reducible refine Sw.g_call ?_ | with_reducible refine Sw.g_cb ?_ | with_reducible refine Sw.g_test ?_ | with_reducible refine Sw.g_bl ?_
  | with_reducible refine Sw.g_seqdrop ?_ | with_reducible refine Sw.g_seqsub ?_ | with_reducible refine Sw.g_asg ?_ | with_reducible refine Sw.g_asgsub ?_ | with_reducible refine Sw.g_ret ?_ | with_reducible refine Sw.g_drop ?_ | with_reducible refine Sw.g_if ?_ | with_reducible refine Sw.g_next ?_ | with_reducible refine Sw.g_name ?_
  | with_reducible refine Sw.g_B ?_ | with_reducible refine Sw.g_not ?_ | with_reducible refine Sw.g_and ?_ | with_reducible refine Sw.g_or ?_ | with_reducible refine Sw.g_andV ?_ | with_reducible refine Sw.g_orV ?_ | with_reducible refine Sw.g_notV ?_
  | with_reducible refine Sw.g_ifE ?_ | with_reducible refine Sw.g_chain ?_ | with_reducible refine Sw.g_un ?_ | with_reducible refine Sw.g_tup ?_ | with_reducible refine Sw.g_lst ?_ | with_reducible refine Sw.g_sl ?_ | with_reducible refine Sw.g_part ?_ | with_reducible refine Sw.g_nopart ?_
  | with_reducible refine Sw.g_U ?_ | with_reducible refine Sw.g_eq rfl ?_ | with_reducible refine Sw.g_ne rfl ?_ | with_reducible refine Sw.g_int ?_ | with_reducible refine Sw.g_yes ?_ | with_reducible refine L2.iteT ?_ | with_reducible refine L2.iteF ?_ | with_reducible refine Sw.iteNT ?_ | with_reducible refine Sw.iteNF ?_ | with_reducible refine Sw.g_m1 ?_ | with_reducible refine Sw.g_bm ?_ | with_reducible refine ⟨Sw.ty_lst (by assumption), ?_⟩ | with_reducible refine Sw.g_sput ?_ | with_reducible refine Sw.g_put ?_ | with_reducible refine Sw.g_dget2 ?_ | with_reducible refine Sw.g_dget ?_ | with_reducible refine Sw.g_dK ?_ | with_reducible refine Sw.g_dT ?_ | with_reducible refine Sw.g_dnotin ?_ | with_reducible refine Sw.g_din ?_ | with_reducible refine Sw.g_bm0 ?_
  | with_reducible refine Sw.g_ixL (by assumption) rfl ?_ | with_reducible refine Sw.g_ixT (by assumption) rfl ?_)
local macro_rules | `(tactic| walk_at "go") => `(tactic| repeat walk_at "go1")
local macro_rules | `(tactic| walk_at "bd") => `(tactic| repeat (first | with_reducible exact Sw.all_nil | refine Sw.all_cons ⟨_, rfl, by omega, by omega⟩ ?_))
local macro_rules | `(tactic| walk_at "new") => `(tactic| (refine ⟨Nat.le_of_ble_eq_true rfl, fun p np => ?_⟩; generalize hX : L2.upd _ p _ = H'; have sm : L2.Same _ H' := hX ▸ Sw.same_upd np; have hp : H' p = some _ := hX ▸ L2.upd_same; clear hX))
namespace Sw
open PySem PySem.Spec PyProof.Rows L2 SX
/-! ### the law's own promise; what laws share -/
def sp_law (K : PySem.W.Frag) : Sp := fun vs H Q _ => ∃ (a : Addr) (ns : List Int), vs = [.ref a] ∧ SqL K H a (ns.map V.int) ∧ ns.length ≤ 63 ∧ ∀ H', Q (.bl true) H'
theorem ln_law {K : PySem.W.Frag} {vs : List V} {H : Hp} {Q : VK} {E : XK} (h : sp_law K vs H Q E) : vs.length = 1 := by
  obtain ⟨_, _, rfl, _⟩ := h
  rfl
theorem LS.start {G H H' : Hp} {d : Addr} (e : Same G H) (nd : H d = none) (s : Same H H') (dr : Dr H' d) : LS G d H' := ⟨dr, e.trans s, e.free nd⟩
/-- an object that stands, kept from now on -/
theorem LS.add {G H : Hp} {d p : Addr} {o : HO} (hs : LS G d H) (ho : H p = some o) (hp : p ≠ d) : LS (upd G p o) d H :=
  ⟨hs.dr, fun b x e => by
    by_cases hb : b = p
    · subst hb
      rw [upd_same] at e
      rw [ho]; exact e
    · rw [upd_ne hb] at e
      exact hs.ex b x e, by rw [upd_ne hp.symm]; exact hs.no⟩
theorem g_lenL {K : PySem.W.Frag} {a : Addr} {xs : List V} {H : Hp} {Q : VK} (h : SqL K H a xs) (q : Q (.int (xs.length : Int)) H) : rLenSq K [.ref a] H Q := ⟨a, xs, rfl, .inl h, q⟩
theorem g_max {i j : Int} {H : Hp} {Q : VK} (q : Q (.int (if j > i then j else i)) H) : rMax2 [.int i, .int j] H Q := ⟨i, j, rfl, q⟩
theorem g_min {i j : Int} {H : Hp} {Q : VK} (q : Q (.int (if j < i then j else i)) H) : rMin2 [.int i, .int j] H Q := ⟨i, j, rfl, q⟩
theorem S_inj' {a b : List Nat} : (V.str (S a) = V.str (S b)) ↔ a = b := ⟨fun h => S_inj (V.str.inj h), fun h => by rw [h]⟩
theorem g_append {K : PySem.W.Frag} {l : Addr} {xs : List V} {y : V} {H : Hp} {Q : VK} (h : H l = some (.lst xs)) (hz : xs.length ≤ 100000) (q : Q .non (upd H l (.lst (xs ++ [y])))) : tyV K "list" (.ref l) H ∧ rAppend (.ref l) [y] H Q :=
  ⟨.inl ⟨rfl, _, .inl (.inl h)⟩, l, xs, y, rfl, rfl, h, Nat.lt_of_le_of_lt hz (by decide), q⟩
/-- for k in range(max(1, min(m, len(script)))): each turn by itself. R: what the body needs not to care of -/
theorem cells {K : PySem.W.Frag} {a : Addr} {ns : List Int} {m : Int} {H : Hp} {σ : L2.St} (hS : SqL K H a (ns.map V.int)) (m0 : 0 ≤ m) (m1 : m ≤ 1000) (hσ : σ[0]? = some (some (.ref a)))
    (QA : List V → Hp → Prop) (h : ∀ n : Int, 0 ≤ n ∧ (n ≤ m ∨ n = 1) → QA [.int n] H) :
    tCons (tCB rMax2 (tCons (tC (.int 1)) (tCons (tCB rMin2 (tCons (tC (.int m)) (tCons (tCB (rLenSq K) (tCons (tVar 0) tNil)) tNil))) tNil))) tNil σ H QA := by
  refine ⟨.ref a, hσ, a, ns.map V.int, rfl, .inl hS, _, _, rfl, _, _, rfl, h _ ?_⟩
  split <;> split <;> omega
end Sw
end
section
local macro_rules | `(tactic| walk_at "go1") => `(tactic| first
  | with_reducible refine Sw.g_seqasg ?_ | with_reducible refine Sw.g_op ?_ | with_reducible refine Sw.g_var rfl ?_ | with_reducible refine Sw.g_c ?_ | with_reducible refine Sw.g_I0 ?_
  | with_reducible refine Sw.g_cons ?_ | with_reducible refine Sw.g_nil ?_ | with_reducible refine Sw.g_call ?_ | with_reducible refine Sw.g_cb ?_ | with_reducible refine Sw.g_test ?_ | with_reducible refine Sw.g_bl ?_
  | with_reducible refine Sw.g_seqdrop ?_ | with_reducible refine Sw.g_seqsub ?_ | with_reducible refine Sw.g_asg ?_ | with_reducible refine Sw.g_asgsub ?_ | with_reducible refine Sw.g_ret ?_ | with_reducible refine Sw.g_drop ?_ | with_reducible refine Sw.g_if ?_ | with_reducible refine Sw.g_next ?_ | with_reducible refine Sw.g_name ?_
  | with_reducible refine Sw.g_B ?_ | with_reducible refine Sw.g_not ?_ | with_reducible refine Sw.g_and ?_ | with_reducible refine Sw.g_or ?_ | with_reducible refine Sw.g_andV ?_ | with_reducible refine Sw.g_orV ?_ | with_reducible refine Sw.g_notV ?_
  | with_reducible refine Sw.g_ifE ?_ | with_reducible refine Sw.g_chain ?_ | with_reducible refine Sw.g_un ?_ | with_reducible refine Sw.g_tup ?_ | with_reducible refine Sw.g_lst ?_ | with_reducible refine Sw.g_sl ?_ | with_reducible refine Sw.g_part ?_ | with_reducible refine Sw.g_nopart ?_
  | with_reducible refine Sw.g_U ?_ | with_reducible refine Sw.g_eq rfl ?_ | with_reducible refine Sw.g_ne rfl ?_ | with_reducible refine Sw.g_int ?_ | with_reducible refine Sw.g_yes ?_ | with_reducible refine L2.iteT ?_ | with_reducible refine L2.iteF ?_ | with_reducible refine Sw.iteNT ?_ | with_reducible refine Sw.iteNF ?_ | with_reducible refine Sw.g_m1 ?_ | with_reducible refine Sw.g_bm ?_ | with_reducible refine ⟨Sw.ty_lst (by assumption), ?_⟩ | with_reducible refine Sw.g_sput ?_ | with_reducible refine Sw.g_put ?_ | with_reducible refine Sw.g_dget2 ?_ | with_reducible refine Sw.g_dget ?_ | with_reducible refine Sw.g_dK ?_ | with_reducible refine Sw.g_dT ?_ | with_reducible refine Sw.g_dnotin ?_ | with_reducible refine Sw.g_din ?_ | with_reducible refine Sw.g_bm0 ?_
  | with_reducible refine Sw.g_ixL (by assumption) rfl ?_ | with_reducible refine Sw.g_ixT (by assumption) rfl ?_)
local macro_rules | `(tactic| walk_at "go") => `(tactic| repeat walk_at "go1")
local macro_rules | `(tactic| walk_at "bd") => `(tactic| repeat (first | with_reducible exact Sw.all_nil | refine Sw.all_cons ⟨_, rfl, by omega, by omega⟩ ?_))
local macro_rules | `(tactic| walk_at "new") => `(tactic| (refine ⟨Nat.le_of_ble_eq_true rfl, fun p np => ?_⟩; generalize hX : L2.upd _ p _ = H'; have sm : L2.Same _ H' := hX ▸ Sw.same_upd np; have hp : H' p = some _ := hX ▸ L2.upd_same; clear hX))
namespace Sw
open PySem PySem.Spec PyProof.Rows L2 SX
/-! ### a comprehension, a def called with the error itself, where an error is handled -/
section
variable {X : Cx} {pins : List (Addr × Obj)} {σ : L2.St} {H : Hp} {s : Shared}
theorem repin (I : Inv X pins σ H s) (pl : List (Addr × Obj)) (hp : ∀ q ∈ pl, s.heap.get? q.1 = some q.2 ∧ H q.1 = none ∧ q.1 ≠ X.env.locals ∧ q.1 ∉ X.fs ∧ ∀ v, q.2.data ≠ .cell v) : Inv { X with pn := pl } [] σ H s := by
  have o := I.ok
  exact ⟨⟨o.mod, o.kind, o.glob, o.blt, o.above, o.inj, o.has, o.cab, o.hd, o.frames, o.stk, o.exf, o.bs, o.bsz, o.noex, o.exfs, o.funs, o.frf⟩,
    I.os, I.bare, I.base, I.loc, I.cell, I.free, I.freeC, fun q hq => hp q (by simpa using hq), I.hok, I.len⟩
/-- a block's context, the handled error q pinned in it -/
abbrev blkP (X : Cx) (q : Addr × Obj) (s : Shared) (H : Hp) (scope : Scope) (ce : Env) (fp : List Addr) : Cx := { X.blk s H scope ce fp with pn := [q] }
theorem pe_lcH {elt tg iter : Expr} {ifs : List Expr} {scope : Scope} {own : List (Str × Nat)} {pos : Pos} {wi : TI} {g : TG} {tt : TT} {te : TE} (hot : L2H.HotC X) (nd : X.N.Nodup) (hi : L2H.PIH X tg iter wi) (ok : BlkOk X.N X.env.scope scope own)
    (hg : ∀ (q : Addr × Obj) (s : Shared) (H : Hp) (C : Addr) (cl : List (Str × Addr)) (fp : List Addr), PG (blkP X q s H scope (compEnvC scope cl C X.env) fp) tg g)
    (ht : ∀ (q : Addr × Obj) (s : Shared) (H : Hp) (C : Addr) (cl : List (Str × Addr)) (fp : List Addr), PTs (blkP X q s H scope (compEnvC scope cl C X.env) fp) ifs tt)
    (he : ∀ (q : Addr × Obj) (s : Shared) (H : Hp) (C : Addr) (cl : List (Str × Addr)) (fp : List Addr), PE (blkP X q s H scope (compEnvC scope cl C X.env) fp) elt te)
    (hfold : ∀ x, foldedSetIterable iter X.env x = pure x := by intro _; rfl) : PE X (.ListComp elt [⟨tg, iter, ifs, 0⟩] scope pos) (tLc wi g tt te (own.map (·.2))) := by
  refine ⟨fun pins s σ H Q I h => ?_⟩
  rw [eval_ListComp]
  obtain ⟨q, hq1, hqm⟩ := id hot
  have fr : ∀ y ∈ scope.names, y.2 = .free → ∃ c, X.env.cells.lookup y.1 = some c := fun y hy e => (ok.free y hy e).elim (fun k => I.ok.has _ (.inl k)) fun k => I.ok.has _ (.inr k)
  refine wpAny_comprehension_free (use := none) rfl hfold (closure_ok fr) ok.kind (fun y hy e => by rw [ok.uniq y hy, e]) (thn (hi.run pins s σ H _ I h) fun vv sa ha => thn ha fun iv sb hb => ?_)
  obtain ⟨it, fp, tn, J, Hb, rfl, Ib, T, stb, fb, qq⟩ := hb
  refine wpAny_newObj_type (newEnv_comp ?_) (by show 0 ≤ sizeLine; decide)
  generalize hD : sb.heap.objs.size = L
  have hLn : Hb L = none := Ib.hok.fresh (Nat.le_of_eq hD)
  obtain ⟨W, ⟨m0, w0⟩, turn⟩ := qq L hLn
  generalize hsc : ({ sb with heap := sb.heap.push { cls := .type "list", data := .seq ([] : List Value).toArray } } : Shared) = sc
  have hheap : sc.heap = sb.heap.push { cls := .type "list", data := .seq ([] : List Value).toArray } := by rw [← hsc]
  have Ic : Inv X pins σ (upd Hb L (.lst [])) sc := by
    rw [← hsc]
    refine Ib.laid (t' := sb.toks) (fun b o e => Heap.get?_push_of_some _ e) (Nat.le_of_eq hD) ⟨Nat.zero_le _, [], 0, .nil, ?_⟩
    rw [← hD]; exact Heap.get?_push_size _ rfl
  have lt : ∀ b ∈ fp, b < sb.heap.objs.size := fun b hb => by obtain ⟨o, e, _⟩ := T.obj _ _ stb b hb; exact Heap.lt_size e
  have fc : ∀ b ∈ fp, FpOk X pins (upd Hb L (.lst [])) b ∧ b < sc.heap.objs.size := fun b hb => ⟨⟨by rw [upd_ne (by rw [← hD]; exact Nat.ne_of_lt (lt b hb))]; exact (fb b hb).1, (fb b hb).2⟩, by rw [hheap, Heap.size_push]; exact Nat.lt_succ_of_lt (lt b hb)⟩
  have stc : tn 0 sc.heap := T.keep _ _ _ stb fun b _ o e => by rw [hheap]; exact Heap.get?_push_of_some _ e
  have Id := block_start Ic ok nd fc
  have pg := hg q sc (upd Hb L (.lst [])) sc.heap.objs.size (cellsFrom (sc.heap.objs.size + 1) scope.names (cloFrom X.env.cells scope.names [])) fp
  have pt := ht q sc (upd Hb L (.lst [])) sc.heap.objs.size (cellsFrom (sc.heap.objs.size + 1) scope.names (cloFrom X.env.cells scope.names [])) fp
  have pe := he q sc (upd Hb L (.lst [])) sc.heap.objs.size (cellsFrom (sc.heap.objs.size + 1) scope.names (cloFrom X.env.cells scope.names [])) fp
  have P0 := Ic.pin q (List.mem_append_left _ hqm)
  show codeAny _ _ (.compStart (.ListComp elt [⟨tg, iter, ifs, 0⟩] scope pos) 0 (.ref it) (.ref L) (compEnvC scope (cellsFrom (sc.heap.objs.size + 1) scope.names (cloFrom X.env.cells scope.names [])) sc.heap.objs.size X.env)) (compPost (model X.prog X.w) X.A X.xe none (EP X pins σ Q) (.ref L) sc.heap.objs.size) { sc with heap := pushCells (sc.heap.push { cls := .type "dict", data := .dict #[] }) scope.names }
  generalize hce : compEnvC scope (cellsFrom (sc.heap.objs.size + 1) scope.names (cloFrom X.env.cells scope.names [])) sc.heap.objs.size X.env = ce at Id pg pt pe ⊢
  have ceL : ce.locals = sc.heap.objs.size := by subst hce; rfl
  generalize hHc : upd Hb L (.lst []) = Hc at Ic Id pg pt pe w0 fc P0
  generalize hsd : ({ sc with heap := pushCells (sc.heap.push { cls := .type "dict", data := .dict #[] }) scope.names } : Shared) = sd at Id ⊢
  have kd : ∀ b o, sc.heap.get? b = some o → sd.heap.get? b = some o := fun b o e => by rw [← hsd]; exact pushCells_keeps _ _ _ _ (Heap.get?_push_of_some _ e)
  have std : tn 0 sd.heap := T.keep _ _ _ stc fun b _ o e => kd b o e
  have Ie : Inv (blkP X q sc Hc scope ce fp) [] (wipe σ (own.map (·.2))) Hc sd := repin Id [q] fun z hz => by
    have ez : z = q := by simpa using hz
    subst ez
    exact ⟨kd _ _ P0.1, P0.2.1, by show z.1 ≠ ce.locals; rw [ceL]; exact Nat.ne_of_lt (Heap.lt_size P0.1), fun hm => (List.mem_cons.mp (Ic.stkSub z.1 hm)).elim P0.2.2.1 P0.2.2.2.1, P0.2.2.2.2⟩
  have hotB : L2H.HotC (blkP X q sc Hc scope ce fp) := ⟨q, hq1, List.mem_singleton.mpr rfl⟩
  have steady : ∀ {τ : L2.St} {H' : Hp} {s' : Shared}, Inv (blkP X q sc Hc scope ce fp) [] τ H' s' → (∀ b ∈ fp, H' b = none) → ∀ b ∈ fp, FpOk (blkP X q sc Hc scope ce fp) [] H' b := fun {τ H' s'} J hn b hb =>
    ⟨hn b hb, (J.ok.exf b hb).1, J.ok.exfs b hb, .inl hb, fun x c e => (J.ok.exf b hb).2 x c e, fun z hz => by
      have ez : z = q := by simpa using hz
      subst ez
      exact (fc b hb).1.2.2.2.2.2 z (List.mem_append_left _ hqm)⟩
  have loop : codeAny (model X.prog X.w) X.A (.compLoop (.ListComp elt [⟨tg, iter, ifs, 0⟩] scope pos) 0 (.ref it) (.ref L) ce) (compPost (model X.prog X.w) X.A X.xe none (EP X pins σ Q) (.ref L) sc.heap.objs.size) sd := by
    refine compLoop_any (fun n s' => ∃ i H', Inv (blkP X q sc Hc scope ce fp) [] (wipe σ (own.map (·.2))) H' s' ∧ tn i s'.heap ∧ (∀ b ∈ fp, H' b = none) ∧ W i n H') ?_ m0 ⟨0, Hc, Ie, std, fun b hb => (fc b hb).1.1, w0⟩
    rintro n s5 ⟨i, H5, I5, st5, n5, w5⟩
    rcases turn i n H5 w5 with ⟨stop, done⟩ | ⟨go, Nx, hNx, step⟩
    · refine thnF (T.done (blkP X q sc Hc scope ce fp) rfl rfl rfl hotB i [] s5 _ H5 (fun _ _ => False) I5 (steady I5 n5) st5 stop) fun r s6 ⟨hr, I6⟩ => ?_
      subst hr
      have I7 : Inv X pins σ H5 s6 := Ic.call' (ch := fp) I6.os I6.base I6.hok I6.bare fun b hb => ⟨(fc b hb).1.2.2.2.1, (fc b hb).1.2.1, (fc b hb).1.2.2.2.2.1, (fc b hb).1.2.2.2.2.2⟩
      have nC : H5 sc.heap.objs.size = none := by have z : H5 ce.locals = none := I6.free; rw [ceL] at z; exact z
      obtain ⟨m, hn, _⟩ := I6.loc
      have hn : s6.heap.Ns ce.locals m := hn
      rw [ceL] at hn
      obtain ⟨f0, f1, f2, f3, f4, f5⟩ := Ic.fpOk (Nat.le_refl _) nC
      exact ⟨m, hn, fun h'' same => ⟨.ref L, H5, I7.turned (t' := s6.toks) (fun b o hb e => (same.2 b hb).trans e) f0 f1 f3 f4 f5, rfl, done⟩⟩
    · refine thnF (T.item (blkP X q sc Hc scope ce fp) rfl rfl rfl hotB i [] s5 _ H5 (fun _ _ => False) I5 (steady I5 n5) st5 go) fun r s6 ⟨u, hr, h6⟩ => ?_
      subst hr
      refine thnF h6 fun _ s7 ⟨x, H7, I7, r7, y7, st7, n7⟩ => ?_
      have J7 := I7.pinned (steady I7 n7) (T.obj _ _ st7)
      refine thnF (pg.run _ s7 _ H7 x u _ J7 r7 (step x H7 y7)) fun _ s8 ⟨τ, H8, I8, hw8, q8⟩ => ?_
      refine thnF (pt.run _ s8 τ H8 _ I8 q8) fun b s9 ⟨H9, I9, q9⟩ => ?_
      have fin : ∀ {s' : Shared} {H' : Hp}, Inv (blkP X q sc Hc scope ce fp) ([] ++ pinsAt fp s7.heap) τ H' s' → Nx H' → ∃ m, m < n ∧ ∃ i H', Inv (blkP X q sc Hc scope ce fp) [] (wipe σ (own.map (·.2))) H' s' ∧ tn i s'.heap ∧ (∀ b ∈ fp, H' b = none) ∧ W i m H' := fun {s' H'} J nx => by
        obtain ⟨m', hm, w'⟩ := hNx H' nx
        have pk : ∀ b ∈ fp, ∀ o, s7.heap.get? b = some o → s'.heap.get? b = some o ∧ H' b = none := fun b hb o e => let z := J.pin (b, o) (List.mem_append_right _ (List.mem_append_right _ (mem_pinsAt hb e))); ⟨z.1, z.2.1⟩
        refine ⟨m', hm, i + 1, H', (J.unpinned (pins := [])).weak (by rw [← hw8, wipe_length]) (fun j v e => ?_), T.keep _ _ _ st7 fun b hb o e => (pk b hb o e).1, fun b hb => ?_, w'⟩
        · rw [← hw8] at e; exact (wipe_some e).1
        · obtain ⟨o, e, _⟩ := T.obj _ _ st7 b hb; exact (pk b hb o e).2
      cases b with
      | false => simp only [Bool.false_eq_true, if_false] at q9 ⊢; exact fin I9 q9
      | true =>
        simp only [if_true] at q9 ⊢
        refine thnF (pe.run _ s9 τ H9 _ I9 q9) fun z s10 ⟨yv, H10, I10, r10, acc, hA, hz10, nx⟩ => ?_
        exact app_ok (X := blkP X q sc Hc scope ce fp) I10 hA hz10 r10 fun s11 I11 => fin I11 nx
  exact codeAny_compStart_list loop (T.self X.A 0 _ _ _ std loop)
end
/-- what a def promises of the handled error: its class, its dict, the heap, what is wanted -/
abbrev SpE := Value → Option Addr → Hp → VK → Prop
/-- the def under the name x, called with the handled error alone, keeps sp; nothing leaves it -/
structure CalE (P : Program) (w : World) (K : PySem.W.Frag) (mg : Str → Option Value) (base : Heap) (k : Nat) (x : Str) (sp : SpE) : Prop where
  ex : ∃ (f : Addr) (fd : FuncData) (par : Str), mg x = some (.ref f) ∧ PySem.W.keepIn K (.ref f) = true ∧ Binds K fd [par] [] ∧
    ∀ (A : Around) (outer : List Env) (s : Shared) (H : Hp) (args : Args) (q : Addr × Obj) (cls : Value) (d : Option Addr) (Q : VK), L2H.RoomH k A → L2H.Hot1 A q → L2H.PinOk outer H s q → Zc cls d q.2 → Env0 P w K mg base A outer s H →
      BindsTo s fd args [(par, .ref q.1)] → sp cls d H Q → codeAny (model P w) A (.call (.ref f) args) (CR CX0 outer P w H s Q E0) s
section
variable {P : Program} {w : World} {K : PySem.W.Frag} {mg : Str → Option Value} {base : Heap}
theorem calE {k : Nat} {x par : Str} {st : Stmt} {f : Addr} {fd : FuncData} {N : List Str} {sp : SpE} (F : L2.Fun K x x st f fd) (g : mg x = some (.ref f)) (b : Binds K fd [par] []) (S : FnScope N [par] (defScope st))
    (hbody : ∀ (cdv : Value) (A : Around) (outer : List Env) (s : Shared) (H : Hp) (Q : VK) (q : Addr × Obj) (cls : Value) (d : Option Addr), L2H.Hot1 A q → Zc cls d q.2 → L2H.RoomH k (A.deeper (envOfC x (defScope st) s.heap.objs.size f cdv)) → sp cls d H Q →
      ∃ t, PSs (L2H.cxH CX0 P w K mg base N x (defScope st) f cdv A outer s H E0 q) (defBody st) t ∧ t { nx := fun _ H' => Q .non H', rt := Q } (start N [.ref q.1]) H) : CalE P w K mg base (k + 1) x sp := by
  refine ⟨f, fd, par, g, F.kp, b, fun A outer s H args q cls d Q hr hot hpin hz e0 hb hsp => ?_⟩
  obtain ⟨oc, od, kV, doc, pm, an, cdv, ct, osl, rfl, lk, hcd⟩ := F.ex
  have KX : K.In s.heap := e0.mod.kin.keeps fun b o e => (e0.bs b o e).1
  have kinds : ∀ y ∈ [(par, Value.ref q.1)], (defScope st).names.lookup y.1 = some .local ∨ ((defScope st).names.lookup y.1 = some .cell ∧ ((cellsFrom (s.heap.objs.size + 1) (defScope st).names []).lookup y.1).isSome = true) := fun y hy => by
    have ey : y = (par, Value.ref q.1) := by simpa using hy
    subst ey
    exact (S.par par (List.mem_singleton.mpr rfl)).elim .inl fun z => .inr ⟨z, PySem.W.cellsFrom_some _ _ _ (.inl z)⟩
  refine codeAny_call_function hr.depth (KX _ _ lk) rfl S.co S.gen rfl (PySem.W.codeRec_of KX hcd) (hb _ _ _ _ ?_)
  refine wpAny_newFunctionEnv_cells S.kind kinds fun env he s1 xx => ?_
  subst he
  refine ⟨(e0.mod.nolimit.keeps fun b o e => (e0.bs b o e).1).keeps xx.toInCall.keep, codeAny_func ?_⟩
  obtain ⟨t, ht, hq⟩ := hbody cdv A outer s H Q q cls d hot hz (hr.deeper _) hsp
  have I : Inv (L2H.cxH CX0 P w K mg base N x (defScope st) f cdv A outer s H E0 q) [] (start N [.ref q.1]) H s1 := L2H.inv_startH (us := [.ref q.1]) S hpin e0 rfl (.cons rfl .nil) xx
  refine wpAny_mono (ht.run [] s1 _ H _ I hq) (fun fl s' hs => ?_) fun e s' hs => hs
  cases fl with
  | ret u => obtain ⟨v, τ, H', J, rv, z⟩ := hs; exact ⟨v, H', J.os, J.bare, J.base, J.hok, rv, z⟩
  | next => obtain ⟨τ, H', J, z⟩ := hs; exact ⟨.non, H', J.os, J.bare, J.base, J.hok, rfl, z⟩
  | brk => obtain ⟨_, _, _, z⟩ := hs; exact z.elim
  | cont => obtain ⟨_, _, _, z⟩ := hs; exact z.elim
end
/-- f(e) in the suite of «except .. as e» -/
def tCallE (sp : SpE) (a : Addr) (cls : Value) (d : Option Addr) (te : TE) : TE := fun σ H Q => te σ H fun v H1 => v = .ref a ∧ sp cls d H1 Q
section
variable {X : Cx} {k j : Nat} {x : Str} {sp : SpE} {a : Addr} {oe : Obj} {cls : Value} {d : Option Addr} {pn : List (Addr × Obj)} {p pos : Pos} {e : Expr} {te : TE}
theorem pe_calE (c : CalE X.prog X.w X.K X.mg X.base k x sp) (hr : Room j X.A) (hk : k ≤ j) (hz : L2N.Zn cls d oe) (hf : ∃ vs, oe.data = .fields vs) (hg : Gl X x) (he : PE (X.suite a ((a, oe) :: pn)) e te) (hdb : (x == ("__debug__" : Str)) = false := by decide)
    (hst : starEach [e] X.env = (false, eval e X.env) :: starEach [] X.env := by rfl) : PE (X.suite a ((a, oe) :: pn)) (.Call (.Name x p) [e] [] pos) (tCallE sp a cls d te) := by
  obtain ⟨f, fd, par, hm, kp, b, run⟩ := c.ex
  obtain ⟨vs, hvs⟩ := hf
  have hot : L2H.Hot1 (X.suite a ((a, oe) :: pn)).A (a, oe) := ⟨rfl, vs, hvs, hz.2.2 vs hvs⟩
  have ha : PA (X.suite a ((a, oe) :: pn)) [e] (tCons te tNil) := pa_cons he pa_nil hst
  refine ⟨fun pins s σ H Q I h => ?_⟩
  refine wpAny_Call_Name_kw (ld_glob I hg hm ?_ hdb)
  have h2 : tCons te tNil σ H fun vs H1 => vs = [V.ref a] ∧ sp cls d H1 Q := by
    have h' : te σ H fun v H1 => v = .ref a ∧ sp cls d H1 Q := h
    show te σ H fun v H1 => [v] = [V.ref a] ∧ sp cls d H1 Q
    have e : (fun (v : V) (H1 : Hp) => [v] = [V.ref a] ∧ sp cls d H1 Q) = fun v H1 => v = .ref a ∧ sp cls d H1 Q := by
      funext v H1
      exact propext ⟨fun z => ⟨(List.cons.inj z.1).1, z.2⟩, fun z => ⟨by rw [z.1], z.2⟩⟩
    rw [e]
    exact h'
  refine PySem.W.callWith_K (h₀ := X.base) I.ok.mod.kin kp (thn (ha.run pos pins s σ H _ I h2) fun us s1 ⟨vs1, H1, I1, r, ev, q⟩ => ⟨I1.kIn, ?_⟩) hst rfl
  subst ev
  have P1 := I1.pin (a, oe) (List.mem_append_left _ List.mem_cons_self)
  have eu : us = [Value.ref a] := by
    cases r with
    | cons r1 r2 => cases r2; rw [show _ = Value.ref a from r1]
  subst eu
  have bb := b s1 [Value.ref a] I1.kIn rfl
  have rm : L2H.RoomH k (X.suite a ((a, oe) :: pn)).A := ⟨(hr.mono hk).dp, (hr.mono hk).un⟩
  refine wpAny_call (codeAny_mono (run _ _ s1 H1 _ (a, oe) cls d Q rm hot ⟨P1.1, P1.2.1, fun hmm => (List.mem_cons.mp (I1.stkSub a hmm)).elim P1.2.2.1 P1.2.2.2.1, P1.2.2.2.2⟩ hz.zc I1.env0 bb q) fun rr s' hq => ?_)
  cases rr with
  | error z => exact False.elim hq
  | ok fl =>
    cases fl with
    | ret u => exact I1.after hq
    | next => exact False.elim hq
    | brk => exact False.elim hq
    | cont => exact False.elim hq
/-- isinstance(e, c), e an error that is pinned -/
theorem call_isP {Y : Cx} {D : Addr} (C : ExcC Y.K D) (hz : Zc (.ref D) none oe) (hf : ∃ vs, oe.data = .fields vs) (hm : (a, oe) ∈ Y.pn) : CallR Y (.builtin "isinstance") (rIsE Y.K D a) := by
  intro pins s σ H xs us Q I r h
  obtain ⟨c, cv, b, rfl, hcv, e, q⟩ := h
  obtain ⟨u1, u2, rfl, r1, r2⟩ := vals2 r
  obtain rfl : u1 = Value.ref a := r1
  obtain rfl := hcv _ r2
  obtain ⟨vs, hv⟩ := hf
  have hget := (I.pin (a, oe) (List.mem_append_left _ hm)).1
  have J : PySem.W.InstAt s.heap a oe D none := by
    obtain ⟨oc, od, oda, osl⟩ := oe
    obtain ⟨h1, h2⟩ := hz
    dsimp only at h1 h2 hv
    subst h1 h2 hv
    exact ⟨hget, rfl, rfl, trivial⟩
  exact PySem.W.kia_one (PySem.W.handS_kitx_exc C.hg C.hk C.hs C.hd C.ha C.hn C.ht C.hm) I.kIn J e (fun z => nomatch z) fun tk => ⟨.bl b, H, I.kept (t' := tk) fun _ _ z => z, rfl, q⟩
end
end Sw
end
section
local macro_rules | `(tactic| walk_at "go1") => `(tactic| first
  | with_reducible refine Sw.g_seqasg ?_ | with_reducible refine Sw.g_op ?_ | with_reducible refine Sw.g_var rfl ?_ | with_reducible refine Sw.g_c ?_ | with_reducible refine Sw.g_I0 ?_
  | with_reducible refine Sw.g_cons ?_ | with_reducible refine Sw.g_nil ?_ | with_reducible refine Sw.g_call ?_ | with_reducible refine Sw.g_cb ?_ | with_reducible refine Sw.g_test ?_ | with_reducible refine Sw.g_bl ?_
  | with_reducible refine Sw.g_seqdrop ?_ | with_reducible refine Sw.g_seqsub ?_ | with_reducible refine Sw.g_asg ?_ | with_reducible refine Sw.g_asgsub ?_ | with_reducible refine Sw.g_ret ?_ | with_reducible refine Sw.g_drop ?_ | with_reducible refine Sw.g_if ?_ | with_reducible refine Sw.g_next ?_ | with_reducible refine Sw.g_name ?_
  | with_reducible refine Sw.g_B ?_ | with_reducible refine Sw.g_not ?_ | with_reducible refine Sw.g_and ?_ | with_reducible refine Sw.g_or ?_ | with_reducible refine Sw.g_andV ?_ | with_reducible refine Sw.g_orV ?_ | with_reducible refine Sw.g_notV ?_
  | with_reducible refine Sw.g_ifE ?_ | with_reducible refine Sw.g_chain ?_ | with_reducible refine Sw.g_un ?_ | with_reducible refine Sw.g_tup ?_ | with_reducible refine Sw.g_lst ?_ | with_reducible refine Sw.g_sl ?_ | with_reducible refine Sw.g_part ?_ | with_reducible refine Sw.g_nopart ?_
  | with_reducible refine Sw.g_U ?_ | with_reducible refine Sw.g_eq rfl ?_ | with_reducible refine Sw.g_ne rfl ?_ | with_reducible refine Sw.g_int ?_ | with_reducible refine Sw.g_yes ?_ | with_reducible refine L2.iteT ?_ | with_reducible refine L2.iteF ?_ | with_reducible refine Sw.iteNT ?_ | with_reducible refine Sw.iteNF ?_ | with_reducible refine Sw.g_m1 ?_ | with_reducible refine Sw.g_bm ?_ | with_reducible refine ⟨Sw.ty_lst (by assumption), ?_⟩ | with_reducible refine Sw.g_sput ?_ | with_reducible refine Sw.g_put ?_ | with_reducible refine Sw.g_dget2 ?_ | with_reducible refine Sw.g_dget ?_ | with_reducible refine Sw.g_dK ?_ | with_reducible refine Sw.g_dT ?_ | with_reducible refine Sw.g_dnotin ?_ | with_reducible refine Sw.g_din ?_ | with_reducible refine Sw.g_bm0 ?_
  | with_reducible refine Sw.g_ixL (by assumption) rfl ?_ | with_reducible refine Sw.g_ixT (by assumption) rfl ?_)
local macro_rules | `(tactic| walk_at "go") => `(tactic| repeat walk_at "go1")
local macro_rules | `(tactic| walk_at "bd") => `(tactic| repeat (first | with_reducible exact Sw.all_nil | refine Sw.all_cons ⟨_, rfl, by omega, by omega⟩ ?_))
local macro_rules | `(tactic| walk_at "new") => `(tactic| (refine ⟨Nat.le_of_ble_eq_true rfl, fun p np => ?_⟩; generalize hX : L2.upd _ p _ = H'; have sm : L2.Same _ H' := hX ▸ Sw.same_upd np; have hp : H' p = some _ := hX ▸ L2.upd_same; clear hX))
namespace Sw
open PySem PySem.Spec PyProof.Rows L2 SX
/-! ### refusals -/
/-- where the classes of refusals stand -/
structure Cl where
  (Lacks NoBank NoBook NoDeed NoName NoOrder NoPlace NoRow NoSlack NoText NoTurns NoWheel NoWord TooMany WheelError : Addr)
/-- the def under the name x keeps sp; errors may leave it -/
structure CalX (P : Program) (w : World) (K : PySem.W.Frag) (mg : Str → Option Value) (base : Heap) (k : Nat) (x : Str) (sp : Sp) : Prop where
  ex : ∃ (f : Addr) (fd : FuncData) (ps : List Str), FnOk P w K mg base (L2N.CX P w) k f fd ps sp ∧ mg x = some (.ref f) ∧ PySem.W.keepIn K (.ref f) = true ∧ Binds K fd ps []
theorem okN {P : Program} {w : World} {K : PySem.W.Frag} {mg : Str → Option Value} {base : Heap} {x qual : Str} {st : Stmt} {f : Addr} {fd : FuncData} {N ps : List Str} {k : Nat} {sp : Sp} (F : L2.Fun K x qual st f fd) (S : FnScope N ps (defScope st))
    (len : ∀ vs H Q E, sp vs H Q E → vs.length = ps.length) (hbody : ∀ (cdv : Value) (A : Around) (outer : List Env) (s : Shared) (H : Hp) (vs : List V) (Q : VK) (E : XK), Room k (A.deeper (envOfC qual (defScope st) s.heap.objs.size f cdv)) → sp vs H Q E →
      ∃ t, PSs (cxOf (L2N.CX P w) P w K mg base N qual (defScope st) f cdv A outer s H E) (defBody st) t ∧ t { nx := fun _ H' => Q .non H', rt := Q } (start N vs) H) : FnOk P w K mg base (L2N.CX P w) (k + 1) f fd ps sp := by
  obtain ⟨oc, od, kV, doc, pm, an, cdv, ct, osl, rfl, lk, hcd⟩ := F.ex
  exact fn_of lk hcd S len fun A outer s H vs Q E hr h => hbody cdv A outer s H vs Q E hr h
theorem takesN0 {X : Cx} : L2N.Takes X (fun _ _ _ _ => False) := fun _ _ x => by
  obtain ⟨_, _, _, _, _, _, _, _, _, _, _, _, _, _, _, _, z⟩ := x
  exact z.elim
section
variable {X : Cx} {k j : Nat} {x : Str} {sp : Sp} {E : XK} {W : WX} {p pos : Pos} {e : Expr} {es : List Expr} {t : TA}
theorem pe_calX (c : CalX X.prog X.w X.K X.mg X.base k x sp) (hr : Room j X.A) (hk : k ≤ j) (hg : Gl X x) (hp : Passes (L2N.CX X.prog X.w) X E) (ha : PA X (e :: es) t) (hdb : (x == ("__debug__" : Str)) = false := by decide)
    (he : starEach (e :: es) X.env = (false, eval e X.env) :: starEach es X.env := by rfl) (hpl : (backTo pos (starEach es X.env)).any (·.1) = false := by rfl) : PE X (.Call (.Name x p) (e :: es) [] pos) (tCall sp [] E t) := by
  obtain ⟨f, fd, ps, F, hm, kp, b⟩ := c.ex
  exact pe_call F (hr.mono hk) hg hm kp b .nil hp ha hdb he hpl
theorem pe_calS (c : CalX X.prog X.w X.K X.mg X.base k x sp) (hr : Room j X.A) (hk : k ≤ j) (hg : Gl X x) (tk : L2N.Takes X W) (ha : PA X (e :: es) t) (hdb : (x == ("__debug__" : Str)) = false := by decide)
    (he : starEach (e :: es) X.env = (false, eval e X.env) :: starEach es X.env := by rfl) (hpl : (backTo pos (starEach es X.env)).any (·.1) = false := by rfl) : PE X (.Call (.Name x p) (e :: es) [] pos) (tCallS sp (WE W) t) := by
  obtain ⟨f, fd, ps, F, hm, kp, b⟩ := c.ex
  exact pe_callS F (hr.mono hk) hg hm kp b (fun σ => L2N.passAt tk σ) ha hdb he hpl
end
/-- what a callee raises leaves this def too -/
theorem passX {P : Program} {w : World} {K : PySem.W.Frag} {mg : Str → Option Value} {base : Heap} {N : List Str} {qual : Str} {scope : Scope} {f : Addr} {cd : Value} {A : Around} {outer : List Env} {s : Shared} {H : Hp} {E : XK} :
    Passes (L2N.CX P w) (cxOf (L2N.CX P w) P w K mg base N qual scope f cd A outer s H E) E := L2N.passes_call (X := cxOf (L2N.CX P w) P w K mg base N qual scope f cd A outer s H E) (L2N.takes_of rfl rfl rfl rfl) (fun _ _ _ _ h => h)
/-- nothing is raised there -/
theorem passE0 {X : Cx} : Passes (L2N.CX X.prog X.w) X E0 := fun _ _ _ _ _ _ _ h => by
  obtain ⟨_, _, _, _, _, _, _, _, _, _, _, _, z⟩ := h
  exact z.elim
def tRaise (E : XK) (C : Addr) : TS := fun _ _ H => E (.ref C) none H
/-- try: .. except (the class at W) as (slot i): .. -/
def tTry (K : PySem.W.Frag) (Wh : Addr) (i : Nat) (tb : WX → TS) (ts : Addr → Value → Option Addr → TS) : TS := fun D σ H => tb (wAs K (.ref Wh) i ts (fun _ _ _ _ => False) D) D σ H
/-! ### what kind a refusal is of: _law_kind -/
def knames : List Str := ["Lacks", "NoBank", "NoBook", "NoDeed", "NoName", "NoOrder", "NoPlace", "NoRow", "NoSlack", "NoText", "NoTurns", "NoWheel", "NoWord", "TooMany", "+"]
def kstr (j : Nat) : Str := Txt.join (PySem.Str.ofString "") [knames.getD j "", "+"]
theorem kstr0 : kstr 0 = PySem.Str.ofString "Lacks+" := by decide +kernel
theorem kstr1 : kstr 1 = PySem.Str.ofString "NoBank+" := by decide +kernel
theorem kstr2 : kstr 2 = PySem.Str.ofString "NoBook+" := by decide +kernel
theorem kstr3 : kstr 3 = PySem.Str.ofString "NoDeed+" := by decide +kernel
theorem kstr4 : kstr 4 = PySem.Str.ofString "NoName+" := by decide +kernel
theorem kstr5 : kstr 5 = PySem.Str.ofString "NoOrder+" := by decide +kernel
theorem kstr6 : kstr 6 = PySem.Str.ofString "NoPlace+" := by decide +kernel
theorem kstr7 : kstr 7 = PySem.Str.ofString "NoRow+" := by decide +kernel
theorem kstr8 : kstr 8 = PySem.Str.ofString "NoSlack+" := by decide +kernel
theorem kstr9 : kstr 9 = PySem.Str.ofString "NoText+" := by decide +kernel
theorem kstr10 : kstr 10 = PySem.Str.ofString "NoTurns+" := by decide +kernel
theorem kstr11 : kstr 11 = PySem.Str.ofString "NoWheel+" := by decide +kernel
theorem kstr12 : kstr 12 = PySem.Str.ofString "NoWord+" := by decide +kernel
theorem kstr13 : kstr 13 = PySem.Str.ofString "TooMany+" := by decide +kernel
/-- the class at D is the j-th of these; errors of it are told so -/
structure Caught (K : PySem.W.Frag) (c : Cl) (D : Addr) (j : Nat) : Prop where
  ex : ExcC K D
  exm : PySem.W.exmOne K (.ref D) (.ref c.WheelError) = some true
  q0 : PySem.W.kitOne K (.ref D) (.ref c.Lacks) = some (decide (0 = j))
  q1 : PySem.W.kitOne K (.ref D) (.ref c.NoBank) = some (decide (1 = j))
  q2 : PySem.W.kitOne K (.ref D) (.ref c.NoBook) = some (decide (2 = j))
  q3 : PySem.W.kitOne K (.ref D) (.ref c.NoDeed) = some (decide (3 = j))
  q4 : PySem.W.kitOne K (.ref D) (.ref c.NoName) = some (decide (4 = j))
  q5 : PySem.W.kitOne K (.ref D) (.ref c.NoOrder) = some (decide (5 = j))
  q6 : PySem.W.kitOne K (.ref D) (.ref c.NoPlace) = some (decide (6 = j))
  q7 : PySem.W.kitOne K (.ref D) (.ref c.NoRow) = some (decide (7 = j))
  q8 : PySem.W.kitOne K (.ref D) (.ref c.NoSlack) = some (decide (8 = j))
  q9 : PySem.W.kitOne K (.ref D) (.ref c.NoText) = some (decide (9 = j))
  q10 : PySem.W.kitOne K (.ref D) (.ref c.NoTurns) = some (decide (10 = j))
  q11 : PySem.W.kitOne K (.ref D) (.ref c.NoWheel) = some (decide (11 = j))
  q12 : PySem.W.kitOne K (.ref D) (.ref c.NoWord) = some (decide (12 = j))
  q13 : PySem.W.kitOne K (.ref D) (.ref c.TooMany) = some (decide (13 = j))
  q14 : PySem.W.kitOne K (.ref D) (.type "ValueError") = some true
def sp_law_kind (K : PySem.W.Frag) (c : Cl) : SpE := fun cls d H Q => d = none ∧ ∃ D j, cls = .ref D ∧ Caught K c D j ∧ j < 14 ∧ ∀ H', Same H H' → Q (.str (kstr j)) H'
theorem g_isE {K : PySem.W.Frag} {D a C : Addr} {b : Bool} {H : Hp} {Q : VK} (h : PySem.W.kitOne K (.ref D) (.ref C) = some b) (q : Q (.bl b) H) : rIsE K D a [.ref a, .ref C] H Q := ⟨.ref C, .ref C, b, rfl, fun _ r => r, h, q⟩
theorem g_isEt {K : PySem.W.Frag} {D a : Addr} {n : String} {b : Bool} {H : Hp} {Q : VK} (h : PySem.W.kitOne K (.ref D) (.type n) = some b) (q : Q (.bl b) H) : rIsE K D a [.ref a, .ty n] H Q := ⟨.ty n, .type n, b, rfl, fun _ r => r, h, q⟩
theorem g_catL {l b : Addr} {xs zs : List V} {H : Hp} {Q : VK} (hl : H l = some (.lst xs)) (hb : H b = some (.lst zs)) (hz : xs.length + zs.length ≤ 1000) (q : ∀ p H', H p = none → Same H H' → H' p = some (.lst (xs ++ zs)) → Q (.ref p) H') : rCat (.ref l) (.ref b) H Q :=
  ⟨l, b, xs, zs, rfl, rfl, hl, hb, Nat.le_trans hz (by decide), fun p hp => q p _ hp (fun b o e => by rw [upd_ne (ne_of_none e hp)]; exact e) upd_same⟩
theorem g_new {xs : List V} {F : Addr → Hp → Prop} {H : Hp} (hz : xs.length ≤ 1000) (q : ∀ p H', H p = none → Same H H' → H' p = some (.lst xs) → F p H') : xs.length ≤ sizeLine ∧ ∀ p, H p = none → F p (upd H p (.lst xs)) :=
  ⟨Nat.le_trans hz (by decide), fun p hp => q p _ hp (fun b o e => by rw [upd_ne (ne_of_none e hp)]; exact e) upd_same⟩
end Sw
local macro_rules | `(tactic| walk_at "isE") => `(tactic| first
  | with_reducible refine Sw.g_isE (Sw.Caught.q0 (by assumption)) ?_ | with_reducible refine Sw.g_isE (Sw.Caught.q1 (by assumption)) ?_ | with_reducible refine Sw.g_isE (Sw.Caught.q2 (by assumption)) ?_ | with_reducible refine Sw.g_isE (Sw.Caught.q3 (by assumption)) ?_
  | with_reducible refine Sw.g_isE (Sw.Caught.q4 (by assumption)) ?_ | with_reducible refine Sw.g_isE (Sw.Caught.q5 (by assumption)) ?_ | with_reducible refine Sw.g_isE (Sw.Caught.q6 (by assumption)) ?_ | with_reducible refine Sw.g_isE (Sw.Caught.q7 (by assumption)) ?_
  | with_reducible refine Sw.g_isE (Sw.Caught.q8 (by assumption)) ?_ | with_reducible refine Sw.g_isE (Sw.Caught.q9 (by assumption)) ?_ | with_reducible refine Sw.g_isE (Sw.Caught.q10 (by assumption)) ?_ | with_reducible refine Sw.g_isE (Sw.Caught.q11 (by assumption)) ?_
  | with_reducible refine Sw.g_isE (Sw.Caught.q12 (by assumption)) ?_ | with_reducible refine Sw.g_isE (Sw.Caught.q13 (by assumption)) ?_ | with_reducible refine Sw.g_isEt (Sw.Caught.q14 (by assumption)) ?_)
namespace Sw
open PySem PySem.Spec PyProof.Rows L2 SX
def t_law_kind (K : PySem.W.Frag) (c : Cl) (D a : Addr) : TS :=
  (tSeq (tAsg (tLst (tCons (tCB (rIsE K D a) (tCons (tVar 0) (tCons (tC (.ref c.Lacks)) tNil))) (tCons (tCB (rIsE K D a) (tCons (tVar 0) (tCons (tC (.ref c.NoBank)) tNil))) (tCons (tCB (rIsE K D a) (tCons (tVar 0) (tCons (tC (.ref c.NoBook)) tNil))) (tCons (tCB (rIsE K D a) (tCons (tVar 0) (tCons (tC (.ref c.NoDeed)) tNil))) tNil))))) (gName 1))
  (tSeq (tAsg (tOp rCat (tVar 1) (tLst (tCons (tCB (rIsE K D a) (tCons (tVar 0) (tCons (tC (.ref c.NoName)) tNil))) (tCons (tCB (rIsE K D a) (tCons (tVar 0) (tCons (tC (.ref c.NoOrder)) tNil))) (tCons (tCB (rIsE K D a) (tCons (tVar 0) (tCons (tC (.ref c.NoPlace)) tNil))) (tCons (tCB (rIsE K D a) (tCons (tVar 0) (tCons (tC (.ref c.NoRow)) tNil))) tNil)))))) (gName 1))
  (tSeq (tAsg (tOp rCat (tVar 1) (tLst (tCons (tCB (rIsE K D a) (tCons (tVar 0) (tCons (tC (.ref c.NoSlack)) tNil))) (tCons (tCB (rIsE K D a) (tCons (tVar 0) (tCons (tC (.ref c.NoText)) tNil))) (tCons (tCB (rIsE K D a) (tCons (tVar 0) (tCons (tC (.ref c.NoTurns)) tNil))) (tCons (tCB (rIsE K D a) (tCons (tVar 0) (tCons (tC (.ref c.NoWheel)) tNil))) tNil)))))) (gName 1))
  (tSeq (tAsg (tOp rCat (tVar 1) (tLst (tCons (tCB (rIsE K D a) (tCons (tVar 0) (tCons (tC (.ref c.NoWord)) tNil))) (tCons (tCB (rIsE K D a) (tCons (tVar 0) (tCons (tC (.ref c.TooMany)) tNil))) (tCons (tCB (rIsE K D a) (tCons (tVar 0) (tCons (tC (.ty "ValueError")) tNil))) tNil))))) (gName 1))
  (tSeq (tAsg (tLst (tCons (tC (.str "Lacks")) (tCons (tC (.str "NoBank")) (tCons (tC (.str "NoBook")) (tCons (tC (.str "NoDeed")) (tCons (tC (.str "NoName")) (tCons (tC (.str "NoOrder")) (tCons (tC (.str "NoPlace")) (tCons (tC (.str "NoRow")) (tCons (tC (.str "NoSlack")) (tCons (tC (.str "NoText")) tNil))))))))))) (gName 2))
  (tSeq (tAsg (tOp rCat (tVar 2) (tLst (tCons (tC (.str "NoTurns")) (tCons (tC (.str "NoWheel")) (tCons (tC (.str "NoWord")) (tCons (tC (.str "TooMany")) (tCons (tC (.str "+")) tNil))))))) (gName 2))
  (tRet (tM1 (rJoin K) (tC (.str "")) (tLc (iRng1 (tCons (tC (.int 15)) tNil)) (gName 3) (tB (tOp (rIxL K) (tVar 1) (tVar 3))) (tOp (rIxL K) (tVar 2) (tVar 3)) [3])))))))))

def kbs (j : Nat) : List V := [.bl (decide (0 = j)), .bl (decide (1 = j)), .bl (decide (2 = j)), .bl (decide (3 = j)), .bl (decide (4 = j)), .bl (decide (5 = j)), .bl (decide (6 = j)), .bl (decide (7 = j)), .bl (decide (8 = j)), .bl (decide (9 = j)), .bl (decide (10 = j)), .bl (decide (11 = j)), .bl (decide (12 = j)), .bl (decide (13 = j)), .bl true]
def kf (j : Nat) (i : Nat) : Bool := decide (i = j) || decide (i = 14)
theorem kbs_at (j i : Nat) (hi : i < 15) (hj : j < 14) : (kbs j)[i]? = some (.bl (kf j i)) := by
  have : i = 0 ∨ i = 1 ∨ i = 2 ∨ i = 3 ∨ i = 4 ∨ i = 5 ∨ i = 6 ∨ i = 7 ∨ i = 8 ∨ i = 9 ∨ i = 10 ∨ i = 11 ∨ i = 12 ∨ i = 13 ∨ i = 14 := by omega
  rcases this with rfl | rfl | rfl | rfl | rfl | rfl | rfl | rfl | rfl | rfl | rfl | rfl | rfl | rfl | rfl <;> simp [kbs, kf]
theorem names_at (i : Nat) (hi : i < 15) : (knames.map V.str)[i]? = some (.str (knames.getD i "")) := by
  rw [List.getElem?_map, List.getD, List.getElem?_eq_getElem (by exact hi)]
  rfl
theorem kgiven (j : Nat) (hj : j < 14) : given 15 (kf j) (fun i => .str (knames.getD i "")) = [V.str (knames.getD j ""), V.str "+"] := by
  have : j = 0 ∨ j = 1 ∨ j = 2 ∨ j = 3 ∨ j = 4 ∨ j = 5 ∨ j = 6 ∨ j = 7 ∨ j = 8 ∨ j = 9 ∨ j = 10 ∨ j = 11 ∨ j = 12 ∨ j = 13 := by omega
  rcases this with rfl | rfl | rfl | rfl | rfl | rfl | rfl | rfl | rfl | rfl | rfl | rfl | rfl | rfl <;> rfl
theorem klen (j : Nat) (hj : j < 14) : (knames.getD j "").length ≤ 100 := by
  have : j = 0 ∨ j = 1 ∨ j = 2 ∨ j = 3 ∨ j = 4 ∨ j = 5 ∨ j = 6 ∨ j = 7 ∨ j = 8 ∨ j = 9 ∨ j = 10 ∨ j = 11 ∨ j = 12 ∨ j = 13 := by omega
  rcases this with rfl | rfl | rfl | rfl | rfl | rfl | rfl | rfl | rfl | rfl | rfl | rfl | rfl | rfl <;> decide
theorem rd_law_kind {K : PySem.W.Frag} {c : Cl} {D a : Addr} {j : Nat} {H : Hp} {Q : VK} (cau : Caught K c D j) (hj : j < 14) (q : ∀ H', Same H H' → Q (.str (kstr j)) H') : t_law_kind K c D a { nx := fun _ H' => Q .non H', rt := Q } (start ["e", "some", "names", "k"] [.ref a]) H := by
  show t_law_kind K c D a _ [some (.ref a), none, none, none] H
  unfold t_law_kind
  repeat (first | walk_at "go1" | walk_at "isE")
  refine ⟨by show 4 ≤ sizeLine; decide, fun p1 n1 => ?_⟩
  have s1 := same_upd (o := .lst [.bl (decide (0 = j)), .bl (decide (1 = j)), .bl (decide (2 = j)), .bl (decide (3 = j))]) n1
  have e1 : upd H p1 (.lst [.bl (decide (0 = j)), .bl (decide (1 = j)), .bl (decide (2 = j)), .bl (decide (3 = j))]) p1 = _ := upd_same
  generalize upd H p1 (.lst [.bl (decide (0 = j)), .bl (decide (1 = j)), .bl (decide (2 = j)), .bl (decide (3 = j))]) = H1 at s1 e1 ⊢
  repeat (first | walk_at "go1" | walk_at "isE")
  refine ⟨by show 4 ≤ sizeLine; decide, fun p2 n2 => ?_⟩
  refine g_catL (same_upd n2 _ _ e1) upd_same (by show 8 ≤ 1000; decide) fun p3 H2 n3 s2 e2 => ?_
  replace s1 := s1.trans ((same_upd n2).trans s2)
  repeat (first | walk_at "go1" | walk_at "isE")
  refine ⟨by show 4 ≤ sizeLine; decide, fun p4 n4 => ?_⟩
  refine g_catL (same_upd n4 _ _ e2) upd_same (by show 12 ≤ 1000; decide) fun p5 H3 n5 s3 e3 => ?_
  replace s1 := s1.trans ((same_upd n4).trans s3)
  repeat (first | walk_at "go1" | walk_at "isE")
  refine ⟨by show 3 ≤ sizeLine; decide, fun p6 n6 => ?_⟩
  refine g_catL (same_upd n6 _ _ e3) upd_same (by show 15 ≤ 1000; decide) fun p7 H4 n7 s4 e4 => ?_
  replace s1 := s1.trans ((same_upd n6).trans s4)
  have e4' : H4 p7 = some (.lst (kbs j)) := e4
  walk_at "go"
  refine ⟨by show 10 ≤ sizeLine; decide, fun p8 n8 => ?_⟩
  walk_at "go"
  refine ⟨by show 5 ≤ sizeLine; decide, fun p9 n9 => ?_⟩
  refine g_catL (same_upd n9 _ _ upd_same) upd_same (by show 15 ≤ 1000; decide) fun p10 H5 n10 s5 e5 => ?_
  have e6 := s5 _ _ (same_upd n9 _ _ (same_upd n8 _ _ e4'))
  replace s1 := s1.trans ((same_upd n8).trans ((same_upd n9).trans s5))
  have e5' : H5 p10 = some (.lst (knames.map V.str)) := e5
  walk_at "go"
  refine ⟨⟨_, rfl⟩, ?_⟩
  refine lcP1 (n := 15) (kf j) (fun i => .str (knames.getD i "")) (fun QA h => ?_) (by decide) (by decide) (fun x => rfl) (fun i H' QT hi sm h => ?_) (fun i H' Q2 hi sm hf h => ?_) (fun Dl H' nD sm eD => ?_)
  · walk_at "go"
    exact h
  · walk_at "go"
    refine g_ixL (sm _ _ e6) (atI_nat (kbs_at j i (by omega) hj)) ?_
    walk_at "go"
    exact h
  · walk_at "go"
    refine g_ixL (sm _ _ e5') (atI_nat (names_at i (by omega))) ?_
    exact h
  · have eD' : H' Dl = some (.lst [V.str (knames.getD j ""), V.str "+"]) := by rw [eD]; exact congrArg (fun z => some (HO.lst z)) (kgiven j hj)
    refine ⟨_, Dl, [knames.getD j "", "+"], rfl, rfl, .inl (.inl (.inl eD')), ?_, q H' (s1.trans sm)⟩
    have h1 := klen j hj
    show (knames.getD j "").length + (1 + 0) + 2 * 0 ≤ 16777216
    omega
/-! ### data compared -/
mutual
theorem dp_same {K : PySem.W.Frag} {H H' : Hp} (e : Same H H') : ∀ {v : V} {d : PyData}, Dp K H v d → Dp K H' v d
  | _, _, .non => .non
  | _, _, .bl b => .bl b
  | _, _, .int i => .int i
  | _, _, .str x => .str x
  | _, _, .lst h a => .lst (e.seq h) (dpA_same e a)
  | _, _, .tup h a => .tup (Sw.Same.tup e h) (dpA_same e a)
theorem dpA_same {K : PySem.W.Frag} {H H' : Hp} (e : Same H H') : ∀ {v : List V} {d : List PyData}, DpAll K H v d → DpAll K H' v d
  | _, _, .nil => .nil
  | _, _, .cons a b => .cons (dp_same e a) (dpA_same e b)
end
/-- data of little depth, of texts within bounds -/
def Ok (n : Nat) (d : PyData) : Prop := d.canLay0 = true ∧ d.depth ≤ n
theorem ok_int {n : Nat} (i : Int) : Ok n (.int i) := ⟨rfl, Nat.zero_le _⟩
theorem ok_bl {n : Nat} (b : Bool) : Ok n (.bool b) := ⟨rfl, Nat.zero_le _⟩
theorem ok_non {n : Nat} : Ok n .none := ⟨rfl, Nat.zero_le _⟩
theorem ok_str {n : Nat} {x : Str} (h : PyData.strOk x = true) : Ok n (.str x) := ⟨h, Nat.zero_le _⟩
theorem okA {n : Nat} : ∀ {xs : List PyData}, (∀ x ∈ xs, Ok n x) → PyData.canLayAll0 xs = true ∧ PyData.depthAll xs ≤ n
  | [], _ => ⟨rfl, Nat.zero_le _⟩
  | x :: xs, h => by
    have h1 := h x List.mem_cons_self
    have h2 := okA (xs := xs) fun y hy => h y (List.mem_cons_of_mem _ hy)
    refine ⟨?_, ?_⟩
    · show (x.canLay0 && PyData.canLayAll0 xs) = true
      rw [h1.1, h2.1]; rfl
    · show max x.depth (PyData.depthAll xs) ≤ n
      exact Nat.max_le.mpr ⟨h1.2, h2.2⟩
theorem ok_lst {n : Nat} {xs : List PyData} (h : ∀ x ∈ xs, Ok n x) : Ok (n + 1) (.list xs) := ⟨(okA h).1, Nat.succ_le_succ (okA h).2⟩
theorem ok_tup {n : Nat} {xs : List PyData} (h : ∀ x ∈ xs, Ok n x) : Ok (n + 1) (.tuple xs) := ⟨(okA h).1, Nat.succ_le_succ (okA h).2⟩
theorem ok_nil {n : Nat} : ∀ x ∈ ([] : List PyData), Ok n x := fun _ h => nomatch h
theorem ok_cons {n : Nat} {x : PyData} {xs : List PyData} (h : Ok n x) (hs : ∀ y ∈ xs, Ok n y) : ∀ y ∈ x :: xs, Ok n y := fun y hy => by
  rcases List.mem_cons.mp hy with e | e
  · rw [e]; exact h
  · exact hs y e
theorem Ok.shaped {n : Nat} {d : PyData} (h : Ok n d) (hn : n ≤ 64) : SeqAt.shaped d = true := by
  unfold SeqAt.shaped
  rw [h.1]
  simpa using Nat.le_trans h.2 hn
/-- two things that are the same data -/
theorem g_neD {K : PySem.W.Frag} {H : Hp} {x y : V} {d : PyData} {n : Nat} {Q : VK} (hx : Dp K H x d) (hy : Dp K H y d) (ok : Ok n d) (hn : n ≤ 64) (q : Q (.bl false) H) : rNeD K x y H Q :=
  ⟨d, d, hx, hy, ok.shaped hn, ok.shaped hn, by rw [SeqAt.eqv_refl d ok.1]; exact q⟩
theorem g_eqD {K : PySem.W.Frag} {H : Hp} {x y : V} {d : PyData} {n : Nat} {Q : VK} (hx : Dp K H x d) (hy : Dp K H y d) (ok : Ok n d) (hn : n ≤ 64) (q : Q (.bl true) H) : rEqD K x y H Q :=
  ⟨d, d, hx, hy, ok.shaped hn, ok.shaped hn, by rw [SeqAt.eqv_refl d ok.1]; exact q⟩
def dI (ns : List Int) : List PyData := ns.map .int
theorem dpI {K : PySem.W.Frag} {H : Hp} : ∀ ns : List Int, DpAll K H (ns.map V.int) (dI ns)
  | [] => .nil
  | n :: ns => .cons (.int n) (dpI ns)
theorem ok_dI {n : Nat} (ns : List Int) : ∀ x ∈ dI ns, Ok n x := fun x hx => by
  obtain ⟨i, _, rfl⟩ := List.mem_map.mp hx
  exact ok_int i
end Sw
end
section
local macro_rules | `(tactic| walk_at "go1") => `(tactic| first
  | with_reducible refine Sw.g_seqasg ?_ | with_reducible refine Sw.g_op ?_ | with_reducible refine Sw.g_var rfl ?_ | with_reducible refine Sw.g_c ?_ | with_reducible refine Sw.g_I0 ?_
  | with_reducible refine Sw.g_cons ?_ | with_reducible refine Sw.g_nil ?_ | with_reducible refine Sw.g_call ?_ | with_reducible refine Sw.g_cb ?_ | with_reducible refine Sw.g_test ?_ | with_reducible refine Sw.g_bl ?_
  | with_reducible refine Sw.g_seqdrop ?_ | with_reducible refine Sw.g_seqsub ?_ | with_reducible refine Sw.g_asg ?_ | with_reducible refine Sw.g_asgsub ?_ | with_reducible refine Sw.g_ret ?_ | with_reducible refine Sw.g_drop ?_ | with_reducible refine Sw.g_if ?_ | with_reducible refine Sw.g_next ?_ | with_reducible refine Sw.g_name ?_
  | with_reducible refine Sw.g_B ?_ | with_reducible refine Sw.g_not ?_ | with_reducible refine Sw.g_and ?_ | with_reducible refine Sw.g_or ?_ | with_reducible refine Sw.g_andV ?_ | with_reducible refine Sw.g_orV ?_ | with_reducible refine Sw.g_notV ?_
  | with_reducible refine Sw.g_ifE ?_ | with_reducible refine Sw.g_chain ?_ | with_reducible refine Sw.g_un ?_ | with_reducible refine Sw.g_tup ?_ | with_reducible refine Sw.g_lst ?_ | with_reducible refine Sw.g_sl ?_ | with_reducible refine Sw.g_part ?_ | with_reducible refine Sw.g_nopart ?_
  | with_reducible refine Sw.g_U ?_ | with_reducible refine Sw.g_eq rfl ?_ | with_reducible refine Sw.g_ne rfl ?_ | with_reducible refine Sw.g_int ?_ | with_reducible refine Sw.g_yes ?_ | with_reducible refine L2.iteT ?_ | with_reducible refine L2.iteF ?_ | with_reducible refine Sw.iteNT ?_ | with_reducible refine Sw.iteNF ?_ | with_reducible refine Sw.g_m1 ?_ | with_reducible refine Sw.g_bm ?_ | with_reducible refine ⟨Sw.ty_lst (by assumption), ?_⟩ | with_reducible refine Sw.g_sput ?_ | with_reducible refine Sw.g_put ?_ | with_reducible refine Sw.g_dget2 ?_ | with_reducible refine Sw.g_dget ?_ | with_reducible refine Sw.g_dK ?_ | with_reducible refine Sw.g_dT ?_ | with_reducible refine Sw.g_dnotin ?_ | with_reducible refine Sw.g_din ?_ | with_reducible refine Sw.g_bm0 ?_
  | with_reducible refine Sw.g_ixL (by assumption) rfl ?_ | with_reducible refine Sw.g_ixT (by assumption) rfl ?_)
local macro_rules | `(tactic| walk_at "go") => `(tactic| repeat walk_at "go1")
local macro_rules | `(tactic| walk_at "bd") => `(tactic| repeat (first | with_reducible exact Sw.all_nil | refine Sw.all_cons ⟨_, rfl, by omega, by omega⟩ ?_))
local macro_rules | `(tactic| walk_at "new") => `(tactic| (refine ⟨Nat.le_of_ble_eq_true rfl, fun p np => ?_⟩; generalize hX : L2.upd _ p _ = H'; have sm : L2.Same _ H' := hX ▸ Sw.same_upd np; have hp : H' p = some _ := hX ▸ L2.upd_same; clear hX))
namespace Sw
open PySem PySem.Spec PyProof.Rows L2 SX
/-! ### tables: dicts with pairs as keys -/
/-- {k: v}, k a tuple -/
def tDispT (tk tv : TE) : TE := fun σ H Q => ∀ p, H p = none → tk σ (upd H p (.dT [])) fun x H1 => tv σ H1 fun y H2 => H2 p = some (.dT []) ∧ ∃ b k, x = .ref b ∧ H2 b = some (.tup (k.map kV)) ∧ Q (.ref p) (upd H2 p (.dT [(k, y)]))
section
variable {X : Cx} {pos : Pos}
theorem pe_dispT {kx vx : Expr} {tk tv : TE} (hu : X.A.units + 1 < cLine) (hk : PE X kx tk) (hv : PE X vx tv) : PE X (.Dict [some kx] [vx] pos) (tDispT tk tv) := by
  refine ⟨fun pins s σ H Q I q => ?_⟩
  have hn := I.hok.fresh (Nat.le_refl s.heap.objs.size)
  have I1 := I.laid (a := s.heap.objs.size) (o := .dT []) (h' := s.heap.push { cls := .type "dict", data := .dict #[] }) (t' := s.toks) (fun _ _ q => Heap.get?_push_of_some _ q) (Nat.le_refl _) (dt_empty s.heap I.big)
  rw [PySem.arm_eval_Dict, PySem.zip_pairTrees [some kx] [vx] X.env pos rfl rfl, PySem.dictDisplay_pairs _ (by intro z; have := congrArg List.length z; simp [pairTrees] at this) (by simp [pairTrees])]
  refine wpAny_bind (wpAny_standAt (wpAny_bind (wpAny_subDictH (knd := tupleKind (mixKind X.prog X.w)) (Q := fun d s' => wpAny (model X.prog X.w) X.A (pure (Value.ref d)) (EP X pins σ Q) X.xe s') (show X.A.units < cLine by omega) (by simp [pairTrees]) ?_)))
  refine pairTrees_cons_walk (thn (hk.run pins _ σ _ _ I1 (q _ hn)) fun kv s1 ⟨x, H1, J1, r1, q1⟩ => thn (hv.run pins s1 σ H1 _ J1 q1) fun vv s2 ⟨y, H2, J2, r2, q2⟩ => pairTrees_nil_walk ?_)
  obtain ⟨e, b, k, rfl, hb, q2⟩ := q2
  cases (show kv = Value.ref b from r1)
  obtain ⟨z, hd, xs, rel, dd⟩ := dt_of J2.hok e
  cases rel
  have key := key_of J2.hok hb
  refine ⟨[(k, b, vv)], ⟨rfl, rfl, key, trivial⟩, dd, fun h' tk dd' hs => wpAny_pure ⟨.ref s.heap.objs.size, _, ?_, rfl, q2⟩⟩
  obtain ⟨o, es, ep, ho, h2, h3, h4, _, h5⟩ := dd'
  refine d_write J2 (by rw [e]; exact True.intro) hs ⟨o, ho⟩ ⟨by show 1 ≤ sizeLine; decide, hd, [(k, b, vv)], .cons ⟨rfl, ?_, r2⟩ .nil, o, es, ep, ho, h2, h3, h4, h5⟩
  rw [upd_ne (ne_of hb e (fun z => nomatch z))]
  exact hb
end
/-! ### min(d.values()) of such a dict -/
def tMinValsT (td : TE) : TE := fun σ H Q => td σ H fun x H1 => ∃ a kvs is, x = V.ref a ∧ Rd H1 a (.dT kvs) ∧ kvs.map (·.2) = is.map V.int ∧ is ≠ [] ∧ ∀ m, m ∈ is → (∀ j ∈ is, m ≤ j) → Q (.int m) H1
theorem KT.at' {H : Hp} {kvs : List (List Key × V)} {xs : List (List Key × Addr × Value)} (r : KT H kvs xs) : ∀ {i : Nat} {y : List Key × Addr × Value}, xs[i]? = some y → ∃ x, (kvs.map (·.2))[i]? = some x ∧ RelV x y.2.2 := by
  unfold KT at r
  induction r with
  | nil => intro i y e; simp at e
  | cons r t ih =>
    intro i y e
    cases i with
    | zero =>
      have e' := Option.some.inj (show some _ = some y from e)
      subst e'
      exact ⟨_, rfl, r.2.2⟩
    | succ i =>
      obtain ⟨x, h1, h2⟩ := ih (i := i) (y := y) (by simpa using e)
      exact ⟨x, by simpa using h1, h2⟩
section
variable {X : Cx} {o : Expr} {p pos apos mpos : Pos} {td : TE}
theorem pe_minValsT (hc : X.calm = true) (hg : Gl X "min") (hm : X.mg "min" = none) (hd : PE X o td) (hbase : attributeBase o "values" X.env (eval o X.env) = eval o X.env := by rfl) (hline : (apos.endLine == mpos.line) = true := by rfl)
    (hse : starEach [Expr.Call (.Attribute o "values" apos) [] [] mpos] X.env = [(false, eval (Expr.Call (.Attribute o "values" apos) [] [] mpos) X.env)] := by rfl) :
    PE X (.Call (.Name "min" p) [.Call (.Attribute o "values" apos) [] [] mpos] [] pos) (tMinValsT td) := by
  refine ⟨fun pins s σ H Q I h => ?_⟩
  refine wpAny_Call_Name_kw (ld_blt I hg hm (u := .builtin "min") (by first | rfl | decide +kernel) ?_ (by first | decide +kernel | decide) (by first | decide +kernel | decide))
  rw [hse]
  refine PySem.callWith_builtin1 (wpAny_Call_method0_late hbase hline (thn (hd.run pins s σ H _ I h) fun v s1 ⟨x, H1, I1, r1, a, kvs, is, ex, ha, hv, hne, q⟩ => ?_))
  subst ex
  obtain rfl : v = Value.ref a := r1
  obtain ⟨_, hsys, xs, rel, dof⟩ := dt_rd I1.hok ha
  obtain ⟨es, ep, raw, hsz0, hx⟩ := dof.raw
  obtain ⟨ob, ho, ex, hdat⟩ := id raw
  refine ⟨"dict", "dict.values", F.plainAttrs_dict, F.slot_dict_values, F.type_dict_values, ⟨ob, ho, ex.1⟩, fun b e => ?_, Calls.callWith_builtin rfl (PySem.evalArgs_none ?_)⟩
  · cases e
    exact ⟨ob, ho, ex.2.1⟩
  refine call_meetsIn F.slot_dict_values ⟨ob, ho, ex.1⟩ F.entry_dict_values (F.args_dict_values_1 _) (meets_dict_values_raw a hsys) ⟨⟨es, ep, raw⟩, ?_⟩
  have k1 : ∀ b u, s1.heap.get? b = some u → (s1.heap.push { cls := .type "dict_values", data := .fields #[.ref a] }).get? b = some u := fun b u e => Heap.get?_push_of_some _ e
  have raw1 : (s1.heap.push { cls := .type "dict_values", data := .fields #[.ref a] }).DictRaw a es ep := raw.at fun o e => k1 a o e
  have hlx : xs.length = is.length := by
    have e1 := congrArg List.length hv
    rw [List.length_map, List.length_map] at e1
    rw [← e1]
    exact (Paired.length rel).symm
  have hlen : 0 < es.size := by
    rw [hsz0, hlx]
    exact List.length_pos_iff.mpr hne
  have hval : ∀ (i : Nat) (v : Value), (∃ y, xs[i]? = some y ∧ v = y.2.2) → ∃ t, v = Value.int (is.getD i 0) t := fun i v ⟨y, hy, ev⟩ => by
    obtain ⟨x, h1, h2⟩ := KT.at' rel hy
    rw [hv, List.getElem?_map] at h1
    obtain ⟨j, hj, e2⟩ := Option.map_eq_some_iff.mp h1
    subst e2
    obtain ⟨t, e3⟩ := h2
    refine ⟨t, ?_⟩
    rw [ev, e3, List.getD_eq_getElem?_getD, hj]
    rfl
  refine call_min_walk (wpAny_pyIter_values_raw (v := s1.heap.objs.size) (d := a) ⟨_, Heap.get?_push_size _ rfl, rfl, rfl⟩ raw1 ?_)
  have hlt : a < s1.heap.objs.size := Heap.lt_size ho
  have hsz : (s1.heap.push { cls := .type "dict_values", data := .fields #[.ref a] }).objs.size = s1.heap.objs.size + 1 := Heap.size_push _ _
  refine ⟨_, _, _, _, _, _, _, rfl, Walks.valuesH (xs := xs) (A := X.A.in1) (I.ok.hd hc) (s1.heap.push { cls := .type "dict_values", data := .fields #[.ref a] }).objs.size a (by rw [hsz]; exact Nat.ne_of_lt (Nat.lt_succ_of_lt hlt)) es ep (fun i hi => let ⟨y, h1, h2, h3, _⟩ := hx i hi; ⟨y, h1, h2, h3⟩),
    ⟨⟨_, Heap.get?_push_size _ rfl, rfl, rfl⟩, raw1.at fun o e => Heap.get?_push_of_some _ e⟩, fun b hb => ?_, hlen, CmpOf.ints_lt (fun i => is.getD i 0) hval, fun v h' tk hP hk => ?_⟩
  · show b < ((s1.heap.push _).push _).objs.size
    rw [Heap.size_push, Heap.size_push]
    rw [hsz] at hb
    rcases List.mem_cons.mp hb with e | hb
    · rw [e]
      exact Nat.lt_succ_self _
    · have e : b = a := List.mem_singleton.mp hb
      rw [e]
      exact Nat.lt_succ_of_lt (Nat.lt_succ_of_lt hlt)
  · obtain ⟨t, rfl⟩ := hval _ v hP
    obtain ⟨b1, b2⟩ := argBest_lt (fun i => is.getD i 0) (es.size - 1)
    refine ⟨.int _, H1, I1.kept (t' := tk) fun b u e => hk b u (fun hmem => ?_) (Heap.get?_push_of_some _ (k1 b u e)), ⟨t, rfl⟩, q _ ?_ fun j hj => ?_⟩
    · have e1 : b = (s1.heap.push { cls := .type "dict_values", data := .fields #[.ref a] }).objs.size := List.mem_singleton.mp hmem
      have e2 := Heap.lt_size e
      rw [hsz] at e1
      rw [e1] at e2
      exact absurd e2 (Nat.not_lt.mpr (Nat.le_succ _))
    · have hb : argBest (fun i j => decide (is.getD i 0 < is.getD j 0)) (es.size - 1) < is.length := by omega
      rw [List.getD_eq_getElem?_getD, List.getElem?_eq_getElem hb]
      exact List.getElem_mem hb
    · obtain ⟨i, hi, e⟩ := List.mem_iff_getElem.mp hj
      have e2 : is.getD i 0 = j := by rw [List.getD_eq_getElem?_getD, List.getElem?_eq_getElem hi, ← e]; rfl
      rw [← e2]
      exact b2 i (by omega)
end
end Sw
end
section
local macro_rules | `(tactic| walk_at "go1") => `(tactic| first
  | with_reducible refine Sw.g_seqasg ?_ | with_reducible refine Sw.g_op ?_ | with_reducible refine Sw.g_var rfl ?_ | with_reducible refine Sw.g_c ?_ | with_reducible refine Sw.g_I0 ?_
  | with_reducible refine Sw.g_cons ?_ | with_reducible refine Sw.g_nil ?_ | with_reducible refine Sw.g_call ?_ | with_reducible refine Sw.g_cb ?_ | with_reducible refine Sw.g_test ?_ | with_reducible refine Sw.g_bl ?_
  | with_reducible refine Sw.g_seqdrop ?_ | with_reducible refine Sw.g_seqsub ?_ | with_reducible refine Sw.g_asg ?_ | with_reducible refine Sw.g_asgsub ?_ | with_reducible refine Sw.g_ret ?_ | with_reducible refine Sw.g_drop ?_ | with_reducible refine Sw.g_if ?_ | with_reducible refine Sw.g_next ?_ | with_reducible refine Sw.g_name ?_
  | with_reducible refine Sw.g_B ?_ | with_reducible refine Sw.g_not ?_ | with_reducible refine Sw.g_and ?_ | with_reducible refine Sw.g_or ?_ | with_reducible refine Sw.g_andV ?_ | with_reducible refine Sw.g_orV ?_ | with_reducible refine Sw.g_notV ?_
  | with_reducible refine Sw.g_ifE ?_ | with_reducible refine Sw.g_chain ?_ | with_reducible refine Sw.g_un ?_ | with_reducible refine Sw.g_tup ?_ | with_reducible refine Sw.g_lst ?_ | with_reducible refine Sw.g_sl ?_ | with_reducible refine Sw.g_part ?_ | with_reducible refine Sw.g_nopart ?_
  | with_reducible refine Sw.g_U ?_ | with_reducible refine Sw.g_eq rfl ?_ | with_reducible refine Sw.g_ne rfl ?_ | with_reducible refine Sw.g_int ?_ | with_reducible refine Sw.g_yes ?_ | with_reducible refine L2.iteT ?_ | with_reducible refine L2.iteF ?_ | with_reducible refine Sw.iteNT ?_ | with_reducible refine Sw.iteNF ?_ | with_reducible refine Sw.g_m1 ?_ | with_reducible refine Sw.g_bm ?_ | with_reducible refine ⟨Sw.ty_lst (by assumption), ?_⟩ | with_reducible refine Sw.g_sput ?_ | with_reducible refine Sw.g_put ?_ | with_reducible refine Sw.g_dget2 ?_ | with_reducible refine Sw.g_dget ?_ | with_reducible refine Sw.g_dK ?_ | with_reducible refine Sw.g_dT ?_ | with_reducible refine Sw.g_dnotin ?_ | with_reducible refine Sw.g_din ?_ | with_reducible refine Sw.g_bm0 ?_
  | with_reducible refine Sw.g_ixL (by assumption) rfl ?_ | with_reducible refine Sw.g_ixT (by assumption) rfl ?_)
local macro_rules | `(tactic| walk_at "go") => `(tactic| repeat walk_at "go1")
local macro_rules | `(tactic| walk_at "bd") => `(tactic| repeat (first | with_reducible exact Sw.all_nil | refine Sw.all_cons ⟨_, rfl, by omega, by omega⟩ ?_))
local macro_rules | `(tactic| walk_at "new") => `(tactic| (refine ⟨Nat.le_of_ble_eq_true rfl, fun p np => ?_⟩; generalize hX : L2.upd _ p _ = H'; have sm : L2.Same _ H' := hX ▸ Sw.same_upd np; have hp : H' p = some _ := hX ▸ L2.upd_same; clear hX))
namespace Sw
open PySem PySem.Spec PyProof.Rows L2 SX
/-! ### data without a heap -/
inductive D where
  | non | bl (b : Bool) | int (i : Int) | str (l : List Nat) | lst (xs : List D) | tup (xs : List D) | dK (kvs : List (Key × D)) | dT (kvs : List (List Key × D)) | tape
mutual
/-- d stands at v, in what is frozen -/
def Rp (F : Hp) : D → V → Prop
  | .non, v => v = .non
  | .bl b, v => v = .bl b
  | .int i, v => v = .int i
  | .str l, v => v = .str (S l)
  | .lst ds, v => ∃ a xs, v = .ref a ∧ F a = some (.lst xs) ∧ RpL F ds xs
  | .tup ds, v => ∃ a xs, v = .ref a ∧ F a = some (.tup xs) ∧ RpL F ds xs
  | .dK ds, v => ∃ a xs, v = .ref a ∧ Rd F a (.dK xs) ∧ RpK F ds xs
  | .dT ds, v => ∃ a xs, v = .ref a ∧ Rd F a (.dT xs) ∧ RpT F ds xs
  | .tape, v => ∃ a, v = .ref a ∧ Dr F a
def RpL (F : Hp) : List D → List V → Prop
  | [], xs => xs = []
  | d :: ds, xs => ∃ x r, xs = x :: r ∧ Rp F d x ∧ RpL F ds r
def RpK (F : Hp) : List (Key × D) → List (Key × V) → Prop
  | [], xs => xs = []
  | (k, d) :: ds, xs => ∃ x r, xs = (k, x) :: r ∧ Rp F d x ∧ RpK F ds r
def RpT (F : Hp) : List (List Key × D) → List (List Key × V) → Prop
  | [], xs => xs = []
  | (k, d) :: ds, xs => ∃ x r, xs = (k, x) :: r ∧ Rp F d x ∧ RpT F ds r
end
/-- what is seen in the one is seen in the other -/
structure Sees (F F' : Hp) : Prop where
  l : ∀ b xs, F b = some (.lst xs) → F' b = some (.lst xs)
  t : ∀ b xs, F b = some (.tup xs) → F' b = some (.tup xs)
  k : ∀ b xs, Rd F b (.dK xs) → Rd F' b (.dK xs)
  m : ∀ b xs, Rd F b (.dT xs) → Rd F' b (.dT xs)
theorem rd_same {F F' : Hp} {b : Addr} {o : HO} (e : Same F F') (h : Rd F b o) : Rd F' b o := by
  rcases h with h | ⟨z, h⟩
  · exact .inl (e _ _ h)
  · exact .inr ⟨z, e _ _ h⟩
theorem Sees.of {F F' : Hp} (e : Same F F') : Sees F F' := ⟨fun b xs h => e _ _ h, fun b xs h => e _ _ h, fun b xs h => rd_same e h, fun b xs h => rd_same e h⟩
mutual
theorem Rp.mono {F F' : Hp} (e : Sees F F') : ∀ {d : D} {v : V}, Rp F d v → Rp F' d v
  | .non, _, h => h
  | .bl _, _, h => h
  | .int _, _, h => h
  | .str _, _, h => h
  | .lst _, _, h => by
    obtain ⟨a, xs, h1, h2, h3⟩ := h
    exact ⟨a, xs, h1, e.l _ _ h2, RpL.mono e h3⟩
  | .tup _, _, h => by
    obtain ⟨a, xs, h1, h2, h3⟩ := h
    exact ⟨a, xs, h1, e.t _ _ h2, RpL.mono e h3⟩
  | .dK _, _, h => by
    obtain ⟨a, xs, h1, h2, h3⟩ := h
    exact ⟨a, xs, h1, e.k _ _ h2, RpK.mono e h3⟩
  | .dT _, _, h => by
    obtain ⟨a, xs, h1, h2, h3⟩ := h
    exact ⟨a, xs, h1, e.m _ _ h2, RpT.mono e h3⟩
  | .tape, _, h => by
    obtain ⟨a, h1, c, s, p, h2, h3⟩ := h
    exact ⟨a, h1, c, s, p, e.l _ _ h2, h3⟩
theorem RpL.mono {F F' : Hp} (e : Sees F F') : ∀ {ds : List D} {xs : List V}, RpL F ds xs → RpL F' ds xs
  | [], _, h => h
  | _ :: _, _, h => by
    obtain ⟨x, r, h1, h2, h3⟩ := h
    exact ⟨x, r, h1, Rp.mono e h2, RpL.mono e h3⟩
theorem RpK.mono {F F' : Hp} (e : Sees F F') : ∀ {ds : List (Key × D)} {xs : List (Key × V)}, RpK F ds xs → RpK F' ds xs
  | [], _, h => h
  | (_, _) :: _, _, h => by
    obtain ⟨x, r, h1, h2, h3⟩ := h
    exact ⟨x, r, h1, Rp.mono e h2, RpK.mono e h3⟩
theorem RpT.mono {F F' : Hp} (e : Sees F F') : ∀ {ds : List (List Key × D)} {xs : List (List Key × V)}, RpT F ds xs → RpT F' ds xs
  | [], _, h => h
  | (_, _) :: _, _, h => by
    obtain ⟨x, r, h1, h2, h3⟩ := h
    exact ⟨x, r, h1, Rp.mono e h2, RpT.mono e h3⟩
end
section
variable {F : Hp}
theorem RpL.len : ∀ {ds : List D} {xs : List V}, RpL F ds xs → xs.length = ds.length
  | [], _, h => by cases h; rfl
  | _ :: _, _, h => by
    obtain ⟨x, r, rfl, _, h3⟩ := h
    rw [List.length_cons, List.length_cons, h3.len]
theorem RpL.app : ∀ {ds es : List D} {xs ys : List V}, RpL F ds xs → RpL F es ys → RpL F (ds ++ es) (xs ++ ys)
  | [], _, _, _, h, h' => by cases h; exact h'
  | _ :: _, _, _, _, h, h' => by
    obtain ⟨x, r, rfl, h2, h3⟩ := h
    exact ⟨x, _, rfl, h2, h3.app h'⟩
theorem RpL.one {d : D} {x : V} (h : Rp F d x) : RpL F [d] [x] := ⟨x, [], rfl, h, rfl⟩
theorem RpL.at : ∀ {ds : List D} {xs : List V} {i : Nat} {d : D}, RpL F ds xs → ds[i]? = some d → ∃ x, xs[i]? = some x ∧ Rp F d x
  | [], _, _, _, _, e => by simp at e
  | _ :: _, _, 0, _, h, e => by
    obtain ⟨x, r, rfl, h2, h3⟩ := h
    simp only [List.getElem?_cons_zero, Option.some.injEq] at e
    subst e
    exact ⟨x, rfl, h2⟩
  | _ :: _, _, i + 1, _, h, e => by
    obtain ⟨x, r, rfl, h2, h3⟩ := h
    simp only [List.getElem?_cons_succ] at e
    obtain ⟨y, h4, h5⟩ := h3.at e
    exact ⟨y, by simpa using h4, h5⟩
theorem RpL.set : ∀ {ds : List D} {xs : List V} {i : Nat} {d : D} {x : V}, RpL F ds xs → Rp F d x → RpL F (ds.set i d) (xs.set i x)
  | [], _, _, _, _, h, _ => by cases h; exact rfl
  | _ :: _, _, 0, _, _, h, h' => by
    obtain ⟨y, r, rfl, h2, h3⟩ := h
    exact ⟨_, _, rfl, h', h3⟩
  | _ :: _, _, i + 1, _, _, h, h' => by
    obtain ⟨y, r, rfl, h2, h3⟩ := h
    exact ⟨_, _, rfl, h2, h3.set h'⟩
theorem RpL.rev : ∀ {ds : List D} {xs : List V}, RpL F ds xs → RpL F ds.reverse xs.reverse
  | [], _, h => by cases h; exact rfl
  | _ :: _, _, h => by
    obtain ⟨x, r, rfl, h2, h3⟩ := h
    rw [List.reverse_cons, List.reverse_cons]
    exact h3.rev.app (.one h2)
theorem RpL.drop : ∀ {ds : List D} {xs : List V} (n : Nat), RpL F ds xs → RpL F (ds.drop n) (xs.drop n)
  | _, _, 0, h => h
  | [], _, _ + 1, h => by cases h; exact rfl
  | _ :: _, _, n + 1, h => by
    obtain ⟨x, r, rfl, h2, h3⟩ := h
    exact h3.drop n
theorem RpL.take : ∀ {ds : List D} {xs : List V} (n : Nat), RpL F ds xs → RpL F (ds.take n) (xs.take n)
  | _, _, 0, h => rfl
  | [], _, _ + 1, h => by cases h; exact rfl
  | _ :: _, _, n + 1, h => by
    obtain ⟨x, r, rfl, h2, h3⟩ := h
    exact ⟨x, _, rfl, h2, h3.take n⟩
theorem rpl_ints : ∀ {ns : List Int} {xs : List V}, RpL F (ns.map D.int) xs → xs = ns.map V.int
  | [], _, h => h
  | _ :: _, _, h => by
    obtain ⟨x, r, rfl, h2, h3⟩ := h
    have e : x = V.int _ := h2
    rw [e, rpl_ints h3]; rfl
theorem rpl_strs : ∀ {ns : List (List Nat)} {xs : List V}, RpL F (ns.map D.str) xs → xs = (ns.map S).map V.str
  | [], _, h => h
  | _ :: _, _, h => by
    obtain ⟨x, r, rfl, h2, h3⟩ := h
    have e : x = V.str _ := h2
    rw [e, rpl_strs h3]; rfl
theorem rpl_bls : ∀ {ns : List Bool} {xs : List V}, RpL F (ns.map D.bl) xs → xs = ns.map V.bl
  | [], _, h => h
  | _ :: _, _, h => by
    obtain ⟨x, r, rfl, h2, h3⟩ := h
    have e : x = V.bl _ := h2
    rw [e, rpl_bls h3]; rfl
theorem rpl_of_ints : ∀ (ns : List Int), RpL F (ns.map D.int) (ns.map V.int)
  | [] => rfl
  | n :: ns => ⟨_, _, rfl, rfl, rpl_of_ints ns⟩
theorem rpl_of_strs : ∀ (ns : List (List Nat)), RpL F (ns.map D.str) ((ns.map S).map V.str)
  | [] => rfl
  | n :: ns => ⟨_, _, rfl, rfl, rpl_of_strs ns⟩
/-- a key as data -/
def dKey : Key → D
  | .inl i => .int i
  | .inr x => .str x.cps.toList
theorem S_cps (x : Str) : S x.cps.toList = x := by cases x; simp [S]
theorem rp_key (k : Key) : Rp F (dKey k) (kV k) := by
  cases k with
  | inl i => exact rfl
  | inr x => show V.str x = V.str (S _); rw [S_cps]
theorem rp_key' {k : Key} {v : V} (h : Rp F (dKey k) v) : v = kV k := by
  cases k with
  | inl i => exact h
  | inr x => rw [show v = V.str (S x.cps.toList) from h, S_cps]; rfl
theorem rpl_keys : ∀ (ks : List Key), RpL F (ks.map dKey) (ks.map kV)
  | [] => rfl
  | k :: ks => ⟨_, _, rfl, rp_key k, rpl_keys ks⟩
theorem rpl_keys' : ∀ {ks : List Key} {xs : List V}, RpL F (ks.map dKey) xs → xs = ks.map kV
  | [], _, h => h
  | _ :: _, _, h => by
    obtain ⟨x, r, rfl, h2, h3⟩ := h
    rw [rp_key' h2, rpl_keys' h3]; rfl
end
/-! dicts -/
def getD' {κ : Type} [DecidableEq κ] (kvs : List (κ × D)) (k : κ) : Option D := (kvs.find? fun e => decide (e.1 = k)).map (·.2)
def putD {κ : Type} [DecidableEq κ] (kvs : List (κ × D)) (k : κ) (d : D) : List (κ × D) := if (kvs.any fun e => decide (e.1 = k)) = true then kvs.map (fun e => if e.1 = k then (e.1, d) else e) else kvs ++ [(k, d)]
section
variable {F : Hp}
theorem RpK.len : ∀ {ds : List (Key × D)} {xs : List (Key × V)}, RpK F ds xs → xs.length = ds.length
  | [], _, h => by cases h; rfl
  | (_, _) :: _, _, h => by
    obtain ⟨x, r, rfl, _, h3⟩ := h
    rw [List.length_cons, List.length_cons, h3.len]
theorem RpT.len : ∀ {ds : List (List Key × D)} {xs : List (List Key × V)}, RpT F ds xs → xs.length = ds.length
  | [], _, h => by cases h; rfl
  | (_, _) :: _, _, h => by
    obtain ⟨x, r, rfl, _, h3⟩ := h
    rw [List.length_cons, List.length_cons, h3.len]
theorem RpK.keys : ∀ {ds : List (Key × D)} {xs : List (Key × V)}, RpK F ds xs → xs.map (·.1) = ds.map (·.1)
  | [], _, h => by cases h; rfl
  | (_, _) :: _, _, h => by
    obtain ⟨x, r, rfl, _, h3⟩ := h
    rw [List.map_cons, List.map_cons, h3.keys]
theorem RpT.keys : ∀ {ds : List (List Key × D)} {xs : List (List Key × V)}, RpT F ds xs → xs.map (·.1) = ds.map (·.1)
  | [], _, h => by cases h; rfl
  | (_, _) :: _, _, h => by
    obtain ⟨x, r, rfl, _, h3⟩ := h
    rw [List.map_cons, List.map_cons, h3.keys]
theorem RpK.get : ∀ {ds : List (Key × D)} {xs : List (Key × V)} (k : Key), RpK F ds xs → (match getD' ds k with | none => valV xs k = none | some d => ∃ v, valV xs k = some v ∧ Rp F d v)
  | [], _, k, h => by cases h; exact rfl
  | (k', d) :: ds, _, k, h => by
    obtain ⟨x, r, rfl, h2, h3⟩ := h
    by_cases e : k' = k
    · subst e
      rw [valV_pos rfl]
      unfold getD'
      rw [List.find?_cons_of_pos (by simp)]
      exact ⟨x, rfl, h2⟩
    · rw [valV_neg e]
      unfold getD'
      rw [List.find?_cons_of_neg (by simpa using e)]
      exact h3.get k
theorem RpT.get : ∀ {ds : List (List Key × D)} {xs : List (List Key × V)} (k : List Key), RpT F ds xs → (match getD' ds k with | none => valV xs k = none | some d => ∃ v, valV xs k = some v ∧ Rp F d v)
  | [], _, k, h => by cases h; exact rfl
  | (k', d) :: ds, _, k, h => by
    obtain ⟨x, r, rfl, h2, h3⟩ := h
    by_cases e : k' = k
    · subst e
      rw [valV_pos rfl]
      unfold getD'
      rw [List.find?_cons_of_pos (by simp)]
      exact ⟨x, rfl, h2⟩
    · rw [valV_neg e]
      unfold getD'
      rw [List.find?_cons_of_neg (by simpa using e)]
      exact h3.get k
theorem any_keys {κ α β : Type} [DecidableEq κ] {k : κ} : ∀ {xs : List (κ × α)} {ds : List (κ × β)}, xs.map (·.1) = ds.map (·.1) → (xs.any fun e => decide (e.1 = k)) = ds.any fun e => decide (e.1 = k)
  | [], [], _ => rfl
  | [], _ :: _, h => by cases h
  | _ :: _, [], h => by cases h
  | a :: xs, b :: ds, h => by
    rw [List.map_cons, List.map_cons, List.cons.injEq] at h
    rw [List.any_cons, List.any_cons, any_keys h.2, h.1]
theorem RpK.mapk {k : Key} {d : D} {v : V} (hv : Rp F d v) : ∀ {ds : List (Key × D)} {xs : List (Key × V)}, RpK F ds xs → RpK F (ds.map fun e => if e.1 = k then (e.1, d) else e) (xs.map fun e => if e.1 = k then (e.1, v) else e)
  | [], _, h => by cases h; exact rfl
  | (k', d') :: ds, _, h => by
    obtain ⟨x, r, rfl, h2, h3⟩ := h
    rw [List.map_cons, List.map_cons]
    by_cases e : k' = k
    · rw [if_pos e, if_pos e]
      exact ⟨v, _, rfl, hv, h3.mapk hv⟩
    · rw [if_neg e, if_neg e]
      exact ⟨x, _, rfl, h2, h3.mapk hv⟩
theorem RpT.mapk {k : List Key} {d : D} {v : V} (hv : Rp F d v) : ∀ {ds : List (List Key × D)} {xs : List (List Key × V)}, RpT F ds xs → RpT F (ds.map fun e => if e.1 = k then (e.1, d) else e) (xs.map fun e => if e.1 = k then (e.1, v) else e)
  | [], _, h => by cases h; exact rfl
  | (k', d') :: ds, _, h => by
    obtain ⟨x, r, rfl, h2, h3⟩ := h
    rw [List.map_cons, List.map_cons]
    by_cases e : k' = k
    · rw [if_pos e, if_pos e]
      exact ⟨v, _, rfl, hv, h3.mapk hv⟩
    · rw [if_neg e, if_neg e]
      exact ⟨x, _, rfl, h2, h3.mapk hv⟩
theorem RpK.snoc {k : Key} {d : D} {v : V} (hv : Rp F d v) : ∀ {ds : List (Key × D)} {xs : List (Key × V)}, RpK F ds xs → RpK F (ds ++ [(k, d)]) (xs ++ [(k, v)])
  | [], _, h => by cases h; exact ⟨v, [], rfl, hv, rfl⟩
  | (k', d') :: ds, _, h => by
    obtain ⟨x, r, rfl, h2, h3⟩ := h
    exact ⟨x, _, rfl, h2, h3.snoc hv⟩
theorem RpT.snoc {k : List Key} {d : D} {v : V} (hv : Rp F d v) : ∀ {ds : List (List Key × D)} {xs : List (List Key × V)}, RpT F ds xs → RpT F (ds ++ [(k, d)]) (xs ++ [(k, v)])
  | [], _, h => by cases h; exact ⟨v, [], rfl, hv, rfl⟩
  | (k', d') :: ds, _, h => by
    obtain ⟨x, r, rfl, h2, h3⟩ := h
    exact ⟨x, _, rfl, h2, h3.snoc hv⟩
theorem RpK.put {k : Key} {d : D} {v : V} {ds : List (Key × D)} {xs : List (Key × V)} (h : RpK F ds xs) (hv : Rp F d v) : RpK F (putD ds k d) (putK xs k v) := by
  unfold putD putK
  rw [any_keys h.keys]
  by_cases z : (ds.any fun e => decide (e.1 = k)) = true
  · rw [if_pos z, if_pos z]; exact h.mapk hv
  · rw [if_neg z, if_neg z]; exact h.snoc hv
theorem RpT.put {k : List Key} {d : D} {v : V} {ds : List (List Key × D)} {xs : List (List Key × V)} (h : RpT F ds xs) (hv : Rp F d v) : RpT F (putD ds k d) (putK xs k v) := by
  unfold putD putK
  rw [any_keys h.keys]
  by_cases z : (ds.any fun e => decide (e.1 = k)) = true
  · rw [if_pos z, if_pos z]; exact h.mapk hv
  · rw [if_neg z, if_neg z]; exact h.snoc hv
end
end Sw
end
section
local macro_rules | `(tactic| walk_at "go1") => `(tactic| first
  | with_reducible refine Sw.g_seqasg ?_ | with_reducible refine Sw.g_op ?_ | with_reducible refine Sw.g_var rfl ?_ | with_reducible refine Sw.g_c ?_ | with_reducible refine Sw.g_I0 ?_
  | with_reducible refine Sw.g_cons ?_ | with_reducible refine Sw.g_nil ?_ | with_reducible refine Sw.g_call ?_ | with_reducible refine Sw.g_cb ?_ | with_reducible refine Sw.g_test ?_ | with_reducible refine Sw.g_bl ?_
  | with_reducible refine Sw.g_seqdrop ?_ | with_reducible refine Sw.g_seqsub ?_ | with_reducible refine Sw.g_asg ?_ | with_reducible refine Sw.g_asgsub ?_ | with_reducible refine Sw.g_ret ?_ | with_reducible refine Sw.g_drop ?_ | with_reducible refine Sw.g_if ?_ | with_reducible refine Sw.g_next ?_ | with_reducible refine Sw.g_name ?_
  | with_reducible refine Sw.g_B ?_ | with_reducible refine Sw.g_not ?_ | with_reducible refine Sw.g_and ?_ | with_reducible refine Sw.g_or ?_ | with_reducible refine Sw.g_andV ?_ | with_reducible refine Sw.g_orV ?_ | with_reducible refine Sw.g_notV ?_
  | with_reducible refine Sw.g_ifE ?_ | with_reducible refine Sw.g_chain ?_ | with_reducible refine Sw.g_un ?_ | with_reducible refine Sw.g_tup ?_ | with_reducible refine Sw.g_lst ?_ | with_reducible refine Sw.g_sl ?_ | with_reducible refine Sw.g_part ?_ | with_reducible refine Sw.g_nopart ?_
  | with_reducible refine Sw.g_U ?_ | with_reducible refine Sw.g_eq rfl ?_ | with_reducible refine Sw.g_ne rfl ?_ | with_reducible refine Sw.g_int ?_ | with_reducible refine Sw.g_yes ?_ | with_reducible refine L2.iteT ?_ | with_reducible refine L2.iteF ?_ | with_reducible refine Sw.iteNT ?_ | with_reducible refine Sw.iteNF ?_ | with_reducible refine Sw.g_m1 ?_ | with_reducible refine Sw.g_bm ?_ | with_reducible refine ⟨Sw.ty_lst (by assumption), ?_⟩ | with_reducible refine Sw.g_sput ?_ | with_reducible refine Sw.g_put ?_ | with_reducible refine Sw.g_dget2 ?_ | with_reducible refine Sw.g_dget ?_ | with_reducible refine Sw.g_dK ?_ | with_reducible refine Sw.g_dT ?_ | with_reducible refine Sw.g_dnotin ?_ | with_reducible refine Sw.g_din ?_ | with_reducible refine Sw.g_bm0 ?_
  | with_reducible refine Sw.g_ixL (by assumption) rfl ?_ | with_reducible refine Sw.g_ixT (by assumption) rfl ?_)
local macro_rules | `(tactic| walk_at "go") => `(tactic| repeat walk_at "go1")
local macro_rules | `(tactic| walk_at "bd") => `(tactic| repeat (first | with_reducible exact Sw.all_nil | refine Sw.all_cons ⟨_, rfl, by omega, by omega⟩ ?_))
local macro_rules | `(tactic| walk_at "new") => `(tactic| (refine ⟨Nat.le_of_ble_eq_true rfl, fun p np => ?_⟩; generalize hX : L2.upd _ p _ = H'; have sm : L2.Same _ H' := hX ▸ Sw.same_upd np; have hp : H' p = some _ := hX ▸ L2.upd_same; clear hX))
namespace Sw
open PySem PySem.Spec PyProof.Rows L2 SX
/-! ### heaps that grow: F what is frozen, H all; t the tape of draws -/
structure Grow (t : Option Addr) (F H F' H' : Hp) : Prop where
  z : Same F H
  f : Same F F'
  h : ∀ b o, H b = some o → some b ≠ t → H' b = some o
  d : ∀ b, H b ≠ none → H' b ≠ none
  n : ∀ b, F b = none → H b ≠ none → (∀ xs, H b ≠ some (.tup xs)) → F' b = none
  s : Same F' H'
  t : ∀ a, t = some a → Dr H a → Dr H' a
section
variable {t : Option Addr} {F H F' H' F2 H2 : Hp}
theorem Grow.refl (s : Same F H) : Grow t F H F H := ⟨s, .refl _, fun _ _ h _ => h, fun _ h => h, fun _ h _ _ => h, s, fun _ _ h => h⟩
theorem dr_notup {a : Addr} (h : Dr H a) (xs : List V) : H a ≠ some (.tup xs) := by
  obtain ⟨c, s, p, h1, _⟩ := h
  rw [h1]
  intro z
  cases z
theorem Grow.trans' (a : Grow t F H F' H') (b : Grow t F' H' F2 H2) (ht : ∀ a, t = some a → H a ≠ none → Dr H a) : Grow t F H F2 H2 where
  z := a.z
  f := a.f.trans b.f
  h := fun x o e n => b.h x o (a.h x o e n) n
  d := fun x e => b.d x (a.d x e)
  n := fun x e1 e2 e3 => b.n x (a.n x e1 e2 e3) (a.d x e2) fun xs z => by
    by_cases hx : some x = t
    · exact dr_notup (a.t x hx.symm (ht x hx.symm e2)) xs z
    · cases q : H x with
      | none => exact e2 q
      | some o => rw [a.h x o q hx] at z; exact e3 xs (by rw [q]; exact z)
  s := b.s
  t := fun x e h => b.t x e (a.t x e h)
theorem Grow.trans (a : Grow t F H F' H') (b : Grow t F' H' F2 H2) (ht : ∀ a, t = some a → Dr H a) : Grow t F H F2 H2 := a.trans' b fun x e _ => ht x e
/-- a new object that is frozen -/
theorem Grow.new {p : Addr} {o : HO} (s : Same F H) (np : H p = none) : Grow t F H (upd F p o) (upd H p o) where
  z := s
  f := same_upd (s.free np)
  h := fun b x e _ => same_upd np b x e
  d := fun b e z => by
    by_cases hb : b = p
    · subst hb; exact e np
    · rw [upd_ne hb] at z; exact e z
  n := fun b e1 e2 _ => by
    have hb : b ≠ p := fun z => e2 (by rw [z]; exact np)
    rw [upd_ne hb]; exact e1
  s := fun b x e => by
    by_cases hb : b = p
    · subst hb; rw [upd_same] at e ⊢; exact e
    · rw [upd_ne hb] at e ⊢; exact s b x e
  t := fun a _ h => h.same (same_upd np)
/-- only objects are added -/
theorem Grow.same (s : Same F H) (e : Same H H') : Grow t F H F H' where
  z := s
  f := .refl _
  h := fun b x q _ => e b x q
  d := fun b q z => by
    cases y : H b with
    | none => exact q y
    | some o => rw [e b o y] at z; cases z
  n := fun b e1 _ _ => e1
  s := s.trans e
  t := fun a _ h => h.same e
theorem Grow.own {p : Addr} {o : HO} (s : Same F H) (np : H p = none) : Grow t F H F (upd H p o) := .same s (same_upd np)
/-- the new object at q is frozen now -/
theorem Grow.freeze {q : Addr} {o : HO} (g : Grow t F H F' H') (nq : H q = none) (hq : H' q = some o) : Grow t F H (upd F' q o) H' where
  z := g.z
  f := fun b x e => by rw [upd_ne (ne_of_none e (g.z.free nq))]; exact g.f b x e
  h := g.h
  d := g.d
  n := fun b e1 e2 e3 => by
    have hb : b ≠ q := fun z => e2 (by rw [z]; exact nq)
    rw [upd_ne hb]; exact g.n b e1 e2 e3
  s := fun b x e => by
    by_cases hb : b = q
    · subst hb; rw [upd_same] at e; rw [hq]; exact e
    · rw [upd_ne hb] at e; exact g.s b x e
  t := g.t
/-- a tuple that stands may be frozen at any time -/
theorem Grow.tup {q : Addr} {xs : List V} (s : Same F H) (hq : H q = some (.tup xs)) : Grow t F H (upd F q (.tup xs)) H where
  z := s
  f := fun b x e => by
    by_cases hb : b = q
    · subst hb
      rw [upd_same]
      have := s _ _ e
      rw [hq] at this
      exact this
    · rw [upd_ne hb]; exact e
  h := fun _ _ h _ => h
  d := fun _ h => h
  n := fun b e1 e2 e3 => by
    have hb : b ≠ q := fun z => e3 xs (by rw [z]; exact hq)
    rw [upd_ne hb]; exact e1
  s := fun b x e => by
    by_cases hb : b = q
    · subst hb; rw [upd_same] at e; rw [hq]; exact e
    · rw [upd_ne hb] at e; exact s b x e
  t := fun _ _ h => h
end
/-- nothing that stood is changed: so it is whatever the tape -/
theorem Grow.any {t : Option Addr} {F H F' H' : Hp} (g : Grow none F H F' H') : Grow t F H F' H' where
  z := g.z
  f := g.f
  h := fun b o e _ => g.h b o e (by intro z; cases z)
  d := g.d
  n := g.n
  s := g.s
  t := fun a _ ⟨c1, s1, p1, z1, z2⟩ => ⟨c1, s1, p1, g.h _ _ z1 (by intro z; cases z), z2⟩
/-! ### states -/
/-- what an object of one's own holds, its items frozen -/
def OO (F : Hp) : HO → D → Prop
  | .lst xs, .lst ds => RpL F ds xs
  | .dK xs, .dK ds => RpK F ds xs
  | .dT xs, .dT ds => RpT F ds xs
  | .lst xs, .tape => ∃ c s p : Int, xs = [.int c, .int s, .int p] ∧ 0 ≤ s ∧ s ≤ 2147500000 ∧ 0 < p ∧ p ≤ 2147483647
  | _, _ => False
theorem OO.mono {F F' : Hp} (e : Sees F F') : ∀ {o : HO} {d : D}, OO F o d → OO F' o d := fun {o d} h => by
  cases o <;> cases d <;> first
    | exact RpL.mono e h
    | exact RpK.mono e h
    | exact RpT.mono e h
    | exact h
/-- an object that is frozen from now on -/
theorem OO.rp {F : Hp} {o : HO} {d : D} {q : Addr} (h : OO F o d) (nq : F q = none) : Rp (upd F q o) d (.ref q) := by
  have e : Sees F (upd F q o) := .of (same_upd nq)
  cases o <;> cases d <;> first
    | exact False.elim h
    | exact ⟨q, _, rfl, upd_same, RpL.mono e h⟩
    | exact ⟨q, _, rfl, .inl upd_same, RpK.mono e h⟩
    | exact ⟨q, _, rfl, .inl upd_same, RpT.mono e h⟩
    | exact (let ⟨c, s, p, h1, h2⟩ := h; ⟨q, rfl, c, s, p, by rw [upd_same, h1], h2⟩)
/-- what a slot holds: shared data, an object of the slot's own, the tape of draws, the script -/
inductive SV where
  | sh (d : D) | ow (d : D) | tp | sc (ns : List Int)
abbrev DS := List (Option SV)
section
variable (K : PySem.W.Frag) (t : Option Addr)
def Pk (F H : Hp) (x : V) (d : D) : Prop := ∃ l o, x = .ref l ∧ H l = some o ∧ F l = none ∧ some l ≠ t ∧ OO F o d
def Slot (F H : Hp) (x : V) : SV → Prop
  | .sh d => Rp F d x
  | .ow d => Pk t F H x d
  | .tp => ∃ a, x = .ref a ∧ t = some a
  | .sc ns => ∃ a, x = .ref a ∧ SqL K F a (ns.map V.int)
structure StR (F : Hp) (δ : DS) (σ : L2.St) (H : Hp) : Prop where
  s : Same F H
  tp : ∀ a, t = some a → Dr H a ∧ F a = none
  len : σ.length = δ.length
  sl : ∀ (i : Nat) (v : SV), δ[i]? = some (some v) → ∃ x, σ[i]? = some (some x) ∧ Slot K t F H x v
  ne : ∀ (i j : Nat) (d e : D) (x : V), δ[i]? = some (some (.ow d)) → δ[j]? = some (some (.ow e)) → σ[i]? = some (some x) → σ[j]? = some (some x) → i = j
end
section
variable {K : PySem.W.Frag} {t : Option Addr} {F H F' H' F2 H2 : Hp} {x : V} {d : D} {δ : DS} {σ : L2.St} {v : SV}
theorem pk_notup {xs : List V} (h : OO F (.tup xs) d) : False := by cases d <;> exact h
theorem Pk.grow (g : Grow t F H F' H') (h : Pk t F H x d) : Pk t F' H' x d := by
  obtain ⟨l, o, rfl, h1, h2, h3, h4⟩ := h
  refine ⟨l, o, rfl, g.h _ _ h1 h3, g.n _ h2 (by rw [h1]; exact Option.some_ne_none _) (fun xs z => ?_), h3, h4.mono (.of g.f)⟩
  rw [h1] at z
  cases z
  exact pk_notup h4
theorem Slot.grow (g : Grow t F H F' H') (h : Slot K t F H x v) : Slot K t F' H' x v := by
  cases v with
  | sh d => exact Rp.mono (.of g.f) h
  | ow d => exact Pk.grow g h
  | tp => exact h
  | sc ns => obtain ⟨a, h1, h2⟩ := h; exact ⟨a, h1, g.f.seq h2⟩
theorem StR.dr (s : StR K t F δ σ H) : ∀ a, t = some a → Dr H a := fun a e => (s.tp a e).1
theorem StR.grow (g : Grow t F H F' H') (s : StR K t F δ σ H) : StR K t F' δ σ H' where
  s := g.s
  tp := fun a e => ⟨g.t a e (s.tp a e).1, g.n a (s.tp a e).2 (by obtain ⟨c, z, p, h, _⟩ := (s.tp a e).1; rw [h]; exact Option.some_ne_none _) (dr_notup (s.tp a e).1)⟩
  len := s.len
  sl := fun i v h => by
    obtain ⟨x, h1, h2⟩ := s.sl i v h
    exact ⟨x, h1, h2.grow g⟩
  ne := s.ne
end
/-! ### what expressions come to -/
inductive Md where
  | sh | pk | ow | ot
  deriving DecidableEq
/-- from (F0, H0) on: x stands for d at (F, H) -/
def RV (t : Option Addr) (H0 F H : Hp) (x : V) : Md → D → Prop
  | .sh, d => Rp F d x
  | .pk, d => Pk t F H x d
  | .ow, d => ∃ l o, x = .ref l ∧ H0 l = none ∧ H l = some o ∧ F l = none ∧ some l ≠ t ∧ OO F o d
  | .ot, d => ∃ p l o y d1 d2, x = .ref p ∧ H0 p = none ∧ H p = some (.tup [.ref l, y]) ∧ F p = none ∧ d = .tup [d1, d2] ∧ Rp F d2 y ∧ H0 l = none ∧ H l = some o ∧ F l = none ∧ some l ≠ t ∧ OO F o d1
/-- x may be read as d -/
def Vw (t : Option Addr) (F H : Hp) (x : V) (d : D) : Prop := Rp F d x ∨ Pk t F H x d
section
variable {t : Option Addr} {F H F' H' F2 H2 H0 : Hp} {x : V} {d : D} {m : Md}
theorem Vw.grow (g : Grow t F H F' H') (h : Vw t F H x d) : Vw t F' H' x d := h.elim (fun h => .inl (Rp.mono (.of g.f) h)) fun h => .inr (h.grow g)
theorem Pk.all (s : Same F H) (h : Pk t F H x d) : Rp H d x := by
  obtain ⟨l, o, rfl, h1, h2, h3, h4⟩ := h
  have h5 := OO.mono (.of s) h4
  cases o <;> cases d <;> first
    | exact False.elim h5
    | exact ⟨l, _, rfl, h1, h5⟩
    | exact ⟨l, _, rfl, .inl h1, h5⟩
    | exact (let ⟨c, s, p, w1, w2⟩ := h5; ⟨l, rfl, c, s, p, by rw [h1, w1], w2⟩)
theorem Vw.all (s : Same F H) (h : Vw t F H x d) : Rp H d x := h.elim (fun h => Rp.mono (.of s) h) (Pk.all s)
/-- a result is made one to be read -/
theorem RV.view (g : Grow t F H F' H') (h : RV t H F' H' x m d) : ∃ F2, Grow t F H F2 H' ∧ Vw t F2 H' x d ∧ (m ≠ .pk → Rp F2 d x) := by
  cases m with
  | sh => exact ⟨F', g, .inl h, fun _ => h⟩
  | pk => exact ⟨F', g, .inr h, fun z => absurd rfl z⟩
  | ow =>
    obtain ⟨l, o, rfl, h0, h1, h2, h3, h4⟩ := h
    exact ⟨upd F' l o, g.freeze h0 h1, .inl (h4.rp h2), fun _ => h4.rp h2⟩
  | ot =>
    obtain ⟨p, l, o, y, d1, d2, rfl, a0, a1, a2, rfl, a3, h0, h1, h2, h3, h4⟩ := h
    have hpl : p ≠ l := fun z => by
      rw [← z, a1] at h1
      cases h1
      exact pk_notup h4
    have e1 : Sees F' (upd F' l o) := .of (same_upd h2)
    have n2 : (upd F' l o) p = none := by rw [upd_ne hpl]; exact a2
    have e2 : Sees (upd F' l o) (upd (upd F' l o) p (.tup [.ref l, y])) := .of (same_upd n2)
    have r : Rp (upd (upd F' l o) p (.tup [.ref l, y])) (.tup [d1, d2]) (.ref p) := ⟨p, _, rfl, upd_same, _, _, rfl, (h4.rp h2).mono e2, _, _, rfl, (a3.mono e1).mono e2, rfl⟩
    exact ⟨_, (g.freeze h0 h1).freeze a0 a1, .inl r, fun _ => r⟩
theorem Grow.pre (g : Grow t F H F' H') {l : Addr} (h : H' l = none) : H l = none := by
  cases y : H l with
  | none => rfl
  | some o => exact absurd h (g.d l (by rw [y]; exact Option.some_ne_none _))
theorem RV.pre (g : Grow t F H F' H') (h : RV t H' F2 H2 x m d) : RV t H F2 H2 x m d := by
  cases m with
  | sh => exact h
  | pk => exact h
  | ow =>
    obtain ⟨l, o, rfl, h0, h1⟩ := h
    exact ⟨l, o, rfl, g.pre h0, h1⟩
  | ot =>
    obtain ⟨p, l, o, y, d1, d2, e, a0, a1, a2, a3, a4, h0, h1⟩ := h
    exact ⟨p, l, o, y, d1, d2, e, g.pre a0, a1, a2, a3, a4, g.pre h0, h1⟩
end
/-! ### readings of data -/
abbrev QE := DS → (Md → D → Prop) → Prop
abbrev QT := DS → (Bool → Prop) → Prop
inductive Ar where
  | sh (d : D) | pk (d : D) | tp | sc (ns : List Int)
abbrev QA := DS → (List Ar → Prop) → Prop
structure Pn where
  nx : DS → Prop
  rt : Md → D → Prop
  bk : DS → Prop := fun _ => False
  ct : DS → Prop := fun _ => False
abbrev QS := Pn → DS → Prop
abbrev QG := D → DS → (DS → Prop) → Prop
abbrev QI := DS → (Md → List D → Prop) → Prop
/-- the state of a def: F0, H0 at its entry; L what must stay -/
structure RS (K : PySem.W.Frag) (t : Option Addr) (F0 H0 L F : Hp) (δ : DS) (σ : L2.St) (H : Hp) : Prop where
  st : StR K t F δ σ H
  g : Grow t F0 H0 F H
  lo : Same L F
  fr : ∀ (i : Nat) (d : D) (l : Addr), δ[i]? = some (some (.ow d)) → σ[i]? = some (some (.ref l)) → H0 l = none
  dr : ∀ a, t = some a → H0 a ≠ none → Dr H0 a
def Cl.at (c : Cl) : Nat → Addr
  | 0 => c.Lacks | 1 => c.NoBank | 2 => c.NoBook | 3 => c.NoDeed | 4 => c.NoName | 5 => c.NoOrder | 6 => c.NoPlace | 7 => c.NoRow | 8 => c.NoSlack | 9 => c.NoText | 10 => c.NoTurns | 11 => c.NoWheel | 12 => c.NoWord | _ => c.TooMany
abbrev XE := L2.St → XK
abbrev XP := DS → Nat → Prop
def ER (K : PySem.W.Frag) (c : Cl) (t : Option Addr) (F0 H0 L : Hp) (E : XE) (Ep : XP) : Prop := ∀ n F δ σ H, RS K t F0 H0 L F δ σ H → Ep δ n → E σ (.ref (c.at n)) none H
def P0 : XP := fun _ _ => False
section
variable {K : PySem.W.Frag} {c : Cl} {t : Option Addr} {F0 H0 L L' F H F' H' : Hp} {δ : DS} {σ : L2.St} {E : XE} {Ep : XP}
theorem RS.grow (r : RS K t F0 H0 L F δ σ H) (g : Grow t F H F' H') : RS K t F0 H0 L F' δ σ H' := ⟨r.st.grow g, r.g.trans' g r.dr, r.lo.trans g.f, r.fr, r.dr⟩
theorem RS.low (r : RS K t F0 H0 L' F δ σ H) (e : Same L L') : RS K t F0 H0 L F δ σ H := ⟨r.st, r.g, e.trans r.lo, r.fr, r.dr⟩
theorem RS.at (r : RS K t F0 H0 L F δ σ H) : RS K t F0 H0 F F δ σ H := ⟨r.st, r.g, .refl _, r.fr, r.dr⟩
theorem ER.low (h : ER K c t F0 H0 L E Ep) (e : Same L L') : ER K c t F0 H0 L' E Ep := fun n F δ σ H r p => h n F δ σ H (r.low e) p
theorem ER.no : ER K c t F0 H0 L E P0 := fun _ _ _ _ _ _ h => False.elim h
end
section
variable (K : PySem.W.Frag) (c : Cl) (t : Option Addr) (E : XE) (Ep : XP)
def SimE (te : TE) (qe : QE) : Prop := ∀ F0 H0 L F δ σ H Q Qp, ER K c t F0 H0 L E Ep → RS K t F0 H0 L F δ σ H → qe δ Qp → (∀ x F' H' m d, Grow t F H F' H' → RV t H F' H' x m d → Qp m d → Q x H') → te σ H Q
def SimT (tt : TT) (qt : QT) : Prop := ∀ F0 H0 L F δ σ H Q Qp, ER K c t F0 H0 L E Ep → RS K t F0 H0 L F δ σ H → qt δ Qp → (∀ b F' H', Grow t F H F' H' → Qp b → Q b H') → tt σ H Q
def Av (F H : Hp) (x : V) : Ar → Prop
  | .sh d => Rp F d x
  | .pk d => Pk t F H x d
  | .tp => ∃ a, x = .ref a ∧ t = some a
  | .sc ns => ∃ a, x = .ref a ∧ SqL K F a (ns.map V.int)
def AvL (F H : Hp) : List V → List Ar → Prop
  | [], [] => True
  | x :: xs, a :: as => Av K t F H x a ∧ AvL F H xs as
  | _, _ => False
def SimA (ta : TA) (qa : QA) : Prop := ∀ F0 H0 L F δ σ H Q Qp, ER K c t F0 H0 L E Ep → RS K t F0 H0 L F δ σ H → qa δ Qp → (∀ xs F' H' as, Grow t F H F' H' → AvL K t F' H' xs as → Qp as → Q xs H') → ta σ H Q
structure EndsR (F0 H0 L : Hp) (De : Ends) (Dp : Pn) : Prop where
  nx : ∀ F δ σ H, RS K t F0 H0 L F δ σ H → Dp.nx δ → De.nx σ H
  rt : ∀ F H x m d, Grow t F0 H0 F H → Same L F → (∀ a, t = some a → Dr H a ∧ F a = none) → RV t H0 F H x m d → m ≠ .pk → Dp.rt m d → De.rt x H
  bk : ∀ F δ σ H, RS K t F0 H0 L F δ σ H → Dp.bk δ → De.bk σ H
  ct : ∀ F δ σ H, RS K t F0 H0 L F δ σ H → Dp.ct δ → De.ct σ H
def SimS (ts : TS) (qs : QS) : Prop := ∀ F0 H0 L F δ σ H De Dp, ER K c t F0 H0 L E Ep → RS K t F0 H0 L F δ σ H → EndsR K t F0 H0 L De Dp → qs Dp δ → ts De σ H
def SimG (nm : List Nat) (tg : TG) (qg : QG) : Prop := ∀ F0 H0 L F δ σ H Q Qp x d, RS K t F0 H0 L F δ σ H → Rp F d x → qg d δ Qp → (∀ δ' σ', RS K t F0 H0 L F δ' σ' H → (∀ vs : List Nat, (∀ i ∈ nm, i ∈ vs) → L2.wipe σ' vs = L2.wipe σ vs) → Qp δ' → Q σ' H) → tg x σ H Q
end
section
variable {K : PySem.W.Frag} {t : Option Addr} {F H F' H' : Hp} {x : V} {a : Ar}
theorem Av.grow (g : Grow t F H F' H') (h : Av K t F H x a) : Av K t F' H' x a := by
  cases a with
  | sh d => exact Rp.mono (.of g.f) h
  | pk d => exact Pk.grow g h
  | tp => exact h
  | sc ns => obtain ⟨b, h1, h2⟩ := h; exact ⟨b, h1, g.f.seq h2⟩
theorem AvL.grow (g : Grow t F H F' H') : ∀ {xs : List V} {as : List Ar}, AvL K t F H xs as → AvL K t F' H' xs as
  | [], [], _ => True.intro
  | _ :: _, _ :: _, h => ⟨h.1.grow g, AvL.grow g h.2⟩
  | [], _ :: _, h => False.elim h
  | _ :: _, [], h => False.elim h
end
end Sw
end
section
local macro_rules | `(tactic| walk_at "go1") => `(tactic| first
  | with_reducible refine Sw.g_seqasg ?_ | with_reducible refine Sw.g_op ?_ | with_reducible refine Sw.g_var rfl ?_ | with_reducible refine Sw.g_c ?_ | with_reducible refine Sw.g_I0 ?_
  | with_reducible refine Sw.g_cons ?_ | with_reducible refine Sw.g_nil ?_ | with_reducible refine Sw.g_call ?_ | with_reducible refine Sw.g_cb ?_ | with_reducible refine Sw.g_test ?_ | with_reducible refine Sw.g_bl ?_
  | with_reducible refine Sw.g_seqdrop ?_ | with_reducible refine Sw.g_seqsub ?_ | with_reducible refine Sw.g_asg ?_ | with_reducible refine Sw.g_asgsub ?_ | with_reducible refine Sw.g_ret ?_ | with_reducible refine Sw.g_drop ?_ | with_reducible refine Sw.g_if ?_ | with_reducible refine Sw.g_next ?_ | with_reducible refine Sw.g_name ?_
  | with_reducible refine Sw.g_B ?_ | with_reducible refine Sw.g_not ?_ | with_reducible refine Sw.g_and ?_ | with_reducible refine Sw.g_or ?_ | with_reducible refine Sw.g_andV ?_ | with_reducible refine Sw.g_orV ?_ | with_reducible refine Sw.g_notV ?_
  | with_reducible refine Sw.g_ifE ?_ | with_reducible refine Sw.g_chain ?_ | with_reducible refine Sw.g_un ?_ | with_reducible refine Sw.g_tup ?_ | with_reducible refine Sw.g_lst ?_ | with_reducible refine Sw.g_sl ?_ | with_reducible refine Sw.g_part ?_ | with_reducible refine Sw.g_nopart ?_
  | with_reducible refine Sw.g_U ?_ | with_reducible refine Sw.g_eq rfl ?_ | with_reducible refine Sw.g_ne rfl ?_ | with_reducible refine Sw.g_int ?_ | with_reducible refine Sw.g_yes ?_ | with_reducible refine L2.iteT ?_ | with_reducible refine L2.iteF ?_ | with_reducible refine Sw.iteNT ?_ | with_reducible refine Sw.iteNF ?_ | with_reducible refine Sw.g_m1 ?_ | with_reducible refine Sw.g_bm ?_ | with_reducible refine ⟨Sw.ty_lst (by assumption), ?_⟩ | with_reducible refine Sw.g_sput ?_ | with_reducible refine Sw.g_put ?_ | with_reducible refine Sw.g_dget2 ?_ | with_reducible refine Sw.g_dget ?_ | with_reducible refine Sw.g_dK ?_ | with_reducible refine Sw.g_dT ?_ | with_reducible refine Sw.g_dnotin ?_ | with_reducible refine Sw.g_din ?_ | with_reducible refine Sw.g_bm0 ?_
  | with_reducible refine Sw.g_ixL (by assumption) rfl ?_ | with_reducible refine Sw.g_ixT (by assumption) rfl ?_)
local macro_rules | `(tactic| walk_at "go") => `(tactic| repeat walk_at "go1")
local macro_rules | `(tactic| walk_at "bd") => `(tactic| repeat (first | with_reducible exact Sw.all_nil | refine Sw.all_cons ⟨_, rfl, by omega, by omega⟩ ?_))
local macro_rules | `(tactic| walk_at "new") => `(tactic| (refine ⟨Nat.le_of_ble_eq_true rfl, fun p np => ?_⟩; generalize hX : L2.upd _ p _ = H'; have sm : L2.Same _ H' := hX ▸ Sw.same_upd np; have hp : H' p = some _ := hX ▸ L2.upd_same; clear hX))
namespace Sw
open PySem PySem.Spec PyProof.Rows L2 SX
/-! ### how things to be read stand -/
section
variable {t : Option Addr} {F H : Hp} {x : V}
theorem vw_int {i : Int} (h : Vw t F H x (.int i)) : x = .int i := by
  rcases h with h | ⟨l, o, _, _, _, _, h⟩
  · exact h
  · cases o <;> exact False.elim h
theorem vw_str {l : List Nat} (h : Vw t F H x (.str l)) : x = .str (S l) := by
  rcases h with h | ⟨l, o, _, _, _, _, h⟩
  · exact h
  · cases o <;> exact False.elim h
theorem vw_bl {b : Bool} (h : Vw t F H x (.bl b)) : x = .bl b := by
  rcases h with h | ⟨l, o, _, _, _, _, h⟩
  · exact h
  · cases o <;> exact False.elim h
theorem vw_non (h : Vw t F H x .non) : x = .non := by
  rcases h with h | ⟨l, o, _, _, _, _, h⟩
  · exact h
  · cases o <;> exact False.elim h
theorem vw_lst {ds : List D} (s : Same F H) (h : Vw t F H x (.lst ds)) : ∃ a xs, x = .ref a ∧ H a = some (.lst xs) ∧ RpL F ds xs := by
  rcases h with ⟨a, xs, h1, h2, h3⟩ | ⟨l, o, h1, h2, _, _, h⟩
  · exact ⟨a, xs, h1, s _ _ h2, h3⟩
  · cases o <;> first | exact ⟨l, _, h1, h2, h⟩ | exact False.elim h
theorem vw_tup {ds : List D} (h : Vw t F H x (.tup ds)) : ∃ a xs, x = .ref a ∧ F a = some (.tup xs) ∧ RpL F ds xs := by
  rcases h with ⟨a, xs, h1, h2, h3⟩ | ⟨l, o, h1, h2, _, _, h⟩
  · exact ⟨a, xs, h1, h2, h3⟩
  · cases o <;> exact False.elim h
theorem vw_dK {ds : List (Key × D)} (s : Same F H) (h : Vw t F H x (.dK ds)) : ∃ a xs, x = .ref a ∧ Rd H a (.dK xs) ∧ RpK F ds xs := by
  rcases h with ⟨a, xs, h1, h2, h3⟩ | ⟨l, o, h1, h2, _, _, h⟩
  · exact ⟨a, xs, h1, rd_same s h2, h3⟩
  · cases o <;> first | exact ⟨l, _, h1, .inl h2, h⟩ | exact False.elim h
theorem vw_dT {ds : List (List Key × D)} (s : Same F H) (h : Vw t F H x (.dT ds)) : ∃ a xs, x = .ref a ∧ Rd H a (.dT xs) ∧ RpT F ds xs := by
  rcases h with ⟨a, xs, h1, h2, h3⟩ | ⟨l, o, h1, h2, _, _, h⟩
  · exact ⟨a, xs, h1, rd_same s h2, h3⟩
  · cases o <;> first | exact ⟨l, _, h1, .inl h2, h⟩ | exact False.elim h
end
/-! ### readings of data: expressions -/
def qVar (i : Nat) : QE := fun δ Q => ∃ s, δ[i]? = some (some s) ∧ match s with | .sh d => Q .sh d | .ow d => Q .pk d | _ => False
def qC (d : D) : QE := fun _ Q => Q .sh d
abbrev P2 := D → D → (Md → D → Prop) → Prop
abbrev P1 := D → (Md → D → Prop) → Prop
def qOp (p : P2) (qa qb : QE) : QE := fun δ Q => qa δ fun _ d => qb δ fun _ e => p d e Q
def qUn (p : P1) (qa : QE) : QE := fun δ Q => qa δ fun _ d => p d Q
def qTest (qe : QE) : QT := fun δ Q => qe δ fun _ d => ∃ b, d = .bl b ∧ Q b
def qAnd (a b : QT) : QT := fun δ Q => a δ fun c => if c = true then b δ Q else Q false
def qOr (a b : QT) : QT := fun δ Q => a δ fun c => if c = true then Q true else b δ Q
def qNot (a : QT) : QT := fun δ Q => a δ fun c => Q (!c)
def qYes : QT := fun _ Q => Q true
def qAndV (a b : QE) : QE := fun δ Q => a δ fun _ d => ∃ c, d = .bl c ∧ if c = true then b δ Q else Q .sh (.bl false)
def qOrV (a b : QE) : QE := fun δ Q => a δ fun _ d => ∃ c, d = .bl c ∧ if c = true then Q .sh (.bl true) else b δ Q
def qNotV (a : QE) : QE := fun δ Q => a δ fun _ d => ∃ c, d = .bl c ∧ Q .sh (.bl (!c))
def qIf (c : QT) (a b : QE) : QE := fun δ Q => c δ fun k => if k = true then a δ Q else b δ Q
def qChain (p p' : P2) (a b c : QE) : QE := fun δ Q => a δ fun _ x => b δ fun _ y => p x y fun _ z => ∃ k, z = .bl k ∧ if k = true then c δ fun _ w => p' y w Q else Q .sh (.bl false)
def qNil : QA := fun _ Q => Q []
abbrev Ar.mk : Md → D → Ar
  | .pk, d => .pk d
  | _, d => .sh d
def qCons (a : QE) (r : QA) : QA := fun δ Q => a δ fun m d => r δ fun as => Q (Ar.mk m d :: as)
def qConsT (i : Nat) (r : QA) : QA := fun δ Q => δ[i]? = some (some .tp) ∧ r δ fun as => Q (.tp :: as)
def qConsC (i : Nat) (r : QA) : QA := fun δ Q => ∃ ns, δ[i]? = some (some (.sc ns)) ∧ r δ fun as => Q (.sc ns :: as)
def shs (ds : List D) : List Ar := ds.map .sh
def qTup (r : QA) : QE := fun δ Q => r δ fun as => ∃ ds, as = shs ds ∧ ds.length ≤ 1000 ∧ Q .sh (.tup ds)
def qLst (r : QA) : QE := fun δ Q => r δ fun as => ∃ ds, as = shs ds ∧ ds.length ≤ 1000 ∧ Q .ow (.lst ds)
abbrev QO := DS → (Option Int → Prop) → Prop
def qNoPart : QO := fun _ Q => Q none
def qPart (a : QE) : QO := fun δ Q => a δ fun _ d => ∃ i, d = .int i ∧ Q (some i)
def qSl (p : D → Option Int → Option Int → (Md → D → Prop) → Prop) (a : QE) (l u : QO) : QE := fun δ Q => a δ fun _ d => l δ fun lo => u δ fun hi => p d lo hi Q
section
variable (K : PySem.W.Frag) (t : Option Addr)
def Post (F H : Hp) (Qp : Md → D → Prop) (Q : VK) : Prop := ∀ z F' H' m d, Grow t F H F' H' → RV t H F' H' z m d → Qp m d → Q z H'
def Sim2 (r : R2) (p : P2) : Prop := ∀ F H x y d e Q Qp, Same F H → (∀ a, t = some a → Dr H a) → Vw t F H x d → Vw t F H y e → p d e Qp → Post t F H Qp Q → r x y H Q
def Sim1 (r : V → Hp → VK → Prop) (p : P1) : Prop := ∀ F H x d Q Qp, Same F H → (∀ a, t = some a → Dr H a) → Vw t F H x d → p d Qp → Post t F H Qp Q → r x H Q
def SimSl (r : V → Option Int → Option Int → Hp → VK → Prop) (p : D → Option Int → Option Int → (Md → D → Prop) → Prop) : Prop := ∀ F H x d lo hi Q Qp, Same F H → (∀ a, t = some a → Dr H a) → Vw t F H x d → p d lo hi Qp → Post t F H Qp Q → r x lo hi H Q
end
section
variable {K : PySem.W.Frag} {c : Cl} {t : Option Addr} {E : XE} {Ep : XP}
section
variable {F H : Hp} {Qp : Md → D → Prop} {Q : VK}
/-- a scalar -/
theorem Post.val (k : Post t F H Qp Q) (s : Same F H) {x : V} {d : D} (h : Rp F d x) (q : Qp .sh d) : Q x H := k x F H .sh d (.refl s) h q
theorem tape_ne {p : Addr} (ht : ∀ a, t = some a → Dr H a) (np : H p = none) : some p ≠ t := fun e => by
  obtain ⟨c, s, q, h, _⟩ := ht p e.symm
  rw [np] at h
  cases h
/-- a new object -/
theorem Post.new (k : Post t F H Qp Q) (s : Same F H) (ht : ∀ a, t = some a → Dr H a) {p : Addr} {o : HO} {d : D} (np : H p = none) (h : OO F o d) (q : Qp .ow d) : Q (.ref p) (upd H p o) :=
  k (.ref p) F _ .ow d (.own s np) ⟨p, o, rfl, np, upd_same, s.free np, tape_ne ht np, h⟩ q
theorem Post.tup (k : Post t F H Qp Q) (s : Same F H) {p : Addr} {xs : List V} {ds : List D} (np : H p = none) (h : RpL F ds xs) (q : Qp .sh (.tup ds)) : Q (.ref p) (upd H p (.tup xs)) :=
  k (.ref p) _ _ .sh (.tup ds) (.new s np) ⟨p, xs, rfl, upd_same, h.mono (.of (same_upd (s.free np)))⟩ q
end
section
variable {te ta tb tc : TE} {qe qa qb qc : QE} {tt tu : TT} {qt qu : QT}
theorem SimE.vw (h : SimE K c t E Ep te qe) {F0 H0 L F : Hp} {δ : DS} {σ : L2.St} {H : Hp} {Q : VK} {Qp : Md → D → Prop} (er : ER K c t F0 H0 L E Ep) (rs : RS K t F0 H0 L F δ σ H) (hq : qe δ Qp)
    (k : ∀ x F' H' m d, Grow t F H F' H' → Vw t F' H' x d → (m ≠ .pk → Rp F' d x) → Qp m d → Q x H') : te σ H Q :=
  h F0 H0 L F δ σ H Q Qp er rs hq fun x F' H' m d g rv q => by
    obtain ⟨F2, g2, v2, r2⟩ := rv.view g
    exact k x F2 H' m d g2 v2 r2 q
theorem s_var (i : Nat) : SimE K c t E Ep (tVar i) (qVar i) := fun F0 H0 L F δ σ H Q Qp er rs hq k => by
  obtain ⟨s, h1, h2⟩ := hq
  obtain ⟨x, h3, h4⟩ := rs.st.sl i s h1
  refine ⟨x, h3, ?_⟩
  cases s with
  | sh d => exact k x F H .sh d (.refl rs.st.s) h4 h2
  | ow d => exact k x F H .pk d (.refl rs.st.s) h4 h2
  | tp => exact False.elim h2
  | sc ns => exact False.elim h2
theorem s_c {v : V} {d : D} (h : ∀ F, Rp F d v) : SimE K c t E Ep (tC v) (qC d) := fun F0 H0 L F δ σ H Q Qp er rs hq k => k v F H .sh d (.refl rs.st.s) (h F) hq
theorem s_op {r : R2} {p : P2} (hr : Sim2 t r p) (ha : SimE K c t E Ep ta qa) (hb : SimE K c t E Ep tb qb) : SimE K c t E Ep (tOp r ta tb) (qOp p qa qb) := fun F0 H0 L F δ σ H Q Qp er rs hq k => by
  refine ha.vw er rs hq fun x F1 H1 m1 d1 g1 v1 _ q1 => ?_
  refine hb.vw er (rs.grow g1) q1 fun y F2 H2 m2 d2 g2 v2 _ q2 => ?_
  have g12 := g1.trans g2 rs.st.dr
  have st2 := (rs.grow g12).st
  exact hr F2 H2 x y d1 d2 Q Qp g2.s st2.dr (v1.grow g2) v2 q2 fun z F3 H3 m d g3 rv qd => k z F3 H3 m d (g12.trans g3 rs.st.dr) (rv.pre g12) qd
theorem s_un {r : V → Hp → VK → Prop} {p : P1} (hr : Sim1 t r p) (ha : SimE K c t E Ep ta qa) : SimE K c t E Ep (tUn r ta) (qUn p qa) := fun F0 H0 L F δ σ H Q Qp er rs hq k => by
  refine ha.vw er rs hq fun x F1 H1 m1 d1 g1 v1 _ q1 => ?_
  have st1 := (rs.grow g1).st
  exact hr F1 H1 x d1 Q Qp g1.s st1.dr v1 q1 fun z F3 H3 m d g3 rv qd => k z F3 H3 m d (g1.trans g3 rs.st.dr) (rv.pre g1) qd
theorem s_cb1 {r : RC} {p : P1} (hr : Sim1 t (fun x => r [x]) p) (ha : SimE K c t E Ep ta qa) : SimE K c t E Ep (tCB r (tCons ta tNil)) (qUn p qa) := s_un (r := fun x => r [x]) hr ha
theorem s_cb2 {r : RC} {p : P2} (hr : Sim2 t (fun x y => r [x, y]) p) (ha : SimE K c t E Ep ta qa) (hb : SimE K c t E Ep tb qb) : SimE K c t E Ep (tCB r (tCons ta (tCons tb tNil))) (qOp p qa qb) := s_op (r := fun x y => r [x, y]) hr ha hb
theorem s_test (h : SimE K c t E Ep te qe) : SimT K c t E Ep (tTest te) (qTest qe) := fun F0 H0 L F δ σ H Q Qp er rs hq k => by
  refine h.vw er rs hq fun x F1 H1 m1 d1 g1 v1 _ q1 => ?_
  obtain ⟨b, rfl, q2⟩ := q1
  exact ⟨b, vw_bl v1, k b F1 H1 g1 q2⟩
theorem s_b (h : SimE K c t E Ep te qe) : SimT K c t E Ep (tB te) (qTest qe) := s_test h
theorem s_yes : SimT K c t E Ep tYes qYes := fun F0 H0 L F δ σ H Q Qp er rs hq k => k true F H (.refl rs.st.s) hq
theorem s_and (h : SimT K c t E Ep tt qt) (h' : SimT K c t E Ep tu qu) : SimT K c t E Ep (tAnd tt tu) (qAnd qt qu) := fun F0 H0 L F δ σ H Q Qp er rs hq k => by
  refine h F0 H0 L F δ σ H _ _ er rs hq fun b F1 H1 g1 q1 => ?_
  cases b with
  | true => exact h' F0 H0 L F1 δ σ H1 _ _ er (rs.grow g1) q1 fun b2 F2 H2 g2 q2 => k b2 F2 H2 (g1.trans g2 rs.st.dr) q2
  | false => exact k false F1 H1 g1 q1
theorem s_or (h : SimT K c t E Ep tt qt) (h' : SimT K c t E Ep tu qu) : SimT K c t E Ep (tOr tt tu) (qOr qt qu) := fun F0 H0 L F δ σ H Q Qp er rs hq k => by
  refine h F0 H0 L F δ σ H _ _ er rs hq fun b F1 H1 g1 q1 => ?_
  cases b with
  | false => exact h' F0 H0 L F1 δ σ H1 _ _ er (rs.grow g1) q1 fun b2 F2 H2 g2 q2 => k b2 F2 H2 (g1.trans g2 rs.st.dr) q2
  | true => exact k true F1 H1 g1 q1
theorem s_not (h : SimT K c t E Ep tt qt) : SimT K c t E Ep (tNot tt) (qNot qt) := fun F0 H0 L F δ σ H Q Qp er rs hq k => h F0 H0 L F δ σ H _ _ er rs hq fun b F1 H1 g1 q1 => k _ F1 H1 g1 q1
theorem SimE.then {R : V → Hp → Prop} (h : SimE K c t E Ep te qe) {F0 H0 L F : Hp} {δ : DS} {σ : L2.St} {H : Hp} {Qp : Md → D → Prop} (er : ER K c t F0 H0 L E Ep) (rs : RS K t F0 H0 L F δ σ H) (hq : qe δ Qp)
    {F' H' : Hp} (g : Grow t F' H' F H) (hd : ∀ a, t = some a → Dr H' a) (k : ∀ x F2 H2 m d, Grow t F' H' F2 H2 → RV t H' F2 H2 x m d → Qp m d → R x H2) : te σ H R :=
  h F0 H0 L F δ σ H R Qp er rs hq fun x F2 H2 m d g2 rv q => k x F2 H2 m d (g.trans g2 hd) (rv.pre g) q
theorem s_andV (ha : SimE K c t E Ep ta qa) (hb : SimE K c t E Ep tb qb) : SimE K c t E Ep (tAndV ta tb) (qAndV qa qb) := fun F0 H0 L F δ σ H Q Qp er rs hq k => by
  refine ha.vw er rs hq fun x F1 H1 m1 d1 g1 v1 _ q1 => ?_
  obtain ⟨b, rfl, q2⟩ := q1
  refine ⟨b, vw_bl v1, ?_⟩
  cases b with
  | true => exact hb.then er (rs.grow g1) q2 g1 rs.st.dr k
  | false => exact k _ F1 H1 .sh (.bl false) g1 rfl q2
theorem s_orV (ha : SimE K c t E Ep ta qa) (hb : SimE K c t E Ep tb qb) : SimE K c t E Ep (tOrV ta tb) (qOrV qa qb) := fun F0 H0 L F δ σ H Q Qp er rs hq k => by
  refine ha.vw er rs hq fun x F1 H1 m1 d1 g1 v1 _ q1 => ?_
  obtain ⟨b, rfl, q2⟩ := q1
  refine ⟨b, vw_bl v1, ?_⟩
  cases b with
  | false => exact hb.then er (rs.grow g1) q2 g1 rs.st.dr k
  | true => exact k _ F1 H1 .sh (.bl true) g1 rfl q2
theorem s_notV (ha : SimE K c t E Ep ta qa) : SimE K c t E Ep (tNotV ta) (qNotV qa) := fun F0 H0 L F δ σ H Q Qp er rs hq k => by
  refine ha.vw er rs hq fun x F1 H1 m1 d1 g1 v1 _ q1 => ?_
  obtain ⟨b, rfl, q2⟩ := q1
  exact ⟨b, vw_bl v1, k _ F1 H1 .sh (.bl (!b)) g1 rfl q2⟩
theorem s_if (h : SimT K c t E Ep tt qt) (ha : SimE K c t E Ep ta qa) (hb : SimE K c t E Ep tb qb) : SimE K c t E Ep (tIf tt ta tb) (qIf qt qa qb) := fun F0 H0 L F δ σ H Q Qp er rs hq k => by
  refine h F0 H0 L F δ σ H _ _ er rs hq fun b F1 H1 g1 q1 => ?_
  cases b with
  | true => exact ha.then er (rs.grow g1) q1 g1 rs.st.dr k
  | false => exact hb.then er (rs.grow g1) q1 g1 rs.st.dr k
theorem s_chain {r r' : R2} {p p' : P2} (hr : Sim2 t r p) (hr' : Sim2 t r' p') (ha : SimE K c t E Ep ta qa) (hb : SimE K c t E Ep tb qb) (hc : SimE K c t E Ep tc qc) : SimE K c t E Ep (tChain r r' ta tb tc) (qChain p p' qa qb qc) := fun F0 H0 L F δ σ H Q Qp er rs hq k => by
  refine ha.vw er rs hq fun x F1 H1 m1 d1 g1 v1 _ q1 => ?_
  refine hb.vw er (rs.grow g1) q1 fun y F2 H2 m2 d2 g2 v2 _ q2 => ?_
  have g12 := g1.trans g2 rs.st.dr
  have st2 := (rs.grow g12).st
  refine hr F2 H2 x y d1 d2 _ _ g2.s st2.dr (v1.grow g2) v2 q2 fun z F3 H3 m d g3 rv qd => ?_
  obtain ⟨b, rfl, q3⟩ := qd
  obtain ⟨F4, g4, v4, _⟩ := rv.view g3
  have g14 := g12.trans g4 rs.st.dr
  refine ⟨b, vw_bl v4, ?_⟩
  cases b with
  | true =>
    refine hc.vw er (rs.grow g14) q3 fun w F5 H5 m5 d5 g5 v5 _ q5 => ?_
    have g15 := g14.trans g5 rs.st.dr
    exact hr' F5 H5 y w d2 d5 Q Qp g5.s (rs.grow g15).st.dr ((v2.grow g4).grow g5) v5 q5 fun z F6 H6 m d g6 rv qd => k z F6 H6 m d (g15.trans g6 rs.st.dr) (rv.pre g15) qd
  | false => exact k _ F4 H3 .sh (.bl false) g14 rfl q3
/-! arguments -/
theorem s_nil : SimA K c t E Ep tNil qNil := fun F0 H0 L F δ σ H Q Qp er rs hq k => k [] F H [] (.refl rs.st.s) True.intro hq
theorem s_cons {tr : TA} {qr : QA} (ha : SimE K c t E Ep ta qa) (hr : SimA K c t E Ep tr qr) : SimA K c t E Ep (tCons ta tr) (qCons qa qr) := fun F0 H0 L F δ σ H Q Qp er rs hq k => by
  refine ha F0 H0 L F δ σ H _ _ er rs hq fun x F1 H1 m d g rv q => ?_
  have : ∃ F2, Grow t F H F2 H1 ∧ Av K t F2 H1 x (Ar.mk m d) := by
    cases m with
    | sh => exact ⟨F1, g, rv⟩
    | pk => exact ⟨F1, g, rv⟩
    | ow => obtain ⟨F2, g2, v2, r2⟩ := rv.view g; exact ⟨F2, g2, r2 (by decide)⟩
    | ot => obtain ⟨F2, g2, v2, r2⟩ := rv.view g; exact ⟨F2, g2, r2 (by decide)⟩
  obtain ⟨F2, g2, av⟩ := this
  refine hr F0 H0 L F2 δ σ H1 _ _ er (rs.grow g2) q fun xs F3 H3 as g3 avl q3 => ?_
  exact k (x :: xs) F3 H3 (Ar.mk m d :: as) (g2.trans g3 rs.st.dr) ⟨av.grow g3, avl⟩ q3
theorem s_consT {i : Nat} {tr : TA} {qr : QA} (hr : SimA K c t E Ep tr qr) : SimA K c t E Ep (tCons (tVar i) tr) (qConsT i qr) := fun F0 H0 L F δ σ H Q Qp er rs hq k => by
  obtain ⟨h1, h2⟩ := hq
  obtain ⟨x, h3, a, h4⟩ := rs.st.sl i _ h1
  refine ⟨x, h3, hr F0 H0 L F δ σ H _ _ er rs h2 fun xs F3 H3 as g3 avl q3 => ?_⟩
  exact k (x :: xs) F3 H3 (.tp :: as) g3 ⟨⟨a, h4⟩, avl⟩ q3
theorem s_consC {i : Nat} {tr : TA} {qr : QA} (hr : SimA K c t E Ep tr qr) : SimA K c t E Ep (tCons (tVar i) tr) (qConsC i qr) := fun F0 H0 L F δ σ H Q Qp er rs hq k => by
  obtain ⟨ns, h1, h2⟩ := hq
  obtain ⟨x, h3, a, h4, h5⟩ := rs.st.sl i _ h1
  refine ⟨x, h3, hr F0 H0 L F δ σ H _ _ er rs h2 fun xs F3 H3 as g3 avl q3 => ?_⟩
  exact k (x :: xs) F3 H3 (.sc ns :: as) g3 ⟨⟨a, h4, g3.f.seq h5⟩, avl⟩ q3
theorem avl_shs {F H : Hp} : ∀ {xs : List V} {ds : List D}, AvL K t F H xs (shs ds) → RpL F ds xs
  | [], [], _ => rfl
  | _ :: _, _ :: _, h => ⟨_, _, rfl, h.1, avl_shs h.2⟩
  | [], _ :: _, h => False.elim h
  | _ :: _, [], h => False.elim h
theorem le_line {n : Nat} (h : n ≤ 1000) : n ≤ sizeLine := Nat.le_trans h (by decide)
theorem s_tup {tr : TA} {qr : QA} (hr : SimA K c t E Ep tr qr) : SimE K c t E Ep (tTup tr) (qTup qr) := fun F0 H0 L F δ σ H Q Qp er rs hq k => by
  refine hr F0 H0 L F δ σ H _ _ er rs hq fun xs F1 H1 as g1 avl q1 => ?_
  obtain ⟨ds, rfl, hl, q2⟩ := q1
  have hrl := avl_shs avl
  refine ⟨by rw [hrl.len]; exact le_line hl, fun p np => ?_⟩
  exact Post.tup (Q := Q) (fun z F' H' m d g rv q => k z F' H' m d (g1.trans g rs.st.dr) (rv.pre g1) q) g1.s np hrl q2
theorem s_lst {tr : TA} {qr : QA} (hr : SimA K c t E Ep tr qr) : SimE K c t E Ep (tLst tr) (qLst qr) := fun F0 H0 L F δ σ H Q Qp er rs hq k => by
  refine hr F0 H0 L F δ σ H _ _ er rs hq fun xs F1 H1 as g1 avl q1 => ?_
  obtain ⟨ds, rfl, hl, q2⟩ := q1
  have hrl := avl_shs avl
  refine ⟨by rw [hrl.len]; exact le_line hl, fun p np => ?_⟩
  exact Post.new (Q := Q) (fun z F' H' m d g rv q => k z F' H' m d (g1.trans g rs.st.dr) (rv.pre g1) q) g1.s (rs.grow g1).st.dr np (o := .lst xs) (d := .lst ds) hrl q2
/-! slices -/
def SimO (to : TO) (qo : QO) : Prop := ∀ F0 H0 L F δ σ H Q Qp, ER K c t F0 H0 L E Ep → RS K t F0 H0 L F δ σ H → qo δ Qp → (∀ i F' H', Grow t F H F' H' → Qp i → Q i H') → to σ H Q
theorem s_noPart : SimO (K := K) (c := c) (t := t) (E := E) (Ep := Ep) tNoPart qNoPart := fun F0 H0 L F δ σ H Q Qp er rs hq k => k none F H (.refl rs.st.s) hq
theorem s_part (ha : SimE K c t E Ep ta qa) : SimO (K := K) (c := c) (t := t) (E := E) (Ep := Ep) (tPart ta) (qPart qa) := fun F0 H0 L F δ σ H Q Qp er rs hq k => by
  refine ha.vw er rs hq fun x F1 H1 m1 d1 g1 v1 _ q1 => ?_
  obtain ⟨i, rfl, q2⟩ := q1
  exact ⟨i, vw_int v1, k _ F1 H1 g1 q2⟩
theorem s_sl {r : V → Option Int → Option Int → Hp → VK → Prop} {p : D → Option Int → Option Int → (Md → D → Prop) → Prop} {tl th : TO} {ql qh : QO} (hr : SimSl t r p) (ha : SimE K c t E Ep ta qa) (hl : SimO (K := K) (c := c) (t := t) (E := E) (Ep := Ep) tl ql) (hh : SimO (K := K) (c := c) (t := t) (E := E) (Ep := Ep) th qh) :
    SimE K c t E Ep (tSl r ta tl th) (qSl p qa ql qh) := fun F0 H0 L F δ σ H Q Qp er rs hq k => by
  refine ha.vw er rs hq fun x F1 H1 m1 d1 g1 v1 _ q1 => ?_
  refine hl F0 H0 L F1 δ σ H1 _ _ er (rs.grow g1) q1 fun lo F2 H2 g2 q2 => ?_
  have g12 := g1.trans g2 rs.st.dr
  refine hh F0 H0 L F2 δ σ H2 _ _ er (rs.grow g12) q2 fun hi F3 H3 g3 q3 => ?_
  have g13 := g12.trans g3 rs.st.dr
  exact hr F3 H3 x d1 lo hi Q Qp g3.s (rs.grow g13).st.dr ((v1.grow g2).grow g3) q3 fun z F6 H6 m d g6 rv qd => k z F6 H6 m d (g13.trans g6 rs.st.dr) (rv.pre g13) qd
end
end
end Sw
end
section
local macro_rules | `(tactic| walk_at "go1") => `(tactic| first
  | with_reducible refine Sw.g_seqasg ?_ | with_reducible refine Sw.g_op ?_ | with_reducible refine Sw.g_var rfl ?_ | with_reducible refine Sw.g_c ?_ | with_reducible refine Sw.g_I0 ?_
  | with_reducible refine Sw.g_cons ?_ | with_reducible refine Sw.g_nil ?_ | with_reducible refine Sw.g_call ?_ | with_reducible refine Sw.g_cb ?_ | with_reducible refine Sw.g_test ?_ | with_reducible refine Sw.g_bl ?_
  | with_reducible refine Sw.g_seqdrop ?_ | with_reducible refine Sw.g_seqsub ?_ | with_reducible refine Sw.g_asg ?_ | with_reducible refine Sw.g_asgsub ?_ | with_reducible refine Sw.g_ret ?_ | with_reducible refine Sw.g_drop ?_ | with_reducible refine Sw.g_if ?_ | with_reducible refine Sw.g_next ?_ | with_reducible refine Sw.g_name ?_
  | with_reducible refine Sw.g_B ?_ | with_reducible refine Sw.g_not ?_ | with_reducible refine Sw.g_and ?_ | with_reducible refine Sw.g_or ?_ | with_reducible refine Sw.g_andV ?_ | with_reducible refine Sw.g_orV ?_ | with_reducible refine Sw.g_notV ?_
  | with_reducible refine Sw.g_ifE ?_ | with_reducible refine Sw.g_chain ?_ | with_reducible refine Sw.g_un ?_ | with_reducible refine Sw.g_tup ?_ | with_reducible refine Sw.g_lst ?_ | with_reducible refine Sw.g_sl ?_ | with_reducible refine Sw.g_part ?_ | with_reducible refine Sw.g_nopart ?_
  | with_reducible refine Sw.g_U ?_ | with_reducible refine Sw.g_eq rfl ?_ | with_reducible refine Sw.g_ne rfl ?_ | with_reducible refine Sw.g_int ?_ | with_reducible refine Sw.g_yes ?_ | with_reducible refine L2.iteT ?_ | with_reducible refine L2.iteF ?_ | with_reducible refine Sw.iteNT ?_ | with_reducible refine Sw.iteNF ?_ | with_reducible refine Sw.g_m1 ?_ | with_reducible refine Sw.g_bm ?_ | with_reducible refine ⟨Sw.ty_lst (by assumption), ?_⟩ | with_reducible refine Sw.g_sput ?_ | with_reducible refine Sw.g_put ?_ | with_reducible refine Sw.g_dget2 ?_ | with_reducible refine Sw.g_dget ?_ | with_reducible refine Sw.g_dK ?_ | with_reducible refine Sw.g_dT ?_ | with_reducible refine Sw.g_dnotin ?_ | with_reducible refine Sw.g_din ?_ | with_reducible refine Sw.g_bm0 ?_
  | with_reducible refine Sw.g_ixL (by assumption) rfl ?_ | with_reducible refine Sw.g_ixT (by assumption) rfl ?_)
local macro_rules | `(tactic| walk_at "go") => `(tactic| repeat walk_at "go1")
local macro_rules | `(tactic| walk_at "bd") => `(tactic| repeat (first | with_reducible exact Sw.all_nil | refine Sw.all_cons ⟨_, rfl, by omega, by omega⟩ ?_))
local macro_rules | `(tactic| walk_at "new") => `(tactic| (refine ⟨Nat.le_of_ble_eq_true rfl, fun p np => ?_⟩; generalize hX : L2.upd _ p _ = H'; have sm : L2.Same _ H' := hX ▸ Sw.same_upd np; have hp : H' p = some _ := hX ▸ L2.upd_same; clear hX))
namespace Sw
open PySem PySem.Spec PyProof.Rows L2 SX
/-! ### operators on data -/
def pI0 (g : Int → Int → D) : P2 := fun d e Q => ∃ i j, d = .int i ∧ e = .int j ∧ Q .sh (g i j)
def pI (C : Int → Int → Prop) (g : Int → Int → D) : P2 := fun d e Q => ∃ i j, d = .int i ∧ e = .int j ∧ C i j ∧ Q .sh (g i j)
abbrev pAdd : P2 := pI0 fun i j => .int (i + j)
abbrev pSub : P2 := pI0 fun i j => .int (i - j)
abbrev pMulW : P2 := pI CMulW fun i j => .int (i * j)
abbrev pDivW : P2 := pI CDivW fun i j => .int (i / j)
abbrev pMod : P2 := pI (fun _ j => 0 < j) fun i j => .int (i % j)
abbrev pPow : P2 := pI CPow fun i j => .int (i ^ j.toNat)
abbrev pLt : P2 := pI0 fun i j => .bl (decide (i < j))
abbrev pLe : P2 := pI0 fun i j => .bl (decide (i ≤ j))
abbrev pGt : P2 := pI0 fun i j => .bl (decide (j < i))
abbrev pGe : P2 := pI0 fun i j => .bl (decide (j ≤ i))
def pNeg : P1 := fun d Q => ∃ i, d = .int i ∧ Q .sh (.int (-i))
def pS (g : List Nat → List Nat → Bool) : P2 := fun d e Q => ∃ a b, d = .str a ∧ e = .str b ∧ Q .sh (.bl (g a b))
abbrev pLtS : P2 := pS fun a b => decide (a < b)
abbrev pLeS : P2 := pS fun a b => !decide (b < a)
abbrev pGtS : P2 := pS fun a b => decide (b < a)
abbrev pGeS : P2 := pS fun a b => !decide (a < b)
def pAddS : P2 := fun d e Q => ∃ a b, d = .str a ∧ e = .str b ∧ a.length + b.length ≤ 1000000 ∧ Q .sh (.str (a ++ b))
def pMulS : P2 := fun d e Q => ∃ a n, d = .str a ∧ e = .int n ∧ 0 ≤ n ∧ n ≤ 1000 ∧ a.length ≤ 1000 ∧ Q .sh (.str (List.replicate n.toNat a).flatten)
def pInSign : P2 := fun d e Q => ∃ (ch : Nat) (z : List Nat), d = .str [ch] ∧ e = .str z ∧ Q .sh (.bl (decide (ch ∈ z)))
def pNotInSign : P2 := fun d e Q => ∃ (ch : Nat) (z : List Nat), d = .str [ch] ∧ e = .str z ∧ Q .sh (.bl (!decide (ch ∈ z)))
def isNon : D → Bool
  | .non => true
  | _ => false
def pIsN : P2 := fun d e Q => e = .non ∧ Q .sh (.bl (isNon d))
def pNotN : P2 := fun d e Q => e = .non ∧ Q .sh (.bl (!isNon d))
def eqS : D → D → Option Bool
  | .int a, .int b => some (decide (a = b)) | .str a, .str b => some (decide (a = b)) | .bl a, .bl b => some (decide (a = b)) | .non, .non => some true
  | .non, .int _ => some false | .int _, .non => some false | .non, .bl _ => some false | .bl _, .non => some false | .non, .str _ => some false | .str _, .non => some false
  | .int _, .str _ => some false | .str _, .int _ => some false | .bl _, .str _ => some false | .str _, .bl _ => some false
  | _, _ => none
def pEq : P2 := fun d e Q => ∃ b, eqS d e = some b ∧ Q .sh (.bl b)
def pNe : P2 := fun d e Q => ∃ b, eqS d e = some b ∧ Q .sh (.bl (!b))
def pIxL : P2 := fun d e Q => ∃ ds i v, d = .lst ds ∧ e = .int i ∧ atI ds i = some v ∧ Q .sh v
def pIxT : P2 := fun d e Q => ∃ ds i v, d = .tup ds ∧ e = .int i ∧ atI ds i = some v ∧ Q .sh v
def pIxS : P2 := fun d e Q => ∃ l i ch, d = .str l ∧ e = .int i ∧ l.length ≤ 1000000 ∧ atI l i = some ch ∧ Q .sh (.str [ch])
def pCat : P2 := fun d e Q => ∃ a b, d = .lst a ∧ e = .lst b ∧ a.length + b.length ≤ 1000000 ∧ Q .ow (.lst (a ++ b))
def pCatT : P2 := fun d e Q => ∃ a b, d = .tup a ∧ e = .tup b ∧ a.length + b.length ≤ 1000 ∧ Q .sh (.tup (a ++ b))
def pRep : P2 := fun d e Q => ∃ a n, d = .lst a ∧ e = .int n ∧ 0 ≤ n ∧ n ≤ 100000 ∧ a.length * n.toNat ≤ 100000 ∧ Q .ow (.lst (List.replicate n.toNat a).flatten)
def pLenS : P1 := fun d Q => ∃ l, d = .str l ∧ l.length ≤ 1000000 ∧ Q .sh (.int (l.length : Int))
def pLenL : P1 := fun d Q => ∃ l, (d = .lst l ∨ d = .tup l) ∧ Q .sh (.int (l.length : Int))
def pAbs : P1 := fun d Q => ∃ i, d = .int i ∧ Q .sh (.int (if i < 0 then -i else i))
def pMax2 : P2 := fun d e Q => ∃ i j, d = .int i ∧ e = .int j ∧ Q .sh (.int (if j > i then j else i))
def pMin2 : P2 := fun d e Q => ∃ i j, d = .int i ∧ e = .int j ∧ Q .sh (.int (if j < i then j else i))
def pInt1 : P1 := fun d Q => (∃ i, d = .int i ∧ Q .sh (.int i)) ∨ ∃ b, d = .bl b ∧ Q .sh (.int (if b = true then 1 else 0))
def pSum : P1 := fun d Q => ∃ ns : List Int, d = .lst (ns.map .int) ∧ Q .sh (.int ns.sum)
def pMinL : P1 := fun d Q => ∃ ns : List Int, d = .lst (ns.map .int) ∧ ns ≠ [] ∧ ∀ m, m ∈ ns → (∀ y ∈ ns, m ≤ y) → Q .sh (.int m)
def pMaxL : P1 := fun d Q => ∃ ns : List Int, d = .lst (ns.map .int) ∧ ns ≠ [] ∧ ∀ m, m ∈ ns → (∀ y ∈ ns, y ≤ m) → Q .sh (.int m)
def pListOf : P1 := fun d Q => ∃ l, (d = .lst l ∨ d = .tup l) ∧ Q .ow (.lst l)
def pTupOf : P1 := fun d Q => ∃ l, (d = .lst l ∨ d = .tup l) ∧ Q .sh (.tup l)
def cut {α : Type} (xs : List α) (lo hi : Option Int) : List α := (xs.drop (HT.sIx xs.length 0 lo)).take (HT.sIx xs.length xs.length hi - HT.sIx xs.length 0 lo)
def pSlS : D → Option Int → Option Int → (Md → D → Prop) → Prop := fun d lo hi Q => ∃ l, d = .str l ∧ l.length ≤ 1000000 ∧ Q .sh (.str (cut l lo hi))
def pSlL : D → Option Int → Option Int → (Md → D → Prop) → Prop := fun d lo hi Q => ∃ l, d = .lst l ∧ Q .ow (.lst (cut l lo hi))
def pSlT : D → Option Int → Option Int → (Md → D → Prop) → Prop := fun d lo hi Q => ∃ l, d = .tup l ∧ Q .sh (.tup (cut l lo hi))
def pRevS : P1 := fun d Q => ∃ l, d = .str l ∧ l.length ≤ 1000000 ∧ Q .sh (.str l.reverse)
def pRevL : P1 := fun d Q => ∃ l, d = .lst l ∧ Q .ow (.lst l.reverse)
def pJoin : P2 := fun d e Q => ∃ (a : List Nat) (ys : List (List Nat)), d = .str a ∧ (e = .lst (ys.map .str) ∨ e = .tup (ys.map .str)) ∧ (ys.map (·.length)).sum + ys.length * a.length ≤ 1000000 ∧ Q .sh (.str (Txt.join (S a) (ys.map S)).cps.toList)
def pIn (neg : Bool) : P2 := fun d e Q => (∃ (i : Int) (ns : List Int), d = .int i ∧ (e = .lst (ns.map .int) ∨ e = .tup (ns.map .int)) ∧ Q .sh (.bl (if neg then !decide (i ∈ ns) else decide (i ∈ ns)))) ∨
  ∃ (i : List Nat) (ns : List (List Nat)), d = .str i ∧ (e = .lst (ns.map .str) ∨ e = .tup (ns.map .str)) ∧ Q .sh (.bl (if neg then !decide (i ∈ ns) else decide (i ∈ ns)))
section
variable {t : Option Addr}
theorem o_I0 {g : Int → Int → V} {g' : Int → Int → D} (h : ∀ i j F, Rp F (g' i j) (g i j)) : Sim2 t (rI0 g) (pI0 g') := fun F H x y d e Q Qp s ht vx vy p k => by
  obtain ⟨i, j, rfl, rfl, q⟩ := p
  exact ⟨i, j, vw_int vx, vw_int vy, k.val s (h i j F) q⟩
theorem o_I {C : Int → Int → Prop} {g : Int → Int → V} {g' : Int → Int → D} (h : ∀ i j F, Rp F (g' i j) (g i j)) : Sim2 t (rI C g) (pI C g') := fun F H x y d e Q Qp s ht vx vy p k => by
  obtain ⟨i, j, rfl, rfl, c, q⟩ := p
  exact ⟨i, j, vw_int vx, vw_int vy, c, k.val s (h i j F) q⟩
theorem o_add : Sim2 t rAdd pAdd := o_I0 fun _ _ _ => rfl
theorem o_sub : Sim2 t rSub pSub := o_I0 fun _ _ _ => rfl
theorem o_mulW : Sim2 t rMulW pMulW := o_I fun _ _ _ => rfl
theorem o_divW : Sim2 t rDivW pDivW := o_I fun _ _ _ => rfl
theorem o_mod : Sim2 t rMod pMod := o_I fun _ _ _ => rfl
theorem o_pow : Sim2 t rPow pPow := o_I fun _ _ _ => rfl
theorem o_lt : Sim2 t rLt pLt := o_I0 fun _ _ _ => rfl
theorem o_le : Sim2 t rLe pLe := o_I0 fun _ _ _ => rfl
theorem o_gt : Sim2 t rGt pGt := o_I0 fun _ _ _ => rfl
theorem o_ge : Sim2 t rGe pGe := o_I0 fun _ _ _ => rfl
theorem o_neg : Sim1 t rNeg pNeg := fun F H x d Q Qp s ht vx p k => by
  obtain ⟨i, rfl, q⟩ := p
  exact ⟨i, vw_int vx, k.val s (d := .int (-i)) rfl q⟩
theorem o_ltS : Sim2 t rLtS pLtS := fun F H x y d e Q Qp s ht vx vy p k => by
  obtain ⟨a, b, rfl, rfl, q⟩ := p
  exact ⟨S a, S b, vw_str vx, vw_str vy, k.val s (d := .bl (decide (a < b))) rfl q⟩
theorem o_leS : Sim2 t rLeS pLeS := fun F H x y d e Q Qp s ht vx vy p k => by
  obtain ⟨a, b, rfl, rfl, q⟩ := p
  exact ⟨S a, S b, vw_str vx, vw_str vy, k.val s (d := .bl (!decide (b < a))) rfl q⟩
theorem o_gtS : Sim2 t rGtS pGtS := fun F H x y d e Q Qp s ht vx vy p k => by
  obtain ⟨a, b, rfl, rfl, q⟩ := p
  exact ⟨S a, S b, vw_str vx, vw_str vy, k.val s (d := .bl (decide (b < a))) rfl q⟩
theorem o_geS : Sim2 t rGeS pGeS := fun F H x y d e Q Qp s ht vx vy p k => by
  obtain ⟨a, b, rfl, rfl, q⟩ := p
  exact ⟨S a, S b, vw_str vx, vw_str vy, k.val s (d := .bl (!decide (a < b))) rfl q⟩
theorem le_line6 {n : Nat} (h : n ≤ 1000000) : n ≤ sizeLine := Nat.le_trans h (by decide)
theorem o_addS : Sim2 t rAddS pAddS := fun F H x y d e Q Qp s ht vx vy p k => by
  obtain ⟨a, b, rfl, rfl, hl, q⟩ := p
  refine ⟨S a, S b, vw_str vx, vw_str vy, by rw [S_len, S_len]; exact le_line6 hl, k.val s (d := .str (a ++ b)) ?_ q⟩
  show V.str (S a ++ S b) = V.str (S (a ++ b))
  rw [S_cat]
theorem o_mulS : Sim2 t rMulS pMulS := fun F H x y d e Q Qp s ht vx vy p k => by
  obtain ⟨a, n, rfl, rfl, h0, h1, hl, q⟩ := p
  exact ⟨a, n, vw_str vx, vw_int vy, h0, h1, hl, k.val s (d := .str _) rfl q⟩
theorem o_inSign : Sim2 t rInSign pInSign := fun F H x y d e Q Qp s ht vx vy p k => by
  obtain ⟨a, z, rfl, rfl, q⟩ := p
  exact ⟨a, S z, vw_str vx, vw_str vy, k.val s (d := .bl (decide (a ∈ z))) rfl q⟩
theorem o_notInSign : Sim2 t rNotInSign pNotInSign := fun F H x y d e Q Qp s ht vx vy p k => by
  obtain ⟨a, z, rfl, rfl, q⟩ := p
  exact ⟨a, S z, vw_str vx, vw_str vy, k.val s (d := .bl (!decide (a ∈ z))) rfl q⟩
theorem non_iff {F H : Hp} {x : V} {d : D} (h : Vw t F H x d) : decide (x = .non) = isNon d := by
  have hall : ∀ (a : Addr), decide (V.ref a = .non) = false := fun _ => rfl
  rcases h with h | ⟨l, o, rfl, _, _, _, h⟩
  · cases d with
    | non => rw [show x = .non from h]; rfl
    | bl b => rw [show x = .bl b from h]; rfl
    | int b => rw [show x = .int b from h]; rfl
    | str b => rw [show x = .str (S b) from h]; rfl
    | lst _ => obtain ⟨a, _, rfl, _⟩ := h; rfl
    | tup _ => obtain ⟨a, _, rfl, _⟩ := h; rfl
    | dK _ => obtain ⟨a, _, rfl, _⟩ := h; rfl
    | dT _ => obtain ⟨a, _, rfl, _⟩ := h; rfl
    | tape => obtain ⟨a, rfl, _⟩ := h; rfl
  · cases d <;> first | rfl | (cases o <;> exact False.elim h)
theorem o_isN : Sim2 t rIsNn pIsN := fun F H x y d e Q Qp s ht vx vy p k => by
  obtain ⟨rfl, q⟩ := p
  refine ⟨vw_non vy, k.val s (d := .bl (isNon d)) ?_ q⟩
  rw [non_iff vx]; exact rfl
theorem o_notN : Sim2 t rNotNn pNotN := fun F H x y d e Q Qp s ht vx vy p k => by
  obtain ⟨rfl, q⟩ := p
  refine ⟨vw_non vy, k.val s (d := .bl (!isNon d)) ?_ q⟩
  rw [non_iff vx]; exact rfl
theorem eqS_ok {F H : Hp} {x y : V} {d e : D} {b : Bool} (vx : Vw t F H x d) (vy : Vw t F H y e) (h : eqS d e = some b) : scal x y = true ∧ decide (x = y) = b := by
  cases d <;> cases e <;> simp only [eqS, Option.some.injEq, reduceCtorEq] at h <;> subst h <;>
    first
    | (have h1 := vw_int vx; have h2 := vw_int vy; subst h1 h2; exact ⟨rfl, by simp⟩)
    | (have h1 := vw_str vx; have h2 := vw_str vy; subst h1 h2; exact ⟨rfl, decide_eq_decide.mpr ⟨fun z => S_inj (V.str.inj z), fun z => by rw [z]⟩⟩)
    | (have h1 := vw_bl vx; have h2 := vw_bl vy; subst h1 h2; exact ⟨rfl, by simp⟩)
    | (have h1 := vw_non vx; have h2 := vw_non vy; subst h1 h2; exact ⟨rfl, by simp⟩)
    | (have h1 := vw_non vx; have h2 := vw_int vy; subst h1 h2; exact ⟨rfl, by simp⟩)
    | (have h1 := vw_int vx; have h2 := vw_non vy; subst h1 h2; exact ⟨rfl, by simp⟩)
    | (have h1 := vw_non vx; have h2 := vw_bl vy; subst h1 h2; exact ⟨rfl, by simp⟩)
    | (have h1 := vw_bl vx; have h2 := vw_non vy; subst h1 h2; exact ⟨rfl, by simp⟩)
    | (have h1 := vw_non vx; have h2 := vw_str vy; subst h1 h2; exact ⟨rfl, by simp⟩)
    | (have h1 := vw_str vx; have h2 := vw_non vy; subst h1 h2; exact ⟨rfl, by simp⟩)
    | (have h1 := vw_int vx; have h2 := vw_str vy; subst h1 h2; exact ⟨rfl, by simp⟩)
    | (have h1 := vw_str vx; have h2 := vw_int vy; subst h1 h2; exact ⟨rfl, by simp⟩)
    | (have h1 := vw_bl vx; have h2 := vw_str vy; subst h1 h2; exact ⟨rfl, by simp⟩)
    | (have h1 := vw_str vx; have h2 := vw_bl vy; subst h1 h2; exact ⟨rfl, by simp⟩)
theorem o_eq : Sim2 t rEq pEq := fun F H x y d e Q Qp s ht vx vy p k => by
  obtain ⟨b, h, q⟩ := p
  obtain ⟨h1, h2⟩ := eqS_ok vx vy h
  exact ⟨h1, k.val s (d := .bl b) (by rw [h2]; exact rfl) q⟩
theorem o_ne : Sim2 t rNe pNe := fun F H x y d e Q Qp s ht vx vy p k => by
  obtain ⟨b, h, q⟩ := p
  obtain ⟨h1, h2⟩ := eqS_ok vx vy h
  exact ⟨h1, k.val s (d := .bl (!b)) (by rw [h2]; exact rfl) q⟩
theorem rpl_atI {F : Hp} {ds : List D} {xs : List V} {i : Int} {v : D} (h : RpL F ds xs) (e : atI ds i = some v) : ∃ x, atI xs i = some x ∧ Rp F v x := by
  unfold atI at e ⊢
  rw [h.len]
  cases z : ixN ds.length i with
  | none => rw [z] at e; cases e
  | some j =>
    rw [z] at e
    exact h.at e
theorem o_ixL {K : PySem.W.Frag} : Sim2 t (rIxL K) pIxL := fun F H x y d e Q Qp s ht vx vy p k => by
  obtain ⟨ds, i, v, rfl, rfl, ev, q⟩ := p
  obtain ⟨a, xs, rfl, h1, h2⟩ := vw_lst s vx
  obtain ⟨w, h3, h4⟩ := rpl_atI h2 ev
  exact ⟨a, xs, i, w, rfl, vw_int vy, .inl (.inl h1), h3, k.val s h4 q⟩
theorem o_ixT {K : PySem.W.Frag} : Sim2 t (rIxT K) pIxT := fun F H x y d e Q Qp s ht vx vy p k => by
  obtain ⟨ds, i, v, rfl, rfl, ev, q⟩ := p
  obtain ⟨a, xs, rfl, h1, h2⟩ := vw_tup vx
  obtain ⟨w, h3, h4⟩ := rpl_atI h2 ev
  exact ⟨a, xs, i, w, rfl, vw_int vy, .inl (.inl (s _ _ h1)), h3, k.val s h4 q⟩
theorem o_ixS : Sim2 t rIxS pIxS := fun F H x y d e Q Qp s ht vx vy p k => by
  obtain ⟨l, i, v, rfl, rfl, hl, ev, q⟩ := p
  exact ⟨S l, i, v, vw_str vx, vw_int vy, by rw [S_len]; exact le_line6 hl, ev, k.val s (d := .str [v]) rfl q⟩
theorem o_cat : Sim2 t rCat pCat := fun F H x y d e Q Qp s ht vx vy p k => by
  obtain ⟨a, b, rfl, rfl, hl, q⟩ := p
  obtain ⟨p1, xs, rfl, h1, h2⟩ := vw_lst s vx
  obtain ⟨p2, ys, rfl, h3, h4⟩ := vw_lst s vy
  exact ⟨p1, p2, xs, ys, rfl, rfl, h1, h3, by rw [h2.len, h4.len]; exact le_line6 hl, fun p np => k.new s ht (d := .lst (a ++ b)) np (show OO F (.lst (xs ++ ys)) (.lst (a ++ b)) from h2.app h4) q⟩
theorem o_catT {K : PySem.W.Frag} : Sim2 t (rCatA K) pCatT := fun F H x y d e Q Qp s ht vx vy p k => by
  obtain ⟨a, b, rfl, rfl, hl, q⟩ := p
  obtain ⟨p1, xs, rfl, h1, h2⟩ := vw_tup vx
  obtain ⟨p2, ys, rfl, h3, h4⟩ := vw_tup vy
  have l1 := h2.len
  have l2 := h4.len
  refine ⟨p1, p2, xs, ys, rfl, rfl, .inl (.inl (s _ _ h1)), .inl (.inl (s _ _ h3)), by rw [l1, l2]; exact le_line hl, fun z => ?_, fun _ z => ?_, fun _ _ p np => k.tup s np (h2.app h4) q⟩
  · subst z
    have : a = [] := List.length_eq_zero_iff.mp (by simpa using l1.symm)
    subst this
    exact k.val s (d := .tup b) ⟨p2, ys, rfl, h3, h4⟩ q
  · subst z
    have : b = [] := List.length_eq_zero_iff.mp (by simpa using l2.symm)
    subst this
    rw [List.append_nil] at q
    exact k.val s (d := .tup a) ⟨p1, xs, rfl, h1, h2⟩ q
theorem rpl_rep {F : Hp} {a : List D} {xs : List V} (h : RpL F a xs) : ∀ n : Nat, RpL F (List.replicate n a).flatten (List.replicate n xs).flatten
  | 0 => rfl
  | n + 1 => by
    rw [List.replicate_succ, List.replicate_succ, List.flatten_cons, List.flatten_cons]
    exact h.app (rpl_rep h n)
theorem o_rep : Sim2 t rRep pRep := fun F H x y d e Q Qp s ht vx vy p k => by
  obtain ⟨a, n, rfl, rfl, n0, n1, hl, q⟩ := p
  obtain ⟨p1, xs, rfl, h1, h2⟩ := vw_lst s vx
  exact ⟨p1, n, xs, rfl, vw_int vy, h1, by omega, by omega, by rw [h2.len]; exact Nat.le_trans hl (by decide), fun p np => k.new s ht np (show OO F (.lst _) (.lst _) from rpl_rep h2 n.toNat) q⟩
theorem o_lenS : Sim1 t (fun x => rLenStr [x]) pLenS := fun F H x d Q Qp s ht vx p k => by
  obtain ⟨l, rfl, hl, q⟩ := p
  have e := vw_str vx
  subst e
  refine ⟨S l, rfl, by rw [S_len]; exact le_line6 hl, k.val s (d := .int (l.length : Int)) ?_ q⟩
  rw [S_len]; exact rfl
theorem o_lenL {K : PySem.W.Frag} : Sim1 t (fun x => rLenSq K [x]) pLenL := fun F H x d Q Qp s ht vx p k => by
  obtain ⟨l, h, q⟩ := p
  rcases h with rfl | rfl
  · obtain ⟨p1, xs, rfl, h1, h2⟩ := vw_lst s vx
    exact ⟨p1, xs, rfl, .inl (.inl (.inl h1)), k.val s (d := .int (l.length : Int)) (by rw [h2.len]; exact rfl) q⟩
  · obtain ⟨p1, xs, rfl, h1, h2⟩ := vw_tup vx
    exact ⟨p1, xs, rfl, .inr (.inl (.inl (s _ _ h1))), k.val s (d := .int (l.length : Int)) (by rw [h2.len]; exact rfl) q⟩
theorem o_abs : Sim1 t (fun x => rAbs [x]) pAbs := fun F H x d Q Qp s ht vx p k => by
  obtain ⟨i, rfl, q⟩ := p
  exact ⟨i, by rw [vw_int vx], k.val s (d := .int _) rfl q⟩
theorem o_max2 : Sim2 t (fun x y => rMax2 [x, y]) pMax2 := fun F H x y d e Q Qp s ht vx vy p k => by
  obtain ⟨i, j, rfl, rfl, q⟩ := p
  exact ⟨i, j, by rw [vw_int vx, vw_int vy], k.val s (d := .int _) rfl q⟩
theorem o_min2 : Sim2 t (fun x y => rMin2 [x, y]) pMin2 := fun F H x y d e Q Qp s ht vx vy p k => by
  obtain ⟨i, j, rfl, rfl, q⟩ := p
  exact ⟨i, j, by rw [vw_int vx, vw_int vy], k.val s (d := .int _) rfl q⟩
theorem o_int1 : Sim1 t (fun x => rInt1 [x]) pInt1 := fun F H x d Q Qp s ht vx p k => by
  rcases p with ⟨i, rfl, q⟩ | ⟨b, rfl, q⟩
  · exact .inl ⟨i, by rw [vw_int vx], k.val s (d := .int i) rfl q⟩
  · exact .inr ⟨b, by rw [vw_bl vx], k.val s (d := .int _) rfl q⟩
theorem o_sum {K : PySem.W.Frag} : Sim1 t (fun x => rSum K [x]) pSum := fun F H x d Q Qp s ht vx p k => by
  obtain ⟨ns, rfl, q⟩ := p
  obtain ⟨p1, xs, rfl, h1, h2⟩ := vw_lst s vx
  have e := rpl_ints h2
  subst e
  exact ⟨p1, ns, rfl, .inl (.inl h1), k.val s (d := .int ns.sum) rfl q⟩
theorem o_minL {K : PySem.W.Frag} : Sim1 t (fun x => rMin K [x]) pMinL := fun F H x d Q Qp s ht vx p k => by
  obtain ⟨ns, rfl, hn, q⟩ := p
  obtain ⟨p1, xs, rfl, h1, h2⟩ := vw_lst s vx
  have e := rpl_ints h2
  subst e
  exact ⟨p1, ns, rfl, .inl (.inl h1), List.length_pos_iff.mpr hn, fun m hm hy => k.val s (d := .int m) rfl (q m hm hy)⟩
theorem o_maxL {K : PySem.W.Frag} : Sim1 t (fun x => rMax K [x]) pMaxL := fun F H x d Q Qp s ht vx p k => by
  obtain ⟨ns, rfl, hn, q⟩ := p
  obtain ⟨p1, xs, rfl, h1, h2⟩ := vw_lst s vx
  have e := rpl_ints h2
  subst e
  exact ⟨p1, ns, rfl, .inl (.inl h1), List.length_pos_iff.mpr hn, fun m hm hy => k.val s (d := .int m) rfl (q m hm hy)⟩
theorem o_listOf {K : PySem.W.Frag} : Sim1 t (fun x => rListOf K [x]) pListOf := fun F H x d Q Qp s ht vx p k => by
  obtain ⟨l, h, q⟩ := p
  rcases h with rfl | rfl
  · obtain ⟨p1, xs, rfl, h1, h2⟩ := vw_lst s vx
    exact ⟨p1, xs, rfl, .inl (.inl (.inl h1)), fun p np => k.new s ht np (show OO F (.lst xs) (.lst l) from h2) q⟩
  · obtain ⟨p1, xs, rfl, h1, h2⟩ := vw_tup vx
    exact ⟨p1, xs, rfl, .inr (.inl (.inl (s _ _ h1))), fun p np => k.new s ht np (show OO F (.lst xs) (.lst l) from h2) q⟩
theorem o_tupOf {K : PySem.W.Frag} : Sim1 t (fun x => rTupleOf K [x]) pTupOf := fun F H x d Q Qp s ht vx p k => by
  obtain ⟨l, h, q⟩ := p
  rcases h with rfl | rfl
  · obtain ⟨p1, xs, rfl, h1, h2⟩ := vw_lst s vx
    exact ⟨p1, xs, rfl, .inl ⟨.inl (.inl h1), fun p np => k.tup s np h2 q⟩⟩
  · obtain ⟨p1, xs, rfl, h1, h2⟩ := vw_tup vx
    exact ⟨p1, xs, rfl, .inr ⟨.inl (.inl (s _ _ h1)), k.val s (d := .tup l) ⟨p1, xs, rfl, h1, h2⟩ q⟩⟩
theorem rpl_cut {F : Hp} {ds : List D} {xs : List V} {lo hi : Option Int} (h : RpL F ds xs) : RpL F (cut ds lo hi) (cutV xs lo hi) := by
  unfold cut cutV
  rw [h.len]
  exact (h.drop _).take _
theorem o_slS : SimSl t rSlS pSlS := fun F H x d lo hi Q Qp s ht vx p k => by
  obtain ⟨l, rfl, hl, q⟩ := p
  have e := vw_str vx
  subst e
  refine ⟨S l, rfl, by rw [S_len]; exact le_line6 hl, k.val s (d := .str (cut l lo hi)) ?_ q⟩
  unfold cut
  show V.str (cutS (S l) lo hi) = _
  unfold cutS
  rw [S_len]
theorem o_slL {K : PySem.W.Frag} : SimSl t (rSlL K) pSlL := fun F H x d lo hi Q Qp s ht vx p k => by
  obtain ⟨l, rfl, q⟩ := p
  obtain ⟨p1, xs, rfl, h1, h2⟩ := vw_lst s vx
  exact ⟨p1, xs, rfl, .inl (.inl h1), fun p np => k.new s ht np (show OO F (.lst _) (.lst _) from rpl_cut h2) q⟩
theorem o_slT {K : PySem.W.Frag} : SimSl t (rSlA K) pSlT := fun F H x d lo hi Q Qp s ht vx p k => by
  obtain ⟨l, rfl, q⟩ := p
  obtain ⟨p1, xs, rfl, h1, h2⟩ := vw_tup vx
  refine ⟨p1, xs, rfl, .inl (.inl (s _ _ h1)), fun z => ?_, fun _ p np => k.tup s np (rpl_cut h2) q⟩
  have e : cut l lo hi = l := by
    unfold cut
    rw [← h2.len, z.1, z.2, List.drop_zero, Nat.sub_zero, h2.len, List.take_length]
  rw [e] at q
  exact k.val s (d := .tup l) ⟨p1, xs, rfl, h1, h2⟩ q
theorem o_join {K : PySem.W.Frag} : Sim2 t (fun x y => rJoin K x [y]) pJoin := fun F H x y d e Q Qp s ht vx vy p k => by
  obtain ⟨a, ys, rfl, h, hl, q⟩ := p
  have fin : ∀ p1, (SqL K H p1 ((ys.map S).map V.str) ∨ SqT K H p1 ((ys.map S).map V.str)) → y = .ref p1 → rJoin K x [y] H Q := fun p1 h1 e => by
    refine ⟨S a, p1, ys.map S, vw_str vx, by rw [e], h1, ?_, k.val s (d := .str _) ?_ q⟩
    · have e1 : (ys.map S).map (·.length) = ys.map (·.length) := by
        rw [List.map_map]
        apply List.map_congr_left
        intro z _
        exact S_len z
      rw [e1, List.length_map, S_len]
      exact Nat.le_trans hl (by decide)
    · show V.str _ = V.str (S _)
      rw [S_cps]
  rcases h with rfl | rfl
  · obtain ⟨p1, xs, rfl, h1, h2⟩ := vw_lst s vy
    rw [rpl_strs h2] at h1
    exact fin p1 (.inl (.inl (.inl h1))) rfl
  · obtain ⟨p1, xs, rfl, h1, h2⟩ := vw_tup vy
    rw [rpl_strs h2] at h1
    exact fin p1 (.inr (.inl (.inl (s _ _ h1)))) rfl
theorem flat_ints (ns : List Int) : (ns.map V.int).all flatV = true := by simp [flatV]
theorem flat_strs (ns : List (List Nat)) : ((ns.map S).map V.str).all flatV = true := by simp [flatV]
theorem inV_int (i : Int) (ns : List Int) : inV (.int i) (ns.map V.int) = decide (i ∈ ns) := by
  unfold inV
  rw [List.any_map]
  induction ns with
  | nil => rfl
  | cons a ns ih =>
    rw [List.any_cons, ih]
    show ((a == i) || decide (i ∈ ns)) = decide (i ∈ a :: ns)
    by_cases h : i = a
    · subst h; simp
    · simp [h, Ne.symm h]
theorem inV_str (i : List Nat) (ns : List (List Nat)) : inV (.str (S i)) ((ns.map S).map V.str) = decide (i ∈ ns) := by
  unfold inV
  rw [List.any_map, List.any_map]
  induction ns with
  | nil => rfl
  | cons a ns ih =>
    rw [List.any_cons, ih]
    show ((S a == S i) || decide (i ∈ ns)) = decide (i ∈ a :: ns)
    by_cases h : i = a
    · subst h; simp
    · have : (S a == S i) = false := by
        rw [beq_eq_false_iff_ne]
        intro z
        exact h (S_inj z).symm
      simp [h, this]
theorem o_in {K : PySem.W.Frag} {neg : Bool} : Sim2 t (rIn K neg) (pIn neg) := fun F H x y d e Q Qp s ht vx vy p k => by
  rcases p with ⟨i, ns, rfl, h, q⟩ | ⟨i, ns, rfl, h, q⟩
  · rcases h with rfl | rfl
    · obtain ⟨p1, xs, rfl, h1, h2⟩ := vw_lst s vy
      rw [rpl_ints h2] at h1
      have e := vw_int vx
      subst e
      exact ⟨p1, _, rfl, .inl (.inl (.inl h1)), rfl, flat_ints ns, by rw [inV_int]; exact k.val s (d := .bl _) rfl q⟩
    · obtain ⟨p1, xs, rfl, h1, h2⟩ := vw_tup vy
      rw [rpl_ints h2] at h1
      have e := vw_int vx
      subst e
      exact ⟨p1, _, rfl, .inr (.inl (.inl (s _ _ h1))), rfl, flat_ints ns, by rw [inV_int]; exact k.val s (d := .bl _) rfl q⟩
  · rcases h with rfl | rfl
    · obtain ⟨p1, xs, rfl, h1, h2⟩ := vw_lst s vy
      rw [rpl_strs h2] at h1
      have e := vw_str vx
      subst e
      exact ⟨p1, _, rfl, .inl (.inl (.inl h1)), rfl, flat_strs ns, by rw [inV_str]; exact k.val s (d := .bl _) rfl q⟩
    · obtain ⟨p1, xs, rfl, h1, h2⟩ := vw_tup vy
      rw [rpl_strs h2] at h1
      have e := vw_str vx
      subst e
      exact ⟨p1, _, rfl, .inr (.inl (.inl (s _ _ h1))), rfl, flat_strs ns, by rw [inV_str]; exact k.val s (d := .bl _) rfl q⟩
end
end Sw
end
section
local macro_rules | `(tactic| walk_at "go1") => `(tactic| first
  | with_reducible refine Sw.g_seqasg ?_ | with_reducible refine Sw.g_op ?_ | with_reducible refine Sw.g_var rfl ?_ | with_reducible refine Sw.g_c ?_ | with_reducible refine Sw.g_I0 ?_
  | with_reducible refine Sw.g_cons ?_ | with_reducible refine Sw.g_nil ?_ | with_reducible refine Sw.g_call ?_ | with_reducible refine Sw.g_cb ?_ | with_reducible refine Sw.g_test ?_ | with_reducible refine Sw.g_bl ?_
  | with_reducible refine Sw.g_seqdrop ?_ | with_reducible refine Sw.g_seqsub ?_ | with_reducible refine Sw.g_asg ?_ | with_reducible refine Sw.g_asgsub ?_ | with_reducible refine Sw.g_ret ?_ | with_reducible refine Sw.g_drop ?_ | with_reducible refine Sw.g_if ?_ | with_reducible refine Sw.g_next ?_ | with_reducible refine Sw.g_name ?_
  | with_reducible refine Sw.g_B ?_ | with_reducible refine Sw.g_not ?_ | with_reducible refine Sw.g_and ?_ | with_reducible refine Sw.g_or ?_ | with_reducible refine Sw.g_andV ?_ | with_reducible refine Sw.g_orV ?_ | with_reducible refine Sw.g_notV ?_
  | with_reducible refine Sw.g_ifE ?_ | with_reducible refine Sw.g_chain ?_ | with_reducible refine Sw.g_un ?_ | with_reducible refine Sw.g_tup ?_ | with_reducible refine Sw.g_lst ?_ | with_reducible refine Sw.g_sl ?_ | with_reducible refine Sw.g_part ?_ | with_reducible refine Sw.g_nopart ?_
  | with_reducible refine Sw.g_U ?_ | with_reducible refine Sw.g_eq rfl ?_ | with_reducible refine Sw.g_ne rfl ?_ | with_reducible refine Sw.g_int ?_ | with_reducible refine Sw.g_yes ?_ | with_reducible refine L2.iteT ?_ | with_reducible refine L2.iteF ?_ | with_reducible refine Sw.iteNT ?_ | with_reducible refine Sw.iteNF ?_ | with_reducible refine Sw.g_m1 ?_ | with_reducible refine Sw.g_bm ?_ | with_reducible refine ⟨Sw.ty_lst (by assumption), ?_⟩ | with_reducible refine Sw.g_sput ?_ | with_reducible refine Sw.g_put ?_ | with_reducible refine Sw.g_dget2 ?_ | with_reducible refine Sw.g_dget ?_ | with_reducible refine Sw.g_dK ?_ | with_reducible refine Sw.g_dT ?_ | with_reducible refine Sw.g_dnotin ?_ | with_reducible refine Sw.g_din ?_ | with_reducible refine Sw.g_bm0 ?_
  | with_reducible refine Sw.g_ixL (by assumption) rfl ?_ | with_reducible refine Sw.g_ixT (by assumption) rfl ?_)
local macro_rules | `(tactic| walk_at "go") => `(tactic| repeat walk_at "go1")
local macro_rules | `(tactic| walk_at "bd") => `(tactic| repeat (first | with_reducible exact Sw.all_nil | refine Sw.all_cons ⟨_, rfl, by omega, by omega⟩ ?_))
local macro_rules | `(tactic| walk_at "new") => `(tactic| (refine ⟨Nat.le_of_ble_eq_true rfl, fun p np => ?_⟩; generalize hX : L2.upd _ p _ = H'; have sm : L2.Same _ H' := hX ▸ Sw.same_upd np; have hp : H' p = some _ := hX ▸ L2.upd_same; clear hX))
namespace Sw
open PySem PySem.Spec PyProof.Rows L2 SX
/-! ### states that change -/
section
variable {K : PySem.W.Frag} {c : Cl} {t : Option Addr} {F0 H0 L F H F' H' : Hp} {δ : DS} {σ : L2.St} {i : Nat} {x : V} {d d' : D}
theorem set_at {α : Type} {l : List α} {i j : Nat} {v w : α} (h : (l.set i v)[j]? = some w) : (i = j ∧ w = v ∧ i < l.length) ∨ (i ≠ j ∧ l[j]? = some w) := by
  rw [List.getElem?_set] at h
  by_cases e : i = j
  · subst e
    rw [if_pos rfl] at h
    by_cases z : i < l.length
    · rw [if_pos z] at h; exact .inl ⟨rfl, (Option.some.inj h).symm, z⟩
    · rw [if_neg z] at h; cases h
  · rw [if_neg e] at h; exact .inr ⟨e, h⟩
theorem set_self {α : Type} {l : List α} {i : Nat} {v : α} (h : i < l.length) : (l.set i v)[i]? = some v := by rw [List.getElem?_set, if_pos rfl, if_pos h]
theorem set_other {α : Type} {l : List α} {i j : Nat} {v : α} (h : i ≠ j) : (l.set i v)[j]? = l[j]? := by rw [List.getElem?_set, if_neg h]
theorem RS.setS (r : RS K t F0 H0 L F δ σ H) (h : Rp F d x) : RS K t F0 H0 L F (δ.set i (some (.sh d))) (σ.set i (some x)) H where
  st := {
    s := r.st.s
    tp := r.st.tp
    len := by rw [List.length_set, List.length_set]; exact r.st.len
    sl := fun j v e => by
      rcases set_at e with ⟨rfl, e2, hl⟩ | ⟨ne, e2⟩
      · cases e2
        exact ⟨x, set_self (by rw [r.st.len]; exact hl), h⟩
      · obtain ⟨y, h1, h2⟩ := r.st.sl j v e2
        exact ⟨y, by rw [set_other ne]; exact h1, h2⟩
    ne := fun a b d1 d2 y e1 e2 e3 e4 => by
      rcases set_at e1 with ⟨_, z, _⟩ | ⟨n1, e1⟩
      · cases z
      rcases set_at e2 with ⟨_, z, _⟩ | ⟨n2, e2⟩
      · cases z
      rw [set_other n1] at e3
      rw [set_other n2] at e4
      exact r.st.ne a b d1 d2 y e1 e2 e3 e4 }
  g := r.g
  lo := r.lo
  fr := fun j e l e1 e2 => by
    rcases set_at e1 with ⟨_, z, _⟩ | ⟨n1, e1⟩
    · cases z
    rw [set_other n1] at e2
    exact r.fr j e l e1 e2
  dr := r.dr
theorem RS.setO (r : RS K t F0 H0 L F δ σ H) (g : Grow t F H F' H') (h : RV t H F' H' x .ow d) : RS K t F0 H0 L F' (δ.set i (some (.ow d))) (σ.set i (some x)) H' := by
  have r' := r.grow g
  obtain ⟨l, o, rfl, h0, h1, h2, h3, h4⟩ := h
  have old : ∀ (j : Nat) (e : D) (y : V), δ[j]? = some (some (.ow e)) → σ[j]? = some (some y) → y ≠ .ref l := fun j e y e1 e2 z => by
    obtain ⟨y', q1, l', o', q2, q3, _⟩ := r.st.sl j _ e1
    rw [e2] at q1
    cases q1
    rw [z] at q2
    cases q2
    rw [h0] at q3
    cases q3
  exact {
    st := {
      s := r'.st.s
      tp := r'.st.tp
      len := by rw [List.length_set, List.length_set]; exact r.st.len
      sl := fun j v e => by
        rcases set_at e with ⟨rfl, e2, hl⟩ | ⟨ne, e2⟩
        · cases e2
          exact ⟨.ref l, set_self (by rw [r.st.len]; exact hl), l, o, rfl, h1, h2, h3, h4⟩
        · obtain ⟨y, h1, h2⟩ := r'.st.sl j v e2
          exact ⟨y, by rw [set_other ne]; exact h1, h2⟩
      ne := fun a b d1 d2 y e1 e2 e3 e4 => by
        rcases set_at e1 with ⟨rfl, z1, l1⟩ | ⟨n1, e1⟩
        · rcases set_at e2 with ⟨rfl, z2, l2⟩ | ⟨n2, e2⟩
          · rfl
          · rw [set_self (by rw [r.st.len]; exact l1)] at e3
            rw [set_other n2] at e4
            cases e3
            exact absurd rfl (old b d2 _ e2 e4)
        · rcases set_at e2 with ⟨rfl, z2, l2⟩ | ⟨n2, e2⟩
          · rw [set_self (by rw [r.st.len]; exact l2)] at e4
            rw [set_other n1] at e3
            cases e4
            exact absurd rfl (old a d1 _ e1 e3)
          · rw [set_other n1] at e3
            rw [set_other n2] at e4
            exact r.st.ne a b d1 d2 y e1 e2 e3 e4 }
    g := r'.g
    lo := r'.lo
    fr := fun j e l' e1 e2 => by
      rcases set_at e1 with ⟨rfl, z, l1⟩ | ⟨n1, e1⟩
      · rw [set_self (by rw [r.st.len]; exact l1)] at e2
        cases e2
        exact r.g.pre h0
      · rw [set_other n1] at e2
        exact r.fr j e l' e1 e2
    dr := r.dr }
/-- the object of slot i's own is changed -/
theorem RS.upd (r : RS K t F0 H0 L F δ σ H) {l : Addr} {o : HO} (hi : δ[i]? = some (some (.ow d))) (hx : σ[i]? = some (some (.ref l))) (h : OO F o d') : RS K t F0 H0 L F (δ.set i (some (.ow d'))) σ (upd H l o) := by
  obtain ⟨y, q1, l', o', q2, q3, q4, q5, q6⟩ := r.st.sl i _ hi
  rw [hx] at q1
  cases q1
  cases q2
  have hil : i < δ.length := (List.getElem?_eq_some_iff.mp hi).1
  have h0 := r.fr i d l hi hx
  have sF : Same F (L2.upd H l o) := fun b z e => by rw [upd_ne (ne_of_none e q4)]; exact r.st.s b z e
  have dr1 : ∀ a, t = some a → Dr H a → Dr (L2.upd H l o) a := fun a e h => by
    obtain ⟨c1, s1, p1, z1, z2⟩ := h
    exact ⟨c1, s1, p1, by rw [upd_ne (fun w => q5 (by rw [e, w]))]; exact z1, z2⟩
  exact {
    st := {
      s := sF
      tp := fun a e => ⟨dr1 a e (r.st.tp a e).1, (r.st.tp a e).2⟩
      len := by rw [List.length_set]; exact r.st.len
      sl := fun j v e => by
        rcases set_at e with ⟨rfl, e2, hl⟩ | ⟨ne, e2⟩
        · cases e2
          exact ⟨.ref l, hx, l, o, rfl, upd_same, q4, q5, h⟩
        · obtain ⟨y, h1, h2⟩ := r.st.sl j v e2
          refine ⟨y, h1, ?_⟩
          cases v with
          | sh d => exact h2
          | tp => exact h2
          | sc ns => exact h2
          | ow d2 =>
            obtain ⟨l2, o2, w1, w2, w3⟩ := h2
            refine ⟨l2, o2, w1, ?_, w3⟩
            rw [upd_ne (fun z => ne (r.st.ne i j d d2 (.ref l) hi e2 hx (by rw [h1, w1, z])))]
            exact w2
      ne := fun a b d1 d2 y e1 e2 e3 e4 => by
        have f1 : ∃ z, δ[a]? = some (some (.ow z)) := by
          rcases set_at e1 with ⟨rfl, _, _⟩ | ⟨_, e⟩
          · exact ⟨d, hi⟩
          · exact ⟨d1, e⟩
        have f2 : ∃ z, δ[b]? = some (some (.ow z)) := by
          rcases set_at e2 with ⟨rfl, _, _⟩ | ⟨_, e⟩
          · exact ⟨d, hi⟩
          · exact ⟨d2, e⟩
        obtain ⟨z1, f1⟩ := f1
        obtain ⟨z2, f2⟩ := f2
        exact r.st.ne a b z1 z2 y f1 f2 e3 e4 }
    g := {
      z := r.g.z
      f := r.g.f
      h := fun b o1 e n => by rw [upd_ne (ne_of_none e h0)]; exact r.g.h b o1 e n
      d := fun b e z => by
        by_cases hb : b = l
        · subst hb; rw [upd_same] at z; cases z
        · rw [upd_ne hb] at z; exact r.g.d b e z
      n := r.g.n
      s := sF
      t := fun a e h => dr1 a e (r.g.t a e h) }
    lo := r.lo
    fr := fun j e l2 e1 e2 => by
      rcases set_at e1 with ⟨rfl, _, _⟩ | ⟨_, e1⟩
      · exact r.fr i d l2 hi e2
      · exact r.fr j e l2 e1 e2
    dr := r.dr }
/-- the object of slot i's own is frozen -/
theorem RS.freeze (r : RS K t F0 H0 L F δ σ H) (hi : δ[i]? = some (some (.ow d))) : ∃ F', Same F F' ∧ RS K t F0 H0 L F' (δ.set i (some (.sh d))) σ H := by
  obtain ⟨y, hx, l, o, rfl, q3, q4, q5, q6⟩ := r.st.sl i _ hi
  have h0 := r.fr i d l hi hx
  have sF : Same F (L2.upd F l o) := same_upd q4
  refine ⟨L2.upd F l o, sF, ?_⟩
  have g := r.g.freeze h0 q3
  exact {
    st := {
      s := g.s
      tp := fun a e => ⟨(r.st.tp a e).1, by rw [upd_ne (fun w => q5 (by rw [e, w]))]; exact (r.st.tp a e).2⟩
      len := by rw [List.length_set]; exact r.st.len
      sl := fun j v e => by
        rcases set_at e with ⟨rfl, e2, hl⟩ | ⟨ne, e2⟩
        · cases e2
          exact ⟨.ref l, hx, q6.rp q4⟩
        · obtain ⟨y, h1, h2⟩ := r.st.sl j v e2
          refine ⟨y, h1, ?_⟩
          cases v with
          | sh d => exact Rp.mono (.of sF) h2
          | tp => exact h2
          | sc ns => obtain ⟨a, w1, w2⟩ := h2; exact ⟨a, w1, sF.seq w2⟩
          | ow d2 =>
            obtain ⟨l2, o2, w1, w2, w3, w4, w5⟩ := h2
            refine ⟨l2, o2, w1, w2, ?_, w4, w5.mono (.of sF)⟩
            rw [upd_ne (fun z => ne (r.st.ne i j d d2 (.ref l) hi e2 hx (by rw [h1, w1, z])))]
            exact w3
      ne := fun a b d1 d2 y e1 e2 e3 e4 => by
        rcases set_at e1 with ⟨_, z, _⟩ | ⟨n1, e1⟩
        · cases z
        rcases set_at e2 with ⟨_, z, _⟩ | ⟨n2, e2⟩
        · cases z
        exact r.st.ne a b d1 d2 y e1 e2 e3 e4 }
    g := g
    lo := r.lo.trans sF
    fr := fun j e l2 e1 e2 => by
      rcases set_at e1 with ⟨_, z, _⟩ | ⟨_, e1⟩
      · cases z
      · exact r.fr j e l2 e1 e2
    dr := r.dr }
/-- a slot is forgotten -/
theorem RS.setN (r : RS K t F0 H0 L F δ σ H) {y : Option V} : RS K t F0 H0 L F (δ.set i none) (σ.set i y) H where
  st := {
    s := r.st.s
    tp := r.st.tp
    len := by rw [List.length_set, List.length_set]; exact r.st.len
    sl := fun j v e => by
      rcases set_at e with ⟨rfl, e2, hl⟩ | ⟨ne, e2⟩
      · cases e2
      · obtain ⟨y, h1, h2⟩ := r.st.sl j v e2
        exact ⟨y, by rw [set_other ne]; exact h1, h2⟩
    ne := fun a b d1 d2 y e1 e2 e3 e4 => by
      rcases set_at e1 with ⟨_, z, _⟩ | ⟨n1, e1⟩
      · cases z
      rcases set_at e2 with ⟨_, z, _⟩ | ⟨n2, e2⟩
      · cases z
      rw [set_other n1] at e3
      rw [set_other n2] at e4
      exact r.st.ne a b d1 d2 y e1 e2 e3 e4 }
  g := r.g
  lo := r.lo
  fr := fun j e l e1 e2 => by
    rcases set_at e1 with ⟨_, z, _⟩ | ⟨n1, e1⟩
    · cases z
    rw [set_other n1] at e2
    exact r.fr j e l e1 e2
  dr := r.dr
end
/-! ### readings of data: statements -/
abbrev SV.of : Md → D → SV
  | .ow, d => .ow d
  | _, d => .sh d
def qNext : QS := fun P δ => P.nx δ
def qSeq (a b : QS) : QS := fun P δ => a { P with nx := b P } δ
def qAsg (e : QE) (i : Nat) : QS := fun P δ => e δ fun m d => m ≠ .pk ∧ P.nx (δ.set i (some (SV.of m d)))
def qDrop (e : QE) : QS := fun P δ => e δ fun _ _ => P.nx δ
def qRet (e : QE) : QS := fun P δ => e δ fun m d => m ≠ .pk ∧ P.rt m d
def qRetV (i : Nat) : QS := fun P δ => ∃ s, δ[i]? = some (some s) ∧ match s with | .sh d => P.rt .sh d | .ow d => P.rt .ow d | _ => False
def qRetN : QS := fun P _ => P.rt .sh .non
def qIfS (t : QT) (a b : QS) : QS := fun P δ => t δ fun k => if k = true then a P δ else b P δ
def qNever : QS := fun _ _ => False
def qBreak : QS := fun P δ => P.bk δ
def qCont : QS := fun P δ => P.ct δ
def qFrz (i : Nat) (q : QS) : QS := fun P δ => ∃ s, δ[i]? = some (some s) ∧ match s with | .ow d => q P (δ.set i (some (.sh d))) | _ => q P δ
def qRaise (Ep : XP) (n : Nat) : QS := fun _ δ => Ep δ n
def qApp (i : Nat) (e : QE) : QS := fun P δ => e δ fun m d => ∃ ds, δ[i]? = some (some (.ow (.lst ds))) ∧ m ≠ .pk ∧ ds.length ≤ 1000000 ∧ P.nx (δ.set i (some (.ow (.lst (ds ++ [d])))))
def qExt (i : Nat) (e : QE) : QS := fun P δ => e δ fun _ d => ∃ ds es, δ[i]? = some (some (.ow (.lst ds))) ∧ d = .lst es ∧ ds.length + es.length ≤ 1000000 ∧ P.nx (δ.set i (some (.ow (.lst (ds ++ es)))))
def qPutK (i : Nat) (k e : QE) : QS := fun P δ => e δ fun m d => k δ fun _ y => ∃ kvs key, δ[i]? = some (some (.ow (.dK kvs))) ∧ y = dKey key ∧ m ≠ .pk ∧ kvs.length ≤ 1000000 ∧ P.nx (δ.set i (some (.ow (.dK (putD kvs key d)))))
def qPutT (i : Nat) (k e : QE) : QS := fun P δ => e δ fun m d => k δ fun _ y => ∃ kvs ks, δ[i]? = some (some (.ow (.dT kvs))) ∧ y = .tup (ks.map dKey) ∧ m ≠ .pk ∧ kvs.length ≤ 1000000 ∧ P.nx (δ.set i (some (.ow (.dT (putD kvs ks d)))))
def qSetL (i : Nat) (j e : QE) : QS := fun P δ => e δ fun m d => j δ fun _ y => ∃ ds n k, δ[i]? = some (some (.ow (.lst ds))) ∧ y = .int n ∧ m ≠ .pk ∧ ixN ds.length n = some k ∧ P.nx (δ.set i (some (.ow (.lst (ds.set k d)))))
section
variable {K : PySem.W.Frag} {c : Cl} {t : Option Addr} {E : XE} {Ep : XP} {te ta tb : TE} {qe qa qb : QE} {tt : TT} {qt : QT} {ts tu : TS} {qs qu : QS} {i : Nat}
theorem s_next : SimS K c t E Ep tNext qNext := fun F0 H0 L F δ σ H De Dp er rs en hq => en.nx F δ σ H rs hq
theorem s_seq (ha : SimS K c t E Ep ts qs) (hb : SimS K c t E Ep tu qu) : SimS K c t E Ep (tSeq ts tu) (qSeq qs qu) := fun F0 H0 L F δ σ H De Dp er rs en hq =>
  ha F0 H0 L F δ σ H _ { Dp with nx := qu Dp } er rs ⟨fun F1 δ1 σ1 H1 r1 q1 => hb F0 H0 L F1 δ1 σ1 H1 De Dp er r1 en q1, en.rt, en.bk, en.ct⟩ hq
theorem s_asg (he : SimE K c t E Ep te qe) : SimS K c t E Ep (tAsg te (gName i)) (qAsg qe i) := fun F0 H0 L F δ σ H De Dp er rs en hq =>
  he F0 H0 L F δ σ H _ _ er rs hq fun x F1 H1 m d g rv q => by
    cases m with
    | sh => exact en.nx F1 _ _ H1 ((rs.grow g).setS rv) q.2
    | pk => exact absurd rfl q.1
    | ow => exact en.nx F1 _ _ H1 (rs.setO g rv) q.2
    | ot => obtain ⟨F2, g2, v2, r2⟩ := rv.view g; exact en.nx F2 _ _ H1 ((rs.grow g2).setS (r2 (by decide))) q.2
theorem s_drop (he : SimE K c t E Ep te qe) : SimS K c t E Ep (tDrop te) (qDrop qe) := fun F0 H0 L F δ σ H De Dp er rs en hq =>
  he F0 H0 L F δ σ H _ _ er rs hq fun x F1 H1 m d g rv q => en.nx F1 δ σ H1 (rs.grow g) q
theorem s_ret (he : SimE K c t E Ep te qe) : SimS K c t E Ep (tRet te) (qRet qe) := fun F0 H0 L F δ σ H De Dp er rs en hq =>
  he F0 H0 L F δ σ H _ _ er rs hq fun x F1 H1 m d g rv q => en.rt F1 H1 x m d (rs.g.trans' g rs.dr) (rs.lo.trans g.f) (rs.grow g).st.tp (rv.pre rs.g) q.1 q.2
theorem s_retV : SimS K c t E Ep (tRet (tVar i)) (qRetV i) := fun F0 H0 L F δ σ H De Dp er rs en hq => by
  obtain ⟨s, h1, h2⟩ := hq
  obtain ⟨x, h3, h4⟩ := rs.st.sl i s h1
  refine ⟨x, h3, ?_⟩
  cases s with
  | sh d => exact en.rt F H x .sh d rs.g rs.lo rs.st.tp h4 (by decide) h2
  | ow d =>
    obtain ⟨l, o, rfl, q3, q4, q5, q6⟩ := h4
    exact en.rt F H (.ref l) .ow d rs.g rs.lo rs.st.tp ⟨l, o, rfl, rs.fr i d l h1 h3, q3, q4, q5, q6⟩ (by decide) h2
  | tp => exact False.elim h2
  | sc ns => exact False.elim h2
theorem s_retN : SimS K c t E Ep tRetN qRetN := fun F0 H0 L F δ σ H De Dp er rs en hq => en.rt F H .non .sh .non rs.g rs.lo rs.st.tp rfl (by decide) hq
theorem s_ifS (ht : SimT K c t E Ep tt qt) (ha : SimS K c t E Ep ts qs) (hb : SimS K c t E Ep tu qu) : SimS K c t E Ep (tIfS tt ts tu) (qIfS qt qs qu) := fun F0 H0 L F δ σ H De Dp er rs en hq =>
  ht F0 H0 L F δ σ H _ _ er rs hq fun b F1 H1 g q => by
    cases b with
    | true => exact ha F0 H0 L F1 δ σ H1 De Dp er (rs.grow g) en q
    | false => exact hb F0 H0 L F1 δ σ H1 De Dp er (rs.grow g) en q
theorem s_never : SimS K c t E Ep tNever qNever := fun F0 H0 L F δ σ H De Dp er rs en hq => False.elim hq
theorem s_break : SimS K c t E Ep tBreak qBreak := fun F0 H0 L F δ σ H De Dp er rs en hq => en.bk F δ σ H rs hq
theorem s_cont : SimS K c t E Ep tCont qCont := fun F0 H0 L F δ σ H De Dp er rs en hq => en.ct F δ σ H rs hq
theorem s_frz (h : SimS K c t E Ep ts qs) : SimS K c t E Ep ts (qFrz i qs) := fun F0 H0 L F δ σ H De Dp er rs en hq => by
  obtain ⟨s, h1, h2⟩ := hq
  cases s with
  | ow d =>
    obtain ⟨F', _, r'⟩ := rs.freeze h1
    exact h F0 H0 L F' _ σ H De Dp er r' en h2
  | sh d => exact h F0 H0 L F δ σ H De Dp er rs en h2
  | tp => exact h F0 H0 L F δ σ H De Dp er rs en h2
  | sc ns => exact h F0 H0 L F δ σ H De Dp er rs en h2
theorem s_raise {e : XK} {ep : XP} {n : Nat} : SimS K c t (fun _ => e) ep (tRaise e (c.at n)) (qRaise ep n) := fun F0 H0 L F δ σ H De Dp er rs en hq => er n F δ σ H rs hq
/-- the object of a slot's own, with what stands there -/
theorem RS.own {F0 H0 L F H : Hp} {δ : DS} {σ : L2.St} {d : D} (r : RS K t F0 H0 L F δ σ H) (hi : δ[i]? = some (some (.ow d))) : ∃ l o, σ[i]? = some (some (.ref l)) ∧ H l = some o ∧ F l = none ∧ some l ≠ t ∧ OO F o d := by
  obtain ⟨y, hx, l, o, rfl, q3, q4, q5, q6⟩ := r.st.sl i _ hi
  exact ⟨l, o, hx, q3, q4, q5, q6⟩
theorem oo_lst {F : Hp} {o : HO} {ds : List D} (h : OO F o (.lst ds)) : ∃ xs, o = .lst xs ∧ RpL F ds xs := by
  cases o <;> first | exact ⟨_, rfl, h⟩ | exact False.elim h
theorem oo_dK {F : Hp} {o : HO} {ds : List (Key × D)} (h : OO F o (.dK ds)) : ∃ xs, o = .dK xs ∧ RpK F ds xs := by
  cases o <;> first | exact ⟨_, rfl, h⟩ | exact False.elim h
theorem oo_dT {F : Hp} {o : HO} {ds : List (List Key × D)} (h : OO F o (.dT ds)) : ∃ xs, o = .dT xs ∧ RpT F ds xs := by
  cases o <;> first | exact ⟨_, rfl, h⟩ | exact False.elim h
/-- the slot's value, before its argument is looked at -/
theorem RS.slotv {F0 H0 L F H : Hp} {δ : DS} {σ : L2.St} (r : RS K t F0 H0 L F δ σ H) : ∀ d, δ[i]? = some (some (.ow d)) → ∃ l, σ[i]? = some (some (.ref l)) := fun d h => by
  obtain ⟨l, _, h1, _⟩ := r.own h
  exact ⟨l, h1⟩
theorem s_app (K' : PySem.W.Frag) (he : SimE K c t E Ep te qe) : SimS K c t E Ep (tDrop (tBM K' "list" rAppend (tVar i) (tCons te tNil))) (fun P δ => (∃ d, δ[i]? = some (some (.ow (.lst d)))) ∧ qApp i qe P δ) := fun F0 H0 L F δ σ H De Dp er rs en hq => by
  obtain ⟨⟨d0, h0⟩, hq⟩ := hq
  obtain ⟨l, o, hx, hl, hf, hn, ho⟩ := rs.own h0
  obtain ⟨xs0, rfl, _⟩ := oo_lst ho
  refine ⟨.ref l, hx, ty_lst hl, ?_⟩
  refine he.vw er rs hq fun y F1 H1 m d g v rp q => ?_
  obtain ⟨ds, h1, hm, hz, q2⟩ := q
  have r1 := rs.grow g
  obtain ⟨l', o', hx', hl', hf', hn', ho'⟩ := r1.own h1
  rw [hx] at hx'
  cases hx'
  obtain ⟨xs, rfl, hrl⟩ := oo_lst ho'
  refine ⟨l, xs, y, rfl, rfl, hl', by rw [hrl.len]; exact Nat.lt_of_le_of_lt hz (by decide), ?_⟩
  exact en.nx F1 _ σ _ (r1.upd h1 hx (show OO F1 (.lst (xs ++ [y])) (.lst (ds ++ [d])) from hrl.app (.one (rp hm)))) q2
theorem s_ext (K' : PySem.W.Frag) (he : SimE K c t E Ep te qe) : SimS K c t E Ep (tDrop (tBM K' "list" rExtend (tVar i) (tCons te tNil))) (fun P δ => (∃ d, δ[i]? = some (some (.ow (.lst d)))) ∧ qExt i qe P δ) := fun F0 H0 L F δ σ H De Dp er rs en hq => by
  obtain ⟨⟨d0, h0⟩, hq⟩ := hq
  obtain ⟨l, o, hx, hl, hf, hn, ho⟩ := rs.own h0
  obtain ⟨xs0, rfl, _⟩ := oo_lst ho
  refine ⟨.ref l, hx, ty_lst hl, ?_⟩
  refine he.vw er rs hq fun y F1 H1 m d g v rp q => ?_
  obtain ⟨ds, es, h1, rfl, hz, q2⟩ := q
  have r1 := rs.grow g
  obtain ⟨l', o', hx', hl', hf', hn', ho'⟩ := r1.own h1
  rw [hx] at hx'
  cases hx'
  obtain ⟨xs, rfl, hrl⟩ := oo_lst ho'
  obtain ⟨b, ys, rfl, hb, hrb⟩ := vw_lst g.s v
  refine ⟨l, b, xs, ys, rfl, rfl, hl', hb, by rw [hrl.len, hrb.len]; exact le_line6 hz, ?_⟩
  exact en.nx F1 _ σ _ (r1.upd h1 hx (show OO F1 (.lst (xs ++ ys)) (.lst (ds ++ es)) from hrl.app hrb)) q2
theorem s_putK (he : SimE K c t E Ep te qe) (hk : SimE K c t E Ep ta qa) : SimS K c t E Ep (sDPut (tVar i) ta te) (fun P δ => (∃ d, δ[i]? = some (some (.ow (.dK d)))) ∧ qPutK i qa qe P δ) := fun F0 H0 L F δ σ H De Dp er rs en hq => by
  obtain ⟨⟨d0, h0⟩, hq⟩ := hq
  obtain ⟨l, _, hx, _⟩ := rs.own h0
  refine he.vw er rs hq fun v F1 H1 m d g vv rp q => ?_
  have r1 := rs.grow g
  refine ⟨.ref l, hx, ?_⟩
  refine hk.vw er r1 q fun y F2 H2 m2 d2 g2 v2 rp2 q2 => ?_
  have r2 := r1.grow g2
  obtain ⟨kvs, key, h1, rfl, hm, hz, q3⟩ := q2
  obtain ⟨l', o', hx', hl', hf', hn', ho'⟩ := r2.own h1
  rw [hx] at hx'
  cases hx'
  obtain ⟨xs, rfl, hrl⟩ := oo_dK ho'
  have ey : y = kV key := by
    rcases v2 with z | ⟨_, o, _, _, _, _, z⟩
    · exact rp_key' z
    · cases key <;> cases o <;> exact False.elim z
  refine ⟨l, _, rfl, .inl ⟨xs, key, hl', ey, by rw [hrl.len]; exact Nat.lt_of_le_of_lt hz (by decide), rfl⟩, ?_⟩
  exact en.nx F2 _ σ _ (r2.upd h1 hx (show OO F2 (.dK (putK xs key v)) (.dK (putD kvs key d)) from hrl.put (Rp.mono (.of g2.f) (rp hm)))) q3
theorem s_putT (he : SimE K c t E Ep te qe) (hk : SimE K c t E Ep ta qa) : SimS K c t E Ep (sDPut (tVar i) ta te) (fun P δ => (∃ d, δ[i]? = some (some (.ow (.dT d)))) ∧ qPutT i qa qe P δ) := fun F0 H0 L F δ σ H De Dp er rs en hq => by
  obtain ⟨⟨d0, h0⟩, hq⟩ := hq
  obtain ⟨l, _, hx, _⟩ := rs.own h0
  refine he.vw er rs hq fun v F1 H1 m d g vv rp q => ?_
  have r1 := rs.grow g
  refine ⟨.ref l, hx, ?_⟩
  refine hk.vw er r1 q fun y F2 H2 m2 d2 g2 v2 rp2 q2 => ?_
  have r2 := r1.grow g2
  obtain ⟨kvs, ks, h1, rfl, hm, hz, q3⟩ := q2
  obtain ⟨l', o', hx', hl', hf', hn', ho'⟩ := r2.own h1
  rw [hx] at hx'
  cases hx'
  obtain ⟨xs, rfl, hrl⟩ := oo_dT ho'
  obtain ⟨b, ys, rfl, hb, hrb⟩ := vw_tup v2
  rw [rpl_keys' hrb] at hb
  refine ⟨l, _, rfl, .inr ⟨xs, ks, b, hl', rfl, g2.s _ _ hb, by rw [hrl.len]; exact Nat.lt_of_le_of_lt hz (by decide), rfl⟩, ?_⟩
  exact en.nx F2 _ σ _ (r2.upd h1 hx (show OO F2 (.dT (putK xs ks v)) (.dT (putD kvs ks d)) from hrl.put (Rp.mono (.of g2.f) (rp hm)))) q3
theorem s_setL (he : SimE K c t E Ep te qe) (hk : SimE K c t E Ep ta qa) : SimS K c t E Ep (tAsg te (gSub (tVar i) ta rSetL)) (fun P δ => (∃ d, δ[i]? = some (some (.ow (.lst d)))) ∧ qSetL i qa qe P δ) := fun F0 H0 L F δ σ H De Dp er rs en hq => by
  obtain ⟨⟨d0, h0⟩, hq⟩ := hq
  obtain ⟨l, _, hx, _⟩ := rs.own h0
  refine he.vw er rs hq fun v F1 H1 m d g vv rp q => ?_
  have r1 := rs.grow g
  refine ⟨.ref l, hx, ?_⟩
  refine hk.vw er r1 q fun y F2 H2 m2 d2 g2 v2 rp2 q2 => ?_
  have r2 := r1.grow g2
  obtain ⟨ds, n, k, h1, rfl, hm, hz, q3⟩ := q2
  obtain ⟨l', o', hx', hl', hf', hn', ho'⟩ := r2.own h1
  rw [hx] at hx'
  cases hx'
  obtain ⟨xs, rfl, hrl⟩ := oo_lst ho'
  refine ⟨l, xs, n, k, rfl, vw_int v2, hl', by rw [hrl.len]; exact hz, ?_⟩
  exact en.nx F2 _ σ _ (r2.upd h1 hx (show OO F2 (.lst (xs.set k v)) (.lst (ds.set k d)) from hrl.set (Rp.mono (.of g2.f) (rp hm)))) q3
end
end Sw
end
section
local macro_rules | `(tactic| walk_at "go1") => `(tactic| first
  | with_reducible refine Sw.g_seqasg ?_ | with_reducible refine Sw.g_op ?_ | with_reducible refine Sw.g_var rfl ?_ | with_reducible refine Sw.g_c ?_ | with_reducible refine Sw.g_I0 ?_
  | with_reducible refine Sw.g_cons ?_ | with_reducible refine Sw.g_nil ?_ | with_reducible refine Sw.g_call ?_ | with_reducible refine Sw.g_cb ?_ | with_reducible refine Sw.g_test ?_ | with_reducible refine Sw.g_bl ?_
  | with_reducible refine Sw.g_seqdrop ?_ | with_reducible refine Sw.g_seqsub ?_ | with_reducible refine Sw.g_asg ?_ | with_reducible refine Sw.g_asgsub ?_ | with_reducible refine Sw.g_ret ?_ | with_reducible refine Sw.g_drop ?_ | with_reducible refine Sw.g_if ?_ | with_reducible refine Sw.g_next ?_ | with_reducible refine Sw.g_name ?_
  | with_reducible refine Sw.g_B ?_ | with_reducible refine Sw.g_not ?_ | with_reducible refine Sw.g_and ?_ | with_reducible refine Sw.g_or ?_ | with_reducible refine Sw.g_andV ?_ | with_reducible refine Sw.g_orV ?_ | with_reducible refine Sw.g_notV ?_
  | with_reducible refine Sw.g_ifE ?_ | with_reducible refine Sw.g_chain ?_ | with_reducible refine Sw.g_un ?_ | with_reducible refine Sw.g_tup ?_ | with_reducible refine Sw.g_lst ?_ | with_reducible refine Sw.g_sl ?_ | with_reducible refine Sw.g_part ?_ | with_reducible refine Sw.g_nopart ?_
  | with_reducible refine Sw.g_U ?_ | with_reducible refine Sw.g_eq rfl ?_ | with_reducible refine Sw.g_ne rfl ?_ | with_reducible refine Sw.g_int ?_ | with_reducible refine Sw.g_yes ?_ | with_reducible refine L2.iteT ?_ | with_reducible refine L2.iteF ?_ | with_reducible refine Sw.iteNT ?_ | with_reducible refine Sw.iteNF ?_ | with_reducible refine Sw.g_m1 ?_ | with_reducible refine Sw.g_bm ?_ | with_reducible refine ⟨Sw.ty_lst (by assumption), ?_⟩ | with_reducible refine Sw.g_sput ?_ | with_reducible refine Sw.g_put ?_ | with_reducible refine Sw.g_dget2 ?_ | with_reducible refine Sw.g_dget ?_ | with_reducible refine Sw.g_dK ?_ | with_reducible refine Sw.g_dT ?_ | with_reducible refine Sw.g_dnotin ?_ | with_reducible refine Sw.g_din ?_ | with_reducible refine Sw.g_bm0 ?_
  | with_reducible refine Sw.g_ixL (by assumption) rfl ?_ | with_reducible refine Sw.g_ixT (by assumption) rfl ?_)
local macro_rules | `(tactic| walk_at "go") => `(tactic| repeat walk_at "go1")
local macro_rules | `(tactic| walk_at "bd") => `(tactic| repeat (first | with_reducible exact Sw.all_nil | refine Sw.all_cons ⟨_, rfl, by omega, by omega⟩ ?_))
local macro_rules | `(tactic| walk_at "new") => `(tactic| (refine ⟨Nat.le_of_ble_eq_true rfl, fun p np => ?_⟩; generalize hX : L2.upd _ p _ = H'; have sm : L2.Same _ H' := hX ▸ Sw.same_upd np; have hp : H' p = some _ := hX ▸ L2.upd_same; clear hX))
namespace Sw
open PySem PySem.Spec PyProof.Rows L2 SX
/-! ### walks -/
def Yields (J : It) (F1 H1 : Hp) (ds : List D) : Prop := (∀ (i : Nat) (d : D), ds[i]? = some d → J.go i H1 ∧ ∀ x H2, J.yld i H1 x H2 → ∃ F2, Grow none F1 H1 F2 H2 ∧ Rp F2 d x) ∧ J.stop ds.length H1
def ItOk (J : It) (F : Hp) (ds : List D) : Prop := ∀ F1 H1, Same F F1 → Same F1 H1 → Yields J F1 H1 ds
def ItOkP (t : Option Addr) (J : It) (F H : Hp) (ds : List D) : Prop := ∀ F1 H1, Grow t F H F1 H1 → Yields J F1 H1 ds
theorem ItOk.p {t : Option Addr} {J : It} {F H : Hp} {ds : List D} (h : ItOk J F ds) : ItOkP t J F H ds := fun F1 H1 g => h F1 H1 g.f g.s
def SimI (K : PySem.W.Frag) (c : Cl) (t : Option Addr) (E : XE) (Ep : XP) (wi : TI) (qi : QI) : Prop := ∀ F0 H0 L F δ σ H R Qp, ER K c t F0 H0 L E Ep → RS K t F0 H0 L F δ σ H → qi δ Qp →
  (∀ J F' H' m ds, Grow t F H F' H' → ItOkP t J F' H' ds → (m ≠ .pk → ItOk J F' ds) → Qp m ds → R J H') → wi σ H R
def qiList (e : QE) : QI := fun δ Q => e δ fun m d => ∃ ds, d = .lst ds ∧ Q m ds
def qiTup (e : QE) : QI := fun δ Q => e δ fun _ d => ∃ ds, d = .tup ds ∧ Q .sh ds
def qiStr (e : QE) : QI := fun δ Q => e δ fun _ d => ∃ l : List Nat, d = .str l ∧ Q .sh (l.map fun ch => .str [ch])
def rng (lo : Int) (n : Nat) : List Int := (List.range n).map fun k : Nat => lo + (k : Int)
def rngC (lo c : Int) (n : Nat) : List Int := (List.range n).map fun k : Nat => lo + (k : Int) * c
def qiR1 (e : QE) : QI := fun δ Q => e δ fun _ d => ∃ j : Int, d = .int j ∧ -(2 ^ 62) ≤ j ∧ j < 2 ^ 62 ∧ Q .sh ((rng 0 j.toNat).map .int)
def qiR2 (a b : QE) : QI := fun δ Q => a δ fun _ d => b δ fun _ e => ∃ i j : Int, d = .int i ∧ e = .int j ∧ (-(2 ^ 62) ≤ i ∧ i < 2 ^ 62 ∧ -(2 ^ 62) ≤ j ∧ j < 2 ^ 62) ∧ Q .sh ((rng i (j - i).toNat).map .int)
def qiR3 (a b e : QE) : QI := fun δ Q => a δ fun _ d1 => b δ fun _ d2 => e δ fun _ d3 => ∃ (i j c : Int) (n : Nat), d1 = .int i ∧ d2 = .int j ∧ d3 = .int c ∧ RgC i j c n ∧ Q .sh ((rngC i c n).map .int)
def qiEnum (e : QE) : QI := fun δ Q => e δ fun m d => ∃ ds, d = .lst ds ∧ Q m (ds.zipIdx.map fun p => .tup [.int (p.2 : Int), p.1])
def qiZip (a b : QE) : QI := fun δ Q => a δ fun m d => b δ fun m' e => ∃ ds es, d = .lst ds ∧ e = .lst es ∧ Q (if m = .pk ∨ m' = .pk then .pk else .sh) ((ds.zip es).map fun p => .tup [p.1, p.2])
section
variable {K : PySem.W.Frag} {c : Cl} {t : Option Addr} {E : XE} {Ep : XP} {te ta tb tc : TE} {qe qa qb qc : QE}
theorem uniqL {K : PySem.W.Frag} {H : Hp} {a : Addr} {xs : List V} (h : H a = some (.lst xs)) : SqL K H a xs := .inl (.inl h)
theorem yields_list {F1 H1 : Hp} {a : Addr} {xs : List V} {ds : List D} (s : Same F1 H1) (h : H1 a = some (.lst xs)) (r : RpL F1 ds xs) : Yields (Itl K a) F1 H1 ds := by
  refine ⟨fun i d e => ?_, xs, uniqL h, by rw [r.len]; exact Nat.le_refl _⟩
  obtain ⟨x, h1, h2⟩ := r.at e
  refine ⟨⟨xs, x, uniqL h, h1⟩, fun y H2 ⟨e1, e2⟩ => ?_⟩
  subst e1
  have := e2 xs (uniqL h)
  rw [h1] at this
  cases this
  exact ⟨F1, .refl s, h2⟩
theorem si_list (he : SimE K c t E Ep te qe) : SimI K c t E Ep (iList K te) (qiList qe) := fun F0 H0 L F δ σ H R Qp er rs hq k => by
  refine he.vw er rs hq fun x F1 H1 m d g v rp q => ?_
  obtain ⟨ds, rfl, q2⟩ := q
  obtain ⟨a, xs, rfl, h1, h2⟩ := vw_lst g.s v
  refine ⟨a, rfl, ⟨xs, uniqL h1⟩, k _ F1 H1 m ds g (fun F2 H2 g2 => ?_) (fun hm F2 H2 s1 s2 => ?_) q2⟩
  · obtain ⟨a', xs', e1, h3, h4⟩ := vw_lst g2.s (v.grow g2)
    cases e1
    exact yields_list g2.s h3 h4
  · obtain ⟨a', xs', e1, h3, h4⟩ := rp hm
    cases e1
    exact yields_list s2 (s2 _ _ (s1 _ _ h3)) (h4.mono (.of s1))
theorem si_tup (he : SimE K c t E Ep te qe) : SimI K c t E Ep (iTup K te) (qiTup qe) := fun F0 H0 L F δ σ H R Qp er rs hq k => by
  refine he.vw er rs hq fun x F1 H1 m d g v rp q => ?_
  obtain ⟨ds, rfl, q2⟩ := q
  obtain ⟨a, xs, rfl, h1, h2⟩ := vw_tup v
  have ok : ItOk (Itt K a) F1 ds := fun F2 H2 s1 s2 => by
    have hs : SqT K H2 a xs := .inl (.inl (s2 _ _ (s1 _ _ h1)))
    refine ⟨fun i d e => ?_, xs, hs, by rw [h2.len]; exact Nat.le_refl _⟩
    obtain ⟨y, h3, h4⟩ := h2.at e
    refine ⟨⟨xs, y, hs, h3⟩, fun z H3 ⟨e1, e2⟩ => ?_⟩
    subst e1
    have := e2 xs hs
    rw [h3] at this
    cases this
    exact ⟨F2, .refl s2, h4.mono (.of s1)⟩
  exact ⟨a, rfl, ⟨xs, .inl (.inl (g.s _ _ h1))⟩, k _ F1 H1 .sh ds g ok.p (fun _ => ok) q2⟩
theorem si_str (he : SimE K c t E Ep te qe) : SimI K c t E Ep (iStr te) (qiStr qe) := fun F0 H0 L F δ σ H R Qp er rs hq k => by
  refine he.vw er rs hq fun x F1 H1 m d g v rp q => ?_
  obtain ⟨l, rfl, q2⟩ := q
  have ok : ItOk (Its (S l)) F1 (l.map fun ch => .str [ch]) := fun F2 H2 s1 s2 => by
    refine ⟨fun i d e => ?_, by show (S l).cps.size ≤ _; simp⟩
    rw [List.getElem?_map] at e
    obtain ⟨ch, h1, rfl⟩ := Option.map_eq_some_iff.mp e
    have hl : i < l.length := (List.getElem?_eq_some_iff.mp h1).1
    refine ⟨by show i < (S l).cps.size; simpa using hl, fun z H3 ⟨e1, ch', h2, e2⟩ => ?_⟩
    subst e1 e2
    have : l[i]? = some ch' := by simpa using h2
    rw [h1] at this
    cases this
    exact ⟨F2, .refl s2, rfl⟩
  exact ⟨S l, vw_str v, k _ F1 H1 .sh _ g ok.p (fun _ => ok) q2⟩
theorem rng_at {lo : Int} {n i : Nat} {d : D} (h : ((rng lo n).map D.int)[i]? = some d) : i < n ∧ d = .int (lo + (i : Int)) := by
  unfold rng at h
  rw [List.map_map, List.getElem?_map] at h
  obtain ⟨z, h1, rfl⟩ := Option.map_eq_some_iff.mp h
  have h2 := List.getElem?_eq_some_iff.mp h1
  obtain ⟨h3, h4⟩ := h2
  rw [List.length_range] at h3
  rw [List.getElem_range] at h4
  exact ⟨h3, by rw [← h4]; rfl⟩
theorem rngC_at {lo s : Int} {n i : Nat} {d : D} (h : ((rngC lo s n).map D.int)[i]? = some d) : i < n ∧ d = .int (lo + (i : Int) * s) := by
  unfold rngC at h
  rw [List.map_map, List.getElem?_map] at h
  obtain ⟨z, h1, rfl⟩ := Option.map_eq_some_iff.mp h
  have h2 := List.getElem?_eq_some_iff.mp h1
  obtain ⟨h3, h4⟩ := h2
  rw [List.length_range] at h3
  rw [List.getElem_range] at h4
  exact ⟨h3, by rw [← h4]; rfl⟩
theorem itr_ok {F : Hp} {lo : Int} {n : Nat} : ItOk (Itr lo n) F ((rng lo n).map .int) := fun F1 H1 s1 s2 => by
  refine ⟨fun i d e => ?_, by show n ≤ _; simp [rng]⟩
  obtain ⟨hi, rfl⟩ := rng_at e
  refine ⟨hi, fun x H2 ⟨e1, e2⟩ => ?_⟩
  subst e1 e2
  exact ⟨F1, .refl s2, rfl⟩
theorem itc_ok {F : Hp} {lo s : Int} {n : Nat} : ItOk (Itc lo s n) F ((rngC lo s n).map .int) := fun F1 H1 s1 s2 => by
  refine ⟨fun i d e => ?_, by show n ≤ _; simp [rngC]⟩
  obtain ⟨hi, rfl⟩ := rngC_at e
  refine ⟨hi, fun x H2 ⟨e1, e2⟩ => ?_⟩
  subst e1 e2
  exact ⟨F1, .refl s2, rfl⟩
theorem si_r1 (he : SimE K c t E Ep te qe) : SimI K c t E Ep (iRng1 (tCons te tNil)) (qiR1 qe) := fun F0 H0 L F δ σ H R Qp er rs hq k => by
  refine he.vw er rs hq fun x F1 H1 m d g v rp q => ?_
  obtain ⟨j, rfl, h1, h2, q2⟩ := q
  exact ⟨j, by rw [vw_int v], h1, h2, k _ F1 H1 .sh _ g itr_ok.p (fun _ => itr_ok) q2⟩
theorem si_r2 (ha : SimE K c t E Ep ta qa) (hb : SimE K c t E Ep tb qb) : SimI K c t E Ep (iRng2 (tCons ta (tCons tb tNil))) (qiR2 qa qb) := fun F0 H0 L F δ σ H R Qp er rs hq k => by
  refine ha.vw er rs hq fun x F1 H1 m d g v rp q => ?_
  refine hb.vw er (rs.grow g) q fun y F2 H2 m2 e g2 v2 rp2 q2 => ?_
  obtain ⟨i, j, rfl, rfl, h1, q3⟩ := q2
  exact ⟨i, j, by rw [vw_int v, vw_int v2], h1, k _ F2 H2 .sh _ (g.trans g2 rs.st.dr) itr_ok.p (fun _ => itr_ok) q3⟩
theorem si_r3 (ha : SimE K c t E Ep ta qa) (hb : SimE K c t E Ep tb qb) (hc : SimE K c t E Ep tc qc) : SimI K c t E Ep (iRng3 (tCons ta (tCons tb (tCons tc tNil)))) (qiR3 qa qb qc) := fun F0 H0 L F δ σ H R Qp er rs hq k => by
  refine ha.vw er rs hq fun x F1 H1 m d g v rp q => ?_
  refine hb.vw er (rs.grow g) q fun y F2 H2 m2 e g2 v2 rp2 q2 => ?_
  have g12 := g.trans g2 rs.st.dr
  refine hc.vw er (rs.grow g12) q2 fun z F3 H3 m3 e3 g3 v3 rp3 q3 => ?_
  obtain ⟨i, j, s, n, rfl, rfl, rfl, h1, q4⟩ := q3
  exact ⟨i, j, s, n, by rw [vw_int v, vw_int v2, vw_int v3], h1, k _ F3 H3 .sh _ (g12.trans g3 rs.st.dr) itc_ok.p (fun _ => itc_ok) q4⟩
theorem yields_enum {F1 H1 : Hp} {a : Addr} {xs : List V} {ds : List D} (s : Same F1 H1) (h : H1 a = some (.lst xs)) (r : RpL F1 ds xs) : Yields (Ite K a) F1 H1 (ds.zipIdx.map fun p => .tup [.int (p.2 : Int), p.1]) := by
  refine ⟨fun i d e => ?_, xs, uniqL h, by rw [r.len, List.length_map, List.length_zipIdx]; exact Nat.le_refl _⟩
  rw [List.getElem?_map, List.getElem?_zipIdx] at e
  obtain ⟨p, e1, rfl⟩ := Option.map_eq_some_iff.mp e
  obtain ⟨d, e2, rfl⟩ := Option.map_eq_some_iff.mp e1
  obtain ⟨x, h1, h2⟩ := r.at e2
  refine ⟨⟨xs, x, uniqL h, h1⟩, fun y H2 ⟨T, z, e1, e2, e3, e4⟩ => ?_⟩
  have := e4 xs (uniqL h)
  rw [h1] at this
  cases this
  subst e1 e3
  refine ⟨_, .new s e2, T, _, rfl, upd_same, ?_⟩
  have e5 : ((0 + i : Nat) : Int) = (i : Int) := by omega
  exact ⟨_, _, rfl, by show V.int _ = V.int _; rw [e5], _, _, rfl, h2.mono (.of (same_upd (s.free e2))), rfl⟩
theorem si_enum (he : SimE K c t E Ep te qe) : SimI K c t E Ep (iEnum K (tCons te tNil)) (qiEnum qe) := fun F0 H0 L F δ σ H R Qp er rs hq k => by
  refine he.vw er rs hq fun x F1 H1 m d g v rp q => ?_
  obtain ⟨ds, rfl, q2⟩ := q
  obtain ⟨a, xs, rfl, h1, h2⟩ := vw_lst g.s v
  refine ⟨a, xs, rfl, uniqL h1, k _ F1 H1 m _ g (fun F2 H2 g2 => ?_) (fun hm F2 H2 s1 s2 => ?_) q2⟩
  · obtain ⟨a', xs', e1, h3, h4⟩ := vw_lst g2.s (v.grow g2)
    cases e1
    exact yields_enum g2.s h3 h4
  · obtain ⟨a', xs', e1, h3, h4⟩ := rp hm
    cases e1
    exact yields_enum s2 (s2 _ _ (s1 _ _ h3)) (h4.mono (.of s1))
theorem yields_zip {F1 H1 : Hp} {a b : Addr} {xs ys : List V} {ds es : List D} (s : Same F1 H1) (h : H1 a = some (.lst xs)) (r : RpL F1 ds xs) (h' : H1 b = some (.lst ys)) (r' : RpL F1 es ys) : Yields (Itz K a b) F1 H1 ((ds.zip es).map fun p => .tup [p.1, p.2]) := by
  refine ⟨fun i d e => ?_, xs, ys, uniqL h, uniqL h', by rw [r.len, r'.len, List.length_map, List.length_zip]; omega⟩
  rw [List.getElem?_map] at e
  obtain ⟨p, e1, rfl⟩ := Option.map_eq_some_iff.mp e
  obtain ⟨e2, e3⟩ := List.getElem?_zip_eq_some.mp e1
  obtain ⟨x, h1, h2⟩ := r.at e2
  obtain ⟨y, h3, h4⟩ := r'.at e3
  refine ⟨⟨xs, ys, x, y, uniqL h, uniqL h', h1, h3⟩, fun v H2 ⟨T, z, w, e1, e2, e3, e4, e5⟩ => ?_⟩
  have z1 := e4 xs (uniqL h)
  rw [h1] at z1
  cases z1
  have z2 := e5 ys (uniqL h')
  rw [h3] at z2
  cases z2
  subst e1 e3
  have sm : Same F1 (upd F1 T (.tup [x, y])) := same_upd (s.free e2)
  exact ⟨_, .new s e2, T, _, rfl, upd_same, _, _, rfl, h2.mono (.of sm), _, _, rfl, h4.mono (.of sm), rfl⟩
theorem si_zip (ha : SimE K c t E Ep ta qa) (hb : SimE K c t E Ep tb qb) : SimI K c t E Ep (iZip K (tCons ta (tCons tb tNil))) (qiZip qa qb) := fun F0 H0 L F δ σ H R Qp er rs hq k => by
  refine ha.vw er rs hq fun x F1 H1 m d g v rp q => ?_
  refine hb.vw er (rs.grow g) q fun y F2 H2 m2 e g2 v2 rp2 q2 => ?_
  obtain ⟨ds, es, rfl, rfl, q3⟩ := q2
  have v1 := v.grow g2
  obtain ⟨a, xs, rfl, h1, h2⟩ := vw_lst g2.s v1
  obtain ⟨b, ys, rfl, h3, h4⟩ := vw_lst g2.s v2
  refine ⟨a, b, xs, ys, rfl, uniqL h1, uniqL h3, k _ F2 H2 _ _ (g.trans g2 rs.st.dr) (fun F3 H3 g3 => ?_) (fun hm F3 H3 s1 s2 => ?_) q3⟩
  · obtain ⟨a', xs', e1, h5, h6⟩ := vw_lst g3.s (v1.grow g3)
    cases e1
    obtain ⟨b', ys', e1, h7, h8⟩ := vw_lst g3.s (v2.grow g3)
    cases e1
    exact yields_zip g3.s h5 h6 h7 h8
  · have m1 : m ≠ .pk := fun z => hm (if_pos (.inl z))
    have m3 : m2 ≠ .pk := fun z => hm (if_pos (.inr z))
    obtain ⟨a', xs', e1, h5, h6⟩ := (rp m1).mono (.of (g2.f.trans s1))
    cases e1
    obtain ⟨b', ys', e1, h7, h8⟩ := (rp2 m3).mono (.of s1)
    cases e1
    exact yields_zip s2 (s2 _ _ h5) h6 (s2 _ _ h7) h8
end
/-! ### targets -/
def qgName (i : Nat) : QG := fun d δ Q => Q (δ.set i (some (.sh d)))
abbrev QGs := List D → DS → (DS → Prop) → Prop
def qgNil : QGs := fun ds δ Q => ds = [] ∧ Q δ
def qgCons (g : QG) (r : QGs) : QGs := fun ds δ Q => ∃ d es, ds = d :: es ∧ g d δ fun δ' => r es δ' Q
def qgTup (n : Nat) (g : QGs) : QG := fun d δ Q => ∃ ds, d = .tup ds ∧ ds.length = n ∧ g ds δ Q
section
variable {K : PySem.W.Frag} {t : Option Addr}
def SimGs (K : PySem.W.Frag) (t : Option Addr) (nm : List Nat) (tg : TGs) (qg : QGs) : Prop := ∀ F0 H0 L F δ σ H Q Qp xs ds, RS K t F0 H0 L F δ σ H → RpL F ds xs → qg ds δ Qp → (∀ δ' σ', RS K t F0 H0 L F δ' σ' H → (∀ vs : List Nat, (∀ i ∈ nm, i ∈ vs) → L2.wipe σ' vs = L2.wipe σ vs) → Qp δ' → Q σ' H) → tg xs σ H Q
theorem wipe_set {σ : L2.St} {i : Nat} {x : Option V} : ∀ {vs : List Nat}, i ∈ vs → L2.wipe (σ.set i x) vs = L2.wipe σ vs
  | [], h => nomatch h
  | v :: vs, h => by
    show (L2.wipe (σ.set i x) vs).set v none = (L2.wipe σ vs).set v none
    by_cases hv : i ∈ vs
    · rw [wipe_set hv]
    · have e : i = v := (List.mem_cons.mp h).resolve_right hv
      subst e
      have key : ∀ (us : List Nat) (τ : L2.St), (L2.wipe (τ.set i x) us).set i none = (L2.wipe τ us).set i none := by
        intro us
        induction us with
        | nil => intro τ; show (τ.set i x).set i none = τ.set i none; rw [List.set_set]
        | cons u us ih =>
          intro τ
          show ((L2.wipe (τ.set i x) us).set u none).set i none = ((L2.wipe τ us).set u none).set i none
          by_cases hu : u = i
          · subst hu; rw [List.set_set, List.set_set]; exact ih τ
          · rw [List.set_comm _ _ hu, ih τ, ← List.set_comm _ _ hu]
      exact key vs σ
theorem sg_name {i : Nat} : SimG K t [i] (gName i) (qgName i) := fun F0 H0 L F δ σ H Q Qp x d rs h q k => k _ _ (rs.setS h) (fun vs hv => wipe_set (hv i List.mem_cons_self)) q
theorem sg_nil : SimGs K t [] gNil qgNil := fun F0 H0 L F δ σ H Q Qp xs ds rs h q k => by
  obtain ⟨rfl, q⟩ := q
  exact ⟨h, k δ σ rs (fun _ _ => rfl) q⟩
theorem sg_cons {g : TG} {qg : QG} {r : TGs} {qr : QGs} {n1 n2 : List Nat} (hg : SimG K t n1 g qg) (hr : SimGs K t n2 r qr) : SimGs K t (n1 ++ n2) (gCons g r) (qgCons qg qr) := fun F0 H0 L F δ σ H Q Qp xs ds rs h q k => by
  obtain ⟨d, es, rfl, q⟩ := q
  obtain ⟨x, ys, rfl, h1, h2⟩ := h
  refine ⟨x, ys, rfl, hg F0 H0 L F δ σ H _ _ x d rs h1 q fun δ1 σ1 r1 w1 q1 => ?_⟩
  exact hr F0 H0 L F δ1 σ1 H _ _ ys es r1 h2 q1 fun δ2 σ2 r2 w2 q2 => k δ2 σ2 r2 (fun vs hv => (w2 vs fun i hi => hv i (List.mem_append_right _ hi)).trans (w1 vs fun i hi => hv i (List.mem_append_left _ hi))) q2
theorem sg_tup {n : Nat} {r : TGs} {qr : QGs} {nm : List Nat} (hr : SimGs K t nm r qr) : SimG K t nm (gTup K n r) (qgTup n qr) := fun F0 H0 L F δ σ H Q Qp x d rs h q k => by
  obtain ⟨ds, rfl, hl, q⟩ := q
  obtain ⟨a, xs, rfl, h1, h2⟩ := h
  exact ⟨a, xs, rfl, .inl (.inl (rs.st.s _ _ h1)), by rw [h2.len]; exact hl, hr F0 H0 L F δ σ H _ _ xs ds rs h2 q k⟩
end
/-! ### loops -/
def loop (g : QG) (b : QS) (P : Pn) : List D → DS → Prop
  | [], δ => P.nx δ
  | x :: xs, δ => g x δ fun δ' => b { P with nx := loop g b P xs, ct := loop g b P xs, bk := P.nx } δ'
def qFor (i : QI) (g : QG) (b : QS) : QS := fun P δ => i δ fun m ds => m ≠ .pk ∧ loop g b P ds δ
def qWhile (q : QT) (b : QS) : QS := fun P δ => ∃ W : Nat → DS → Prop, (∃ m, W m δ) ∧ ∀ m δ, W m δ → q δ fun k => if k = true then b { P with nx := fun δ' => ∃ m', m' < m ∧ W m' δ', ct := fun δ' => ∃ m', m' < m ∧ W m' δ', bk := P.nx } δ else P.nx δ
def qAsgG (e : QE) (g : QG) : QS := fun P δ => e δ fun m d => m ≠ .pk ∧ g d δ P.nx
section
variable {K : PySem.W.Frag} {c : Cl} {t : Option Addr} {E : XE} {Ep : XP} {te : TE} {qe : QE} {tt : TT} {qt : QT} {ts : TS} {qs : QS} {wi : TI} {qi : QI} {g : TG} {qg : QG} {nm : List Nat}
theorem drop_at {ds : List D} {i : Nat} {d : D} (h : ds[i]? = some d) : ds.drop i = d :: ds.drop (i + 1) := by
  obtain ⟨h1, h2⟩ := List.getElem?_eq_some_iff.mp h
  rw [List.drop_eq_getElem_cons h1, h2]
def ForW (g : TG) (ts : TS) (De : Ends) (σ : L2.St) (J : It) (H1 : Hp) : Prop := ∃ W : Nat → Nat → L2.St → Hp → Prop, (∃ m, W 0 m σ H1) ∧ ∀ i m σ H, W i m σ H →
      (J.stop i H ∧ De.nx σ H) ∨ (J.go i H ∧ ∃ N : L2.St → Hp → Prop, (∀ σ' H', N σ' H' → ∃ m', m' < m ∧ W (i + 1) m' σ' H') ∧ ∀ x H', J.yld i H x H' → g x σ H' fun σ2 H2 => ts { De with nx := N, ct := N, bk := De.nx } σ2 H2)
theorem for_core {F0 H0 L F1 H1 : Hp} {δ : DS} {σ : L2.St} {De : Ends} {Dp : Pn} {J : It} {ds : List D} (hg : SimG K t nm g qg) (hb : SimS K c t E Ep ts qs) (er : ER K c t F0 H0 L E Ep) (r1 : RS K t F0 H0 L F1 δ σ H1) (en : EndsR K t F0 H0 L De Dp) (ok : ItOk J F1 ds) (q : loop qg qs Dp ds δ) :
    ForW g ts De σ J H1 := by
  have lo1 : Same L F1 := r1.lo
  have er1 : ER K c t F0 H0 F1 E Ep := er.low lo1
  refine ⟨fun i m σ' H' => m = ds.length - i ∧ i ≤ ds.length ∧ ∃ F' δ', RS K t F0 H0 F1 F' δ' σ' H' ∧ loop qg qs Dp (ds.drop i) δ', ⟨ds.length, by omega, by omega, F1, δ, r1.at, by rw [List.drop_zero]; exact q⟩, ?_⟩
  rintro i m σ' H' ⟨rfl, hi, F', δ', r', q'⟩
  have y := ok F' H' r'.lo r'.st.s
  by_cases hlt : i < ds.length
  · have hd := List.getElem?_eq_getElem hlt
    generalize ds[i] = d at hd
    obtain ⟨y1, y2⟩ := y.1 i d hd
    refine .inr ⟨y1, fun σ2 H2 => ∃ F2 δ2, RS K t F0 H0 F1 F2 δ2 σ2 H2 ∧ loop qg qs Dp (ds.drop (i + 1)) δ2, fun σ2 H2 ⟨F2, δ2, r2, q2⟩ => ⟨ds.length - (i + 1), by omega, rfl, by omega, F2, δ2, r2, q2⟩, fun x H2 hy => ?_⟩
    obtain ⟨F2, g2, rp⟩ := y2 x H2 hy
    replace g2 := g2.any (t := t)
    rw [drop_at hd] at q'
    refine hg F0 H0 F1 F2 δ' σ' H2 _ _ x d (r'.grow g2) rp q' fun δ3 σ3 r3 _ q3 => ?_
    refine hb F0 H0 F1 F2 δ3 σ3 H2 _ { Dp with nx := loop qg qs Dp (ds.drop (i + 1)), ct := loop qg qs Dp (ds.drop (i + 1)), bk := Dp.nx } er1 r3 ⟨?_, fun F4 H4 x4 m4 d4 g4 l4 => en.rt F4 H4 x4 m4 d4 g4 (lo1.trans l4), ?_, ?_⟩ q3
    · exact fun F4 δ4 σ4 H4 r4 q4 => ⟨F4, δ4, r4, q4⟩
    · exact fun F4 δ4 σ4 H4 r4 q4 => en.nx F4 δ4 σ4 H4 (r4.low lo1) q4
    · exact fun F4 δ4 σ4 H4 r4 q4 => ⟨F4, δ4, r4, q4⟩
  · have e : i = ds.length := by omega
    subst e
    rw [List.drop_length] at q'
    exact .inl ⟨y.2, en.nx F' δ' σ' H' (r'.low lo1) q'⟩
theorem s_for (hi : SimI K c t E Ep wi qi) (hg : SimG K t nm g qg) (hb : SimS K c t E Ep ts qs) : SimS K c t E Ep (tFor wi g ts) (qFor qi qg qs) := fun F0 H0 L F δ σ H De Dp er rs en hq => by
  refine hi F0 H0 L F δ σ H _ _ er rs hq fun J F1 H1 m ds g1 _ ok q => ?_
  exact for_core hg hb er (rs.grow g1) en (ok q.1) q.2
theorem s_while (ht : SimT K c t E Ep tt qt) (hb : SimS K c t E Ep ts qs) : SimS K c t E Ep (tWhile tt ts) (qWhile qt qs) := fun F0 H0 L F δ σ H De Dp er rs en hq => by
  obtain ⟨W, ⟨m, w⟩, hw⟩ := hq
  refine ⟨fun m σ' H' => ∃ F' δ', RS K t F0 H0 L F' δ' σ' H' ∧ W m δ', ⟨m, F, δ, rs, w⟩, ?_⟩
  rintro m σ' H' ⟨F', δ', r', w'⟩
  refine ht F0 H0 L F' δ' σ' H' _ _ er r' (hw m δ' w') fun b F1 H1 g1 q1 => ?_
  cases b with
  | true =>
    refine ⟨fun σ2 H2 => ∃ m', m' < m ∧ ∃ F' δ', RS K t F0 H0 L F' δ' σ2 H2 ∧ W m' δ', fun _ _ h => h, ?_⟩
    refine hb F0 H0 L F1 δ' σ' H1 _ { Dp with nx := fun δ' => ∃ m', m' < m ∧ W m' δ', ct := fun δ' => ∃ m', m' < m ∧ W m' δ', bk := Dp.nx } er (r'.grow g1) ⟨?_, en.rt, ?_, ?_⟩ q1
    · rintro F4 δ4 σ4 H4 r4 ⟨m', hm, w4⟩
      exact ⟨m', hm, F4, δ4, r4, w4⟩
    · exact en.nx
    · rintro F4 δ4 σ4 H4 r4 ⟨m', hm, w4⟩
      exact ⟨m', hm, F4, δ4, r4, w4⟩
  | false => exact en.nx F1 δ' σ' H1 (r'.grow g1) q1
theorem s_asgG (he : SimE K c t E Ep te qe) (hg : SimG K t nm g qg) : SimS K c t E Ep (tAsg te g) (qAsgG qe qg) := fun F0 H0 L F δ σ H De Dp er rs en hq => by
  refine he.vw er rs hq fun x F1 H1 m d g1 v rp q => ?_
  exact hg F0 H0 L F1 δ σ H1 _ _ x d (rs.grow g1) (rp q.1) q.2 fun δ2 σ2 r2 _ q2 => en.nx F1 δ2 σ2 H1 r2 q2
end
end Sw
end
section
local macro_rules | `(tactic| walk_at "go1") => `(tactic| first
  | with_reducible refine Sw.g_seqasg ?_ | with_reducible refine Sw.g_op ?_ | with_reducible refine Sw.g_var rfl ?_ | with_reducible refine Sw.g_c ?_ | with_reducible refine Sw.g_I0 ?_
  | with_reducible refine Sw.g_cons ?_ | with_reducible refine Sw.g_nil ?_ | with_reducible refine Sw.g_call ?_ | with_reducible refine Sw.g_cb ?_ | with_reducible refine Sw.g_test ?_ | with_reducible refine Sw.g_bl ?_
  | with_reducible refine Sw.g_seqdrop ?_ | with_reducible refine Sw.g_seqsub ?_ | with_reducible refine Sw.g_asg ?_ | with_reducible refine Sw.g_asgsub ?_ | with_reducible refine Sw.g_ret ?_ | with_reducible refine Sw.g_drop ?_ | with_reducible refine Sw.g_if ?_ | with_reducible refine Sw.g_next ?_ | with_reducible refine Sw.g_name ?_
  | with_reducible refine Sw.g_B ?_ | with_reducible refine Sw.g_not ?_ | with_reducible refine Sw.g_and ?_ | with_reducible refine Sw.g_or ?_ | with_reducible refine Sw.g_andV ?_ | with_reducible refine Sw.g_orV ?_ | with_reducible refine Sw.g_notV ?_
  | with_reducible refine Sw.g_ifE ?_ | with_reducible refine Sw.g_chain ?_ | with_reducible refine Sw.g_un ?_ | with_reducible refine Sw.g_tup ?_ | with_reducible refine Sw.g_lst ?_ | with_reducible refine Sw.g_sl ?_ | with_reducible refine Sw.g_part ?_ | with_reducible refine Sw.g_nopart ?_
  | with_reducible refine Sw.g_U ?_ | with_reducible refine Sw.g_eq rfl ?_ | with_reducible refine Sw.g_ne rfl ?_ | with_reducible refine Sw.g_int ?_ | with_reducible refine Sw.g_yes ?_ | with_reducible refine L2.iteT ?_ | with_reducible refine L2.iteF ?_ | with_reducible refine Sw.iteNT ?_ | with_reducible refine Sw.iteNF ?_ | with_reducible refine Sw.g_m1 ?_ | with_reducible refine Sw.g_bm ?_ | with_reducible refine ⟨Sw.ty_lst (by assumption), ?_⟩ | with_reducible refine Sw.g_sput ?_ | with_reducible refine Sw.g_put ?_ | with_reducible refine Sw.g_dget2 ?_ | with_reducible refine Sw.g_dget ?_ | with_reducible refine Sw.g_dK ?_ | with_reducible refine Sw.g_dT ?_ | with_reducible refine Sw.g_dnotin ?_ | with_reducible refine Sw.g_din ?_ | with_reducible refine Sw.g_bm0 ?_
  | with_reducible refine Sw.g_ixL (by assumption) rfl ?_ | with_reducible refine Sw.g_ixT (by assumption) rfl ?_)
local macro_rules | `(tactic| walk_at "go") => `(tactic| repeat walk_at "go1")
local macro_rules | `(tactic| walk_at "bd") => `(tactic| repeat (first | with_reducible exact Sw.all_nil | refine Sw.all_cons ⟨_, rfl, by omega, by omega⟩ ?_))
local macro_rules | `(tactic| walk_at "new") => `(tactic| (refine ⟨Nat.le_of_ble_eq_true rfl, fun p np => ?_⟩; generalize hX : L2.upd _ p _ = H'; have sm : L2.Same _ H' := hX ▸ Sw.same_upd np; have hp : H' p = some _ := hX ▸ L2.upd_same; clear hX))
namespace Sw
open PySem PySem.Spec PyProof.Rows L2 SX
/-! ### comprehensions -/
def wipeD (δ : DS) : List Nat → DS
  | [] => δ
  | v :: vs => (wipeD δ vs).set v none
def lcGo (δ : DS) (g : QG) (tt : QT) (e : QE) (Q : List D → Prop) : List D → List D → Prop
  | [], acc => Q acc
  | x :: xs, acc => g x δ fun δ' => tt δ' fun b => if b = true then e δ' fun m d => m ≠ .pk ∧ acc.length ≤ 1000000 ∧ lcGo δ g tt e Q xs (acc ++ [d]) else lcGo δ g tt e Q xs acc
def qLc (i : QI) (g : QG) (tt : QT) (e : QE) (vs : List Nat) : QE := fun δ Q => i δ fun _ ds => lcGo (wipeD δ vs) g tt e (fun acc => Q .ow (.lst acc)) ds []
theorem RS.wipe {K : PySem.W.Frag} {t : Option Addr} {F0 H0 L F H : Hp} {δ : DS} {σ : L2.St} (r : RS K t F0 H0 L F δ σ H) : ∀ (vs : List Nat), RS K t F0 H0 L F (wipeD δ vs) (L2.wipe σ vs) H
  | [] => r
  | _ :: vs => (r.wipe vs).setN
theorem wipe_wipe (σ : L2.St) (vs : List Nat) : ∀ us : List Nat, (∀ i ∈ us, i ∈ vs) → L2.wipe (L2.wipe σ us) vs = L2.wipe σ vs
  | [], _ => rfl
  | u :: us, h => by
    show L2.wipe ((L2.wipe σ us).set u none) vs = _
    rw [wipe_set (h u List.mem_cons_self), wipe_wipe σ vs us fun i hi => h i (List.mem_cons_of_mem _ hi)]
section
variable {K : PySem.W.Frag} {c : Cl} {t : Option Addr} {E : XE} {Ep : XP} {te : TE} {qe : QE} {tt : TT} {qt : QT} {wi : TI} {qi : QI} {g : TG} {qg : QG} {vs nm : List Nat}
theorem s_lc (hi : SimI K c t E Ep wi qi) (hg : SimG K t nm g qg) (hw : ∀ i ∈ nm, i ∈ vs) (ht : SimT K c t E Ep tt qt) (he : SimE K c t E Ep te qe) : SimE K c t E Ep (tLc wi g tt te vs) (qLc qi qg qt qe vs) := fun F0 H0 L F δ σ H Q Qp er rs hq k => by
  refine hi F0 H0 L F δ σ H _ _ er rs hq fun J F1 H1 m ds g1 ok _ q => ?_
  intro Dl nD
  have r1 := rs.grow g1
  have tD : some Dl ≠ t := tape_ne r1.st.dr nD
  refine ⟨fun i m H' => m = ds.length - i ∧ i ≤ ds.length ∧ ∃ F' xs acc, Grow t F1 H1 F' H' ∧ H' Dl = some (.lst xs) ∧ F' Dl = none ∧ RpL F' acc xs ∧ lcGo (wipeD δ vs) qg qt qe (fun acc => Qp .ow (.lst acc)) (ds.drop i) acc,
    ⟨ds.length, by omega, by omega, F1, [], [], .own g1.s nD, upd_same, g1.s.free nD, rfl, by rw [List.drop_zero]; exact q⟩, ?_⟩
  rintro i m H' ⟨rfl, hi, F', xs, acc, g', hD, fD, ra, q'⟩
  have y := ok F' H' g'
  have r' := r1.grow g'
  by_cases hlt : i < ds.length
  · have hd := List.getElem?_eq_getElem hlt
    generalize ds[i] = d at hd
    obtain ⟨y1, y2⟩ := y.1 i d hd
    refine .inr ⟨y1, fun H2 => ∃ F2 xs acc, Grow t F1 H1 F2 H2 ∧ H2 Dl = some (.lst xs) ∧ F2 Dl = none ∧ RpL F2 acc xs ∧ lcGo (wipeD δ vs) qg qt qe (fun acc => Qp .ow (.lst acc)) (ds.drop (i + 1)) acc, fun H2 h => ⟨ds.length - (i + 1), by omega, rfl, by omega, h⟩, fun x H2 hy => ?_⟩
    obtain ⟨F2, g2, rp⟩ := y2 x H2 hy
    replace g2 := g2.any (t := t)
    rw [drop_at hd] at q'
    refine hg F0 H0 L F2 (wipeD δ vs) (L2.wipe σ vs) H2 _ _ x d ((r'.grow g2).wipe vs) rp q' fun δ3 σ3 r3 w3 q3 => ?_
    refine ⟨(w3 vs hw).trans (wipe_wipe σ vs vs fun _ h => h), ?_⟩
    refine ht F0 H0 L F2 δ3 σ3 H2 _ _ er r3 q3 fun b F4 H4 g4 q4 => ?_
    have ga : Grow t F' H' F4 H4 := g2.trans g4 r'.st.dr
    have gb : Grow t F1 H1 F4 H4 := g'.trans ga r1.st.dr
    have nt : ∀ {Fx Hx Fy Hy : Hp} {zs : List V}, Grow t Fx Hx Fy Hy → Hx Dl = some (.lst zs) → Fx Dl = none → Hy Dl = some (.lst zs) ∧ Fy Dl = none := fun gg h1 h2 => ⟨gg.h _ _ h1 tD, gg.n _ h2 (by rw [h1]; exact Option.some_ne_none _) fun ys z => by rw [h1] at z; cases z⟩
    obtain ⟨hD4, fD4⟩ := nt ga hD fD
    cases b with
    | false => exact ⟨F4, xs, acc, gb, hD4, fD4, ra.mono (.of ga.f), q4⟩
    | true =>
      refine he.vw er (r3.grow g4) q4 fun z F5 H5 m5 d5 g5 v5 rp5 q5 => ?_
      obtain ⟨hm, hz, q6⟩ := q5
      obtain ⟨hD5, fD5⟩ := nt g5 hD4 fD4
      have gc := gb.trans g5 r1.st.dr
      refine ⟨xs, hD5, by rw [ra.len]; exact Nat.lt_of_le_of_lt hz (by decide), F5, xs ++ [z], acc ++ [d5], ?_, upd_same, fD5, (ra.mono (.of (ga.f.trans g5.f))).app (.one (rp5 hm)), q6⟩
      exact {
        z := gc.z
        f := gc.f
        h := fun b o e n => by rw [upd_ne (ne_of_none e nD)]; exact gc.h b o e n
        d := fun b e z => by
          by_cases hb : b = Dl
          · subst hb; rw [upd_same] at z; cases z
          · rw [upd_ne hb] at z; exact gc.d b e z
        n := gc.n
        s := fun b o e => by rw [upd_ne (ne_of_none e fD5)]; exact gc.s b o e
        t := fun a e h => by
          obtain ⟨c1, s1, p1, z1, z2⟩ := gc.t a e h
          exact ⟨c1, s1, p1, by rw [upd_ne (fun w => tD (by rw [e, w]))]; exact z1, z2⟩ }
  · have e : i = ds.length := by omega
    subst e
    rw [List.drop_length] at q'
    exact .inl ⟨y.2, k (.ref Dl) F' H' .ow (.lst acc) (g1.trans g' rs.st.dr) ⟨Dl, .lst xs, rfl, g1.pre nD, hD, fD, tD, ra⟩ q'⟩
end
/-! ### calls -/
abbrev PSp := List Ar → (Md → D → Prop) → (Nat → Prop) → Prop
def Ar.un : Ar → Ar
  | .pk d => .sh d
  | a => a
def Ar.isPk : Ar → Bool
  | .pk _ => true
  | _ => false
def scalD : D → Bool
  | .non => true | .bl _ => true | .int _ => true | .str _ => true | _ => false
/-- the promise over data as a promise over the heap -/
def lift (K : PySem.W.Frag) (c : Cl) (psp : PSp) : Sp := fun vs H Q E => ∃ t F as Qp Ep, Same F H ∧ (∀ a, t = some a → Dr H a ∧ F a = none) ∧ AvL K t F H vs as ∧ as.any Ar.isPk = false ∧ psp as Qp Ep ∧
  (∀ x F' H' m d, Grow t F H F' H' → RV t H F' H' x m d → m ≠ .pk → Qp m d → Q x H') ∧ ∀ n F' H', Grow t F H F' H' → Ep n → E (.ref (c.at n)) none H'
/-- a result that holds nothing of the arguments -/
def okR : Md → D → Bool
  | .ow, .lst ds => ds.all scalD
  | _, d => scalD d
def qCall (psp : PSp) (Ep : XP) (a : QA) : QE := fun δ Q => a δ fun as => psp (as.map Ar.un) (fun m d => (as.any Ar.isPk = true → okR m d = true) ∧ Q m d) (Ep δ)
section
variable {K : PySem.W.Frag} {c : Cl} {t : Option Addr}
theorem avl_len {F H : Hp} : ∀ {xs : List V} {as : List Ar}, AvL K t F H xs as → xs.length = as.length
  | [], [], _ => rfl
  | _ :: _, _ :: _, h => by rw [List.length_cons, List.length_cons, avl_len h.2]
  | [], _ :: _, h => False.elim h
  | _ :: _, [], h => False.elim h
/-- what stands to be read only is frozen for a call -/
theorem avl_un {F H : Hp} (s : Same F H) (ht : ∀ a, t = some a → Dr H a ∧ F a = none) : ∀ {xs : List V} {as : List Ar}, AvL K t F H xs as → ∃ F', Same F F' ∧ Same F' H ∧ (∀ a, t = some a → F' a = none) ∧ AvL K t F' H xs (as.map Ar.un)
  | [], [], _ => ⟨F, .refl _, s, fun a e => (ht a e).2, True.intro⟩
  | x :: xs, a :: as, h => by
    obtain ⟨F1, s1, s2, n1, h1⟩ := avl_un s ht h.2
    have h0 := h.1
    cases a with
    | sh d => exact ⟨F1, s1, s2, n1, Rp.mono (.of s1) h0, h1⟩
    | tp => exact ⟨F1, s1, s2, n1, h0, h1⟩
    | sc ns => obtain ⟨b, e1, e2⟩ := h0; exact ⟨F1, s1, s2, n1, ⟨b, e1, s1.seq e2⟩, h1⟩
    | pk d =>
      obtain ⟨l, o, rfl, q1, q2, q3, q4⟩ := h0
      have sF : Same F1 (upd F1 l o) := fun b z e => by
        by_cases hb : b = l
        · subst hb
          have := s2 _ _ e
          rw [q1] at this
          rw [upd_same]; exact this
        · rw [upd_ne hb]; exact e
      have g : ∀ (ys : List V) (bs : List Ar), AvL K t F1 H ys (bs.map Ar.un) → AvL K t (upd F1 l o) H ys (bs.map Ar.un) := by
        intro ys bs
        induction bs generalizing ys with
        | nil =>
          intro h
          cases ys with
          | nil => exact True.intro
          | cons _ _ => exact h
        | cons b bs ih =>
          intro h
          cases ys with
          | nil => exact h
          | cons y ys =>
            refine ⟨?_, ih ys h.2⟩
            have h0 := h.1
            cases b with
            | sh d => exact Rp.mono (.of sF) h0
            | pk d => exact Rp.mono (.of sF) h0
            | tp => exact h0
            | sc ns => obtain ⟨b, e1, e2⟩ := h0; exact ⟨b, e1, sF.seq e2⟩
      refine ⟨upd F1 l o, s1.trans sF, fun b z e => ?_, fun a e => ?_, ?_, g xs as h1⟩
      · by_cases hb : b = l
        · subst hb; rw [upd_same] at e; rw [q1]; exact e
        · rw [upd_ne hb] at e; exact s2 b z e
      · rw [upd_ne (fun w => q3 (by rw [e, w]))]; exact n1 a e
      · have e2 : Sees F (upd F1 l o) := .of (s1.trans sF)
        show Rp (upd F1 l o) d (.ref l)
        have q5 := OO.mono e2 q4
        cases o <;> cases d <;> first
          | exact False.elim q5
          | exact ⟨l, _, rfl, upd_same, q5⟩
          | exact ⟨l, _, rfl, .inl upd_same, q5⟩
          | exact (let ⟨c, s, p, w1, w2⟩ := q5; ⟨l, rfl, c, s, p, by rw [upd_same, w1], w2⟩)
  | [], _ :: _, h => False.elim h
  | _ :: _, [], h => False.elim h
theorem nopk_un : ∀ as : List Ar, (as.map Ar.un).any Ar.isPk = false
  | [] => rfl
  | a :: as => by
    rw [List.map_cons, List.any_cons, nopk_un as]
    cases a <;> rfl
theorem un_nopk : ∀ {as : List Ar}, as.any Ar.isPk = false → as.map Ar.un = as
  | [], _ => rfl
  | a :: as, h => by
    rw [List.any_cons, Bool.or_eq_false_iff] at h
    rw [List.map_cons, un_nopk h.2]
    cases a with
    | pk d => exact absurd h.1 (by intro z; cases z)
    | _ => rfl
/-- nothing of the call's own is kept -/
theorem Grow.drop {F Fc H F' H' : Hp} (s : Same F H) (ht : ∀ a, t = some a → Dr H a ∧ F a = none) (g : Grow t Fc H F' H') : Grow t F H F H' where
  z := s
  f := .refl _
  h := g.h
  d := g.d
  n := fun _ h _ _ => h
  s := fun b o e => g.h b o (s b o e) fun z => by rw [(ht b z.symm).2] at e; cases e
  t := g.t
theorem rp_scal {F F' : Hp} {d : D} {x : V} (h : scalD d = true) (r : Rp F d x) : Rp F' d x := by
  cases d <;> first | exact r | cases h
theorem rv_scal {t' : Option Addr} {H F F' H' : Hp} {d : D} {m : Md} {x : V} (h : scalD d = true) (r : RV t' H F H' x m d) : Rp F' d x := by
  cases m with
  | sh => exact rp_scal h r
  | pk => obtain ⟨l, o, _, _, _, _, z⟩ := r; cases d <;> cases o <;> first | exact False.elim z | cases h
  | ow => obtain ⟨l, o, _, _, _, _, _, z⟩ := r; cases d <;> cases o <;> first | exact False.elim z | cases h
  | ot => obtain ⟨p, l, o, y, d1, d2, _, _, _, _, z, _⟩ := r; subst z; cases h
theorem rpl_scal {F F' : Hp} : ∀ {ds : List D} {xs : List V}, ds.all scalD = true → RpL F ds xs → RpL F' ds xs
  | [], _, _, r => r
  | d :: ds, _, h, r => by
    obtain ⟨x, r', e, h1, h2⟩ := r
    rw [List.all_cons, Bool.and_eq_true] at h
    exact ⟨x, r', e, rp_scal h.1 h1, rpl_scal h.2 h2⟩
theorem rv_ok {t' : Option Addr} {H F F' H' F1 : Hp} {d : D} {m : Md} {x : V} (h : okR m d = true) (hm : m ≠ .pk) (s : Same F' H) (r : RV t' H F H' x m d) : ∃ m', (m' = m ∨ (m' = .sh ∧ m = .sh)) ∧ RV t' H F' H' x m' d := by
  cases m with
  | sh => exact ⟨.sh, .inl rfl, rp_scal (by cases d <;> exact h) r⟩
  | pk => exact absurd rfl hm
  | ot =>
    obtain ⟨p, l, o, y, d1, d2, _, _, _, _, z, _⟩ := r
    subst z
    cases h
  | ow =>
    obtain ⟨l, o, e1, e2, e3, e4, e5, z⟩ := r
    refine ⟨.ow, .inl rfl, l, o, e1, e2, e3, s.free e2, e5, ?_⟩
    cases d with
    | lst ds => cases o <;> first | exact rpl_scal h z | exact False.elim z
    | _ => cases o <;> first | exact False.elim z | cases h
theorem call_core {E : XE} {Ep : XP} {psp : PSp} {F0 H0 L F : Hp} {δ : DS} {σ : L2.St} {H : Hp} {Q : VK} {Qp : Md → D → Prop} {xs : List V} {as : List Ar} {e : XK} {ep : Nat → Prop} (rs : RS K t F0 H0 L F δ σ H) (av : AvL K t F H xs as)
    (hp : psp (as.map Ar.un) (fun m d => (as.any Ar.isPk = true → okR m d = true) ∧ Qp m d) ep) (he : ∀ n F' H', Grow t F H F' H' → ep n → e (.ref (c.at n)) none H')
    (k : ∀ x F' H' m d, Grow t F H F' H' → RV t H F' H' x m d → m ≠ .pk → Qp m d → Q x H') : lift K c psp xs H Q e := by
  cases hpk : as.any Ar.isPk with
  | false =>
    rw [un_nopk hpk] at hp
    exact ⟨t, F, as, _, ep, rs.st.s, rs.st.tp, av, hpk, hp, fun x F' H' m d g rv hm q => k x F' H' m d g rv hm q.2, he⟩
  | true =>
    obtain ⟨F1, s1, s2, n1, av1⟩ := avl_un rs.st.s rs.st.tp av
    refine ⟨t, F1, _, _, ep, s2, fun a e => ⟨(rs.st.tp a e).1, n1 a e⟩, av1, nopk_un as, hp, fun x F' H' m d g rv hm q => ?_, fun n F' H' g q => he n F H' (g.drop rs.st.s rs.st.tp) q⟩
    obtain ⟨m', e, rv'⟩ := rv_ok (F' := F) (F1 := F) (q.1 hpk) hm rs.st.s rv
    have em : m' = m := e.elim id fun z => z.1.trans z.2.symm
    subst em
    exact k x F H' m' d (g.drop rs.st.s rs.st.tp) rv' hm q.2
theorem s_call0 {E : XE} {Ep : XP} {psp : PSp} {ta : TA} {qa : QA} (ha : SimA K c t E Ep ta qa) : SimE K c t E Ep (tCall (lift K c psp) [] E0 ta) (qCall psp P0 qa) := fun F0 H0 L F δ σ H Q Qp er rs hq k => by
  refine ha F0 H0 L F δ σ H _ _ er rs hq fun xs F1 H1 as g av q => ?_
  rw [List.append_nil]
  exact call_core (E := E) (Ep := Ep) (rs.grow g) av q (fun n F' H' _ z => False.elim z) fun x F' H' m d g2 rv _ q2 => k x F' H' m d (g.trans g2 rs.st.dr) (rv.pre g) q2
theorem s_callX {e : XK} {Ep : XP} {psp : PSp} {ta : TA} {qa : QA} (ha : SimA K c t (fun _ => e) Ep ta qa) : SimE K c t (fun _ => e) Ep (tCall (lift K c psp) [] e ta) (qCall psp Ep qa) := fun F0 H0 L F δ σ H Q Qp er rs hq k => by
  refine ha F0 H0 L F δ σ H _ _ er rs hq fun xs F1 H1 as g av q => ?_
  rw [List.append_nil]
  have r1 := rs.grow g
  exact call_core (E := fun _ => e) (Ep := Ep) r1 av q (fun n F' H' g2 z => er n F' δ σ H' (r1.grow g2) z) fun x F' H' m d g2 rv _ q2 => k x F' H' m d (g.trans g2 rs.st.dr) (rv.pre g) q2
theorem s_callS {E : XE} {Ep : XP} {psp : PSp} {ta : TA} {qa : QA} (ha : SimA K c t E Ep ta qa) : SimE K c t E Ep (tCallS (lift K c psp) E ta) (qCall psp Ep qa) := fun F0 H0 L F δ σ H Q Qp er rs hq k => by
  refine ha F0 H0 L F δ σ H _ _ er rs hq fun xs F1 H1 as g av q => ?_
  have r1 := rs.grow g
  exact call_core (E := E) (Ep := Ep) r1 av q (fun n F' H' g2 z => er n F' δ σ H' (r1.grow g2) z) fun x F' H' m d g2 rv _ q2 => k x F' H' m d (g.trans g2 rs.st.dr) (rv.pre g) q2
end
/-! ### a def, read over data -/
def Ar.sv : Ar → SV
  | .sh d => .sh d
  | .pk d => .sh d
  | .tp => .tp
  | .sc ns => .sc ns
def dstart (n : Nat) (as : List Ar) : DS := as.map (fun a => some a.sv) ++ List.replicate (n - as.length) none
section
variable {K : PySem.W.Frag} {c : Cl}
theorem avl_at {t : Option Addr} {F H : Hp} : ∀ {xs : List V} {as : List Ar} {i : Nat} {a : Ar}, AvL K t F H xs as → as[i]? = some a → ∃ x, xs[i]? = some x ∧ Av K t F H x a
  | [], [], _, _, _, e => by simp at e
  | x :: xs, b :: as, 0, a, h, e => by
    have e' : b = a := by simpa using e
    subst e'
    exact ⟨x, rfl, h.1⟩
  | x :: xs, b :: as, i + 1, a, h, e => by
    obtain ⟨y, h1, h2⟩ := avl_at (i := i) h.2 (by simpa using e)
    exact ⟨y, by simpa using h1, h2⟩
  | [], _ :: _, _, _, h, _ => False.elim h
  | _ :: _, [], _, _, h, _ => False.elim h
theorem dstart_at {n i : Nat} {as : List Ar} {s : SV} (h : (dstart n as)[i]? = some (some s)) : ∃ a, as[i]? = some a ∧ s = a.sv := by
  unfold dstart at h
  by_cases hi : i < as.length
  · rw [List.getElem?_append_left (by rw [List.length_map]; exact hi), List.getElem?_map] at h
    obtain ⟨a, h1, h2⟩ := Option.map_eq_some_iff.mp h
    cases h2
    exact ⟨a, h1, rfl⟩
  · rw [List.getElem?_append_right (by rw [List.length_map]; omega), List.getElem?_replicate] at h
    split at h
    · cases h
    · cases h
theorem start_rs {t : Option Addr} {F H : Hp} {N : List Str} {vs : List V} {as : List Ar} (s : Same F H) (ht : ∀ a, t = some a → Dr H a ∧ F a = none) (av : AvL K t F H vs as) (np : as.any Ar.isPk = false) (hN : as.length ≤ N.length) (hst : start N vs = vs.map some ++ List.replicate (N.length - vs.length) none) :
    RS K t F H F F (dstart N.length as) (start N vs) H where
  st := {
    s := s
    tp := ht
    len := by
      rw [hst]
      unfold dstart
      have := avl_len av
      simp
      omega
    sl := fun i v e => by
      obtain ⟨a, h1, rfl⟩ := dstart_at e
      obtain ⟨x, h2, h3⟩ := avl_at av h1
      refine ⟨x, ?_, ?_⟩
      · rw [hst, List.getElem?_append_left (by rw [List.length_map]; exact (List.getElem?_eq_some_iff.mp h2).1), List.getElem?_map, h2]; rfl
      · cases a with
        | sh d => exact h3
        | pk d => exact absurd (List.any_eq_true.mpr ⟨_, List.mem_of_getElem? h1, rfl⟩) (by rw [np]; exact Bool.false_ne_true)
        | tp => exact h3
        | sc ns => exact h3
    ne := fun i j d e x e1 _ _ _ => by
      obtain ⟨a, _, h2⟩ := dstart_at e1
      cases a <;> cases h2 }
  g := .refl s
  lo := .refl _
  fr := fun i d l e1 _ => by
    obtain ⟨a, _, h2⟩ := dstart_at e1
    cases a <;> cases h2
  dr := fun a e _ => (ht a e).1
/-- the reading of a def over the heap, by its reading over data -/
theorem rd_of {N : List Str} {psp : PSp} {ts : XK → TS} {qs : XP → QS} {vs : List V} {H : Hp} {Q : VK} {E : XK} (hs : ∀ t e ep, SimS K c t (fun _ => e) ep (ts e) (qs ep)) (hl : ∀ as Qp Ep, psp as Qp Ep → as.length ≤ N.length)
    (hq : ∀ as Qp Ep, psp as Qp Ep → qs (fun _ n => Ep n) { nx := fun _ => Qp .sh .non, rt := Qp } (dstart N.length as)) (h : lift K c psp vs H Q E) :
    ts E { nx := fun _ H' => Q .non H', rt := Q } (start N vs) H := by
  obtain ⟨t, F, as, Qp, Ep, s, ht, av, np, hp, k, ke⟩ := h
  have rs := start_rs (N := N) s ht av np (hl as Qp Ep hp) rfl
  refine hs t E (fun _ n => Ep n) F H F F _ _ H _ { nx := fun _ => Qp .sh .non, rt := Qp } (fun n F' δ σ H' r z => ke n F' H' r.g z) rs ⟨?_, ?_, ?_, ?_⟩ ?_
  · exact fun F' δ σ H' r q => k .non F' H' .sh .non r.g rfl (by decide) q
  · exact fun F' H' x m d g _ _ rv hm q => k x F' H' m d g rv hm q
  · exact fun F' δ σ H' r q => False.elim q
  · exact fun F' δ σ H' r q => False.elim q
  · exact hq as Qp Ep hp
end
end Sw
end
section
local macro_rules | `(tactic| walk_at "go1") => `(tactic| first
  | with_reducible refine Sw.g_seqasg ?_ | with_reducible refine Sw.g_op ?_ | with_reducible refine Sw.g_var rfl ?_ | with_reducible refine Sw.g_c ?_ | with_reducible refine Sw.g_I0 ?_
  | with_reducible refine Sw.g_cons ?_ | with_reducible refine Sw.g_nil ?_ | with_reducible refine Sw.g_call ?_ | with_reducible refine Sw.g_cb ?_ | with_reducible refine Sw.g_test ?_ | with_reducible refine Sw.g_bl ?_
  | with_reducible refine Sw.g_seqdrop ?_ | with_reducible refine Sw.g_seqsub ?_ | with_reducible refine Sw.g_asg ?_ | with_reducible refine Sw.g_asgsub ?_ | with_reducible refine Sw.g_ret ?_ | with_reducible refine Sw.g_drop ?_ | with_reducible refine Sw.g_if ?_ | with_reducible refine Sw.g_next ?_ | with_reducible refine Sw.g_name ?_
  | with_reducible refine Sw.g_B ?_ | with_reducible refine Sw.g_not ?_ | with_reducible refine Sw.g_and ?_ | with_reducible refine Sw.g_or ?_ | with_reducible refine Sw.g_andV ?_ | with_reducible refine Sw.g_orV ?_ | with_reducible refine Sw.g_notV ?_
  | with_reducible refine Sw.g_ifE ?_ | with_reducible refine Sw.g_chain ?_ | with_reducible refine Sw.g_un ?_ | with_reducible refine Sw.g_tup ?_ | with_reducible refine Sw.g_lst ?_ | with_reducible refine Sw.g_sl ?_ | with_reducible refine Sw.g_part ?_ | with_reducible refine Sw.g_nopart ?_
  | with_reducible refine Sw.g_U ?_ | with_reducible refine Sw.g_eq rfl ?_ | with_reducible refine Sw.g_ne rfl ?_ | with_reducible refine Sw.g_int ?_ | with_reducible refine Sw.g_yes ?_ | with_reducible refine L2.iteT ?_ | with_reducible refine L2.iteF ?_ | with_reducible refine Sw.iteNT ?_ | with_reducible refine Sw.iteNF ?_ | with_reducible refine Sw.g_m1 ?_ | with_reducible refine Sw.g_bm ?_ | with_reducible refine ⟨Sw.ty_lst (by assumption), ?_⟩ | with_reducible refine Sw.g_sput ?_ | with_reducible refine Sw.g_put ?_ | with_reducible refine Sw.g_dget2 ?_ | with_reducible refine Sw.g_dget ?_ | with_reducible refine Sw.g_dK ?_ | with_reducible refine Sw.g_dT ?_ | with_reducible refine Sw.g_dnotin ?_ | with_reducible refine Sw.g_din ?_ | with_reducible refine Sw.g_bm0 ?_
  | with_reducible refine Sw.g_ixL (by assumption) rfl ?_ | with_reducible refine Sw.g_ixT (by assumption) rfl ?_)
local macro_rules | `(tactic| walk_at "go") => `(tactic| repeat walk_at "go1")
local macro_rules | `(tactic| walk_at "bd") => `(tactic| repeat (first | with_reducible exact Sw.all_nil | refine Sw.all_cons ⟨_, rfl, by omega, by omega⟩ ?_))
local macro_rules | `(tactic| walk_at "new") => `(tactic| (refine ⟨Nat.le_of_ble_eq_true rfl, fun p np => ?_⟩; generalize hX : L2.upd _ p _ = H'; have sm : L2.Same _ H' := hX ▸ Sw.same_upd np; have hp : H' p = some _ := hX ▸ L2.upd_same; clear hX))
namespace Sw
open PySem PySem.Spec PyProof.Rows L2 SX
/-! ### dicts as expressions -/
def pGetK : P2 := fun d e Q => ∃ kvs key v, d = .dK kvs ∧ e = dKey key ∧ getD' kvs key = some v ∧ Q .sh v
def pGetT : P2 := fun d e Q => ∃ kvs ks v, d = .dT kvs ∧ e = .tup (ks.map dKey) ∧ getD' kvs ks = some v ∧ Q .sh v
def pInK (neg : Bool) : P2 := fun e d Q => ∃ kvs key, d = .dK kvs ∧ e = dKey key ∧ Q .sh (.bl (if neg = true then !(getD' kvs key).isSome else (getD' kvs key).isSome))
def pInT (neg : Bool) : P2 := fun e d Q => ∃ kvs ks, d = .dT kvs ∧ e = .tup (ks.map dKey) ∧ Q .sh (.bl (if neg = true then !(getD' kvs ks).isSome else (getD' kvs ks).isSome))
def qGet2K (a b e : QE) : QE := fun δ Q => a δ fun _ d => ∃ kvs, d = .dK kvs ∧ b δ fun _ y => e δ fun m z => m ≠ .pk ∧ ∃ key, y = dKey key ∧ Q .sh ((getD' kvs key).getD z)
def qGet2T (a b e : QE) : QE := fun δ Q => a δ fun _ d => ∃ kvs, d = .dT kvs ∧ b δ fun _ y => e δ fun m z => m ≠ .pk ∧ ∃ ks, y = .tup (ks.map dKey) ∧ Q .sh ((getD' kvs ks).getD z)
def qNewK : QE := fun _ Q => Q .ow (.dK [])
def qNewT : QE := fun _ Q => Q .ow (.dT [])
def qDispT (a b : QE) : QE := fun δ Q => a δ fun _ d => b δ fun m e => m ≠ .pk ∧ ∃ ks, d = .tup (ks.map dKey) ∧ Q .ow (.dT [(ks, e)])
def pListT : P1 := fun d Q => ∃ kvs, d = .dT kvs ∧ Q .ow (.lst (kvs.map fun e => .tup (e.1.map dKey)))
def qLenC (i : Nat) : QE := fun δ Q => ∃ ns, δ[i]? = some (some (.sc ns)) ∧ Q .sh (.int (ns.length : Int))
section
variable {t : Option Addr}
theorem vw_key {F H : Hp} {y : V} {key : Key} (v : Vw t F H y (dKey key)) : y = kV key := by
  rcases v with z | ⟨_, o, _, _, _, _, z⟩
  · exact rp_key' z
  · cases key <;> cases o <;> exact False.elim z
theorem vw_tkey {F H : Hp} {y : V} {ks : List Key} (v : Vw t F H y (.tup (ks.map dKey))) : ∃ b, y = .ref b ∧ F b = some (.tup (ks.map kV)) := by
  obtain ⟨b, ys, rfl, hb, hrb⟩ := vw_tup v
  rw [rpl_keys' hrb] at hb
  exact ⟨b, rfl, hb⟩
theorem dget_K {F H : Hp} {x y : V} {kvs : List (Key × D)} {key : Key} (s : Same F H) (vx : Vw t F H x (.dK kvs)) (vy : Vw t F H y (dKey key)) : ∃ a o, x = .ref a ∧ DGet H a y o ∧ IsD H a ∧ (match getD' kvs key with | none => o = none | some d => ∃ v, o = some v ∧ Rp F d v) := by
  obtain ⟨a, xs, rfl, h1, h2⟩ := vw_dK s vx
  refine ⟨a, valV xs key, rfl, .inl ⟨xs, key, h1, vw_key vy, rfl⟩, .inl ⟨xs, h1⟩, ?_⟩
  exact h2.get key
theorem dget_T {F H : Hp} {x y : V} {kvs : List (List Key × D)} {ks : List Key} (s : Same F H) (vx : Vw t F H x (.dT kvs)) (vy : Vw t F H y (.tup (ks.map dKey))) : ∃ a o, x = .ref a ∧ DGet H a y o ∧ IsD H a ∧ (match getD' kvs ks with | none => o = none | some d => ∃ v, o = some v ∧ Rp F d v) := by
  obtain ⟨a, xs, rfl, h1, h2⟩ := vw_dT s vx
  obtain ⟨b, rfl, hb⟩ := vw_tkey vy
  refine ⟨a, valV xs ks, rfl, .inr ⟨xs, ks, b, h1, rfl, s _ _ hb, rfl⟩, .inr ⟨xs, h1⟩, ?_⟩
  exact h2.get ks
abbrev rDGet : R2 := fun x y H Q => ∃ a v, x = .ref a ∧ DGet H a y (some v) ∧ Q v H
abbrev rDIn : R2 := fun y x H Q => ∃ a o, x = .ref a ∧ DGet H a y o ∧ Q (.bl o.isSome) H
abbrev rDNotIn : R2 := fun y x H Q => ∃ a o, x = .ref a ∧ DGet H a y o ∧ Q (.bl (!o.isSome)) H
theorem o_getK : Sim2 t rDGet pGetK := fun F H x y d e Q Qp s ht vx vy p k => by
  obtain ⟨kvs, key, v, rfl, rfl, hv, q⟩ := p
  obtain ⟨a, o, rfl, h1, _, h2⟩ := dget_K s vx vy
  rw [hv] at h2
  obtain ⟨w, rfl, h3⟩ := h2
  exact ⟨a, w, rfl, h1, k.val s h3 q⟩
theorem o_getT : Sim2 t rDGet pGetT := fun F H x y d e Q Qp s ht vx vy p k => by
  obtain ⟨kvs, key, v, rfl, rfl, hv, q⟩ := p
  obtain ⟨a, o, rfl, h1, _, h2⟩ := dget_T s vx vy
  rw [hv] at h2
  obtain ⟨w, rfl, h3⟩ := h2
  exact ⟨a, w, rfl, h1, k.val s h3 q⟩
theorem isSome_of {F : Hp} {g : Option D} {o : Option V} (h : match g with | none => o = none | some d => ∃ v, o = some v ∧ Rp F d v) : o.isSome = g.isSome := by
  cases g with
  | none => rw [show o = none from h]; rfl
  | some d => obtain ⟨v, rfl, _⟩ := h; rfl
theorem o_inK : Sim2 t rDIn (pInK false) := fun F H y x e d Q Qp s ht vy vx p k => by
  obtain ⟨kvs, key, rfl, rfl, q⟩ := p
  obtain ⟨a, o, rfl, h1, _, h2⟩ := dget_K s vx vy
  exact ⟨a, o, rfl, h1, by rw [isSome_of h2]; exact k.val s (d := .bl _) rfl q⟩
theorem o_inT : Sim2 t rDIn (pInT false) := fun F H y x e d Q Qp s ht vy vx p k => by
  obtain ⟨kvs, key, rfl, rfl, q⟩ := p
  obtain ⟨a, o, rfl, h1, _, h2⟩ := dget_T s vx vy
  exact ⟨a, o, rfl, h1, by rw [isSome_of h2]; exact k.val s (d := .bl _) rfl q⟩
theorem o_notInK : Sim2 t rDNotIn (pInK true) := fun F H y x e d Q Qp s ht vy vx p k => by
  obtain ⟨kvs, key, rfl, rfl, q⟩ := p
  obtain ⟨a, o, rfl, h1, _, h2⟩ := dget_K s vx vy
  exact ⟨a, o, rfl, h1, by rw [isSome_of h2]; exact k.val s (d := .bl _) rfl q⟩
theorem o_notInT : Sim2 t rDNotIn (pInT true) := fun F H y x e d Q Qp s ht vy vx p k => by
  obtain ⟨kvs, key, rfl, rfl, q⟩ := p
  obtain ⟨a, o, rfl, h1, _, h2⟩ := dget_T s vx vy
  exact ⟨a, o, rfl, h1, by rw [isSome_of h2]; exact k.val s (d := .bl _) rfl q⟩
theorem o_listT : Sim1 t (fun x => rListT [x]) pListT := fun F H x d Q Qp s ht vx p k => by
  obtain ⟨kvs, rfl, q⟩ := p
  obtain ⟨a, xs, rfl, h1, h2⟩ := vw_dT s vx
  refine ⟨a, xs, rfl, h1, fun p bs np hb => ?_⟩
  have key : ∀ {us : List (List Key × V)} {cs : List Addr}, IsKeys H us cs → ∀ {F : Hp}, Same F H → ∃ F', Grow t F H F' H ∧ RpL F' (us.map fun e => .tup (e.1.map dKey)) (cs.map V.ref) := by
    intro us cs h
    induction h with
    | nil => intro F s; exact ⟨F, .refl s, rfl⟩
    | cons r _ ih =>
      intro F s
      obtain ⟨F1, g1, h1⟩ := ih (Grow.tup (t := t) s r).s
      refine ⟨F1, (Grow.tup s r).trans g1 ht, _, _, rfl, ⟨_, _, rfl, g1.f _ _ upd_same, rpl_keys _⟩, h1⟩
  obtain ⟨F1, g1, hr⟩ := key hb s
  have ek : (xs.map fun e => D.tup (e.1.map dKey)) = kvs.map fun e => D.tup (e.1.map dKey) := by
    have := congrArg (List.map fun z => D.tup (z.map dKey)) h2.keys
    rw [List.map_map, List.map_map] at this
    exact this
  rw [ek] at hr
  exact k (.ref p) F1 _ .ow (.lst _) (g1.trans (.own g1.s np) ht) ⟨p, .lst (bs.map V.ref), rfl, np, upd_same, g1.s.free np, tape_ne ht np, hr⟩ q
end
section
variable {K : PySem.W.Frag} {c : Cl} {t : Option Addr} {E : XE} {Ep : XP} {te ta tb : TE} {qe qa qb : QE} {i : Nat}
theorem s_dget {p : P2} (h : Sim2 t rDGet p) (ha : SimE K c t E Ep ta qa) (hb : SimE K c t E Ep tb qb) : SimE K c t E Ep (tDGet ta tb) (qOp p qa qb) := s_op (r := rDGet) h ha hb
theorem s_din {p : P2} (h : Sim2 t rDIn p) (ha : SimE K c t E Ep ta qa) (hb : SimE K c t E Ep tb qb) : SimE K c t E Ep (tDIn ta tb) (qOp p qa qb) := s_op (r := rDIn) h ha hb
theorem s_dnotin {p : P2} (h : Sim2 t rDNotIn p) (ha : SimE K c t E Ep ta qa) (hb : SimE K c t E Ep tb qb) : SimE K c t E Ep (tDNotIn ta tb) (qOp p qa qb) := s_op (r := rDNotIn) h ha hb
theorem s_newK : SimE K c t E Ep tDNewK qNewK := fun F0 H0 L F δ σ H Q Qp er rs hq k p np => Post.new (t := t) (F := F) (Qp := Qp) (Q := Q) k rs.st.s rs.st.dr np (show OO F (.dK []) (.dK []) from rfl) hq
theorem s_newT : SimE K c t E Ep tDNewT qNewT := fun F0 H0 L F δ σ H Q Qp er rs hq k p np => Post.new (t := t) (F := F) (Qp := Qp) (Q := Q) k rs.st.s rs.st.dr np (show OO F (.dT []) (.dT []) from rfl) hq
theorem s_lenC (K' : PySem.W.Frag) : SimE K' c t E Ep (tCB (rLenSq K') (tCons (tVar i) tNil)) (qLenC i) := fun F0 H0 L F δ σ H Q Qp er rs hq k => by
  obtain ⟨ns, h1, q⟩ := hq
  obtain ⟨x, h3, a, rfl, h4⟩ := rs.st.sl i _ h1
  exact ⟨_, h3, a, _, rfl, .inl (rs.st.s.seq h4), by rw [List.length_map]; exact k _ F H .sh (.int _) (.refl rs.st.s) rfl q⟩
theorem IsD.grow {F H F' H' : Hp} {a : Addr} (g : Grow t F H F' H') (hn : some a ≠ t) (h : IsD H a) : IsD H' a := by
  rcases h with ⟨kvs, h | ⟨o, h⟩⟩ | ⟨kvs, h | ⟨o, h⟩⟩
  · exact .inl ⟨kvs, .inl (g.h _ _ h hn)⟩
  · exact .inl ⟨kvs, .inr ⟨o, g.h _ _ h hn⟩⟩
  · exact .inr ⟨kvs, .inl (g.h _ _ h hn)⟩
  · exact .inr ⟨kvs, .inr ⟨o, g.h _ _ h hn⟩⟩
theorem s_get2K (ha : SimE K c t E Ep ta qa) (hb : SimE K c t E Ep tb qb) (he : SimE K c t E Ep te qe) : SimE K c t E Ep (tDGet2 ta tb te) (qGet2K qa qb qe) := fun F0 H0 L F δ σ H Q Qp er rs hq k => by
  refine ha.vw er rs hq fun x F1 H1 m1 d1 g1 v1 _ q1 => ?_
  obtain ⟨kvs, rfl, q1⟩ := q1
  obtain ⟨a, xs, rfl, h1, h2⟩ := vw_dK g1.s v1
  refine ⟨a, rfl, .inl ⟨xs, h1⟩, ?_⟩
  refine hb.vw er (rs.grow g1) q1 fun y F2 H2 m2 d2 g2 v2 _ q2 => ?_
  have g12 := g1.trans g2 rs.st.dr
  refine he.vw er (rs.grow g12) q2 fun z F3 H3 m3 d3 g3 v3 rp3 q3 => ?_
  obtain ⟨hm, key, rfl, q4⟩ := q3
  obtain ⟨a', o, e2, h3, _, h4⟩ := dget_K (key := key) g3.s ((v1.grow g2).grow g3) (v2.grow g3)
  cases e2
  refine ⟨o, h3, ?_⟩
  refine k _ F3 H3 .sh _ (g12.trans g3 rs.st.dr) ?_ q4
  cases hg : getD' kvs key with
  | none => rw [hg] at h4; rw [show o = none from h4]; exact rp3 hm
  | some d => rw [hg] at h4; obtain ⟨v, rfl, h5⟩ := h4; exact h5
theorem s_get2T (ha : SimE K c t E Ep ta qa) (hb : SimE K c t E Ep tb qb) (he : SimE K c t E Ep te qe) : SimE K c t E Ep (tDGet2 ta tb te) (qGet2T qa qb qe) := fun F0 H0 L F δ σ H Q Qp er rs hq k => by
  refine ha.vw er rs hq fun x F1 H1 m1 d1 g1 v1 _ q1 => ?_
  obtain ⟨kvs, rfl, q1⟩ := q1
  obtain ⟨a, xs, rfl, h1, h2⟩ := vw_dT g1.s v1
  refine ⟨a, rfl, .inr ⟨xs, h1⟩, ?_⟩
  refine hb.vw er (rs.grow g1) q1 fun y F2 H2 m2 d2 g2 v2 _ q2 => ?_
  have g12 := g1.trans g2 rs.st.dr
  refine he.vw er (rs.grow g12) q2 fun z F3 H3 m3 d3 g3 v3 rp3 q3 => ?_
  obtain ⟨hm, key, rfl, q4⟩ := q3
  obtain ⟨a', o, e2, h3, _, h4⟩ := dget_T (ks := key) g3.s ((v1.grow g2).grow g3) (v2.grow g3)
  cases e2
  refine ⟨o, h3, ?_⟩
  refine k _ F3 H3 .sh _ (g12.trans g3 rs.st.dr) ?_ q4
  cases hg : getD' kvs key with
  | none => rw [hg] at h4; rw [show o = none from h4]; exact rp3 hm
  | some d => rw [hg] at h4; obtain ⟨v, rfl, h5⟩ := h4; exact h5
/-- {key: value}, the key a tuple -/
theorem s_dispT (ha : SimE K c t E Ep ta qa) (hb : SimE K c t E Ep tb qb) : SimE K c t E Ep (tDispT ta tb) (qDispT qa qb) := fun F0 H0 L F δ σ H Q Qp er rs hq k => by
  intro p np
  have g0 : Grow t F H F (upd H p (.dT [])) := .own rs.st.s np
  have hp0 : upd H p (.dT []) p = some (.dT []) := upd_same
  have tp := tape_ne rs.st.dr np
  refine ha.vw er (rs.grow g0) hq fun x F1 H1 m1 d1 g1 v1 _ q1 => ?_
  have g01 := g0.trans g1 rs.st.dr
  refine hb.vw er (rs.grow g01) q1 fun y F2 H2 m2 d2 g2 v2 rp2 q2 => ?_
  have g12 := g1.trans g2 (rs.grow g0).st.dr
  have g02 := g01.trans g2 rs.st.dr
  obtain ⟨hm, ks, rfl, q3⟩ := q2
  obtain ⟨b, rfl, hbk⟩ := vw_tkey (v1.grow g2)
  have hp2 := g12.h _ _ hp0 tp
  have fp2 := g12.n p (rs.st.s.free np) (by rw [hp0]; exact Option.some_ne_none _) fun xs z => by rw [hp0] at z; cases z
  refine ⟨hp2, b, ks, rfl, g2.s _ _ hbk, ?_⟩
  refine k (.ref p) F2 _ .ow (.dT [(ks, d2)]) ?_ ⟨p, .dT [(ks, y)], rfl, np, upd_same, fp2, tp, (⟨y, [], rfl, rp2 hm, rfl⟩ : RpT F2 [(ks, d2)] [(ks, y)])⟩ q3
  exact {
    z := g02.z
    f := g02.f
    h := fun b o e n => by rw [upd_ne (ne_of_none e np)]; exact g02.h b o e n
    d := fun b e z => by
      by_cases hb : b = p
      · subst hb; rw [upd_same] at z; cases z
      · rw [upd_ne hb] at z; exact g02.d b e z
    n := g02.n
    s := fun b o e => by rw [upd_ne (ne_of_none e fp2)]; exact g02.s b o e
    t := fun a e h => by
      obtain ⟨c1, s1, p1, z1, z2⟩ := g02.t a e h
      exact ⟨c1, s1, p1, by rw [upd_ne (fun w => tp (by rw [e, w]))]; exact z1, z2⟩ }
end
end Sw
end
section
local macro_rules | `(tactic| walk_at "go1") => `(tactic| first
  | with_reducible refine Sw.g_seqasg ?_ | with_reducible refine Sw.g_op ?_ | with_reducible refine Sw.g_var rfl ?_ | with_reducible refine Sw.g_c ?_ | with_reducible refine Sw.g_I0 ?_
  | with_reducible refine Sw.g_cons ?_ | with_reducible refine Sw.g_nil ?_ | with_reducible refine Sw.g_call ?_ | with_reducible refine Sw.g_cb ?_ | with_reducible refine Sw.g_test ?_ | with_reducible refine Sw.g_bl ?_
  | with_reducible refine Sw.g_seqdrop ?_ | with_reducible refine Sw.g_seqsub ?_ | with_reducible refine Sw.g_asg ?_ | with_reducible refine Sw.g_asgsub ?_ | with_reducible refine Sw.g_ret ?_ | with_reducible refine Sw.g_drop ?_ | with_reducible refine Sw.g_if ?_ | with_reducible refine Sw.g_next ?_ | with_reducible refine Sw.g_name ?_
  | with_reducible refine Sw.g_B ?_ | with_reducible refine Sw.g_not ?_ | with_reducible refine Sw.g_and ?_ | with_reducible refine Sw.g_or ?_ | with_reducible refine Sw.g_andV ?_ | with_reducible refine Sw.g_orV ?_ | with_reducible refine Sw.g_notV ?_
  | with_reducible refine Sw.g_ifE ?_ | with_reducible refine Sw.g_chain ?_ | with_reducible refine Sw.g_un ?_ | with_reducible refine Sw.g_tup ?_ | with_reducible refine Sw.g_lst ?_ | with_reducible refine Sw.g_sl ?_ | with_reducible refine Sw.g_part ?_ | with_reducible refine Sw.g_nopart ?_
  | with_reducible refine Sw.g_U ?_ | with_reducible refine Sw.g_eq rfl ?_ | with_reducible refine Sw.g_ne rfl ?_ | with_reducible refine Sw.g_int ?_ | with_reducible refine Sw.g_yes ?_ | with_reducible refine L2.iteT ?_ | with_reducible refine L2.iteF ?_ | with_reducible refine Sw.iteNT ?_ | with_reducible refine Sw.iteNF ?_ | with_reducible refine Sw.g_m1 ?_ | with_reducible refine Sw.g_bm ?_ | with_reducible refine ⟨Sw.ty_lst (by assumption), ?_⟩ | with_reducible refine Sw.g_sput ?_ | with_reducible refine Sw.g_put ?_ | with_reducible refine Sw.g_dget2 ?_ | with_reducible refine Sw.g_dget ?_ | with_reducible refine Sw.g_dK ?_ | with_reducible refine Sw.g_dT ?_ | with_reducible refine Sw.g_dnotin ?_ | with_reducible refine Sw.g_din ?_ | with_reducible refine Sw.g_bm0 ?_
  | with_reducible refine Sw.g_ixL (by assumption) rfl ?_ | with_reducible refine Sw.g_ixT (by assumption) rfl ?_)
local macro_rules | `(tactic| walk_at "go") => `(tactic| repeat walk_at "go1")
local macro_rules | `(tactic| walk_at "bd") => `(tactic| repeat (first | with_reducible exact Sw.all_nil | refine Sw.all_cons ⟨_, rfl, by omega, by omega⟩ ?_))
local macro_rules | `(tactic| walk_at "new") => `(tactic| (refine ⟨Nat.le_of_ble_eq_true rfl, fun p np => ?_⟩; generalize hX : L2.upd _ p _ = H'; have sm : L2.Same _ H' := hX ▸ Sw.same_upd np; have hp : H' p = some _ := hX ▸ L2.upd_same; clear hX))
namespace Sw
open PySem PySem.Spec PyProof.Rows L2 SX
/-! ### a dict that is walked is locked -/
def lk (a : Addr) (od : Obj) (u : HO) (G : Hp) : Hp := fun b => if b = a then (G a).map (fun _ => .frz od u) else G b
def isDict : HO → Prop
  | .dK _ => True
  | .dT _ => True
  | _ => False
section
variable {a : Addr} {od : Obj} {u : HO} {G G' : Hp}
theorem lk_ne {b : Addr} (h : b ≠ a) : lk a od u G b = G b := if_neg h
theorem lk_at {o : HO} (h : G a = some o) : lk a od u G a = some (.frz od u) := by unfold lk; rw [if_pos rfl, h]; rfl
theorem lk_none {b : Addr} (h : G b = none) : lk a od u G b = none := by
  unfold lk
  by_cases hb : b = a
  · subst hb; rw [if_pos rfl, h]; rfl
  · rw [if_neg hb]; exact h
theorem lk_none' {b : Addr} (h : lk a od u G b = none) : G b = none := by
  by_cases hb : b = a
  · subst hb
    cases q : G b with
    | none => rfl
    | some o => rw [lk_at q] at h; cases h
  · rw [lk_ne hb] at h; exact h
theorem lk_upd (h : G a = some u) : lk a od u G = upd G a (.frz od u) := by
  funext b
  by_cases hb : b = a
  · subst hb; rw [lk_at h, upd_same]
  · rw [lk_ne hb, upd_ne hb]
theorem lk_same (h : Same G G') : Same (lk a od u G) (lk a od u G') := fun b o e => by
  by_cases hb : b = a
  · subst hb
    cases q : G b with
    | none => rw [lk_none q] at e; cases e
    | some w => rw [lk_at q] at e; rw [lk_at (h _ _ q)]; exact e
  · rw [lk_ne hb] at e ⊢; exact h b o e
theorem lk_sees (h : G a = some u) (hu : isDict u) : Sees G (lk a od u G) where
  l := fun b xs e => by
    have hb : b ≠ a := fun z => by rw [z, h] at e; cases e; exact hu
    rw [lk_ne hb]; exact e
  t := fun b xs e => by
    have hb : b ≠ a := fun z => by rw [z, h] at e; cases e; exact hu
    rw [lk_ne hb]; exact e
  k := fun b xs e => by
    by_cases hb : b = a
    · subst hb
      rcases e with e | ⟨o, e⟩
      · rw [h] at e; cases e; exact .inr ⟨od, lk_at h⟩
      · rw [h] at e; cases e; exact False.elim hu
    · rcases e with e | ⟨o, e⟩
      · exact .inl (by rw [lk_ne hb]; exact e)
      · exact .inr ⟨o, by rw [lk_ne hb]; exact e⟩
  m := fun b xs e => by
    by_cases hb : b = a
    · subst hb
      rcases e with e | ⟨o, e⟩
      · rw [h] at e; cases e; exact .inr ⟨od, lk_at h⟩
      · rw [h] at e; cases e; exact False.elim hu
    · rcases e with e | ⟨o, e⟩
      · exact .inl (by rw [lk_ne hb]; exact e)
      · exact .inr ⟨o, by rw [lk_ne hb]; exact e⟩
theorem un_sees (h : G a = some (.frz od u)) (hu : isDict u) : Sees G (upd G a u) where
  l := fun b xs e => by
    have hb : b ≠ a := fun z => by rw [z, h] at e; cases e
    rw [upd_ne hb]; exact e
  t := fun b xs e => by
    have hb : b ≠ a := fun z => by rw [z, h] at e; cases e
    rw [upd_ne hb]; exact e
  k := fun b xs e => by
    by_cases hb : b = a
    · subst hb
      rcases e with e | ⟨o, e⟩
      · rw [h] at e; cases e
      · rw [h] at e; cases e; exact .inl upd_same
    · rcases e with e | ⟨o, e⟩
      · exact .inl (by rw [upd_ne hb]; exact e)
      · exact .inr ⟨o, by rw [upd_ne hb]; exact e⟩
  m := fun b xs e => by
    by_cases hb : b = a
    · subst hb
      rcases e with e | ⟨o, e⟩
      · rw [h] at e; cases e
      · rw [h] at e; cases e; exact .inl upd_same
    · rcases e with e | ⟨o, e⟩
      · exact .inl (by rw [upd_ne hb]; exact e)
      · exact .inr ⟨o, by rw [upd_ne hb]; exact e⟩
theorem lk_dr {b : Addr} (h : G a = some u) (hu : isDict u) (d : Dr G b) : Dr (lk a od u G) b := by
  obtain ⟨c1, s1, p1, z1, z2⟩ := d
  have hb : b ≠ a := fun z => by rw [z, h] at z1; cases z1; exact hu
  exact ⟨c1, s1, p1, by rw [lk_ne hb]; exact z1, z2⟩
theorem lk_dr' {b : Addr} (d : Dr (lk a od u G) b) : Dr G b := by
  obtain ⟨c1, s1, p1, z1, z2⟩ := d
  by_cases hb : b = a
  · subst hb
    cases q : G b with
    | none => rw [lk_none q] at z1; cases z1
    | some w => rw [lk_at q] at z1; cases z1
  · rw [lk_ne hb] at z1; exact ⟨c1, s1, p1, z1, z2⟩
theorem un_dr {b : Addr} (h : G a = some (.frz od u)) (d : Dr G b) : Dr (upd G a u) b := by
  obtain ⟨c1, s1, p1, z1, z2⟩ := d
  have hb : b ≠ a := fun z => by rw [z, h] at z1; cases z1
  exact ⟨c1, s1, p1, by rw [upd_ne hb]; exact z1, z2⟩
theorem lk_seq {K : PySem.W.Frag} {b : Addr} {xs : List V} (h : G a = some u) (hu : isDict u) (s : SqL K G b xs) : SqL K (lk a od u G) b xs := by
  rcases s with (e | ⟨o, e⟩) | e
  · have hb : b ≠ a := fun z => by rw [z, h] at e; cases e; exact hu
    exact .inl (.inl (by rw [lk_ne hb]; exact e))
  · have hb : b ≠ a := fun z => by rw [z, h] at e; cases e; exact hu
    exact .inl (.inr ⟨o, by rw [lk_ne hb]; exact e⟩)
  · exact .inr e
theorem un_seq {K : PySem.W.Frag} {b : Addr} {xs : List V} (h : G a = some (.frz od u)) (hu : isDict u) (s : SqL K G b xs) : SqL K (upd G a u) b xs := by
  rcases s with (e | ⟨o, e⟩) | e
  · have hb : b ≠ a := fun z => by rw [z, h] at e; cases e
    exact .inl (.inl (by rw [upd_ne hb]; exact e))
  · have hb : b ≠ a := fun z => by rw [z, h] at e; cases e; exact hu
    exact .inl (.inr ⟨o, by rw [upd_ne hb]; exact e⟩)
  · exact .inr e
end
section
variable {K : PySem.W.Frag} {t : Option Addr} {F0 H0 L F H : Hp} {δ : DS} {σ : L2.St} {a : Addr} {od : Obj} {u : HO}
theorem RS.lock (r : RS K t F0 H0 L F δ σ H) (hF : F a = some u) (hu : isDict u) : RS K t (lk a od u F0) (lk a od u H0) (lk a od u L) (lk a od u F) δ σ (lk a od u H) := by
  have hH := r.st.s _ _ hF
  have hta : ∀ b, t = some b → b ≠ a := fun b e z => by rw [z] at e; rw [(r.st.tp a e).2] at hF; cases hF
  have nt : some a ≠ t := fun e => hta a e.symm rfl
  have h0 : ∀ o, H0 a = some o → o = u := fun o e => by have := r.g.h _ _ e nt; rw [hH] at this; exact (Option.some.inj this).symm
  have se : Sees F (lk a od u F) := lk_sees hF hu
  exact {
    st := {
      s := lk_same r.st.s
      tp := fun b e => ⟨lk_dr hH hu (r.st.tp b e).1, lk_none (r.st.tp b e).2⟩
      len := r.st.len
      sl := fun i v e => by
        obtain ⟨x, h1, h2⟩ := r.st.sl i v e
        refine ⟨x, h1, ?_⟩
        cases v with
        | sh d => exact Rp.mono se h2
        | tp => exact h2
        | sc ns => obtain ⟨b, w1, w2⟩ := h2; exact ⟨b, w1, lk_seq hF hu w2⟩
        | ow d =>
          obtain ⟨l, o, w1, w2, w3, w4, w5⟩ := h2
          have hl : l ≠ a := fun z => by rw [z, hF] at w3; cases w3
          exact ⟨l, o, w1, by rw [lk_ne hl]; exact w2, lk_none w3, w4, w5.mono se⟩
      ne := r.st.ne }
    g := {
      z := lk_same r.g.z
      f := lk_same r.g.f
      h := fun b o e n => by
        by_cases hb : b = a
        · subst hb
          cases q : H0 b with
          | none => rw [lk_none q] at e; cases e
          | some w => rw [lk_at q] at e; rw [lk_at hH]; exact e
        · rw [lk_ne hb] at e ⊢; exact r.g.h b o e n
      d := fun b e z => by
        have := lk_none' z
        exact r.g.d b (fun w => e (lk_none w)) this
      n := fun b e1 e2 e3 => by
        have f1 := lk_none' e1
        have f2 : H0 b ≠ none := fun w => e2 (lk_none w)
        refine lk_none (r.g.n b f1 f2 fun xs w => ?_)
        by_cases hb : b = a
        · subst hb; have := h0 _ w; rw [← this] at hu; exact hu
        · exact e3 xs (by rw [lk_ne hb]; exact w)
      s := lk_same r.g.s
      t := fun b e h => lk_dr hH hu (r.g.t b e (lk_dr' h)) }
    lo := lk_same r.lo
    fr := fun i d l e1 e2 => lk_none (r.fr i d l e1 e2)
    dr := fun b e n => by
      have n' : H0 b ≠ none := fun w => n (lk_none w)
      obtain ⟨c1, s1, p1, z1, z2⟩ := r.dr b e n'
      exact ⟨c1, s1, p1, by rw [lk_ne (hta b e)]; exact z1, z2⟩ }
theorem lk_un {G G2 : Hp} (h : Same (lk a od u G) G2) (hG : ∀ o, G a = some o → o = u) : Same G (upd G2 a u) := fun b o e => by
  by_cases hb : b = a
  · subst hb; rw [upd_same, hG o e]
  · rw [upd_ne hb]; exact h b o (by rw [lk_ne hb]; exact e)
theorem RS.unlock {F2 H2 : Hp} {δ2 : DS} {σ2 : L2.St} (r : RS K t F0 H0 L F δ σ H) (hF : F a = some u) (hu : isDict u) (r2 : RS K t (lk a od u F0) (lk a od u H0) (lk a od u F) F2 δ2 σ2 H2) :
    H2 a = some (.frz od u) ∧ RS K t F0 H0 L (L2.upd F2 a u) δ2 σ2 (L2.upd H2 a u) := by
  have hH := r.st.s _ _ hF
  have hta : ∀ b, t = some b → b ≠ a := fun b e z => by rw [z] at e; rw [(r.st.tp a e).2] at hF; cases hF
  have nt : some a ≠ t := fun e => hta a e.symm rfl
  have h0 : ∀ o, H0 a = some o → o = u := fun o e => by have := r.g.h _ _ e nt; rw [hH] at this; exact (Option.some.inj this).symm
  have f0 : ∀ o, F0 a = some o → o = u := fun o e => h0 o (r.g.z _ _ e)
  have fF : ∀ o, F a = some o → o = u := fun o e => by rw [hF] at e; exact (Option.some.inj e).symm
  have hF2 : F2 a = some (.frz od u) := r2.lo _ _ (lk_at hF)
  have hH2 : H2 a = some (.frz od u) := r2.st.s _ _ hF2
  have se : Sees F2 (L2.upd F2 a u) := un_sees hF2 hu
  have s2 : Same (L2.upd F2 a u) (L2.upd H2 a u) := fun b o e => by
    by_cases hb : b = a
    · subst hb; rw [upd_same] at e ⊢; exact e
    · rw [upd_ne hb] at e ⊢; exact r2.st.s b o e
  refine ⟨hH2, ?_⟩
  exact {
    st := {
      s := s2
      tp := fun b e => ⟨un_dr hH2 (r2.st.tp b e).1, by rw [upd_ne (hta b e)]; exact (r2.st.tp b e).2⟩
      len := r2.st.len
      sl := fun i v e => by
        obtain ⟨x, h1, h2⟩ := r2.st.sl i v e
        refine ⟨x, h1, ?_⟩
        cases v with
        | sh d => exact Rp.mono se h2
        | tp => exact h2
        | sc ns => obtain ⟨b, w1, w2⟩ := h2; exact ⟨b, w1, un_seq hF2 hu w2⟩
        | ow d =>
          obtain ⟨l, o, w1, w2, w3, w4, w5⟩ := h2
          have hl : l ≠ a := fun z => by rw [z, hF2] at w3; cases w3
          exact ⟨l, o, w1, by rw [upd_ne hl]; exact w2, by rw [upd_ne hl]; exact w3, w4, w5.mono se⟩
      ne := r2.st.ne }
    g := {
      z := r.g.z
      f := lk_un r2.g.f f0
      h := fun b o e n => by
        by_cases hb : b = a
        · subst hb; rw [upd_same, h0 o e]
        · rw [upd_ne hb]; exact r2.g.h b o (by rw [lk_ne hb]; exact e) n
      d := fun b e z => by
        by_cases hb : b = a
        · subst hb; rw [upd_same] at z; cases z
        · rw [upd_ne hb] at z; exact r2.g.d b (fun w => e (lk_none' w)) z
      n := fun b e1 e2 e3 => by
        by_cases hb : b = a
        · subst hb
          have := r.g.n b e1 e2 e3
          rw [hF] at this; cases this
        · rw [upd_ne hb]
          exact r2.g.n b (lk_none e1) (fun w => e2 (lk_none' w)) fun xs w => e3 xs (by rw [lk_ne hb] at w; exact w)
      s := s2
      t := fun b e h => by
        have hb : H0 a = some u ∨ H0 a = none := by
          cases q : H0 a with
          | none => exact .inr rfl
          | some w => rw [h0 w q] at *; exact .inl rfl
        refine un_dr hH2 (r2.g.t b e ?_)
        obtain ⟨c1, s1, p1, z1, z2⟩ := h
        exact ⟨c1, s1, p1, by rw [lk_ne (hta b e)]; exact z1, z2⟩ }
    lo := r.lo.trans (lk_un r2.lo fF)
    fr := fun i d l e1 e2 => lk_none' (r2.fr i d l e1 e2)
    dr := r.dr }
end
end Sw
end
section
local macro_rules | `(tactic| walk_at "go1") => `(tactic| first
  | with_reducible refine Sw.g_seqasg ?_ | with_reducible refine Sw.g_op ?_ | with_reducible refine Sw.g_var rfl ?_ | with_reducible refine Sw.g_c ?_ | with_reducible refine Sw.g_I0 ?_
  | with_reducible refine Sw.g_cons ?_ | with_reducible refine Sw.g_nil ?_ | with_reducible refine Sw.g_call ?_ | with_reducible refine Sw.g_cb ?_ | with_reducible refine Sw.g_test ?_ | with_reducible refine Sw.g_bl ?_
  | with_reducible refine Sw.g_seqdrop ?_ | with_reducible refine Sw.g_seqsub ?_ | with_reducible refine Sw.g_asg ?_ | with_reducible refine Sw.g_asgsub ?_ | with_reducible refine Sw.g_ret ?_ | with_reducible refine Sw.g_drop ?_ | with_reducible refine Sw.g_if ?_ | with_reducible refine Sw.g_next ?_ | with_reducible refine Sw.g_name ?_
  | with_reducible refine Sw.g_B ?_ | with_reducible refine Sw.g_not ?_ | with_reducible refine Sw.g_and ?_ | with_reducible refine Sw.g_or ?_ | with_reducible refine Sw.g_andV ?_ | with_reducible refine Sw.g_orV ?_ | with_reducible refine Sw.g_notV ?_
  | with_reducible refine Sw.g_ifE ?_ | with_reducible refine Sw.g_chain ?_ | with_reducible refine Sw.g_un ?_ | with_reducible refine Sw.g_tup ?_ | with_reducible refine Sw.g_lst ?_ | with_reducible refine Sw.g_sl ?_ | with_reducible refine Sw.g_part ?_ | with_reducible refine Sw.g_nopart ?_
  | with_reducible refine Sw.g_U ?_ | with_reducible refine Sw.g_eq rfl ?_ | with_reducible refine Sw.g_ne rfl ?_ | with_reducible refine Sw.g_int ?_ | with_reducible refine Sw.g_yes ?_ | with_reducible refine L2.iteT ?_ | with_reducible refine L2.iteF ?_ | with_reducible refine Sw.iteNT ?_ | with_reducible refine Sw.iteNF ?_ | with_reducible refine Sw.g_m1 ?_ | with_reducible refine Sw.g_bm ?_ | with_reducible refine ⟨Sw.ty_lst (by assumption), ?_⟩ | with_reducible refine Sw.g_sput ?_ | with_reducible refine Sw.g_put ?_ | with_reducible refine Sw.g_dget2 ?_ | with_reducible refine Sw.g_dget ?_ | with_reducible refine Sw.g_dK ?_ | with_reducible refine Sw.g_dT ?_ | with_reducible refine Sw.g_dnotin ?_ | with_reducible refine Sw.g_din ?_ | with_reducible refine Sw.g_bm0 ?_
  | with_reducible refine Sw.g_ixL (by assumption) rfl ?_ | with_reducible refine Sw.g_ixT (by assumption) rfl ?_)
local macro_rules | `(tactic| walk_at "go") => `(tactic| repeat walk_at "go1")
local macro_rules | `(tactic| walk_at "bd") => `(tactic| repeat (first | with_reducible exact Sw.all_nil | refine Sw.all_cons ⟨_, rfl, by omega, by omega⟩ ?_))
local macro_rules | `(tactic| walk_at "new") => `(tactic| (refine ⟨Nat.le_of_ble_eq_true rfl, fun p np => ?_⟩; generalize hX : L2.upd _ p _ = H'; have sm : L2.Same _ H' := hX ▸ Sw.same_upd np; have hp : H' p = some _ := hX ▸ L2.upd_same; clear hX))
namespace Sw
open PySem PySem.Spec PyProof.Rows L2 SX
/-! ### for k in d -/
/-- an expression that only looks: its value by the state alone -/
def Peek (K : PySem.W.Frag) (t : Option Addr) (te : TE) (qe : QE) : Prop := ∀ F0 H0 L F δ σ H Qp, RS K t F0 H0 L F δ σ H → qe δ Qp → ∃ x m d, (m ≠ .ow) ∧ Vw t F H x d ∧ (m ≠ .pk → Rp F d x) ∧ Qp m d ∧ ∀ H' (Q : VK), Sees H H' → Q x H' → te σ H' Q
section
variable {K : PySem.W.Frag} {t : Option Addr} {ta tb : TE} {qa qb : QE}
theorem pk_var (i : Nat) : Peek K t (tVar i) (qVar i) := fun F0 H0 L F δ σ H Qp rs hq => by
  obtain ⟨s, h1, h2⟩ := hq
  obtain ⟨x, h3, h4⟩ := rs.st.sl i s h1
  cases s with
  | sh d => exact ⟨x, .sh, d, by decide, .inl h4, fun _ => h4, h2, fun H' Q _ q => ⟨x, h3, q⟩⟩
  | ow d => exact ⟨x, .pk, d, by decide, .inr h4, fun z => absurd rfl z, h2, fun H' Q _ q => ⟨x, h3, q⟩⟩
  | tp => exact False.elim h2
  | sc ns => exact False.elim h2
theorem pk_c {v : V} {d : D} (h : ∀ F, Rp F d v) : Peek K t (tC v) (qC d) := fun F0 H0 L F δ σ H Qp rs hq => ⟨v, .sh, d, by decide, .inl (h F), fun _ => h F, hq, fun _ _ _ q => q⟩
theorem pk_neg (ha : Peek K t ta qa) : Peek K t (tUn rNeg ta) (qUn pNeg qa) := fun F0 H0 L F δ σ H Qp rs hq => by
  obtain ⟨x, m, d, hm, v, r, ⟨i, rfl, q⟩, k⟩ := ha F0 H0 L F δ σ H _ rs hq
  have e := vw_int v
  subst e
  exact ⟨.int (-i), .sh, .int (-i), by decide, .inl rfl, fun _ => rfl, q, fun H' Q s q => k H' _ s ⟨i, rfl, q⟩⟩
theorem pk_I0 {g : Int → Int → V} {g' : Int → Int → D} (h : ∀ i j F, Rp F (g' i j) (g i j)) (ha : Peek K t ta qa) (hb : Peek K t tb qb) : Peek K t (tOp (rI0 g) ta tb) (qOp (pI0 g') qa qb) := fun F0 H0 L F δ σ H Qp rs hq => by
  obtain ⟨x, m, d, hm, v, r, q, k⟩ := ha F0 H0 L F δ σ H _ rs hq
  obtain ⟨y, m2, e, hm2, v2, r2, ⟨i, j, rfl, rfl, q2⟩, k2⟩ := hb F0 H0 L F δ σ H _ rs q
  have e1 := vw_int v
  have e2 := vw_int v2
  subst e1 e2
  exact ⟨g i j, .sh, g' i j, by decide, .inl (h i j F), fun _ => h i j F, q2, fun H' Q s q => k H' _ s (k2 H' _ s ⟨i, j, rfl, rfl, q⟩)⟩
theorem pk_ixL (ha : Peek K t ta qa) (hb : Peek K t tb qb) : Peek K t (tOp (rIxL K) ta tb) (qOp pIxL qa qb) := fun F0 H0 L F δ σ H Qp rs hq => by
  obtain ⟨x, m, d, hm, v, r, q, k⟩ := ha F0 H0 L F δ σ H _ rs hq
  obtain ⟨y, m2, e, hm2, v2, r2, ⟨ds, i, w, rfl, rfl, ev, q2⟩, k2⟩ := hb F0 H0 L F δ σ H _ rs q
  obtain ⟨a, xs, rfl, h1, h2⟩ := vw_lst rs.st.s v
  obtain ⟨z, h3, h4⟩ := rpl_atI h2 ev
  have e2 := vw_int v2
  subst e2
  exact ⟨z, .sh, w, by decide, .inl h4, fun _ => h4, q2, fun H' Q s q => k H' _ s (k2 H' _ s ⟨a, xs, i, z, rfl, rfl, .inl (.inl (s.l _ _ h1)), h3, q⟩)⟩
end
def tForD (td : TE) (g : TG) (tb : TS) : TS := fun D σ H => tLock (tFor (iKeys td) g tb) D σ H ∨ tFor (iKeys td) g tb D σ H
theorem ps_forD {X : Cx} {st : Stmt} {td : TE} {g : TG} {tb : TS} (h : PS X st (tFor (iKeys td) g tb)) : PS X st (tForD td g tb) := ⟨fun pins s σ H D I hw => hw.elim (fun w => (ps_lock h).run pins s σ H D I w) fun w => h.run pins s σ H D I w⟩
def qForD (e : QE) (g : QG) (b : QS) : QS := fun P δ => e δ fun m d => m ≠ .pk ∧ ((∃ kvs, d = .dT kvs ∧ loop g b P (kvs.map fun e => .tup (e.1.map dKey)) δ) ∨ ∃ kvs, d = .dK kvs ∧ loop g b P (kvs.map fun e => dKey e.1) δ)
section
variable {K : PySem.W.Frag} {c : Cl} {t : Option Addr} {E : XE} {Ep : XP} {te : TE} {qe : QE} {ts : TS} {qs : QS} {g : TG} {qg : QG} {nm : List Nat}
theorem itkt_ok {F : Hp} {a : Addr} {o : Obj} {xs : List (List Key × V)} {kvs : List (List Key × D)} (h : F a = some (.frz o (.dT xs))) (hk : xs.map (·.1) = kvs.map (·.1)) : ItOk (Itkt a o xs) F (kvs.map fun e => .tup (e.1.map dKey)) := fun F1 H1 s1 s2 => by
  have hl : xs.length = kvs.length := by simpa using congrArg List.length hk
  refine ⟨fun i d e => ?_, s2 _ _ (s1 _ _ h), by rw [List.length_map, hl]; exact Nat.le_refl _⟩
  rw [List.getElem?_map] at e
  obtain ⟨e0, h1, rfl⟩ := Option.map_eq_some_iff.mp e
  have hi : i < kvs.length := (List.getElem?_eq_some_iff.mp h1).1
  refine ⟨⟨s2 _ _ (s1 _ _ h), by omega⟩, fun x H2 ⟨e1, k, v, q, h2, h3, h4⟩ => ?_⟩
  subst e1 h3
  have : e0.1 = k := by
    have z1 := congrArg (fun l => l[i]?) hk
    simp only [List.getElem?_map] at z1
    rw [h1, h2] at z1
    exact (Option.some.inj z1).symm
  rw [this]
  exact ⟨_, .tup s2 h4, q, _, rfl, upd_same, rpl_keys k⟩
theorem itk_ok {F : Hp} {a : Addr} {o : Obj} {xs : List (Key × V)} {kvs : List (Key × D)} (h : F a = some (.frz o (.dK xs))) (hk : xs.map (·.1) = kvs.map (·.1)) : ItOk (Itk a o xs) F (kvs.map fun e => dKey e.1) := fun F1 H1 s1 s2 => by
  have hl : xs.length = kvs.length := by simpa using congrArg List.length hk
  refine ⟨fun i d e => ?_, s2 _ _ (s1 _ _ h), by rw [List.length_map, hl]; exact Nat.le_refl _⟩
  rw [List.getElem?_map] at e
  obtain ⟨e0, h1, rfl⟩ := Option.map_eq_some_iff.mp e
  have hi : i < kvs.length := (List.getElem?_eq_some_iff.mp h1).1
  refine ⟨⟨s2 _ _ (s1 _ _ h), by omega⟩, fun x H2 ⟨e1, k, v, h2, h3⟩ => ?_⟩
  subst e1 h3
  have : e0.1 = k := by
    have z1 := congrArg (fun l => l[i]?) hk
    simp only [List.getElem?_map] at z1
    rw [h1, h2] at z1
    exact (Option.some.inj z1).symm
  rw [this]
  exact ⟨F1, .refl s2, rp_key k⟩
theorem bare {F0 H0 L F H : Hp} (g : Grow t F0 H0 F H) (lo : Same L F) (dr : ∀ a, t = some a → H0 a ≠ none → Dr H0 a) (st : ∀ a, t = some a → Dr H a ∧ F a = none) : RS K t F0 H0 L F [] [] H where
  st := {
    s := g.s
    tp := st
    len := rfl
    sl := fun i v e => by simp at e
    ne := fun i j d e x e1 _ _ _ => by simp at e1 }
  g := g
  lo := lo
  fr := fun i d l e1 _ => by simp at e1
  dr := dr
theorem s_forD (hp : Peek K t te qe) (hg : SimG K t nm g qg) (hb : SimS K c t E P0 ts qs) : SimS K c t E Ep (tForD te g ts) (qForD qe qg qs) := fun F0 H0 L F δ σ H De Dp er rs en hq => by
  obtain ⟨x, m, d, hm, v, r, ⟨hm2, q⟩, k⟩ := hp F0 H0 L F δ σ H _ rs hq
  have rp := r hm2
  -- either kind: its object u, its walk
  have main : ∀ (a : Addr) (u : HO) (ds : List D), x = .ref a → isDict u → Rd F a u → (∀ (G : Hp) (o : Obj), G a = some (.frz o u) → ∃ J, ItOk J G ds ∧ ∀ (H' : Hp) (R : It → Hp → Prop), H' a = some (.frz o u) → R J H' → (∃ kvs, H' a = some (.frz o (.dK kvs)) ∧ R (Itk a o kvs) H') ∨ ∃ kvs, H' a = some (.frz o (.dT kvs)) ∧ R (Itkt a o kvs) H') →
      loop qg qs Dp ds δ → tForD te g ts De σ H := by
    intro a u ds ex hu hr hit hl
    subst ex
    rcases hr with hF | ⟨o, hF⟩
    · have hH := rs.st.s _ _ hF
      refine .inl ⟨a, u, hH, by cases u <;> first | exact True.intro | exact hu, fun od => ?_⟩
      have rl := rs.lock (od := od) hF hu
      have eH : lk a od u H = upd H a (.frz od u) := lk_upd hH
      obtain ⟨J, ok, hJ⟩ := hit (lk a od u F) od (lk_at hF)
      rw [← eH]
      refine k _ _ (lk_sees hH hu) ⟨a, od, rfl, hJ (lk a od u H) (ForW g ts ⟨fun σ' H' => H' a = some (.frz od u) ∧ De.nx σ' (upd H' a u), fun v H' => H' a = some (.frz od u) ∧ De.rt v (upd H' a u), fun σ' H' => H' a = some (.frz od u) ∧ De.bk σ' (upd H' a u), fun σ' H' => H' a = some (.frz od u) ∧ De.ct σ' (upd H' a u)⟩ σ) (lk_at hH) ?_⟩
      refine for_core (L := lk a od u F) (Dp := Dp) hg hb ER.no rl.at ⟨?_, ?_, ?_, ?_⟩ ok hl
      · intro F4 δ4 σ4 H4 r4 q4
        obtain ⟨z1, z2⟩ := rs.unlock hF hu r4
        exact ⟨z1, en.nx _ δ4 σ4 _ z2 q4⟩
      · intro F4 H4 x4 m4 d4 g4 l4 t4 rv4 hm4 q4
        have r4 : RS K t (lk a od u F0) (lk a od u H0) (lk a od u F) F4 [] [] H4 := bare g4 l4 rl.dr t4
        obtain ⟨z1, z2⟩ := rs.unlock hF hu r4
        have f4 : F4 a = some (.frz od u) := l4 _ _ (lk_at hF)
        refine ⟨z1, en.rt _ _ x4 m4 d4 z2.g z2.lo z2.st.tp ?_ hm4 q4⟩
        have se := un_sees f4 hu
        cases m4 with
        | sh => exact Rp.mono se rv4
        | pk => exact absurd rfl hm4
        | ow =>
          obtain ⟨l, o, w0, w1, w2, w3, w4, w5⟩ := rv4
          have hl : l ≠ a := fun z => by rw [z, f4] at w3; cases w3
          exact ⟨l, o, w0, lk_none' w1, by rw [upd_ne hl]; exact w2, by rw [upd_ne hl]; exact w3, w4, w5.mono se⟩
        | ot =>
          obtain ⟨p, l, o, y, d1, d2, e, a0, a1, a2, a3, a4, w1, w2, w3, w4, w5⟩ := rv4
          have hl : l ≠ a := fun z => by rw [z, f4] at w3; cases w3
          have hp : p ≠ a := fun z => by rw [z, f4] at a2; cases a2
          exact ⟨p, l, o, y, d1, d2, e, lk_none' a0, by rw [upd_ne hp]; exact a1, by rw [upd_ne hp]; exact a2, a3, a4.mono se, lk_none' w1, by rw [upd_ne hl]; exact w2, by rw [upd_ne hl]; exact w3, w4, w5.mono se⟩
      · intro F4 δ4 σ4 H4 r4 q4
        obtain ⟨z1, z2⟩ := rs.unlock hF hu r4
        exact ⟨z1, en.bk _ δ4 σ4 _ z2 q4⟩
      · intro F4 δ4 σ4 H4 r4 q4
        obtain ⟨z1, z2⟩ := rs.unlock hF hu r4
        exact ⟨z1, en.ct _ δ4 σ4 _ z2 q4⟩
    · obtain ⟨J, ok, hJ⟩ := hit F o hF
      refine .inr (k _ _ ⟨fun _ _ h => h, fun _ _ h => h, fun _ _ h => h, fun _ _ h => h⟩ ⟨a, o, rfl, hJ H (ForW g ts De σ) (rs.st.s _ _ hF) ?_⟩)
      exact for_core hg hb ER.no rs en ok hl
  rcases q with ⟨kvs, rfl, q⟩ | ⟨kvs, rfl, q⟩
  · obtain ⟨a, xs, rfl, h1, h2⟩ := rp
    exact main a (.dT xs) _ rfl True.intro h1 (fun G o h => ⟨Itkt a o xs, itkt_ok h h2.keys, fun H' R h' r => .inr ⟨xs, h', r⟩⟩) q
  · obtain ⟨a, xs, rfl, h1, h2⟩ := rp
    exact main a (.dK xs) _ rfl True.intro h1 (fun G o h => ⟨Itk a o xs, itk_ok h h2.keys, fun H' R h' r => .inl ⟨xs, h', r⟩⟩) q
end
end Sw
end
section
local macro_rules | `(tactic| walk_at "go1") => `(tactic| first
  | with_reducible refine Sw.g_seqasg ?_ | with_reducible refine Sw.g_op ?_ | with_reducible refine Sw.g_var rfl ?_ | with_reducible refine Sw.g_c ?_ | with_reducible refine Sw.g_I0 ?_
  | with_reducible refine Sw.g_cons ?_ | with_reducible refine Sw.g_nil ?_ | with_reducible refine Sw.g_call ?_ | with_reducible refine Sw.g_cb ?_ | with_reducible refine Sw.g_test ?_ | with_reducible refine Sw.g_bl ?_
  | with_reducible refine Sw.g_seqdrop ?_ | with_reducible refine Sw.g_seqsub ?_ | with_reducible refine Sw.g_asg ?_ | with_reducible refine Sw.g_asgsub ?_ | with_reducible refine Sw.g_ret ?_ | with_reducible refine Sw.g_drop ?_ | with_reducible refine Sw.g_if ?_ | with_reducible refine Sw.g_next ?_ | with_reducible refine Sw.g_name ?_
  | with_reducible refine Sw.g_B ?_ | with_reducible refine Sw.g_not ?_ | with_reducible refine Sw.g_and ?_ | with_reducible refine Sw.g_or ?_ | with_reducible refine Sw.g_andV ?_ | with_reducible refine Sw.g_orV ?_ | with_reducible refine Sw.g_notV ?_
  | with_reducible refine Sw.g_ifE ?_ | with_reducible refine Sw.g_chain ?_ | with_reducible refine Sw.g_un ?_ | with_reducible refine Sw.g_tup ?_ | with_reducible refine Sw.g_lst ?_ | with_reducible refine Sw.g_sl ?_ | with_reducible refine Sw.g_part ?_ | with_reducible refine Sw.g_nopart ?_
  | with_reducible refine Sw.g_U ?_ | with_reducible refine Sw.g_eq rfl ?_ | with_reducible refine Sw.g_ne rfl ?_ | with_reducible refine Sw.g_int ?_ | with_reducible refine Sw.g_yes ?_ | with_reducible refine L2.iteT ?_ | with_reducible refine L2.iteF ?_ | with_reducible refine Sw.iteNT ?_ | with_reducible refine Sw.iteNF ?_ | with_reducible refine Sw.g_m1 ?_ | with_reducible refine Sw.g_bm ?_ | with_reducible refine ⟨Sw.ty_lst (by assumption), ?_⟩ | with_reducible refine Sw.g_sput ?_ | with_reducible refine Sw.g_put ?_ | with_reducible refine Sw.g_dget2 ?_ | with_reducible refine Sw.g_dget ?_ | with_reducible refine Sw.g_dK ?_ | with_reducible refine Sw.g_dT ?_ | with_reducible refine Sw.g_dnotin ?_ | with_reducible refine Sw.g_din ?_ | with_reducible refine Sw.g_bm0 ?_
  | with_reducible refine Sw.g_ixL (by assumption) rfl ?_ | with_reducible refine Sw.g_ixT (by assumption) rfl ?_)
local macro_rules | `(tactic| walk_at "go") => `(tactic| repeat walk_at "go1")
local macro_rules | `(tactic| walk_at "bd") => `(tactic| repeat (first | with_reducible exact Sw.all_nil | refine Sw.all_cons ⟨_, rfl, by omega, by omega⟩ ?_))
local macro_rules | `(tactic| walk_at "new") => `(tactic| (refine ⟨Nat.le_of_ble_eq_true rfl, fun p np => ?_⟩; generalize hX : L2.upd _ p _ = H'; have sm : L2.Same _ H' := hX ▸ Sw.same_upd np; have hp : H' p = some _ := hX ▸ L2.upd_same; clear hX))
namespace Sw
open PySem PySem.Spec PyProof.Rows L2 SX
/-! ### min(d.values()), sorted(pairs) -/
def pMinV : P1 := fun d Q => ∃ kvs : List (List Key × Int), d = .dT (kvs.map fun e => (e.1, .int e.2)) ∧ kvs ≠ [] ∧ ∀ m, m ∈ kvs.map (·.2) → (∀ j ∈ kvs.map (·.2), m ≤ j) → Q .sh (.int m)
abbrev rMinV : V → Hp → VK → Prop := fun x H1 Q => ∃ a kvs is, x = V.ref a ∧ Rd H1 a (.dT kvs) ∧ kvs.map (·.2) = is.map V.int ∧ is ≠ [] ∧ ∀ m, m ∈ is → (∀ j ∈ is, m ≤ j) → Q (.int m) H1
theorem rpT_ints {F : Hp} : ∀ {kvs : List (List Key × Int)} {xs : List (List Key × V)}, RpT F (kvs.map fun e => (e.1, .int e.2)) xs → xs.map (·.2) = (kvs.map (·.2)).map V.int
  | [], _, h => by cases h; rfl
  | (k, i) :: kvs, _, h => by
    obtain ⟨x, r, rfl, h2, h3⟩ := h
    rw [List.map_cons, rpT_ints h3, show x = V.int i from h2]
    rfl
def encP (p : Int × Int) : D := .tup [.int p.1, .int p.2]
def lexLt (p q : Int × Int) : Prop := p.1 < q.1 ∨ (p.1 = q.1 ∧ p.2 < q.2)
def lexLe (p q : Int × Int) : Prop := p.1 < q.1 ∨ (p.1 = q.1 ∧ p.2 ≤ q.2)
def pSortP : P1 := fun d Q => ∃ ps : List (Int × Int), d = .lst (ps.map encP) ∧ ∀ so : List (Int × Int), so.Perm ps → so.Pairwise lexLe → Q .ow (.lst (so.map encP))
section
variable {t : Option Addr}
theorem o_minV : Sim1 t rMinV pMinV := fun F H x d Q Qp s ht vx p k => by
  obtain ⟨kvs, rfl, hn, q⟩ := p
  obtain ⟨a, xs, rfl, h1, h2⟩ := vw_dT s vx
  refine ⟨a, xs, kvs.map (·.2), rfl, h1, rpT_ints h2, by simpa using hn, fun m hm hj => k.val s (d := .int m) rfl (q m hm hj)⟩
/-- the pair that stands at x -/
def pairOf (F : Hp) (x : V) : Int × Int := match x with
  | .ref a => match F a with
    | some (.tup [.int i, .int j]) => (i, j)
    | _ => (0, 0)
  | _ => (0, 0)
theorem rpl_pairs {F : Hp} : ∀ {ps : List (Int × Int)} {xs : List V}, RpL F (ps.map encP) xs → xs.map (pairOf F) = ps ∧ ∀ x ∈ xs, ∃ a, x = .ref a ∧ F a = some (.tup [.int (pairOf F x).1, .int (pairOf F x).2])
  | [], _, h => by cases h; exact ⟨rfl, fun _ h => nomatch h⟩
  | p :: ps, _, h => by
    obtain ⟨x, r, rfl, h2, h3⟩ := h
    obtain ⟨i1, i2⟩ := rpl_pairs h3
    obtain ⟨a, xs, rfl, h4, h5⟩ := h2
    obtain ⟨y, r1, rfl, h6, h7⟩ := h5
    obtain ⟨z, r2, rfl, h8, h9⟩ := h7
    have e1 : y = .int p.1 := h6
    have e2 : z = .int p.2 := h8
    have e3 : r2 = [] := h9
    subst e1 e2 e3
    have e : pairOf F (.ref a) = p := by show (match F a with | some (HO.tup [V.int i, V.int j]) => (i, j) | _ => (0, 0)) = p; rw [h4]
    refine ⟨by rw [List.map_cons, e, i1], fun x hx => ?_⟩
    rcases List.mem_cons.mp hx with rfl | hx
    · exact ⟨a, rfl, by rw [e]; exact h4⟩
    · exact i2 x hx
theorem rpl_of_pairs {F : Hp} : ∀ {xs : List V}, (∀ x ∈ xs, ∃ a, x = .ref a ∧ F a = some (.tup [.int (pairOf F x).1, .int (pairOf F x).2])) → RpL F ((xs.map (pairOf F)).map encP) xs
  | [], _ => rfl
  | x :: xs, h => by
    obtain ⟨a, e, h1⟩ := h x List.mem_cons_self
    refine ⟨x, xs, rfl, ?_, rpl_of_pairs fun y hy => h y (List.mem_cons_of_mem _ hy)⟩
    exact ⟨a, _, e, h1, _, _, rfl, rfl, _, _, rfl, rfl, rfl⟩
theorem o_sortP {K : PySem.W.Frag} : Sim1 t (fun x => rSortedPO K [x]) pSortP := fun F H x d Q Qp s ht vx p k => by
  obtain ⟨ps, rfl, q⟩ := p
  obtain ⟨a, xs, rfl, h1, h2⟩ := vw_lst s vx
  obtain ⟨h3, h4⟩ := rpl_pairs h2
  refine ⟨a, xs, pairOf F, rfl, .inl (.inl h1), fun x hx => ?_, fun ys p so st np => ?_⟩
  · obtain ⟨b, e, h5⟩ := h4 x hx
    exact ⟨b, e, s _ _ h5⟩
  · have pe := st.perm
    have h5 : RpL F ((ys.map (pairOf F)).map encP) ys := rpl_of_pairs fun y hy => h4 y (pe.mem_iff.mp hy)
    refine k.new s ht np (o := .lst ys) (d := .lst _) h5 (q (ys.map (pairOf F)) ?_ ?_)
    · rw [← h3]; exact pe.map _
    · rw [List.pairwise_map]
      refine List.Pairwise.imp ?_ so
      intro x y h
      have := SrtO.lexB_no.mp h
      unfold lexLe
      omega
end
/-! ### data compared -/
mutual
def toPy : D → PyData
  | .non => .none
  | .bl b => .bool b
  | .int i => .int i
  | .str l => .str (S l)
  | .lst ds => .list (toPyL ds)
  | .tup ds => .tuple (toPyL ds)
  | .dK _ => .none
  | .dT _ => .none
  | .tape => .none
def toPyL : List D → List PyData
  | [] => []
  | d :: ds => toPy d :: toPyL ds
end
mutual
/-- no dict in it -/
def flatD : D → Bool
  | .lst ds => flatDL ds
  | .tup ds => flatDL ds
  | .dK _ => false
  | .dT _ => false
  | .tape => false
  | _ => true
def flatDL : List D → Bool
  | [] => true
  | d :: ds => flatD d && flatDL ds
end
mutual
theorem rp_dp {K : PySem.W.Frag} {H : Hp} : ∀ {d : D} {v : V}, flatD d = true → Rp H d v → Dp K H v (toPy d)
  | .non, _, _, h => by rw [show _ = V.non from h]; exact .non
  | .bl b, _, _, h => by rw [show _ = V.bl b from h]; exact .bl b
  | .int i, _, _, h => by rw [show _ = V.int i from h]; exact .int i
  | .str l, _, _, h => by rw [show _ = V.str (S l) from h]; exact .str _
  | .lst ds, _, f, h => by obtain ⟨a, xs, rfl, h1, h2⟩ := h; exact .lst (.inl (.inl h1)) (rpl_dp f h2)
  | .tup ds, _, f, h => by obtain ⟨a, xs, rfl, h1, h2⟩ := h; exact .tup (.inl (.inl h1)) (rpl_dp f h2)
  | .dK _, _, f, _ => by cases f
  | .dT _, _, f, _ => by cases f
  | .tape, _, f, _ => by cases f
theorem rpl_dp {K : PySem.W.Frag} {H : Hp} : ∀ {ds : List D} {vs : List V}, flatDL ds = true → RpL H ds vs → DpAll K H vs (toPyL ds)
  | [], _, _, h => by cases h; exact .nil
  | d :: ds, _, f, h => by
    obtain ⟨x, r, rfl, h1, h2⟩ := h
    have f' : (flatD d && flatDL ds) = true := f
    rw [Bool.and_eq_true] at f'
    exact .cons (rp_dp f'.1 h1) (rpl_dp f'.2 h2)
end
def pEqD : P2 := fun d e Q => flatD d = true ∧ flatD e = true ∧ SeqAt.shaped (toPy d) = true ∧ SeqAt.shaped (toPy e) = true ∧ Q .sh (.bl (PyData.eqv (toPy d) (toPy e)))
def pNeD : P2 := fun d e Q => flatD d = true ∧ flatD e = true ∧ SeqAt.shaped (toPy d) = true ∧ SeqAt.shaped (toPy e) = true ∧ Q .sh (.bl (!PyData.eqv (toPy d) (toPy e)))
theorem o_eqD {K : PySem.W.Frag} {t : Option Addr} : Sim2 t (rEqD K) pEqD := fun F H x y d e Q Qp s ht vx vy p k => by
  obtain ⟨f1, f2, s1, s2, q⟩ := p
  exact ⟨toPy d, toPy e, rp_dp f1 (vx.all s), rp_dp f2 (vy.all s), s1, s2, k.val s (d := .bl _) rfl q⟩
theorem o_neD {K : PySem.W.Frag} {t : Option Addr} : Sim2 t (rNeD K) pNeD := fun F H x y d e Q Qp s ht vx vy p k => by
  obtain ⟨f1, f2, s1, s2, q⟩ := p
  exact ⟨toPy d, toPy e, rp_dp f1 (vx.all s), rp_dp f2 (vy.all s), s1, s2, k.val s (d := .bl _) rfl q⟩
/-! ### try: .. except WheelError as e: kind = _law_kind(e) -/
def kn (n : Nat) : List Nat := (kstr n).cps.toList
def qTry (R : List Nat) (i j : Nat) (b : XP → QS) : QS := fun P δ => b (fun δ n => n ∈ R ∧ i < δ.length ∧ P.nx (((δ.set i none).set j (some (.sh (.str (kn n))))).set i none)) P δ
theorem s_try {K : PySem.W.Frag} {c : Cl} {t : Option Addr} {E : XE} {Ep : XP} {R : List Nat} {i j : Nat} {tb : WX → TS} {qb : XP → QS} (hx : ∀ n ∈ R, n < 14 ∧ Caught K c (c.at n) n) (hb : ∀ W ep, SimS K c t (WE W) ep (tb W) (qb ep)) (hij : i ≠ j) :
    SimS K c t E Ep (tTry K c.WheelError i tb (fun a cls d => tAsg (tCallE (sp_law_kind K c) a cls d (tVar i)) (gName j))) (qTry R i j qb) := fun F0 H0 L F δ σ H De Dp er rs en hq => by
  refine hb _ _ F0 H0 L F δ σ H De Dp (fun n F1 δ1 σ1 H1 r1 z => ?_) rs en hq
  obtain ⟨hn, hi, z⟩ := z
  obtain ⟨h14, ca⟩ := hx n hn
  refine ⟨true, ca.exm, fun _ a na => ?_, fun w => by cases w⟩
  refine ⟨.ref a, set_self (by rw [r1.st.len]; exact hi), rfl, rfl, c.at n, n, rfl, ca, h14, fun H2 s2 => ?_⟩
  have r2 : RS K t F0 H0 L F1 δ1 σ1 H2 := r1.grow (.same r1.st.s s2)
  have r3 := ((r2.setN (i := i) (y := some (.ref a))).setS (i := j) (d := .str (kn n)) (x := .str (kstr n)) (by show V.str _ = V.str (S _); unfold kn; rw [S_cps])).setN (i := i) (y := none)
  exact en.nx F1 _ _ H2 r3 z
end Sw
end
section
local macro_rules | `(tactic| walk_at "go1") => `(tactic| first
  | with_reducible refine Sw.g_seqasg ?_ | with_reducible refine Sw.g_op ?_ | with_reducible refine Sw.g_var rfl ?_ | with_reducible refine Sw.g_c ?_ | with_reducible refine Sw.g_I0 ?_
  | with_reducible refine Sw.g_cons ?_ | with_reducible refine Sw.g_nil ?_ | with_reducible refine Sw.g_call ?_ | with_reducible refine Sw.g_cb ?_ | with_reducible refine Sw.g_test ?_ | with_reducible refine Sw.g_bl ?_
  | with_reducible refine Sw.g_seqdrop ?_ | with_reducible refine Sw.g_seqsub ?_ | with_reducible refine Sw.g_asg ?_ | with_reducible refine Sw.g_asgsub ?_ | with_reducible refine Sw.g_ret ?_ | with_reducible refine Sw.g_drop ?_ | with_reducible refine Sw.g_if ?_ | with_reducible refine Sw.g_next ?_ | with_reducible refine Sw.g_name ?_
  | with_reducible refine Sw.g_B ?_ | with_reducible refine Sw.g_not ?_ | with_reducible refine Sw.g_and ?_ | with_reducible refine Sw.g_or ?_ | with_reducible refine Sw.g_andV ?_ | with_reducible refine Sw.g_orV ?_ | with_reducible refine Sw.g_notV ?_
  | with_reducible refine Sw.g_ifE ?_ | with_reducible refine Sw.g_chain ?_ | with_reducible refine Sw.g_un ?_ | with_reducible refine Sw.g_tup ?_ | with_reducible refine Sw.g_lst ?_ | with_reducible refine Sw.g_sl ?_ | with_reducible refine Sw.g_part ?_ | with_reducible refine Sw.g_nopart ?_
  | with_reducible refine Sw.g_U ?_ | with_reducible refine Sw.g_eq rfl ?_ | with_reducible refine Sw.g_ne rfl ?_ | with_reducible refine Sw.g_int ?_ | with_reducible refine Sw.g_yes ?_ | with_reducible refine L2.iteT ?_ | with_reducible refine L2.iteF ?_ | with_reducible refine Sw.iteNT ?_ | with_reducible refine Sw.iteNF ?_ | with_reducible refine Sw.g_m1 ?_ | with_reducible refine Sw.g_bm ?_ | with_reducible refine ⟨Sw.ty_lst (by assumption), ?_⟩ | with_reducible refine Sw.g_sput ?_ | with_reducible refine Sw.g_put ?_ | with_reducible refine Sw.g_dget2 ?_ | with_reducible refine Sw.g_dget ?_ | with_reducible refine Sw.g_dK ?_ | with_reducible refine Sw.g_dT ?_ | with_reducible refine Sw.g_dnotin ?_ | with_reducible refine Sw.g_din ?_ | with_reducible refine Sw.g_bm0 ?_
  | with_reducible refine Sw.g_ixL (by assumption) rfl ?_ | with_reducible refine Sw.g_ixT (by assumption) rfl ?_)
local macro_rules | `(tactic| walk_at "go") => `(tactic| repeat walk_at "go1")
local macro_rules | `(tactic| walk_at "bd") => `(tactic| repeat (first | with_reducible exact Sw.all_nil | refine Sw.all_cons ⟨_, rfl, by omega, by omega⟩ ?_))
local macro_rules | `(tactic| walk_at "new") => `(tactic| (refine ⟨Nat.le_of_ble_eq_true rfl, fun p np => ?_⟩; generalize hX : L2.upd _ p _ = H'; have sm : L2.Same _ H' := hX ▸ Sw.same_upd np; have hp : H' p = some _ := hX ▸ L2.upd_same; clear hX))
namespace Sw
open PySem PySem.Spec PyProof.Rows L2 SX
/-! ### reading data, step by step -/
def qAppS (i : Nat) (e : QE) : QS := fun P δ => (∃ d, δ[i]? = some (some (.ow (.lst d)))) ∧ qApp i e P δ
def qExtS (i : Nat) (e : QE) : QS := fun P δ => (∃ d, δ[i]? = some (some (.ow (.lst d)))) ∧ qExt i e P δ
def qPutKS (i : Nat) (k e : QE) : QS := fun P δ => (∃ d, δ[i]? = some (some (.ow (.dK d)))) ∧ qPutK i k e P δ
def qPutTS (i : Nat) (k e : QE) : QS := fun P δ => (∃ d, δ[i]? = some (some (.ow (.dT d)))) ∧ qPutT i k e P δ
def qSetLS (i : Nat) (j e : QE) : QS := fun P δ => (∃ d, δ[i]? = some (some (.ow (.lst d)))) ∧ qSetL i j e P δ
section
variable {δ : DS} {P : Pn} {Q : Md → D → Prop} {QT' : Bool → Prop} {QA' : List Ar → Prop} {i : Nat} {d d' : D} {a b e : QE} {s u : QS} {tt tu : QT} {p p' : P2} {p1 : P1} {x y : Int} {l l' : List Nat} {R : Prop} {m : Md}
theorem h_seq (h : s { P with nx := u P } δ) : qSeq s u P δ := h
theorem h_seqasg (h : e δ fun m d => m ≠ .pk ∧ u P (δ.set i (some (SV.of m d)))) : qSeq (qAsg e i) u P δ := h
theorem h_seqdrop (h : e δ fun _ _ => u P δ) : qSeq (qDrop e) u P δ := h
theorem h_asg (h : e δ fun m d => m ≠ .pk ∧ P.nx (δ.set i (some (SV.of m d)))) : qAsg e i P δ := h
theorem h_drop (h : e δ fun _ _ => P.nx δ) : qDrop e P δ := h
theorem h_ret (h : e δ fun m d => m ≠ .pk ∧ P.rt m d) : qRet e P δ := h
theorem h_retS (h : δ[i]? = some (some (.sh d))) (q : P.rt .sh d) : qRetV i P δ := ⟨_, h, q⟩
theorem h_retO (h : δ[i]? = some (some (.ow d))) (q : P.rt .ow d) : qRetV i P δ := ⟨_, h, q⟩
theorem h_retN (q : P.rt .sh .non) : qRetN P δ := q
theorem h_next (q : P.nx δ) : qNext P δ := q
theorem h_if (h : tt δ fun k => if k = true then s P δ else u P δ) : qIfS tt s u P δ := h
theorem h_frzO (h : δ[i]? = some (some (.ow d))) (q : s P (δ.set i (some (.sh d)))) : qFrz i s P δ := ⟨_, h, q⟩
theorem h_frzS (h : δ[i]? = some (some (.sh d))) (q : s P δ) : qFrz i s P δ := ⟨_, h, q⟩
theorem h_varS (h : δ[i]? = some (some (.sh d))) (q : Q .sh d) : qVar i δ Q := ⟨_, h, q⟩
theorem h_varO (h : δ[i]? = some (some (.ow d))) (q : Q .pk d) : qVar i δ Q := ⟨_, h, q⟩
theorem h_c (q : Q .sh d) : qC d δ Q := q
theorem h_op (h : a δ fun _ d => b δ fun _ e => p d e Q) : qOp p a b δ Q := h
theorem h_un (h : a δ fun _ d => p1 d Q) : qUn p1 a δ Q := h
theorem h_test (h : e δ fun _ d => ∃ b, d = .bl b ∧ QT' b) : qTest e δ QT' := h
theorem h_bl {b : Bool} (h : QT' b) : ∃ c, D.bl b = .bl c ∧ QT' c := ⟨b, rfl, h⟩
theorem h_and (h : tt δ fun c => if c = true then tu δ QT' else QT' false) : qAnd tt tu δ QT' := h
theorem h_or (h : tt δ fun c => if c = true then QT' true else tu δ QT') : qOr tt tu δ QT' := h
theorem h_not (h : tt δ fun c => QT' (!c)) : qNot tt δ QT' := h
theorem h_yes (h : QT' true) : qYes δ QT' := h
theorem h_andV (h : a δ fun _ d => ∃ c, d = .bl c ∧ if c = true then b δ Q else Q .sh (.bl false)) : qAndV a b δ Q := h
theorem h_orV (h : a δ fun _ d => ∃ c, d = .bl c ∧ if c = true then Q .sh (.bl true) else b δ Q) : qOrV a b δ Q := h
theorem h_notV (h : a δ fun _ d => ∃ c, d = .bl c ∧ Q .sh (.bl (!c))) : qNotV a δ Q := h
theorem h_ifE (h : tt δ fun k => if k = true then a δ Q else b δ Q) : qIf tt a b δ Q := h
theorem h_chain (h : a δ fun _ x => b δ fun _ y => p x y fun _ z => ∃ k, z = .bl k ∧ if k = true then e δ fun _ w => p' y w Q else Q .sh (.bl false)) : qChain p p' a b e δ Q := h
theorem h_nil (h : QA' []) : qNil δ QA' := h
theorem h_cons {r : QA} (h : a δ fun m d => r δ fun as => QA' (Ar.mk m d :: as)) : qCons a r δ QA' := h
theorem h_consT {r : QA} (h1 : δ[i]? = some (some .tp)) (h : r δ fun as => QA' (.tp :: as)) : qConsT i r δ QA' := ⟨h1, h⟩
theorem h_consC {r : QA} {ns : List Int} (h1 : δ[i]? = some (some (.sc ns))) (h : r δ fun as => QA' (.sc ns :: as)) : qConsC i r δ QA' := ⟨ns, h1, h⟩
theorem h_lenC {ns : List Int} (h1 : δ[i]? = some (some (.sc ns))) (h : Q .sh (.int (ns.length : Int))) : qLenC i δ Q := ⟨ns, h1, h⟩
theorem h_tup {r : QA} (h : r δ fun as => ∃ ds, as = shs ds ∧ ds.length ≤ 1000 ∧ Q .sh (.tup ds)) : qTup r δ Q := h
theorem h_lst {r : QA} (h : r δ fun as => ∃ ds, as = shs ds ∧ ds.length ≤ 1000 ∧ Q .ow (.lst ds)) : qLst r δ Q := h
theorem h_shs0 {G : List D → Prop} (h : G []) : ∃ ds, ([] : List Ar) = shs ds ∧ ds.length ≤ 1000 ∧ G ds := ⟨[], rfl, by decide, h⟩
theorem h_shs1 {G : List D → Prop} {d1 : D} (h : G [d1]) : ∃ ds, [Ar.sh d1] = shs ds ∧ ds.length ≤ 1000 ∧ G ds := ⟨[d1], rfl, Nat.le_of_ble_eq_true rfl, h⟩
theorem h_shs2 {G : List D → Prop} {d1 d2 : D} (h : G [d1, d2]) : ∃ ds, [Ar.sh d1, Ar.sh d2] = shs ds ∧ ds.length ≤ 1000 ∧ G ds := ⟨[d1, d2], rfl, Nat.le_of_ble_eq_true rfl, h⟩
theorem h_shs3 {G : List D → Prop} {d1 d2 d3 : D} (h : G [d1, d2, d3]) : ∃ ds, [Ar.sh d1, Ar.sh d2, Ar.sh d3] = shs ds ∧ ds.length ≤ 1000 ∧ G ds := ⟨[d1, d2, d3], rfl, Nat.le_of_ble_eq_true rfl, h⟩
theorem h_shs4 {G : List D → Prop} {d1 d2 d3 d4 : D} (h : G [d1, d2, d3, d4]) : ∃ ds, [Ar.sh d1, Ar.sh d2, Ar.sh d3, Ar.sh d4] = shs ds ∧ ds.length ≤ 1000 ∧ G ds := ⟨[d1, d2, d3, d4], rfl, Nat.le_of_ble_eq_true rfl, h⟩
theorem h_sl {r : D → Option Int → Option Int → (Md → D → Prop) → Prop} {o o' : QO} (h : a δ fun _ d => o δ fun lo => o' δ fun hi => r d lo hi Q) : qSl r a o o' δ Q := h
theorem h_nopart {QO' : Option Int → Prop} (h : QO' none) : qNoPart δ QO' := h
theorem h_part {QO' : Option Int → Prop} (h : a δ fun _ d => ∃ i, d = .int i ∧ QO' (some i)) : qPart a δ QO' := h
theorem h_int {G : Int → Prop} (h : G x) : ∃ i, D.int x = .int i ∧ G i := ⟨x, rfl, h⟩
theorem h_ne1 (h : R) : Md.sh ≠ .pk ∧ R := ⟨by decide, h⟩
theorem h_ne2 (h : R) : Md.ow ≠ .pk ∧ R := ⟨by decide, h⟩
theorem h_asS {G : DS → Prop} (h : G (δ.set i (some (.sh d)))) : Md.sh ≠ .pk ∧ G (δ.set i (some (SV.of .sh d))) := ⟨by decide, h⟩
theorem h_asO {G : DS → Prop} (h : G (δ.set i (some (.ow d)))) : Md.ow ≠ .pk ∧ G (δ.set i (some (SV.of .ow d))) := ⟨by decide, h⟩
theorem h_seqfrzO (h : δ[i]? = some (some (.ow d))) (q : qSeq s u P (δ.set i (some (.sh d)))) : qSeq (qFrz i s) u P δ := ⟨_, h, q⟩
theorem h_seqfrzS (h : δ[i]? = some (some (.sh d))) (q : qSeq s u P δ) : qSeq (qFrz i s) u P δ := ⟨_, h, q⟩
theorem h_seqasgG {g : QG} (h : e δ fun m d => m ≠ .pk ∧ g d δ (u P)) : qSeq (qAsgG e g) u P δ := h
/-- what follows is shown once, for all states of I, then the ways to it -/
theorem h_join (I : DS → Prop) (hu : ∀ δ', I δ' → u P δ') (h : ∀ U : DS → Prop, (∀ δ', I δ' → U δ') → s { P with nx := U } δ) : qSeq s u P δ := h _ hu
theorem h_seqif {t1 : QT} {s1 : QS} (h : t1 δ fun k => if k = true then s1 { P with nx := u P } δ else u P δ) : qSeq (qIfS t1 s1 qNext) u P δ := h
theorem h_seq1 {t1 : QT} {s1 s2 : QS} (h : t1 δ fun k => if k = true then s1 { P with nx := u P } δ else s2 { P with nx := u P } δ) : qSeq (qIfS t1 s1 s2) u P δ := h
/-! operators -/
theorem h_I0 {g : Int → Int → D} (h : Q .sh (g x y)) : pI0 g (.int x) (.int y) Q := ⟨x, y, rfl, rfl, h⟩
theorem h_I {C : Int → Int → Prop} {g : Int → Int → D} (c : C x y) (h : Q .sh (g x y)) : pI C g (.int x) (.int y) Q := ⟨x, y, rfl, rfl, c, h⟩
theorem h_neg (h : Q .sh (.int (-x))) : pNeg (.int x) Q := ⟨x, rfl, h⟩
theorem h_S {g : List Nat → List Nat → Bool} (h : Q .sh (.bl (g l l'))) : pS g (.str l) (.str l') Q := ⟨l, l', rfl, rfl, h⟩
theorem h_addS (hz : l.length + l'.length ≤ 1000000) (h : Q .sh (.str (l ++ l'))) : pAddS (.str l) (.str l') Q := ⟨l, l', rfl, rfl, hz, h⟩
theorem h_inSign {ch : Nat} (h : Q .sh (.bl (decide (ch ∈ l)))) : pInSign (.str [ch]) (.str l) Q := ⟨ch, l, rfl, rfl, h⟩
theorem h_notInSign {ch : Nat} (h : Q .sh (.bl (!decide (ch ∈ l)))) : pNotInSign (.str [ch]) (.str l) Q := ⟨ch, l, rfl, rfl, h⟩
theorem h_isN (h : Q .sh (.bl (isNon d))) : pIsN d .non Q := ⟨rfl, h⟩
theorem h_notN (h : Q .sh (.bl (!isNon d))) : pNotN d .non Q := ⟨rfl, h⟩
theorem h_eq {b : Bool} (e : eqS d d' = some b) (h : Q .sh (.bl b)) : pEq d d' Q := ⟨b, e, h⟩
theorem h_ne {b : Bool} (e : eqS d d' = some b) (h : Q .sh (.bl (!b))) : pNe d d' Q := ⟨b, e, h⟩
theorem h_ixL {ds : List D} (e : atI ds x = some d) (h : Q .sh d) : pIxL (.lst ds) (.int x) Q := ⟨ds, x, d, rfl, rfl, e, h⟩
theorem h_ixT {ds : List D} (e : atI ds x = some d) (h : Q .sh d) : pIxT (.tup ds) (.int x) Q := ⟨ds, x, d, rfl, rfl, e, h⟩
theorem h_ixS {ch : Nat} (hz : l.length ≤ 1000000) (e : atI l x = some ch) (h : Q .sh (.str [ch])) : pIxS (.str l) (.int x) Q := ⟨l, x, ch, rfl, rfl, hz, e, h⟩
theorem h_cat {ds es : List D} (hz : ds.length + es.length ≤ 1000000) (h : Q .ow (.lst (ds ++ es))) : pCat (.lst ds) (.lst es) Q := ⟨ds, es, rfl, rfl, hz, h⟩
theorem h_catT {ds es : List D} (hz : ds.length + es.length ≤ 1000) (h : Q .sh (.tup (ds ++ es))) : pCatT (.tup ds) (.tup es) Q := ⟨ds, es, rfl, rfl, hz, h⟩
theorem h_lenS (hz : l.length ≤ 1000000) (h : Q .sh (.int (l.length : Int))) : pLenS (.str l) Q := ⟨l, rfl, hz, h⟩
theorem h_lenL {ds : List D} (h : Q .sh (.int (ds.length : Int))) : pLenL (.lst ds) Q := ⟨ds, .inl rfl, h⟩
theorem h_lenT {ds : List D} (h : Q .sh (.int (ds.length : Int))) : pLenL (.tup ds) Q := ⟨ds, .inr rfl, h⟩
theorem h_abs (h : Q .sh (.int (if x < 0 then -x else x))) : pAbs (.int x) Q := ⟨x, rfl, h⟩
theorem h_max2 (h : Q .sh (.int (if y > x then y else x))) : pMax2 (.int x) (.int y) Q := ⟨x, y, rfl, rfl, h⟩
theorem h_min2 (h : Q .sh (.int (if y < x then y else x))) : pMin2 (.int x) (.int y) Q := ⟨x, y, rfl, rfl, h⟩
theorem h_int1b {b : Bool} (h : Q .sh (.int (if b = true then 1 else 0))) : pInt1 (.bl b) Q := .inr ⟨b, rfl, h⟩
theorem h_sum {ns : List Int} (h : Q .sh (.int ns.sum)) : pSum (.lst (ns.map .int)) Q := ⟨ns, rfl, h⟩
theorem h_listOf {ds : List D} (h : Q .ow (.lst ds)) : pListOf (.lst ds) Q := ⟨ds, .inl rfl, h⟩
theorem h_slS {lo hi : Option Int} (hz : l.length ≤ 1000000) (h : Q .sh (.str (cut l lo hi))) : pSlS (.str l) lo hi Q := ⟨l, rfl, hz, h⟩
theorem h_slL {ds : List D} {lo hi : Option Int} (h : Q .ow (.lst (cut ds lo hi))) : pSlL (.lst ds) lo hi Q := ⟨ds, rfl, h⟩
theorem h_slT {ds : List D} {lo hi : Option Int} (h : Q .sh (.tup (cut ds lo hi))) : pSlT (.tup ds) lo hi Q := ⟨ds, rfl, h⟩
theorem h_revL {ds : List D} (h : Q .ow (.lst ds.reverse)) : pRevL (.lst ds) Q := ⟨ds, rfl, h⟩
/-! statements with objects of one's own -/
theorem h_app {ds : List D} (h1 : δ[i]? = some (some (.ow (.lst ds)))) (hz : ds.length ≤ 1000000) (h : e δ fun m d => m ≠ .pk ∧ P.nx (δ.set i (some (.ow (.lst (ds ++ [d])))))) (mono : ∀ (R R' : Md → D → Prop), (∀ m d, R m d → R' m d) → e δ R → e δ R') : qAppS i e P δ :=
  ⟨⟨ds, h1⟩, mono _ _ (fun m d ⟨z1, z2⟩ => ⟨ds, h1, z1, hz, z2⟩) h⟩
theorem h_appV {ds : List D} {j : Nat} {v : D} (h1 : δ[i]? = some (some (.ow (.lst ds)))) (h2 : δ[j]? = some (some (.sh v))) (hz : ds.length ≤ 1000000) (h : P.nx (δ.set i (some (.ow (.lst (ds ++ [v])))))) : qAppS i (qVar j) P δ :=
  ⟨⟨ds, h1⟩, _, h2, ds, h1, by decide, hz, h⟩
theorem h_appE {ds : List D} (h1 : δ[i]? = some (some (.ow (.lst ds)))) (h : e δ fun m d => ∃ ds, δ[i]? = some (some (.ow (.lst ds))) ∧ m ≠ .pk ∧ ds.length ≤ 1000000 ∧ P.nx (δ.set i (some (.ow (.lst (ds ++ [d])))))) : qAppS i e P δ := ⟨⟨ds, h1⟩, h⟩
theorem h_appK {ds : List D} {m : Md} {d : D} (h1 : δ[i]? = some (some (.ow (.lst ds)))) (hm : m ≠ .pk) (hz : ds.length ≤ 1000000) (h : P.nx (δ.set i (some (.ow (.lst (ds ++ [d])))))) : ∃ ds, δ[i]? = some (some (.ow (.lst ds))) ∧ m ≠ .pk ∧ ds.length ≤ 1000000 ∧ P.nx (δ.set i (some (.ow (.lst (ds ++ [d]))))) := ⟨ds, h1, hm, hz, h⟩
theorem h_extE {ds : List D} (h1 : δ[i]? = some (some (.ow (.lst ds)))) (h : e δ fun _ d => ∃ ds es, δ[i]? = some (some (.ow (.lst ds))) ∧ d = .lst es ∧ ds.length + es.length ≤ 1000000 ∧ P.nx (δ.set i (some (.ow (.lst (ds ++ es)))))) : qExtS i e P δ := ⟨⟨ds, h1⟩, h⟩
theorem h_extK {ds es : List D} (h1 : δ[i]? = some (some (.ow (.lst ds)))) (hz : ds.length + es.length ≤ 1000000) (h : P.nx (δ.set i (some (.ow (.lst (ds ++ es)))))) : ∃ ds' es', δ[i]? = some (some (.ow (.lst ds'))) ∧ D.lst es = .lst es' ∧ ds'.length + es'.length ≤ 1000000 ∧ P.nx (δ.set i (some (.ow (.lst (ds' ++ es'))))) := ⟨ds, es, h1, rfl, hz, h⟩
theorem h_putTE {kvs : List (List Key × D)} {k : QE} (h1 : δ[i]? = some (some (.ow (.dT kvs)))) (h : e δ fun m d => k δ fun _ y => ∃ kvs ks, δ[i]? = some (some (.ow (.dT kvs))) ∧ y = .tup (ks.map dKey) ∧ m ≠ .pk ∧ kvs.length ≤ 1000000 ∧ P.nx (δ.set i (some (.ow (.dT (putD kvs ks d)))))) : qPutTS i k e P δ := ⟨⟨kvs, h1⟩, h⟩
theorem h_putKE {kvs : List (Key × D)} {k : QE} (h1 : δ[i]? = some (some (.ow (.dK kvs)))) (h : e δ fun m d => k δ fun _ y => ∃ kvs key, δ[i]? = some (some (.ow (.dK kvs))) ∧ y = dKey key ∧ m ≠ .pk ∧ kvs.length ≤ 1000000 ∧ P.nx (δ.set i (some (.ow (.dK (putD kvs key d)))))) : qPutKS i k e P δ := ⟨⟨kvs, h1⟩, h⟩
theorem h_putTK {kvs : List (List Key × D)} {ks : List Key} {y : D} (h1 : δ[i]? = some (some (.ow (.dT kvs)))) (hy : y = .tup (ks.map dKey)) (hm : m ≠ .pk) (hz : kvs.length ≤ 1000000) (h : P.nx (δ.set i (some (.ow (.dT (putD kvs ks d)))))) :
    ∃ kvs ks, δ[i]? = some (some (.ow (.dT kvs))) ∧ y = .tup (ks.map dKey) ∧ m ≠ .pk ∧ kvs.length ≤ 1000000 ∧ P.nx (δ.set i (some (.ow (.dT (putD kvs ks d))))) := ⟨kvs, ks, h1, hy, hm, hz, h⟩
theorem h_putKK {kvs : List (Key × D)} {key : Key} {y : D} (h1 : δ[i]? = some (some (.ow (.dK kvs)))) (hy : y = dKey key) (hm : m ≠ .pk) (hz : kvs.length ≤ 1000000) (h : P.nx (δ.set i (some (.ow (.dK (putD kvs key d)))))) :
    ∃ kvs key, δ[i]? = some (some (.ow (.dK kvs))) ∧ y = dKey key ∧ m ≠ .pk ∧ kvs.length ≤ 1000000 ∧ P.nx (δ.set i (some (.ow (.dK (putD kvs key d))))) := ⟨kvs, key, h1, hy, hm, hz, h⟩
theorem h_getT {kvs : List (List Key × D)} {ks : List Key} (hd : d = .tup (ks.map dKey)) (hv : getD' kvs ks = some d') (h : Q .sh d') : pGetT (.dT kvs) d Q := ⟨kvs, ks, d', rfl, hd, hv, h⟩
theorem h_getK {kvs : List (Key × D)} {key : Key} (hd : d = dKey key) (hv : getD' kvs key = some d') (h : Q .sh d') : pGetK (.dK kvs) d Q := ⟨kvs, key, d', rfl, hd, hv, h⟩
theorem h_inT {neg : Bool} {kvs : List (List Key × D)} {ks : List Key} (hd : d = .tup (ks.map dKey)) (h : Q .sh (.bl (if neg = true then !(getD' kvs ks).isSome else (getD' kvs ks).isSome))) : pInT neg d (.dT kvs) Q := ⟨kvs, ks, rfl, hd, h⟩
theorem h_inK {neg : Bool} {kvs : List (Key × D)} {key : Key} (hd : d = dKey key) (h : Q .sh (.bl (if neg = true then !(getD' kvs key).isSome else (getD' kvs key).isSome))) : pInK neg d (.dK kvs) Q := ⟨kvs, key, rfl, hd, h⟩
theorem h_newK (h : Q .ow (.dK [])) : qNewK δ Q := h
theorem h_newT (h : Q .ow (.dT [])) : qNewT δ Q := h
theorem h_call {psp : PSp} {Ep : XP} {r : QA} (h : r δ fun as => psp (as.map Ar.un) (fun m d => (as.any Ar.isPk = true → okR m d = true) ∧ Q m d) (Ep δ)) : qCall psp Ep r δ Q := h
theorem h_np {bb : Bool} (e : bb = false) (h : R) {S' : Prop} : (bb = true → S') ∧ R := ⟨fun z => absurd (e.symm.trans z) Bool.false_ne_true, h⟩
theorem h_sc {m : Md} (e : okR m d = true) {S' : Prop} (h : R) : (S' → okR m d = true) ∧ R := ⟨fun _ => e, h⟩
theorem h_dispT (h : a δ fun _ d => b δ fun m e => m ≠ .pk ∧ ∃ ks, d = .tup (ks.map dKey) ∧ Q .ow (.dT [(ks, e)])) : qDispT a b δ Q := h
theorem h_minV {kvs : List (List Key × Int)} (hn : kvs ≠ []) (h : ∀ m, m ∈ kvs.map (·.2) → (∀ j ∈ kvs.map (·.2), m ≤ j) → Q .sh (.int m)) : pMinV (.dT (kvs.map fun e => (e.1, .int e.2))) Q := ⟨kvs, rfl, hn, h⟩
theorem h_seqforD {g : QG} (h : e δ fun m d => m ≠ .pk ∧ ((∃ kvs, d = .dT kvs ∧ loop g s { P with nx := u P } (kvs.map fun e => .tup (e.1.map dKey)) δ) ∨ ∃ kvs, d = .dK kvs ∧ loop g s { P with nx := u P } (kvs.map fun e => dKey e.1) δ)) : qSeq (qForD e g s) u P δ := h
/-! walks -/
theorem h_for {qi : QI} {g : QG} (h : qi δ fun m ds => m ≠ .pk ∧ loop g s P ds δ) : qFor qi g s P δ := h
theorem h_seqfor {qi : QI} {g : QG} (h : qi δ fun m ds => m ≠ .pk ∧ loop g s { P with nx := u P } ds δ) : qSeq (qFor qi g s) u P δ := h
theorem h_iList {QI' : Md → List D → Prop} (h : e δ fun m d => ∃ ds, d = .lst ds ∧ QI' m ds) : qiList e δ QI' := h
theorem h_iTup {QI' : Md → List D → Prop} (h : e δ fun _ d => ∃ ds, d = .tup ds ∧ QI' .sh ds) : qiTup e δ QI' := h
theorem h_iStr {QI' : Md → List D → Prop} (h : e δ fun _ d => ∃ l : List Nat, d = .str l ∧ QI' .sh (l.map fun ch => .str [ch])) : qiStr e δ QI' := h
theorem h_iR1 {QI' : Md → List D → Prop} (h : e δ fun _ d => ∃ j : Int, d = .int j ∧ -(2 ^ 62) ≤ j ∧ j < 2 ^ 62 ∧ QI' .sh ((rng 0 j.toNat).map .int)) : qiR1 e δ QI' := h
theorem h_iR2 {QI' : Md → List D → Prop} (h : a δ fun _ d => b δ fun _ e => ∃ i j : Int, d = .int i ∧ e = .int j ∧ (-(2 ^ 62) ≤ i ∧ i < 2 ^ 62 ∧ -(2 ^ 62) ≤ j ∧ j < 2 ^ 62) ∧ QI' .sh ((rng i (j - i).toNat).map .int)) : qiR2 a b δ QI' := h
theorem h_iR3 {QI' : Md → List D → Prop} (h : a δ fun _ d1 => b δ fun _ d2 => e δ fun _ d3 => ∃ (i j c : Int) (n : Nat), d1 = .int i ∧ d2 = .int j ∧ d3 = .int c ∧ RgC i j c n ∧ QI' .sh ((rngC i c n).map .int)) : qiR3 a b e δ QI' := h
theorem h_iEnum {QI' : Md → List D → Prop} (h : e δ fun m d => ∃ ds, d = .lst ds ∧ QI' m (ds.zipIdx.map fun p => .tup [.int (p.2 : Int), p.1])) : qiEnum e δ QI' := h
theorem h_iZip {QI' : Md → List D → Prop} (h : a δ fun m d => b δ fun m' e => ∃ ds es, d = .lst ds ∧ e = .lst es ∧ QI' (if m = .pk ∨ m' = .pk then .pk else .sh) ((ds.zip es).map fun p => .tup [p.1, p.2])) : qiZip a b δ QI' := h
theorem h_lst1 {ds : List D} {G : List D → Prop} (h : G ds) : ∃ es, D.lst ds = .lst es ∧ G es := ⟨ds, rfl, h⟩
theorem h_tup1 {ds : List D} {G : List D → Prop} (h : G ds) : ∃ es, D.tup ds = .tup es ∧ G es := ⟨ds, rfl, h⟩
theorem h_str1 {G : List Nat → Prop} (h : G l) : ∃ es, D.str l = .str es ∧ G es := ⟨l, rfl, h⟩
theorem h_lc {qi : QI} {g : QG} {vs : List Nat} (h : qi δ fun _ ds => lcGo (wipeD δ vs) g tt e (fun acc => Q .ow (.lst acc)) ds []) : qLc qi g tt e vs δ Q := h
theorem h_gN {QG' : DS → Prop} (h : QG' (δ.set i (some (.sh d)))) : qgName i d δ QG' := h
theorem h_gT {n : Nat} {g : QGs} {ds : List D} {QG' : DS → Prop} (hl : ds.length = n) (h : g ds δ QG') : qgTup n g (.tup ds) δ QG' := ⟨ds, rfl, hl, h⟩
theorem h_gC {g : QG} {r : QGs} {ds : List D} {QG' : DS → Prop} (h : g d δ fun δ' => r ds δ' QG') : qgCons g r (d :: ds) δ QG' := ⟨d, ds, rfl, h⟩
theorem h_gE {QG' : DS → Prop} (h : QG' δ) : qgNil [] δ QG' := ⟨rfl, h⟩
theorem h_asgG {g : QG} (h : e δ fun m d => m ≠ .pk ∧ g d δ P.nx) : qAsgG e g P δ := h
theorem h_forD {g : QG} (h : e δ fun m d => m ≠ .pk ∧ ((∃ kvs, d = .dT kvs ∧ loop g s P (kvs.map fun e => .tup (e.1.map dKey)) δ) ∨ ∃ kvs, d = .dK kvs ∧ loop g s P (kvs.map fun e => dKey e.1) δ)) : qForD e g s P δ := h
theorem h_raise {Ep : XP} {n : Nat} (h : Ep δ n) : qRaise Ep n P δ := h
end
/-! ### loops by what stays -/
theorem loop_inv {g : QG} {b : QS} {P : Pn} {ds : List D} {δ : DS} (I : Nat → DS → Prop) (h0 : I 0 δ)
    (hs : ∀ (i : Nat) (d : D) (δ' : DS) (N : DS → Prop), ds[i]? = some d → I i δ' → (∀ δ2, I (i + 1) δ2 → N δ2) → g d δ' fun δ2 => b { P with nx := N, ct := N, bk := P.nx } δ2) (he : ∀ δ', I ds.length δ' → P.nx δ') : loop g b P ds δ := by
  have key : ∀ (k : Nat) (δ' : DS), k ≤ ds.length → I (ds.length - k) δ' → loop g b P (ds.drop (ds.length - k)) δ' := by
    intro k
    induction k with
    | zero => intro δ' _ h; rw [Nat.sub_zero, List.drop_length]; exact he δ' h
    | succ k ih =>
      intro δ' hk h
      have hlt : ds.length - (k + 1) < ds.length := by omega
      rw [drop_at (List.getElem?_eq_getElem hlt)]
      have e1 : ds.length - (k + 1) + 1 = ds.length - k := by omega
      refine hs _ _ δ' _ (List.getElem?_eq_getElem hlt) h fun δ2 h2 => ?_
      rw [e1] at h2 ⊢
      exact ih δ2 (by omega) h2
  have := key ds.length δ (Nat.le_refl _) (by rw [Nat.sub_self]; exact h0)
  rw [Nat.sub_self, List.drop_zero] at this
  exact this
theorem lc_inv {δ : DS} {g : QG} {tt : QT} {e : QE} {Q : List D → Prop} {ds : List D} (I : Nat → List D → Prop) (h0 : I 0 [])
    (hs : ∀ (i : Nat) (d : D) (acc : List D) (N : List D → Prop), ds[i]? = some d → I i acc → (∀ acc', I (i + 1) acc' → N acc') → g d δ fun δ' => tt δ' fun b => if b = true then e δ' fun m y => m ≠ .pk ∧ acc.length ≤ 1000000 ∧ N (acc ++ [y]) else N acc) (he : ∀ acc, I ds.length acc → Q acc) : lcGo δ g tt e Q ds [] := by
  have key : ∀ (k : Nat) (acc : List D), k ≤ ds.length → I (ds.length - k) acc → lcGo δ g tt e Q (ds.drop (ds.length - k)) acc := by
    intro k
    induction k with
    | zero => intro acc _ h; rw [Nat.sub_zero, List.drop_length]; exact he acc h
    | succ k ih =>
      intro acc hk h
      have hlt : ds.length - (k + 1) < ds.length := by omega
      rw [drop_at (List.getElem?_eq_getElem hlt)]
      have e1 : ds.length - (k + 1) + 1 = ds.length - k := by omega
      refine hs _ _ acc _ (List.getElem?_eq_getElem hlt) h fun a2 h2 => ?_
      rw [e1] at h2 ⊢
      exact ih a2 (by omega) h2
  have := key ds.length [] (Nat.le_refl _) (by rw [Nat.sub_self]; exact h0)
  rw [Nat.sub_self, List.drop_zero] at this
  exact this
/-- each item by itself: what is made of it, if anything -/
theorem lc_fm {δ : DS} {g : QG} {tt : QT} {e : QE} {Q : List D → Prop} {ds : List D} (f : D → Option D) (hl : ds.length ≤ 1000000)
    (hs : ∀ (d : D) (k : Option D → Prop) (n : Nat), d ∈ ds → n ≤ 1000000 → k (f d) → g d δ fun δ' => tt δ' fun b => if b = true then e δ' fun m y => m ≠ .pk ∧ n ≤ 1000000 ∧ k (some y) else k none) (he : Q (ds.filterMap f)) : lcGo δ g tt e Q ds [] := by
  refine lc_inv (fun i acc => acc = (ds.take i).filterMap f) rfl (fun i d acc N hd hI hN => ?_) (fun acc hI => ?_)
  · have hi : i < ds.length := (List.getElem?_eq_some_iff.mp hd).1
    have hacc : acc.length ≤ 1000000 := by
      have h1 := List.length_filterMap_le f (ds.take i)
      rw [List.length_take] at h1
      rw [hI]
      omega
    refine hs d (fun o => match o with | some y => N (acc ++ [y]) | none => N acc) acc.length (List.mem_of_getElem? hd) hacc ?_
    have hn : (ds.take (i + 1)).filterMap f = (ds.take i).filterMap f ++ (f d).toList := by
      rw [List.take_succ, hd, List.filterMap_append]
      cases h : f d with
      | none => simp [h]
      | some y => simp [h]
    cases h : f d with
    | none => exact hN _ (by rw [hn, h, hI]; simp)
    | some y => exact hN _ (by rw [hn, h, hI]; simp)
  · rw [hI, List.take_length]; exact he
/-- .. each gives one -/
theorem lc_map {δ : DS} {g : QG} {e : QE} {Q : List D → Prop} {ds : List D} (f : D → D) (hl : ds.length ≤ 1000000)
    (hs : ∀ (d : D) (k : D → Prop) (n : Nat), d ∈ ds → n ≤ 1000000 → k (f d) → g d δ fun δ' => e δ' fun m y => m ≠ .pk ∧ n ≤ 1000000 ∧ k y) (he : Q (ds.map f)) : lcGo δ g qYes e Q ds [] := by
  refine lc_fm (fun d => some (f d)) hl (fun d k n hd hn hk => hs d (fun y => k (some y)) n hd hn hk) ?_
  have e : ds.filterMap (fun d => some (f d)) = ds.map f := by simp
  rw [e]
  exact he
end Sw
end
section
local macro_rules | `(tactic| walk_at "go1") => `(tactic| first
  | with_reducible refine Sw.g_seqasg ?_ | with_reducible refine Sw.g_op ?_ | with_reducible refine Sw.g_var rfl ?_ | with_reducible refine Sw.g_c ?_ | with_reducible refine Sw.g_I0 ?_
  | with_reducible refine Sw.g_cons ?_ | with_reducible refine Sw.g_nil ?_ | with_reducible refine Sw.g_call ?_ | with_reducible refine Sw.g_cb ?_ | with_reducible refine Sw.g_test ?_ | with_reducible refine Sw.g_bl ?_
  | with_reducible refine Sw.g_seqdrop ?_ | with_reducible refine Sw.g_seqsub ?_ | with_reducible refine Sw.g_asg ?_ | with_reducible refine Sw.g_asgsub ?_ | with_reducible refine Sw.g_ret ?_ | with_reducible refine Sw.g_drop ?_ | with_reducible refine Sw.g_if ?_ | with_reducible refine Sw.g_next ?_ | with_reducible refine Sw.g_name ?_
  | with_reducible refine Sw.g_B ?_ | with_reducible refine Sw.g_not ?_ | with_reducible refine Sw.g_and ?_ | with_reducible refine Sw.g_or ?_ | with_reducible refine Sw.g_andV ?_ | with_reducible refine Sw.g_orV ?_ | with_reducible refine Sw.g_notV ?_
  | with_reducible refine Sw.g_ifE ?_ | with_reducible refine Sw.g_chain ?_ | with_reducible refine Sw.g_un ?_ | with_reducible refine Sw.g_tup ?_ | with_reducible refine Sw.g_lst ?_ | with_reducible refine Sw.g_sl ?_ | with_reducible refine Sw.g_part ?_ | with_reducible refine Sw.g_nopart ?_
  | with_reducible refine Sw.g_U ?_ | with_reducible refine Sw.g_eq rfl ?_ | with_reducible refine Sw.g_ne rfl ?_ | with_reducible refine Sw.g_int ?_ | with_reducible refine Sw.g_yes ?_ | with_reducible refine L2.iteT ?_ | with_reducible refine L2.iteF ?_ | with_reducible refine Sw.iteNT ?_ | with_reducible refine Sw.iteNF ?_ | with_reducible refine Sw.g_m1 ?_ | with_reducible refine Sw.g_bm ?_ | with_reducible refine ⟨Sw.ty_lst (by assumption), ?_⟩ | with_reducible refine Sw.g_sput ?_ | with_reducible refine Sw.g_put ?_ | with_reducible refine Sw.g_dget2 ?_ | with_reducible refine Sw.g_dget ?_ | with_reducible refine Sw.g_dK ?_ | with_reducible refine Sw.g_dT ?_ | with_reducible refine Sw.g_dnotin ?_ | with_reducible refine Sw.g_din ?_ | with_reducible refine Sw.g_bm0 ?_
  | with_reducible refine Sw.g_ixL (by assumption) rfl ?_ | with_reducible refine Sw.g_ixT (by assumption) rfl ?_)
local macro_rules | `(tactic| walk_at "go") => `(tactic| repeat walk_at "go1")
local macro_rules | `(tactic| walk_at "bd") => `(tactic| repeat (first | with_reducible exact Sw.all_nil | refine Sw.all_cons ⟨_, rfl, by omega, by omega⟩ ?_))
local macro_rules | `(tactic| walk_at "new") => `(tactic| (refine ⟨Nat.le_of_ble_eq_true rfl, fun p np => ?_⟩; generalize hX : L2.upd _ p _ = H'; have sm : L2.Same _ H' := hX ▸ Sw.same_upd np; have hp : H' p = some _ := hX ▸ L2.upd_same; clear hX))
namespace Sw
open PySem PySem.Spec PyProof.Rows L2 SX
/-! ### further forms -/
def qMount (i : Nat) (s : QS) : QS := fun P δ => δ[i]? = some (some (.ow .tape)) ∧ s P ((δ.map fun o => match o with | some .tp => none | o => o).set i (some .tp))
section
variable {K : PySem.W.Frag} {c : Cl} {t : Option Addr} {E : XE} {Ep : XP} {ta tb : TE} {qa qb : QE}
def pJoinC (a : List Nat) : P1 := fun e Q => ∃ ys : List (List Nat), (e = .lst (ys.map .str) ∨ e = .tup (ys.map .str)) ∧ (ys.map (·.length)).sum + ys.length * a.length ≤ 1000000 ∧ Q .sh (.str (Txt.join (S a) (ys.map S)).cps.toList)
theorem s_joinC {v : Str} {a : List Nat} (hv : V.str v = V.str (S a)) (hb : SimE K c t E Ep tb qb) : SimE K c t E Ep (tM1 (rJoin K) (tC (.str v)) tb) (qUn (pJoinC a) qb) := fun F0 H0 L F δ σ H Q Qp er rs hq k => by
  refine ⟨⟨v, rfl⟩, ?_⟩
  refine hb.vw er rs hq fun y F2 H2 m2 d2 g2 v2 _ q2 => ?_
  obtain ⟨ys, q3⟩ := q2
  exact o_join (K := K) F2 H2 (.str v) y (.str a) d2 Q Qp g2.s (rs.grow g2).st.dr (.inl hv) v2 ⟨a, ys, rfl, q3⟩ fun z F3 H3 m d g3 rv qd => k z F3 H3 m d (g2.trans g3 rs.st.dr) (rv.pre g2) qd
abbrev rRevL (K : PySem.W.Frag) : V → Hp → VK → Prop := fun x H1 Q => ∃ a xs, x = .ref a ∧ SqL K H1 a xs ∧ ∀ p, H1 p = none → Q (.ref p) (upd H1 p (.lst xs.reverse))
abbrev rRevS : V → Hp → VK → Prop := fun x H1 Q => ∃ l : List Nat, x = .str (S l) ∧ l.length ≤ sizeLine ∧ Q (.str (S l.reverse)) H1
theorem o_revL : Sim1 t (rRevL K) pRevL := fun F H x d Q Qp s ht vx p k => by
  obtain ⟨l, rfl, q⟩ := p
  obtain ⟨p1, xs, rfl, h1, h2⟩ := vw_lst s vx
  exact ⟨p1, xs, rfl, .inl (.inl h1), fun p np => k.new s ht np (show OO F (.lst _) (.lst _) from h2.rev) q⟩
theorem o_revS : Sim1 t rRevS pRevS := fun F H x d Q Qp s ht vx p k => by
  obtain ⟨l, rfl, hl, q⟩ := p
  exact ⟨l, vw_str vx, le_line6 hl, k.val s (d := .str _) rfl q⟩
theorem s_revL (ha : SimE K c t E Ep ta qa) : SimE K c t E Ep (tRevL K ta) (qUn pRevL qa) := s_un (r := rRevL K) o_revL ha
theorem s_revS (ha : SimE K c t E Ep ta qa) : SimE K c t E Ep (tRevS ta) (qUn pRevS qa) := s_un (r := rRevS) o_revS ha
end
/-! ### the law's own level: tapes are made there -/
def FrT (t : Option Addr) (H0 : Hp) : Prop := ∀ a, t = some a → H0 a = none
structure EndsF (K : PySem.W.Frag) (F0 H0 L : Hp) (De : Ends) (Dp : Pn) : Prop where
  nx : ∀ t F δ σ H, FrT t H0 → RS K t F0 H0 L F δ σ H → Dp.nx δ → De.nx σ H
  rt : ∀ t F H x m d, FrT t H0 → Grow t F0 H0 F H → RV t H0 F H x m d → m ≠ .pk → Dp.rt m d → De.rt x H
  bk : ∀ t F δ σ H, FrT t H0 → RS K t F0 H0 L F δ σ H → Dp.bk δ → De.bk σ H
  ct : ∀ t F δ σ H, FrT t H0 → RS K t F0 H0 L F δ σ H → Dp.ct δ → De.ct σ H
def SimF (K : PySem.W.Frag) (ts : TS) (qs : QS) : Prop := ∀ t F0 H0 L F δ σ H De Dp, FrT t H0 → RS K t F0 H0 L F δ σ H → EndsF K F0 H0 L De Dp → qs Dp δ → ts De σ H
section
variable {K : PySem.W.Frag} {ts tu : TS} {qs qu : QS} {i : Nat}
theorem SimF.of (c : Cl) (h : ∀ t E Ep, SimS K c t E Ep ts qs) : SimF K ts qs := fun t F0 H0 L F δ σ H De Dp fr rs en hq =>
  h t (fun _ => E0) P0 F0 H0 L F δ σ H De Dp ER.no rs ⟨fun F δ σ H r q => en.nx t F δ σ H fr r q, fun F H x m d g _ _ rv hm q => en.rt t F H x m d fr g rv hm q, fun F δ σ H r q => en.bk t F δ σ H fr r q, fun F δ σ H r q => en.ct t F δ σ H fr r q⟩ hq
theorem f_seq (ha : SimF K ts qs) (hb : SimF K tu qu) : SimF K (tSeq ts tu) (qSeq qs qu) := fun t F0 H0 L F δ σ H De Dp fr rs en hq =>
  ha t F0 H0 L F δ σ H _ { Dp with nx := qu Dp } fr rs ⟨fun t1 F1 δ1 σ1 H1 f1 r1 q1 => hb t1 F0 H0 L F1 δ1 σ1 H1 De Dp f1 r1 en q1, en.rt, en.bk, en.ct⟩ hq
theorem f_ifS (c : Cl) {tt : TT} {qt : QT} (ht : ∀ t E Ep, SimT K c t E Ep tt qt) (ha : SimF K ts qs) (hb : SimF K tu qu) : SimF K (tIfS tt ts tu) (qIfS qt qs qu) := fun t F0 H0 L F δ σ H De Dp fr rs en hq =>
  ht t (fun _ => E0) P0 F0 H0 L F δ σ H _ _ ER.no rs hq fun b F1 H1 g q => by
    cases b with
    | true => exact ha t F0 H0 L F1 δ σ H1 De Dp fr (rs.grow g) en q
    | false => exact hb t F0 H0 L F1 δ σ H1 De Dp fr (rs.grow g) en q
theorem f_frz (h : SimF K ts qs) : SimF K ts (qFrz i qs) := fun t F0 H0 L F δ σ H De Dp fr rs en hq => by
  obtain ⟨s, h1, h2⟩ := hq
  cases s with
  | ow d =>
    obtain ⟨F', _, r'⟩ := rs.freeze h1
    exact h t F0 H0 L F' _ σ H De Dp fr r' en h2
  | sh d => exact h t F0 H0 L F δ σ H De Dp fr rs en h2
  | tp => exact h t F0 H0 L F δ σ H De Dp fr rs en h2
  | sc ns => exact h t F0 H0 L F δ σ H De Dp fr rs en h2
theorem f_for (c : Cl) {wi : TI} {qi : QI} {g : TG} {qg : QG} {nm : List Nat} (hi : ∀ t E Ep, SimI K c t E Ep wi qi) (hg : ∀ t, SimG K t nm g qg) (hb : SimF K ts qs) : SimF K (tFor wi g ts) (qFor qi qg qs) := fun t F0 H0 L F δ σ H De Dp fr rs en hq => by
  refine hi t (fun _ => E0) P0 F0 H0 L F δ σ H _ _ ER.no rs hq fun J F1 H1 m ds g1 _ ok q => ?_
  obtain ⟨hm, q⟩ := q
  have ok := ok hm
  have r1 := rs.grow g1
  have lo1 : Same L F1 := r1.lo
  refine ⟨fun i m σ' H' => m = ds.length - i ∧ i ≤ ds.length ∧ ∃ t' F' δ', FrT t' H0 ∧ RS K t' F0 H0 F1 F' δ' σ' H' ∧ loop qg qs Dp (ds.drop i) δ', ⟨ds.length, by omega, by omega, t, F1, δ, fr, r1.at, by rw [List.drop_zero]; exact q⟩, ?_⟩
  rintro i m σ' H' ⟨rfl, hi, t', F', δ', fr', r', q'⟩
  have y := ok F' H' r'.lo r'.st.s
  by_cases hlt : i < ds.length
  · have hd := List.getElem?_eq_getElem hlt
    generalize ds[i] = d at hd
    obtain ⟨y1, y2⟩ := y.1 i d hd
    refine .inr ⟨y1, fun σ2 H2 => ∃ t2 F2 δ2, FrT t2 H0 ∧ RS K t2 F0 H0 F1 F2 δ2 σ2 H2 ∧ loop qg qs Dp (ds.drop (i + 1)) δ2, fun σ2 H2 ⟨t2, F2, δ2, f2, r2, q2⟩ => ⟨ds.length - (i + 1), by omega, rfl, by omega, t2, F2, δ2, f2, r2, q2⟩, fun x H2 hy => ?_⟩
    obtain ⟨F2, g2, rp⟩ := y2 x H2 hy
    replace g2 := g2.any (t := t')
    rw [drop_at hd] at q'
    refine hg t' F0 H0 F1 F2 δ' σ' H2 _ _ x d (r'.grow g2) rp q' fun δ3 σ3 r3 _ q3 => ?_
    refine hb t' F0 H0 F1 F2 δ3 σ3 H2 _ { Dp with nx := loop qg qs Dp (ds.drop (i + 1)), ct := loop qg qs Dp (ds.drop (i + 1)), bk := Dp.nx } fr' r3 ⟨?_, en.rt, ?_, ?_⟩ q3
    · exact fun t4 F4 δ4 σ4 H4 f4 r4 q4 => ⟨t4, F4, δ4, f4, r4, q4⟩
    · exact fun t4 F4 δ4 σ4 H4 f4 r4 q4 => en.nx t4 F4 δ4 σ4 H4 f4 (r4.low lo1) q4
    · exact fun t4 F4 δ4 σ4 H4 f4 r4 q4 => ⟨t4, F4, δ4, f4, r4, q4⟩
  · have e : i = ds.length := by omega
    subst e
    rw [List.drop_length] at q'
    exact .inl ⟨y.2, en.nx t' F' δ' σ' H' fr' (r'.low lo1) q'⟩
theorem notp_at {δ : DS} {j : Nat} {v : SV} (h : (δ.map fun o => match o with | some .tp => none | o => o)[j]? = some (some v)) : δ[j]? = some (some v) ∧ v ≠ .tp := by
  rw [List.getElem?_map] at h
  obtain ⟨o, h1, h2⟩ := Option.map_eq_some_iff.mp h
  cases o with
  | none => cases h2
  | some w =>
    cases w with
    | tp => cases h2
    | sh d => cases h2; exact ⟨h1, by intro z; cases z⟩
    | ow d => cases h2; exact ⟨h1, by intro z; cases z⟩
    | sc ns => cases h2; exact ⟨h1, by intro z; cases z⟩
theorem f_mount (h : SimF K ts qs) : SimF K ts (qMount i qs) := fun t F0 H0 L F δ σ H De Dp fr rs en hq => by
  obtain ⟨h1, h2⟩ := hq
  obtain ⟨l, o, hx, hl, hf, hn, ho⟩ := rs.own h1
  have h0 := rs.fr i _ l h1 hx
  have dl : Dr H l := by
    cases o <;> first | exact False.elim ho | (obtain ⟨c1, s1, p1, rfl, z⟩ := ho; exact ⟨c1, s1, p1, hl, z⟩)
  have fr' : FrT (some l) H0 := fun a e => by cases e; exact h0
  refine h (some l) F0 H0 L F _ σ H De Dp fr' ?_ en h2
  have hil : i < δ.length := (List.getElem?_eq_some_iff.mp h1).1
  exact {
    st := {
      s := rs.st.s
      tp := fun a e => by cases e; exact ⟨dl, hf⟩
      len := by rw [List.length_set, List.length_map]; exact rs.st.len
      sl := fun j v e => by
        rcases set_at e with ⟨rfl, e2, _⟩ | ⟨ne, e2⟩
        · cases e2
          exact ⟨.ref l, hx, l, rfl, rfl⟩
        · obtain ⟨e3, nt⟩ := notp_at e2
          obtain ⟨y, w1, w2⟩ := rs.st.sl j v e3
          refine ⟨y, w1, ?_⟩
          cases v with
          | sh d => exact w2
          | tp => exact absurd rfl nt
          | sc ns => exact w2
          | ow d =>
            obtain ⟨l2, o2, z1, z2, z3, z4, z5⟩ := w2
            refine ⟨l2, o2, z1, z2, z3, fun z => ?_, z5⟩
            have z' : l2 = l := Option.some.inj z
            exact ne (rs.st.ne i j _ _ (.ref l) h1 e3 hx (by rw [w1, z1, z']))
      ne := fun a b d1 d2 y e1 e2 e3 e4 => by
        rcases set_at e1 with ⟨_, z, _⟩ | ⟨_, e1⟩
        · cases z
        rcases set_at e2 with ⟨_, z, _⟩ | ⟨_, e2⟩
        · cases z
        exact rs.st.ne a b d1 d2 y (notp_at e1).1 (notp_at e2).1 e3 e4 }
    g := {
      z := rs.g.z
      f := rs.g.f
      h := fun b o e _ => rs.g.h b o e fun z => by rw [fr b z.symm] at e; cases e
      d := rs.g.d
      n := rs.g.n
      s := rs.g.s
      t := fun a e _ => by cases e; exact dl }
    lo := rs.lo
    fr := fun j d l2 e1 e2 => by
      rcases set_at e1 with ⟨_, z, _⟩ | ⟨_, e1⟩
      · cases z
      exact rs.fr j d l2 (notp_at e1).1 e2
    dr := fun a e n => by cases e; exact absurd h0 n }
theorem law_rd {N : List Str} {vs : List V} {H : Hp} {Q : VK} {E : XK} (hs : SimF K ts qs) (hN : 1 ≤ N.length) (pr : ∀ ns : List Int, ns.length ≤ 63 → qs { nx := fun _ => False, rt := fun m d => m = .sh ∧ d = .bl true } (dstart N.length [.sc ns])) (h : sp_law K vs H Q E) :
    ts { nx := fun _ H' => Q .non H', rt := Q } (start N vs) H := by
  obtain ⟨a, ns, rfl, hS, hn, q⟩ := h
  have rs := start_rs (K := K) (t := none) (N := N) (F := H) (H := H) (vs := [.ref a]) (as := [.sc ns]) (.refl _) (fun a e => by cases e) ⟨⟨a, rfl, hS⟩, True.intro⟩ rfl hN rfl
  refine hs none H H H H _ _ H _ { nx := fun _ => False, rt := fun m d => m = .sh ∧ d = .bl true } (fun a e => by cases e) rs ⟨?_, ?_, ?_, ?_⟩ (pr ns hn)
  · exact fun t F δ σ H' _ r q => False.elim q
  · rintro t F H' x m d _ g rv hm ⟨rfl, rfl⟩
    rw [show x = .bl true from rv]
    exact q H'
  · exact fun t F δ σ H' _ r q => False.elim q
  · exact fun t F δ σ H' _ r q => False.elim q
end
theorem ln_lift {K : PySem.W.Frag} {c : Cl} {psp : PSp} {n : Nat} (ln : ∀ {as : List Ar} {Qp : Md → D → Prop} {Ep : Nat → Prop}, psp as Qp Ep → as.length = n) {vs : List V} {H : Hp} {Q : VK} {E : XK} (h : lift K c psp vs H Q E) : vs.length = n := by
  obtain ⟨t, F, as, Qp, Ep, _, _, av, _, hp, _⟩ := h
  rw [avl_len av]
  exact ln hp
theorem avl2 {K : PySem.W.Frag} {t : Option Addr} {F H : Hp} {vs : List V} {a b : Ar} (h : AvL K t F H vs [a, b]) : ∃ x y, vs = [x, y] ∧ Av K t F H x a ∧ Av K t F H y b := by
  cases vs with
  | nil => exact False.elim h
  | cons x vs =>
    cases vs with
    | nil => exact False.elim h.2
    | cons y vs =>
      cases vs with
      | nil => exact ⟨x, y, rfl, h.1, h.2.1⟩
      | cons z vs => exact False.elim h.2.2
/-! ### draws -/
def psp_law_draw : PSp := fun as Q _ => ∃ m : Int, as = [.tp, .sh (.int m)] ∧ 0 < m ∧ m < 2 ^ 300 ∧ ∀ r : Int, 0 ≤ r → r < m → Q .sh (.int r)
theorem ln_p_law_draw {as : List Ar} {Qp : Md → D → Prop} {Ep : Nat → Prop} (h : psp_law_draw as Qp Ep) : as.length = 2 := by obtain ⟨_, rfl, _⟩ := h; rfl
theorem old_law_draw {K : PySem.W.Frag} {c : Cl} {vs : List V} {H : Hp} {Q : VK} {E E' : XK} (h : lift K c psp_law_draw vs H Q E) : sp_law_draw K vs H Q E' := by
  obtain ⟨t, F, as, Qp, Ep, s, ht, av, np, ⟨m, rfl, m0, m1, q⟩, k, _⟩ := h
  · obtain ⟨x, y, rfl, ⟨a, rfl, e⟩, av2⟩ := avl2 av
    have ey : y = .int m := av2
    subst ey e
    obtain ⟨dr, fa⟩ := ht a rfl
    refine ⟨a, m, rfl, dr, m0, m1, fun r H' r0 r1 dr' kp => k (.int r) F H' .sh (.int r) ?_ rfl (by decide) (q r r0 r1)⟩
    exact {
      z := s
      f := .refl _
      h := fun b o e n => by rw [kp b (fun z => n (by rw [z]))]; exact e
      d := fun b e z => by
        by_cases hb : b = a
        · subst hb; obtain ⟨c1, s1, p1, w, _⟩ := dr'; rw [w] at z; cases z
        · rw [kp b hb] at z; exact e z
      n := fun b e _ _ => e
      s := fun b o e => by rw [kp b (fun z => by rw [z, fa] at e; cases e)]; exact s b o e
      t := fun b e _ => by cases e; exact dr' }
def psp_law_draws : PSp := fun as Q _ => ∃ (ns : List Int) (k : Int), as = [.sc ns, .sh (.int k)] ∧ ns.length ≤ 63 ∧ 0 ≤ k ∧ k ≤ 1000 ∧ Q .ow .tape
theorem ln_p_law_draws {as : List Ar} {Qp : Md → D → Prop} {Ep : Nat → Prop} (h : psp_law_draws as Qp Ep) : as.length = 2 := by obtain ⟨_, _, rfl, _⟩ := h; rfl
theorem old_law_draws {K : PySem.W.Frag} {c : Cl} {vs : List V} {H : Hp} {Q : VK} {E E' : XK} (h : lift K c psp_law_draws vs H Q E) : sp_law_draws K vs H Q E' := by
  obtain ⟨t, F, as, Qp, Ep, s, ht, av, np, ⟨ns, m, rfl, hn, m0, m1, q⟩, k, _⟩ := h
  · obtain ⟨x, y, rfl, ⟨a, rfl, e⟩, av2⟩ := avl2 av
    have ey : y = .int m := av2
    subst ey
    refine ⟨a, ns, m, rfl, s.seq e, hn, m0, m1, fun d H' nd sm dr => ?_⟩
    obtain ⟨c1, s1, p1, hd, b⟩ := dr
    exact k (.ref d) F H' .ow .tape (.same s sm) ⟨d, _, rfl, nd, hd, s.free nd, tape_ne (fun a e => (ht a e).1) nd, c1, s1, p1, rfl, b⟩ (by decide) q
/-- a call that is handed a new tape -/
def Ar.okD : Ar → Bool
  | .sh _ => true
  | .sc _ => true
  | _ => false
def qCallD (psp : PSp) (qd : QE) (a : QA) : QE := fun δ Q => qd δ fun m d => m = .ow ∧ d = .tape ∧ a δ fun as => as.all Ar.okD = true ∧ psp (.tp :: as) Q (fun _ => False)
theorem avl_ok {K : PySem.W.Frag} {t t' : Option Addr} {F H : Hp} : ∀ {xs : List V} {as : List Ar}, as.all Ar.okD = true → AvL K t F H xs as → AvL K t' F H xs as
  | [], [], _, _ => True.intro
  | x :: xs, a :: as, h, av => by
    rw [List.all_cons, Bool.and_eq_true] at h
    refine ⟨?_, avl_ok h.2 av.2⟩
    have h1 := av.1
    cases a with
    | sh d => exact h1
    | sc ns => exact h1
    | pk d => exact absurd h.1 (by intro z; cases z)
    | tp => exact absurd h.1 (by intro z; cases z)
  | [], _ :: _, _, h => False.elim h
  | _ :: _, [], _, h => False.elim h
theorem ok_nopk : ∀ {as : List Ar}, as.all Ar.okD = true → as.any Ar.isPk = false
  | [], _ => rfl
  | a :: as, h => by
    rw [List.all_cons, Bool.and_eq_true] at h
    rw [List.any_cons, ok_nopk h.2]
    cases a with
    | pk d => exact absurd h.1 (by intro z; cases z)
    | _ => rfl
theorem s_callD {K : PySem.W.Frag} {c : Cl} {t : Option Addr} {E : XE} {Ep : XP} {psp : PSp} {td : TE} {qd : QE} {ta : TA} {qa : QA} (hd : SimE K c t E Ep td qd) (ha : SimA K c t E Ep ta qa) : SimE K c t E Ep (tCall (lift K c psp) [] E0 (tCons td ta)) (qCallD psp qd qa) := fun F0 H0 L F δ σ H Q Qp er rs hq k => by
  refine hd F0 H0 L F δ σ H _ _ er rs hq fun x F1 H1 m d g1 rv q1 => ?_
  obtain ⟨rfl, rfl, q1⟩ := q1
  obtain ⟨l, o, rfl, n0, h1, f1, nt, oo⟩ := rv
  refine ha F0 H0 L F1 δ σ H1 _ _ er (rs.grow g1) q1 fun xs F2 H2 as g2 av q2 => ?_
  obtain ⟨hok, q2⟩ := q2
  have g12 := g1.trans g2 rs.st.dr
  have h2 : H2 l = some o := g2.h _ _ h1 nt
  have nol : ∀ zs, o ≠ .tup zs := fun zs z => by subst z; exact oo
  have f2 : F2 l = none := g2.n l f1 (by rw [h1]; exact Option.some_ne_none _) fun zs z => by rw [h1] at z; exact nol zs (Option.some.inj z)
  have dl : Dr H2 l := by
    cases o <;> first | exact False.elim oo | (obtain ⟨c1, s1, p1, rfl, z⟩ := oo; exact ⟨c1, s1, p1, h2, z⟩)
  rw [List.append_nil]
  refine ⟨some l, F2, .tp :: as, Qp, fun _ => False, g2.s, fun a e => by cases e; exact ⟨dl, f2⟩, ⟨⟨l, rfl, rfl⟩, avl_ok hok av⟩, by rw [List.any_cons, ok_nopk hok]; rfl, q2, fun z F3 H3 m d g3 rv3 hm q3 => ?_, fun n F' H' _ z => False.elim z⟩
  have st2 := (rs.grow g12).st
  refine k z F3 H3 m d ?_ ?_ q3
  · exact {
      z := g12.z
      f := g12.f.trans g3.f
      h := fun b o1 e n => g3.h b o1 (g12.h b o1 e n) fun z => by rw [Option.some.inj z, n0] at e; cases e
      d := fun b e => g3.d b (g12.d b e)
      n := fun b e1 e2 e3 => g3.n b (g12.n b e1 e2 e3) (g12.d b e2) fun zs z => by
        by_cases hb : some b = t
        · exact dr_notup (st2.dr b hb.symm) zs z
        · cases q : H b with
          | none => exact e2 q
          | some w => rw [g12.h b w q hb] at z; exact e3 zs (by rw [q]; exact z)
      s := g3.s
      t := fun a e _ => by
        obtain ⟨c1, s1, p1, w1, w2⟩ := st2.dr a e
        exact ⟨c1, s1, p1, g3.h _ _ w1 (fun z => nt (by rw [← z, e])), w2⟩ }
  · cases m with
    | sh => exact rv3
    | pk => exact absurd rfl hm
    | ow =>
      obtain ⟨l3, o3, e3, w0, w1, w2, _, w4⟩ := rv3
      exact ⟨l3, o3, e3, g12.pre w0, w1, w2, tape_ne st2.dr w0, w4⟩
    | ot =>
      obtain ⟨p, l, o, y, d1, d2, e, a0, a1, a2, a3, a4, w0, w1, w2, _, w4⟩ := rv3
      exact ⟨p, l, o, y, d1, d2, e, g12.pre a0, a1, a2, a3, a4, g12.pre w0, w1, w2, tape_ne st2.dr w0, w4⟩
end Sw
end
section
local macro_rules | `(tactic| walk_at "go1") => `(tactic| first
  | with_reducible refine Sw.g_seqasg ?_ | with_reducible refine Sw.g_op ?_ | with_reducible refine Sw.g_var rfl ?_ | with_reducible refine Sw.g_c ?_ | with_reducible refine Sw.g_I0 ?_
  | with_reducible refine Sw.g_cons ?_ | with_reducible refine Sw.g_nil ?_ | with_reducible refine Sw.g_call ?_ | with_reducible refine Sw.g_cb ?_ | with_reducible refine Sw.g_test ?_ | with_reducible refine Sw.g_bl ?_
  | with_reducible refine Sw.g_seqdrop ?_ | with_reducible refine Sw.g_seqsub ?_ | with_reducible refine Sw.g_asg ?_ | with_reducible refine Sw.g_asgsub ?_ | with_reducible refine Sw.g_ret ?_ | with_reducible refine Sw.g_drop ?_ | with_reducible refine Sw.g_if ?_ | with_reducible refine Sw.g_next ?_ | with_reducible refine Sw.g_name ?_
  | with_reducible refine Sw.g_B ?_ | with_reducible refine Sw.g_not ?_ | with_reducible refine Sw.g_and ?_ | with_reducible refine Sw.g_or ?_ | with_reducible refine Sw.g_andV ?_ | with_reducible refine Sw.g_orV ?_ | with_reducible refine Sw.g_notV ?_
  | with_reducible refine Sw.g_ifE ?_ | with_reducible refine Sw.g_chain ?_ | with_reducible refine Sw.g_un ?_ | with_reducible refine Sw.g_tup ?_ | with_reducible refine Sw.g_lst ?_ | with_reducible refine Sw.g_sl ?_ | with_reducible refine Sw.g_part ?_ | with_reducible refine Sw.g_nopart ?_
  | with_reducible refine Sw.g_U ?_ | with_reducible refine Sw.g_eq rfl ?_ | with_reducible refine Sw.g_ne rfl ?_ | with_reducible refine Sw.g_int ?_ | with_reducible refine Sw.g_yes ?_ | with_reducible refine L2.iteT ?_ | with_reducible refine L2.iteF ?_ | with_reducible refine Sw.iteNT ?_ | with_reducible refine Sw.iteNF ?_ | with_reducible refine Sw.g_m1 ?_ | with_reducible refine Sw.g_bm ?_ | with_reducible refine ⟨Sw.ty_lst (by assumption), ?_⟩ | with_reducible refine Sw.g_sput ?_ | with_reducible refine Sw.g_put ?_ | with_reducible refine Sw.g_dget2 ?_ | with_reducible refine Sw.g_dget ?_ | with_reducible refine Sw.g_dK ?_ | with_reducible refine Sw.g_dT ?_ | with_reducible refine Sw.g_dnotin ?_ | with_reducible refine Sw.g_din ?_ | with_reducible refine Sw.g_bm0 ?_
  | with_reducible refine Sw.g_ixL (by assumption) rfl ?_ | with_reducible refine Sw.g_ixT (by assumption) rfl ?_)
local macro_rules | `(tactic| walk_at "go") => `(tactic| repeat walk_at "go1")
local macro_rules | `(tactic| walk_at "bd") => `(tactic| repeat (first | with_reducible exact Sw.all_nil | refine Sw.all_cons ⟨_, rfl, by omega, by omega⟩ ?_))
local macro_rules | `(tactic| walk_at "new") => `(tactic| (refine ⟨Nat.le_of_ble_eq_true rfl, fun p np => ?_⟩; generalize hX : L2.upd _ p _ = H'; have sm : L2.Same _ H' := hX ▸ Sw.same_upd np; have hp : H' p = some _ := hX ▸ L2.upd_same; clear hX))
namespace Sw
open PySem PySem.Spec PyProof.Rows L2 SX
/-! ### isinstance -/
def tyD : D → String
  | .non => "NoneType" | .bl _ => "bool" | .int _ => "int" | .str _ => "str" | .lst _ => "list" | .tup _ => "tuple" | .dK _ => "dict" | .dT _ => "dict" | .tape => "list"
def isiD (n : String) (d : D) : Bool := match d with
  | .dK _ => false | .dT _ => false | .tape => false
  | d => (kitB (tyD d) n).getD false
def noDict : D → Bool
  | .dK _ => false | .dT _ => false | .tape => false | _ => true
def pIsi (n : String) : P1 := fun d Q => noDict d = true ∧ (kitB (tyD d) n).isSome = true ∧ Q .sh (.bl ((kitB (tyD d) n).getD false))
theorem o_isi {K : PySem.W.Frag} {t : Option Addr} {n : String} : Sim1 t (fun x => rIsi K [x, .ty n]) (pIsi n) := fun F H x d Q Qp s ht vx p k => by
  obtain ⟨h1, h2, q⟩ := p
  have ty : TyX K H x (.type (tyD d)) := by
    cases d with
    | non => rw [vw_non vx]; exact .base .non
    | bl b => rw [vw_bl vx]; exact .base (.bl b)
    | int i => rw [vw_int vx]; exact .base (.int i)
    | str l => rw [vw_str vx]; exact .base (.str _)
    | lst l => obtain ⟨a, xs, rfl, h3, _⟩ := vw_lst s vx; exact .base (.lst h3)
    | tup l => obtain ⟨a, xs, rfl, h3, _⟩ := vw_tup vx; exact .base (.tup (s _ _ h3))
    | dK _ => cases h1
    | dT _ => cases h1
    | tape => cases h1
  cases hk : kitB (tyD d) n with
  | none => rw [hk] at h2; cases h2
  | some b =>
    rw [hk] at q
    exact ⟨x, .ty n, .type (tyD d), .type n, b, rfl, .ty n, ty, kit_ty hk, k.val s (d := .bl b) rfl q⟩
theorem s_isi {K : PySem.W.Frag} {c : Cl} {t : Option Addr} {E : XE} {Ep : XP} {ta : TE} {qa : QE} {n : String} (ha : SimE K c t E Ep ta qa) : SimE K c t E Ep (tCB (rIsi K) (tCons ta (tCons (tC (.ty n)) tNil))) (qUn (pIsi n) qa) := s_un (r := fun x => rIsi K [x, .ty n]) o_isi ha
theorem h_isi {n : String} {d : D} {b : Bool} {Q : Md → D → Prop} (h1 : noDict d = true) (h2 : kitB (tyD d) n = some b) (q : Q .sh (.bl b)) : pIsi n d Q := ⟨h1, by rw [h2]; rfl, by rw [h2]; exact q⟩
/-! ### count, index in lists of ints -/
def qLM (p : P2) (a b : QE) : QE := fun δ Q => a δ fun _ d => (∃ ds, d = .lst ds) ∧ b δ fun _ e => p d e Q
theorem s_LM {K : PySem.W.Frag} {c : Cl} {t : Option Addr} {E : XE} {Ep : XP} {ta tb : TE} {qa qb : QE} {r : V → List V → Hp → VK → Prop} {p : P2} (h : Sim2 t (fun x y => r x [y]) p) (ha : SimE K c t E Ep ta qa) (hb : SimE K c t E Ep tb qb) : SimE K c t E Ep (tBM K "list" r ta (tCons tb tNil)) (qLM p qa qb) := fun F0 H0 L F δ σ H Q Qp er rs hq k => by
  refine ha.vw er rs hq fun x F1 H1 m1 d1 g1 v1 _ q1 => ?_
  obtain ⟨⟨ds, rfl⟩, q1⟩ := q1
  obtain ⟨a, xs, rfl, h1, _⟩ := vw_lst g1.s v1
  refine ⟨ty_lst h1, ?_⟩
  refine hb.vw er (rs.grow g1) q1 fun y F2 H2 m2 d2 g2 v2 _ q2 => ?_
  have g12 := g1.trans g2 rs.st.dr
  exact h F2 H2 (.ref a) y _ d2 Q Qp g2.s (rs.grow g12).st.dr (v1.grow g2) v2 q2 fun z F3 H3 m d g3 rv qd => k z F3 H3 m d (g12.trans g3 rs.st.dr) (rv.pre g12) qd
def pCount : P2 := fun d e Q => ∃ (ns : List Int) (k : Int), d = .lst (ns.map .int) ∧ e = .int k ∧ Q .sh (.int (ns.count k : Nat))
def pIndex : P2 := fun d e Q => ∃ (ns : List Int) (k : Int), d = .lst (ns.map .int) ∧ e = .int k ∧ k ∈ ns ∧ Q .sh (.int (ns.idxOf k : Nat))
theorem o_count {K : PySem.W.Frag} {t : Option Addr} : Sim2 t (fun x y => rCntI K x [y]) pCount := fun F H x y d e Q Qp s ht vx vy p k => by
  obtain ⟨ns, i, rfl, rfl, q⟩ := p
  obtain ⟨a, xs, rfl, h1, h2⟩ := vw_lst s vx
  rw [rpl_ints h2] at h1
  exact ⟨a, ns, i, rfl, by rw [vw_int vy], .inl (.inl h1), k.val s (d := .int _) rfl q⟩
theorem idx_first : ∀ (ns : List Int) (i : Int) (m : Nat) (n : Int), m < ns.idxOf i → ns[m]? = some n → n ≠ i
  | [], _, _, _, _, h => by simp at h
  | a :: ns, i, m, n, h, e => by
    rw [List.idxOf_cons] at h
    cases hb : (a == i) with
    | true => rw [hb] at h; exact absurd h (Nat.not_lt_zero _)
    | false =>
      rw [hb] at h
      have hne : a ≠ i := by rw [beq_eq_false_iff_ne] at hb; exact hb
      cases m with
      | zero => cases e; exact hne
      | succ m =>
        have h' : m + 1 < ns.idxOf i + 1 := h
        exact idx_first ns i m n (by omega) (by simpa using e)
theorem o_index {K : PySem.W.Frag} {t : Option Addr} : Sim2 t (fun x y => rIndex K x [y]) pIndex := fun F H x y d e Q Qp s ht vx vy p k => by
  obtain ⟨ns, i, rfl, rfl, hm, q⟩ := p
  obtain ⟨a, xs, rfl, h1, h2⟩ := vw_lst s vx
  rw [rpl_ints h2] at h1
  have ey := vw_int vy
  subst ey
  have hlt : ns.idxOf i < ns.length := List.idxOf_lt_length_of_mem hm
  refine ⟨a, ns.map V.int, .int i, ns.idxOf i, .int i, rfl, rfl, .inl (.inl h1), rfl, flat_ints ns, ?_, by show (i == i) = true; simp, fun m z' hlt' hz' => ?_, k.val s (d := .int _) rfl q⟩
  · rw [List.getElem?_map, List.getElem?_eq_getElem hlt, List.getElem_idxOf]; rfl
  · rw [List.getElem?_map] at hz'
    obtain ⟨n, hn, rfl⟩ := Option.map_eq_some_iff.mp hz'
    show (n == i) = false
    rw [beq_eq_false_iff_ne]
    intro e
    subst e
    exact idx_first ns n m n hlt' hn rfl
theorem s_index {K : PySem.W.Frag} {c : Cl} {t : Option Addr} {E : XE} {Ep : XP} {ta tb : TE} {qa qb : QE} (ha : SimE K c t E Ep ta qa) (hb : SimE K c t E Ep tb qb) : SimE K c t E Ep (tBM K "list" (rIndex K) ta (tCons tb tNil)) (qLM pIndex qa qb) := s_LM o_index ha hb
theorem s_count {K : PySem.W.Frag} {c : Cl} {t : Option Addr} {E : XE} {Ep : XP} {ta tb : TE} {qa qb : QE} (ha : SimE K c t E Ep ta qa) (hb : SimE K c t E Ep tb qb) : SimE K c t E Ep (tBM K "list" (rCntI K) ta (tCons tb tNil)) (qLM pCount qa qb) := s_LM o_count ha hb
theorem h_LM {p : P2} {a b : QE} {δ : DS} {Q : Md → D → Prop} (h : a δ fun _ d => (∃ ds, d = .lst ds) ∧ b δ fun _ e => p d e Q) : qLM p a b δ Q := h
end Sw
namespace Sw
open PySem PySem.Spec PyProof.Rows L2 SX
/-! ### min(list of data) -/
theorem dpA_get2 {K : PySem.W.Frag} {H : Hp} {xs : List V} {ds : List PyData} {i : Nat} {x : V} (h : DpAll K H xs ds) (e : xs[i]? = some x) : ∃ d, ds[i]? = some d ∧ Dp K H x d := by
  revert i ds
  induction xs with
  | nil => intro ds i h e; simp at e
  | cons y ys ih =>
    intro ds i h e
    cases h with
    | cons h1 h2 =>
      cases i with
      | zero => cases e; exact ⟨_, rfl, h1⟩
      | succ i => exact ih (ds := _) (i := i) h2 (by simpa using e)
abbrev rMinG (K : PySem.W.Frag) : RC := fun vs H Q => ∃ (a : Addr) (xs : List V) (d : PyData) (ds : List PyData), vs = [.ref a] ∧ SqL K H a xs ∧ DpAll K H xs (d :: ds) ∧ PySem.W.AlikeAll (d :: ds) ∧ PyData.depthAll (d :: ds) ≤ 60 ∧ ∀ (i : Nat) v e, xs[i]? = some v → (d :: ds)[i]? = some e → e = PySem.W.minD d ds → Q v H
theorem cr_minG {X : Cx} (hc : X.calm = true) (hu : X.A.units + 64 < cLine) : CallR X (.builtin "min") (rMinG X.K) := by
  intro pins s σ H vs us Q I r h
  obtain ⟨a, xs, d, ds, rfl, hs, hd, al, dp, q⟩ := h
  obtain ⟨its, rv, hl, _⟩ := I.list hs
  rw [Vals.ref1 r]
  obtain ⟨as, ra⟩ := Dp.readsAll I _ _ _ hd rv
  refine PySem.W.min_list_data (x := d) (xs := ds) (I.ok.hd hc) hl.isList (show ReadsAll s.heap its.toArray.toList (d :: ds) as from by simpa using ra) al (by omega) fun i v h' tk bs hi rd hk => ?_
  have hi' : its[i]? = some v := by simpa using hi
  have lx : xs.length = its.length := rv.length
  have hlt : i < xs.length := by rw [lx]; exact (List.getElem?_eq_some_iff.mp hi').1
  have hx := List.getElem?_eq_getElem hlt
  obtain ⟨u, hu', ru⟩ := rv.get hx
  rw [hi'] at hu'
  cases hu'
  obtain ⟨e, hdi, dpx⟩ := dpA_get2 hd hx
  obtain ⟨cs, rx⟩ := Dp.reads I _ _ _ dpx ru
  have rx' := PySem.W.reads_keeps hk rx
  exact ⟨xs[i], H, I.kept hk, ru, q i _ e hx hdi (Reads.unique rx' _ _ rd).1⟩
def pMinD : P1 := fun d Q => ∃ e0 es, d = .lst (e0 :: es) ∧ flatDL (e0 :: es) = true ∧ PySem.W.AlikeAll (toPyL (e0 :: es)) ∧ PyData.depthAll (toPyL (e0 :: es)) ≤ 60 ∧ ∀ e, e ∈ e0 :: es → toPy e = PySem.W.minD (toPy e0) (toPyL es) → Q .sh e
theorem toPyL_get : ∀ (ds : List D) (i : Nat), (toPyL ds)[i]? = (ds[i]?).map toPy
  | [], i => by simp [toPyL]
  | d :: ds, 0 => rfl
  | d :: ds, i + 1 => by
    show (toPy d :: toPyL ds)[i + 1]? = _
    rw [List.getElem?_cons_succ, toPyL_get ds i, List.getElem?_cons_succ]
theorem o_minG {K : PySem.W.Frag} {t : Option Addr} : Sim1 t (fun x => rMinG K [x]) pMinD := fun F H x d Q Qp s ht vx p k => by
  obtain ⟨e0, es, rfl, fl, al, dp, q⟩ := p
  obtain ⟨a, xs, rfl, h1, h2⟩ := vw_lst s vx
  refine ⟨a, xs, toPy e0, toPyL es, rfl, .inl (.inl h1), rpl_dp fl (h2.mono (.of s)), al, dp, fun i v e hv he hm => ?_⟩
  have he' : (toPyL (e0 :: es))[i]? = some e := he
  rw [toPyL_get] at he'
  obtain ⟨d, hd, rfl⟩ := Option.map_eq_some_iff.mp he'
  obtain ⟨y, hy, rp⟩ := h2.at hd
  rw [hv] at hy
  cases hy
  exact k.val s rp (q d (List.mem_of_getElem? hd) hm)
/-! pairs of ints -/
def ltI (a b : Int × Int) : Bool := decide (a.1 < b.1 ∨ (a.1 = b.1 ∧ a.2 < b.2))
def minP (p : Int × Int) (ps : List (Int × Int)) : Int × Int := ps.foldl (fun a y => if ltI y a then y else a) p
def dP (p : Int × Int) : PyData := .tuple [.int p.1, .int p.2]
theorem toPy_encP (p : Int × Int) : toPy (encP p) = dP p := rfl
theorem toPyL_encP : ∀ ps : List (Int × Int), toPyL (ps.map encP) = ps.map dP
  | [] => rfl
  | p :: ps => by show toPy (encP p) :: toPyL (ps.map encP) = _; rw [toPyL_encP ps]; rfl
theorem minD_pairs : ∀ (ps : List (Int × Int)) (p : Int × Int), PySem.W.minD (dP p) (ps.map dP) = dP (minP p ps)
  | [], _ => rfl
  | y :: ps, p => by
    show PySem.W.minD (if PySem.W.dataLt (dP y) (dP p) then dP y else dP p) (ps.map dP) = dP (minP (if ltI y p then y else p) ps)
    have e : PySem.W.dataLt (dP y) (dP p) = ltI y p := PySem.W.dataLt_ii _ _ _ _
    rw [e]
    by_cases h : ltI y p = true
    · rw [if_pos h, if_pos h]
      exact minD_pairs ps y
    · rw [if_neg h, if_neg h]
      exact minD_pairs ps p
theorem dP_inj {p q : Int × Int} (h : dP p = dP q) : p = q := by
  unfold dP at h
  simp only [PyData.tuple.injEq, List.cons.injEq, PyData.int.injEq, and_true] at h
  exact Prod.ext h.1 h.2
theorem flat_pairs : ∀ ps : List (Int × Int), flatDL (ps.map encP) = true
  | [] => rfl
  | p :: ps => by show (flatD (encP p) && flatDL (ps.map encP)) = true; rw [flat_pairs ps]; rfl
theorem depth_pairs : ∀ (ps : List (Int × Int)), PyData.depthAll (ps.map dP) ≤ 1
  | [] => Nat.zero_le _
  | p :: ps => by
    show max (dP p).depth (PyData.depthAll (ps.map dP)) ≤ 1
    exact Nat.max_le.mpr ⟨Nat.le_refl 1, depth_pairs ps⟩
theorem h_minP {p : Int × Int} {ps : List (Int × Int)} {Q : Md → D → Prop} (q : Q .sh (encP (minP p ps))) : pMinD (.lst ((p :: ps).map encP)) Q := by
  refine ⟨encP p, ps.map encP, rfl, flat_pairs (p :: ps), ?_, ?_, fun e he hm => ?_⟩
  · rw [show toPyL (encP p :: ps.map encP) = (p :: ps).map dP from toPyL_encP (p :: ps)]
    refine ⟨fun x hx y hy => ?_, fun x hx => ?_⟩
    · obtain ⟨p, _, rfl⟩ := List.mem_map.mp hx
      obtain ⟨q, _, rfl⟩ := List.mem_map.mp hy
      rfl
    · obtain ⟨p, _, rfl⟩ := List.mem_map.mp hx
      exact fun z => nomatch z
  · rw [show toPyL (encP p :: ps.map encP) = (p :: ps).map dP from toPyL_encP (p :: ps)]
    exact Nat.le_trans (depth_pairs (p :: ps)) (by decide)
  · have he' : e ∈ (p :: ps).map encP := he
    obtain ⟨y, _, rfl⟩ := List.mem_map.mp he'
    rw [toPy_encP, toPy_encP, toPyL_encP, minD_pairs] at hm
    rw [dP_inj hm]
    exact q
theorem minP_mem (p : Int × Int) (ps : List (Int × Int)) : minP p ps ∈ p :: ps := by
  unfold minP
  induction ps generalizing p with
  | nil => exact List.mem_cons_self
  | cons y ps ih =>
    rw [List.foldl_cons]
    have h := ih (if ltI y p = true then y else p)
    rcases List.mem_cons.mp h with e | e
    · rw [e]
      split
      · exact List.mem_cons_of_mem _ List.mem_cons_self
      · exact List.mem_cons_self
    · exact List.mem_cons_of_mem _ (List.mem_cons_of_mem _ e)
/-- its first number is the least of all first numbers -/
theorem minP_le (p : Int × Int) (ps : List (Int × Int)) : ∀ y ∈ p :: ps, (minP p ps).1 ≤ y.1 := by
  unfold minP
  induction ps generalizing p with
  | nil => intro y hy; rw [List.mem_singleton.mp hy]; exact Int.le_refl _
  | cons z ps ih =>
    intro y hy
    rw [List.foldl_cons]
    have h := ih (if ltI z p = true then z else p)
    have h0 := h _ List.mem_cons_self
    have hz : (if ltI z p = true then z else p).1 ≤ z.1 ∧ (if ltI z p = true then z else p).1 ≤ p.1 := by
      unfold ltI
      split
      · rename_i c
        have := of_decide_eq_true c
        omega
      · rename_i c
        have : ¬ (z.1 < p.1 ∨ (z.1 = p.1 ∧ z.2 < p.2)) := fun u => c (decide_eq_true u)
        omega
    rcases List.mem_cons.mp hy with e | e
    · rw [e]; omega
    · rcases List.mem_cons.mp e with e | e
      · rw [e]; omega
      · exact h y (List.mem_cons_of_mem _ e)
end Sw
end
section
local macro_rules | `(tactic| walk_at "go1") => `(tactic| first
  | with_reducible refine Sw.g_seqasg ?_ | with_reducible refine Sw.g_op ?_ | with_reducible refine Sw.g_var rfl ?_ | with_reducible refine Sw.g_c ?_ | with_reducible refine Sw.g_I0 ?_
  | with_reducible refine Sw.g_cons ?_ | with_reducible refine Sw.g_nil ?_ | with_reducible refine Sw.g_call ?_ | with_reducible refine Sw.g_cb ?_ | with_reducible refine Sw.g_test ?_ | with_reducible refine Sw.g_bl ?_
  | with_reducible refine Sw.g_seqdrop ?_ | with_reducible refine Sw.g_seqsub ?_ | with_reducible refine Sw.g_asg ?_ | with_reducible refine Sw.g_asgsub ?_ | with_reducible refine Sw.g_ret ?_ | with_reducible refine Sw.g_drop ?_ | with_reducible refine Sw.g_if ?_ | with_reducible refine Sw.g_next ?_ | with_reducible refine Sw.g_name ?_
  | with_reducible refine Sw.g_B ?_ | with_reducible refine Sw.g_not ?_ | with_reducible refine Sw.g_and ?_ | with_reducible refine Sw.g_or ?_ | with_reducible refine Sw.g_andV ?_ | with_reducible refine Sw.g_orV ?_ | with_reducible refine Sw.g_notV ?_
  | with_reducible refine Sw.g_ifE ?_ | with_reducible refine Sw.g_chain ?_ | with_reducible refine Sw.g_un ?_ | with_reducible refine Sw.g_tup ?_ | with_reducible refine Sw.g_lst ?_ | with_reducible refine Sw.g_sl ?_ | with_reducible refine Sw.g_part ?_ | with_reducible refine Sw.g_nopart ?_
  | with_reducible refine Sw.g_U ?_ | with_reducible refine Sw.g_eq rfl ?_ | with_reducible refine Sw.g_ne rfl ?_ | with_reducible refine Sw.g_int ?_ | with_reducible refine Sw.g_yes ?_ | with_reducible refine L2.iteT ?_ | with_reducible refine L2.iteF ?_ | with_reducible refine Sw.iteNT ?_ | with_reducible refine Sw.iteNF ?_ | with_reducible refine Sw.g_m1 ?_ | with_reducible refine Sw.g_bm ?_ | with_reducible refine ⟨Sw.ty_lst (by assumption), ?_⟩ | with_reducible refine Sw.g_sput ?_ | with_reducible refine Sw.g_put ?_ | with_reducible refine Sw.g_dget2 ?_ | with_reducible refine Sw.g_dget ?_ | with_reducible refine Sw.g_dK ?_ | with_reducible refine Sw.g_dT ?_ | with_reducible refine Sw.g_dnotin ?_ | with_reducible refine Sw.g_din ?_ | with_reducible refine Sw.g_bm0 ?_
  | with_reducible refine Sw.g_ixL (by assumption) rfl ?_ | with_reducible refine Sw.g_ixT (by assumption) rfl ?_)
local macro_rules | `(tactic| walk_at "go") => `(tactic| repeat walk_at "go1")
local macro_rules | `(tactic| walk_at "bd") => `(tactic| repeat (first | with_reducible exact Sw.all_nil | refine Sw.all_cons ⟨_, rfl, by omega, by omega⟩ ?_))
local macro_rules | `(tactic| walk_at "new") => `(tactic| (refine ⟨Nat.le_of_ble_eq_true rfl, fun p np => ?_⟩; generalize hX : L2.upd _ p _ = H'; have sm : L2.Same _ H' := hX ▸ Sw.same_upd np; have hp : H' p = some _ := hX ▸ L2.upd_same; clear hX))
namespace Sw
open PySem PySem.Spec PyProof.Rows L2 SX
/-! ### zip of a list and a text -/
def ItzS (K : PySem.W.Frag) (a : Addr) (x : Str) : It :=
  ⟨fun i H => ∃ (xs : List V) (v : V), SqL K H a xs ∧ xs[i]? = some v ∧ i < x.cps.size,
    fun i H v H' => ∃ T u ch, v = .ref T ∧ H T = none ∧ H' = upd H T (.tup [u, .str ⟨#[ch]⟩]) ∧ (∀ xs, SqL K H a xs → xs[i]? = some u) ∧ x.cps[i]? = some ch,
    fun i H => ∃ xs : List V, SqL K H a xs ∧ i = min xs.length x.cps.size⟩
theorem turn_zipS {P : Program} {w : World} {K : PySem.W.Frag} {elts : List Expr} {kk : Nat} {tpos : Pos} {a z TI TO i1 i2 : Addr} {x : Str} {t : Tok} (S : ZipSep2 z TI TO i1 i2 [i1, a] [i2]) (hai : a ≠ i1) :
    Turn P w K (.Tuple elts kk tpos) (ItzS K a x) [z, TI, TO, i1, i2] z (fun i h => IsZip h z TI TO .none ∧ IsTupOf2 h TI (.ref i1) (.ref i2) ∧ (∃ x y, IsTupOf2 h TO x y) ∧ h.IsListIter i1 a i ∧ h.IsStrIter i2 (strIterType x) x t i) where
  mem := by simp
  obj := fun i h st c hc => by
    obtain ⟨hz, hTI, ⟨x, y, hTO⟩, ⟨o1, e1, _, d1⟩, ⟨o2, e2, _, d2⟩⟩ := st
    have e' : c = z ∨ c = TI ∨ c = TO ∨ c = i1 ∨ c = i2 := by simpa using hc
    rcases e' with q | q | q | q | q
    · rw [q]; exact ⟨_, hz, fun v q => nomatch q⟩
    · rw [q]; exact ⟨_, hTI, fun v q => nomatch q⟩
    · rw [q]; exact ⟨_, hTO, fun v q => nomatch q⟩
    · rw [q]; exact ⟨o1, e1, fun v q => by rw [d1] at q; cases q⟩
    · rw [q]; exact ⟨o2, e2, fun v q => by rw [d2] at q; cases q⟩
  keep := fun i h h' st k => by
    obtain ⟨hz, hTI, ⟨x, y, hTO⟩, h1, h2⟩ := st
    exact ⟨k z (by simp) _ hz, k TI (by simp) _ hTI, ⟨x, y, k TO (by simp) _ hTO⟩, h1.at fun o q => k i1 (by simp) o q, let ⟨o, ho, r⟩ := h2; ⟨o, k i2 (by simp) o ho, r⟩⟩
  item := by
    intro X hP hw hK hc i pins s σ H E I hf st hg
    subst hP hw hK
    obtain ⟨hz, hTI, ⟨x0, y0, hTO⟩, h1, h2⟩ := st
    obtain ⟨xs, v, hqx, hx, hlt⟩ := hg
    obtain ⟨its, rv, p, _⟩ := I.list hqx
    obtain ⟨u, hu, ru⟩ := rv.get hx
    have hzl : z < s.heap.objs.size := Heap.lt_size hz
    have hil : i < its.toArray.size := by
      have := (List.getElem?_eq_some_iff.mp hu).1
      simpa using this
    have W := WalksT.zipD2 S (Draws.list (prog := X.prog) (w := X.w) (A := X.A.in1) (I.ok.hd hc) i1 a hai its.toArray) (Draws.text (prog := X.prog) (w := X.w) (A := X.A.in1) (I.ok.hd hc) i2 x t)
    refine W.item i s _ _ (by omega) ⟨hz, hTI, ⟨_, _, hTO⟩, ⟨h1, p.isList⟩, h2⟩ fun T vals h' tk ⟨u1, u2, hp1, ⟨ch, tu, hch, e2⟩, ev⟩ hT hTt hm hk => ?_
    have ap := W.apart i T h' hm
    refine ⟨_, rfl, W.go elts kk tpos i T { s with heap := h', toks := tk } _ _ hm fun h'' st' hk' => ?_⟩
    have eu : u1 = u := by
      have h3 : its.toArray[i]? = some u := by simpa using hu
      rw [h3] at hp1
      cases hp1
      rfl
    subst eu e2 ev
    obtain ⟨oT, hoT, cT, dT⟩ := hTt
    have hT2 : h''.get? T = some oT := hk' T oT ap hoT
    have new : ObjOk X.prog X.w (upd H T (.tup [v, .str ⟨#[ch]⟩])) h'' T (.tup [v, .str ⟨#[ch]⟩]) :=
      ⟨by show 2 ≤ sizeLine; decide, [u1, .str ⟨#[ch]⟩ tu], .cons ru (.cons ⟨tu, rfl⟩ .nil), ⟨oT, hT2, cT, dT⟩⟩
    have sub : ∀ c, c ∉ [z, TI, TO, i1, i2] → c ∉ [z, TO, i1, i2] := fun c h1 h2 => h1 (by
      have : c = z ∨ c = TO ∨ c = i1 ∨ c = i2 := by simpa using h2
      rcases this with q | q | q | q <;> simp [q])
    have I1 : Inv X pins σ (upd H T (.tup [v, .str ⟨#[ch]⟩])) { s with heap := h'', toks := tk } :=
      I.turnedNew (t' := tk) (ch := [z, TI, TO, i1, i2]) (fun c o hb q => hk' c o (sub c hb) (hk c o (sub c hb) q)) hf hT new
    refine ⟨.ref T, _, I1, rfl, ⟨T, v, ch, rfl, I.hok.fresh hT, rfl, fun l hl => by rw [I.list_inj hl hqx]; exact hx, hch⟩, ⟨st'.1, st'.2.1, st'.2.2.1, st'.2.2.2.1.1, st'.2.2.2.2⟩, fun c hcm => ?_⟩
    have hlt : c < s.heap.objs.size := by
      have e' : c = z ∨ c = TI ∨ c = TO ∨ c = i1 ∨ c = i2 := by simpa using hcm
      rcases e' with q | q | q | q | q
      · rw [q]; exact hzl
      · rw [q]; exact Heap.lt_size hTI
      · rw [q]; exact Heap.lt_size hTO
      · rw [q]; obtain ⟨_, e1, _⟩ := h1; exact Heap.lt_size e1
      · rw [q]; obtain ⟨_, e2, _⟩ := h2; exact Heap.lt_size e2
    rw [upd_ne (Nat.ne_of_lt (Nat.lt_of_lt_of_le hlt hT))]
    exact (hf c hcm).1
  done := by
    intro X hP hw hK hc i pins s σ H E I hf st hg
    subst hP hw hK
    obtain ⟨hz, hTI, ⟨x0, y0, hTO⟩, h1, h2⟩ := st
    obtain ⟨xs, hqx, hend⟩ := hg
    obtain ⟨its, rv, p, _⟩ := I.list hqx
    have l1 := rv.length
    have W := WalksT.zipD2 S (Draws.list (prog := X.prog) (w := X.w) (A := X.A.in1) (I.ok.hd hc) i1 a hai its.toArray) (Draws.text (prog := X.prog) (w := X.w) (A := X.A.in1) (I.ok.hd hc) i2 x t)
    have e3 : its.toArray.size = xs.length := by
      show its.length = xs.length
      omega
    have en : i = min its.toArray.size x.cps.size := by rw [hend, e3]
    rw [en] at h1 h2
    refine W.done s _ _ ⟨hz, hTI, ⟨_, _, hTO⟩, ⟨h1, p.isList⟩, h2⟩ fun h' tk hk => ⟨rfl, I.turnedL (t' := tk) (ch := [z, TI, TO, i1, i2]) (fun c o hb q => hk c o (fun h2 => hb (by
      have : c = z ∨ c = TO ∨ c = i1 ∨ c = i2 := by simpa using h2
      rcases this with q | q | q | q <;> simp [q])) q) hf⟩
  self := fun A i s Q E st h => wpAny_pyIter_zip st.1 h
def iZipS (K : PySem.W.Frag) (ta : TA) : TI := fun σ H R => ta σ H fun vs H1 => ∃ a x xs, vs = [.ref a, .str x] ∧ SqL K H1 a xs ∧ R (ItzS K a x) H1
theorem pi_zipS {X : Cx} {e e2 : Expr} {ta : TA} {p pos tpos : Pos} {elts : List Expr} {kk : Nat} (hg : Gl X "zip") (hm : X.mg "zip" = none) (ha : PA X [e, e2] ta)
    (hs : starEach [e, e2] X.env = (false, eval e X.env) :: starEach [e2] X.env := by rfl) (hpl : (backTo pos (starEach [e2] X.env)).any (·.1) = false := by rfl) :
    PI X (.Tuple elts kk tpos) (.Call (.Name "zip" p) [e, e2] [] pos) (iZipS X.K ta) := by
  refine ⟨fun pins s σ H R I h => ?_⟩
  refine Call_ (ld_blt I hg hm PyProof.Rows.boot_zip (PyProof.Rows.callWith_type1 (thn (ha.run pos pins s σ H _ I h) fun us s1 ⟨vs, H1, I1, r1, q1⟩ => ?_) hs hpl))
  obtain ⟨a, x, xs, ex, hqx, q⟩ := q1
  subst ex
  cases r1 with
  | cons r rr =>
    cases rr with
    | cons r' rr =>
      cases rr
      cases r
      obtain ⟨t, rfl⟩ := r'
      obtain ⟨its, rv, p1, _⟩ := I1.list hqx
      have la : a < s1.heap.objs.size := p1.lt
      refine zip_begins2 (begins_list a its.toArray) (begins_text x t) p1.isList trivial fun h' hz hTI hTO h1 h2 hsz hk => wpAny_pyIter_zip hz ?_
      have I2 : Inv X pins σ H1 { s1 with heap := h' } := I1.kept (t' := s1.toks) hk
      refine ⟨s1.heap.objs.size + 4, [s1.heap.objs.size + 4, s1.heap.objs.size + 2, s1.heap.objs.size + 3, s1.heap.objs.size, s1.heap.objs.size + 1], _, _, H1, rfl, I2, turn_zipS (t := t) (zip_sep2 (fp1 := [a]) (fp2 := []) (fun b hb => by rw [List.mem_singleton.mp hb]; exact la) (fun b hb => nomatch hb)) (Nat.ne_of_lt la), ⟨hz, hTI, ⟨_, _, hTO⟩, ⟨_, h1, rfl, rfl⟩, ⟨_, h2, rfl, rfl⟩⟩, fun c hcm => ?_, q⟩
      have e' : c = s1.heap.objs.size + 4 ∨ c = s1.heap.objs.size + 2 ∨ c = s1.heap.objs.size + 3 ∨ c = s1.heap.objs.size ∨ c = s1.heap.objs.size + 1 := by simpa using hcm
      have hle : s1.heap.objs.size ≤ c := by
        rcases e' with z | z | z | z | z
        · rw [z]; exact Nat.le_add_right _ _
        · rw [z]; exact Nat.le_add_right _ _
        · rw [z]; exact Nat.le_add_right _ _
        · rw [z]; exact Nat.le_refl _
        · rw [z]; exact Nat.le_add_right _ _
      exact I1.fpOk hle (I1.hok.fresh hle)
def qiZipS (a b : QE) : QI := fun δ Q => a δ fun m d => b δ fun _ e => ∃ ds l, d = .lst ds ∧ e = .str l ∧ Q (if m = .pk then .pk else .sh) ((ds.zip (l.map fun ch => D.str [ch])).map fun p => .tup [p.1, p.2])
section
variable {K : PySem.W.Frag} {c : Cl} {t : Option Addr} {E : XE} {Ep : XP} {te ta tb tc : TE} {qe qa qb qc : QE}
theorem yields_zipS {F1 H1 : Hp} {a : Addr} {xs : List V} {ds : List D} {l : List Nat} (s : Same F1 H1) (h : H1 a = some (.lst xs)) (r : RpL F1 ds xs) : Yields (ItzS K a (S l)) F1 H1 ((ds.zip (l.map fun ch => D.str [ch])).map fun p => .tup [p.1, p.2]) := by
  refine ⟨fun i d e => ?_, xs, uniqL h, by rw [r.len, List.length_map, List.length_zip, List.length_map]; simp⟩
  rw [List.getElem?_map] at e
  obtain ⟨p, e1, rfl⟩ := Option.map_eq_some_iff.mp e
  obtain ⟨e2, e3⟩ := List.getElem?_zip_eq_some.mp e1
  obtain ⟨x, h1, h2⟩ := r.at e2
  rw [List.getElem?_map] at e3
  obtain ⟨ch, h3, h4⟩ := Option.map_eq_some_iff.mp e3
  have hl : i < l.length := (List.getElem?_eq_some_iff.mp h3).1
  refine ⟨⟨xs, x, uniqL h, h1, by show i < (S l).cps.size; simpa using hl⟩, fun v H2 ⟨T, z, ch', e1, e2, e3, e4, e5⟩ => ?_⟩
  have z1 := e4 xs (uniqL h)
  rw [h1] at z1
  cases z1
  have z2 : l[i]? = some ch' := by simpa using e5
  rw [h3] at z2
  cases z2
  subst e1 e3
  have sm : Same F1 (upd F1 T (.tup [x, .str ⟨#[ch]⟩])) := same_upd (s.free e2)
  exact ⟨_, .new s e2, T, _, rfl, upd_same, _, _, rfl, h2.mono (.of sm), _, _, rfl, by rw [← h4]; rfl, rfl⟩
theorem si_zipS (ha : SimE K c t E Ep ta qa) (hb : SimE K c t E Ep tb qb) : SimI K c t E Ep (iZipS K (tCons ta (tCons tb tNil))) (qiZipS qa qb) := fun F0 H0 L F δ σ H R Qp er rs hq k => by
  refine ha.vw er rs hq fun x F1 H1 m d g v rp q => ?_
  refine hb.vw er (rs.grow g) q fun y F2 H2 m2 e g2 v2 rp2 q2 => ?_
  obtain ⟨ds, l, rfl, rfl, q3⟩ := q2
  have v1 := v.grow g2
  obtain ⟨a, xs, rfl, h1, h2⟩ := vw_lst g2.s v1
  refine ⟨a, S l, xs, by rw [vw_str v2], uniqL h1, k _ F2 H2 _ _ (g.trans g2 rs.st.dr) (fun F3 H3 g3 => ?_) (fun hm F3 H3 s1 s2 => ?_) q3⟩
  · obtain ⟨a', xs', e1, h5, h6⟩ := vw_lst g3.s (v1.grow g3)
    cases e1
    exact yields_zipS g3.s h5 h6
  · have m1 : m ≠ .pk := fun z => hm (if_pos z)
    obtain ⟨a', xs', e1, h5, h6⟩ := (rp m1).mono (.of (g2.f.trans s1))
    cases e1
    exact yields_zipS s2 (s2 _ _ h5) h6
theorem h_iZipS {a b : QE} {δ : DS} {QI' : Md → List D → Prop} (h : a δ fun m d => b δ fun _ e => ∃ ds l, d = .lst ds ∧ e = .str l ∧ QI' (if m = .pk then .pk else .sh) ((ds.zip (l.map fun ch => D.str [ch])).map fun p => .tup [p.1, p.2])) : qiZipS a b δ QI' := h
end
end Sw
end
section
local macro_rules | `(tactic| walk_at "go1") => `(tactic| first
  | with_reducible refine Sw.g_seqasg ?_ | with_reducible refine Sw.g_op ?_ | with_reducible refine Sw.g_var rfl ?_ | with_reducible refine Sw.g_c ?_ | with_reducible refine Sw.g_I0 ?_
  | with_reducible refine Sw.g_cons ?_ | with_reducible refine Sw.g_nil ?_ | with_reducible refine Sw.g_call ?_ | with_reducible refine Sw.g_cb ?_ | with_reducible refine Sw.g_test ?_ | with_reducible refine Sw.g_bl ?_
  | with_reducible refine Sw.g_seqdrop ?_ | with_reducible refine Sw.g_seqsub ?_ | with_reducible refine Sw.g_asg ?_ | with_reducible refine Sw.g_asgsub ?_ | with_reducible refine Sw.g_ret ?_ | with_reducible refine Sw.g_drop ?_ | with_reducible refine Sw.g_if ?_ | with_reducible refine Sw.g_next ?_ | with_reducible refine Sw.g_name ?_
  | with_reducible refine Sw.g_B ?_ | with_reducible refine Sw.g_not ?_ | with_reducible refine Sw.g_and ?_ | with_reducible refine Sw.g_or ?_ | with_reducible refine Sw.g_andV ?_ | with_reducible refine Sw.g_orV ?_ | with_reducible refine Sw.g_notV ?_
  | with_reducible refine Sw.g_ifE ?_ | with_reducible refine Sw.g_chain ?_ | with_reducible refine Sw.g_un ?_ | with_reducible refine Sw.g_tup ?_ | with_reducible refine Sw.g_lst ?_ | with_reducible refine Sw.g_sl ?_ | with_reducible refine Sw.g_part ?_ | with_reducible refine Sw.g_nopart ?_
  | with_reducible refine Sw.g_U ?_ | with_reducible refine Sw.g_eq rfl ?_ | with_reducible refine Sw.g_ne rfl ?_ | with_reducible refine Sw.g_int ?_ | with_reducible refine Sw.g_yes ?_ | with_reducible refine L2.iteT ?_ | with_reducible refine L2.iteF ?_ | with_reducible refine Sw.iteNT ?_ | with_reducible refine Sw.iteNF ?_ | with_reducible refine Sw.g_m1 ?_ | with_reducible refine Sw.g_bm ?_ | with_reducible refine ⟨Sw.ty_lst (by assumption), ?_⟩ | with_reducible refine Sw.g_sput ?_ | with_reducible refine Sw.g_put ?_ | with_reducible refine Sw.g_dget2 ?_ | with_reducible refine Sw.g_dget ?_ | with_reducible refine Sw.g_dK ?_ | with_reducible refine Sw.g_dT ?_ | with_reducible refine Sw.g_dnotin ?_ | with_reducible refine Sw.g_din ?_ | with_reducible refine Sw.g_bm0 ?_
  | with_reducible refine Sw.g_ixL (by assumption) rfl ?_ | with_reducible refine Sw.g_ixT (by assumption) rfl ?_)
local macro_rules | `(tactic| walk_at "go") => `(tactic| repeat walk_at "go1")
local macro_rules | `(tactic| walk_at "bd") => `(tactic| repeat (first | with_reducible exact Sw.all_nil | refine Sw.all_cons ⟨_, rfl, by omega, by omega⟩ ?_))
local macro_rules | `(tactic| walk_at "new") => `(tactic| (refine ⟨Nat.le_of_ble_eq_true rfl, fun p np => ?_⟩; generalize hX : L2.upd _ p _ = H'; have sm : L2.Same _ H' := hX ▸ Sw.same_upd np; have hp : H' p = some _ := hX ▸ L2.upd_same; clear hX))
namespace Sw
open PySem PySem.Spec PyProof.Rows L2 SX
/-! ### tuple * int -/
theorem tuple_mul1 (l : Addr) (items : Array Value) (n : Nat) (dd : Option Addr) (sl : Array (Option Value)) (u : Tok) :
    Meets (Builtin.«tuple.__mul__» ⟨[.ref l, .int 1 u], []⟩) (fun _ R s => s.heap.get? l = some { cls := .type "tuple", dict := dd, data := .seq items n, slots := sl } ∧ R (.ok (.ret (Value.ref l))) s) :=
  .of_wp fun prog w A R s h => by
    obtain ⟨hp, g, d, tk, os⟩ := s
    obtain ⟨hl, h⟩ := h
    have f1 := AutoSeq1.idx_int
    have c1 : (items.isEmpty || (1 : Int) == 1) = true := by simp
    wp_walk using wpAny_loadPart' hl
    exact ⟨_, rfl, h⟩
def rRepT1 (K : PySem.W.Frag) : R2 := fun x y H Q => ∃ l k xs, x = .ref l ∧ y = .int k ∧ SqT K H l xs ∧ xs ≠ [] ∧ 1 ≤ k ∧ k ≤ 1000 ∧ xs.length ≤ 1000 ∧ (k = 1 → Q (.ref l) H) ∧ (2 ≤ k → ∀ p, H p = none → Q (.ref p) (upd H p (.tup (List.replicate k.toNat xs).flatten)))
theorem op_repT1 {X : Cx} : OpR X (binaryOp .Mult) (rRepT1 X.K) := by
  intro pins s σ H x y v u Q I rx ry h
  obtain ⟨l, k, xs, rfl, rfl, hT, hne, h1, h2, hz, q1, q2⟩ := h
  by_cases e : 2 ≤ k
  · exact op_repT pins s σ H _ _ v u Q I rx ry ⟨l, k, xs, rfl, rfl, hT, hne, e, h2, hz, q2 e⟩
  · have ek : k = 1 := by omega
    subst ek
    cases rx
    obtain ⟨t, rfl⟩ := ry
    obtain ⟨its, r, ⟨⟨cls, dd, data, sl⟩, ho, hc, n, hd⟩, hs⟩ := I.tuple hT
    simp only at hc hd
    subst hc hd
    refine wpAny_binaryOp_repeat_ref (T := "tuple") (U := "int") (by decide) ⟨_, ho, rfl⟩ (fun s' => typeIs_int s' 1 t) noFill_tuple_mul F.fills_int_mul F.slot_int_rmul repeat_tuple F.slot_int_index.lookup
      (call_meets F.slot_int_rmul (typeIs_int s 1 t) F.entry_int_rmul (F.args_int_rmul_2 _ _) (int_rmul_tuple 1 t l its.toArray n dd sl)
        ⟨ho, rfl, ⟨_, ho, rfl⟩, call_meets F.slot_tuple_mul ⟨_, ho, rfl⟩ F.entry_tuple_mul (F.args_tuple_mul_2 _ _) (tuple_mul1 l its.toArray n dd sl t) ⟨ho, ?_⟩⟩)
    exact ⟨.ref l, H, I, rfl, q1 rfl⟩
def pRepT : P2 := fun d e Q => ∃ (a : D) (n : Int), d = .tup [a] ∧ e = .int n ∧ 1 ≤ n ∧ n ≤ 1000 ∧ Q .sh (.tup (List.replicate n.toNat a))
theorem o_repT {K : PySem.W.Frag} {t : Option Addr} : Sim2 t (rRepT1 K) pRepT := fun F H x y d e Q Qp s ht vx vy p k => by
  obtain ⟨a, n, rfl, rfl, n1, n2, q⟩ := p
  obtain ⟨p1, xs, rfl, h1, h2⟩ := vw_tup vx
  have hl := h2.len
  have e1 : (List.replicate n.toNat [a]).flatten = List.replicate n.toNat a := List.flatten_replicate_singleton
  refine ⟨p1, n, xs, rfl, vw_int vy, .inl (.inl (s _ _ h1)), fun z => (by rw [z] at hl; cases hl), n1, n2, by rw [hl]; exact Nat.le_of_ble_eq_true rfl, fun e => ?_, fun _ p np => ?_⟩
  · subst e
    exact k.val s (d := .tup [a]) ⟨p1, xs, rfl, h1, h2⟩ q
  · exact k.tup s np (by rw [← e1]; exact rpl_rep h2 n.toNat) q
theorem h_repT {a : D} {n : Int} {Q : Md → D → Prop} (h1 : 1 ≤ n) (h2 : n ≤ 1000) (q : Q .sh (.tup (List.replicate n.toNat a))) : pRepT (.tup [a]) (.int n) Q := ⟨a, n, rfl, rfl, h1, h2, q⟩
/-! ### text or text -/
def qOrS (a b : QE) : QE := fun δ Q => a δ fun _ d => ∃ l : List Nat, d = .str l ∧ l.length ≤ 1000000 ∧ if l = [] then b δ Q else Q .sh (.str l)
theorem s_orS {K : PySem.W.Frag} {c : Cl} {t : Option Addr} {E : XE} {Ep : XP} {ta tb : TE} {qa qb : QE} (ha : SimE K c t E Ep ta qa) (hb : SimE K c t E Ep tb qb) : SimE K c t E Ep (tOrT K ta tb) (qOrS qa qb) := fun F0 H0 L F δ σ H Q Qp er rs hq k => by
  refine ha.vw er rs hq fun x F1 H1 m1 d1 g1 v1 _ q1 => ?_
  obtain ⟨l, rfl, hl, q2⟩ := q1
  have e := vw_str v1
  subst e
  by_cases z : l = []
  · subst z
    rw [if_pos rfl] at q2
    refine ⟨false, ⟨by rw [S_len]; exact le_line6 hl, rfl⟩, ?_⟩
    rw [if_neg (by decide)]
    exact hb.then er (rs.grow g1) q2 g1 rs.st.dr k
  · rw [if_neg z] at q2
    refine ⟨true, ⟨by rw [S_len]; exact le_line6 hl, ?_⟩, ?_⟩
    · rw [S_len]
      have : l.length ≠ 0 := fun y => z (List.eq_nil_of_length_eq_zero y)
      symm
      rw [bne_iff_ne]
      omega
    · rw [if_pos rfl]
      exact k _ F1 H1 .sh (.str l) g1 rfl q2
theorem h_orS {δ : DS} {Q : Md → D → Prop} {a b : QE} (h : a δ fun _ d => ∃ l : List Nat, d = .str l ∧ l.length ≤ 1000000 ∧ if l = [] then b δ Q else Q .sh (.str l)) : qOrS a b δ Q := h
/-! ### further steps -/
section
variable {δ : DS} {P : Pn} {Q : Md → D → Prop} {i : Nat} {m : Md} {d : D} {ds : List D}
theorem h_setLE {j e : QE} (h1 : δ[i]? = some (some (.ow (.lst ds)))) (h : e δ fun m d => j δ fun _ y => ∃ ds n k, δ[i]? = some (some (.ow (.lst ds))) ∧ y = .int n ∧ m ≠ .pk ∧ ixN ds.length n = some k ∧ P.nx (δ.set i (some (.ow (.lst (ds.set k d)))))) : qSetLS i j e P δ := ⟨⟨ds, h1⟩, h⟩
theorem ixN_in {n : Nat} {z : Int} (h0 : 0 ≤ z) (h1 : z < (n : Int)) : ixN n z = some z.toNat := by
  unfold ixN
  rw [if_pos h0, if_pos (by omega)]
theorem h_setLK {n : Int} (h1 : δ[i]? = some (some (.ow (.lst ds)))) (hm : m ≠ .pk) (h0 : 0 ≤ n) (hn : n < (ds.length : Int)) (h : P.nx (δ.set i (some (.ow (.lst (ds.set n.toNat d)))))) : ∃ ds n' k, δ[i]? = some (some (.ow (.lst ds))) ∧ D.int n = .int n' ∧ m ≠ .pk ∧ ixN ds.length n' = some k ∧ P.nx (δ.set i (some (.ow (.lst (ds.set k d))))) :=
  ⟨ds, n, n.toNat, h1, rfl, hm, ixN_in h0 hn, h⟩
theorem h_varE {sv : SV} (h : δ[i]? = some (some sv)) (e : sv = .ow d ∨ sv = .sh d) (q : ∀ m, Q m d) : qVar i δ Q := by
  rcases e with e | e
  · exact ⟨_, h, by rw [e]; exact q _⟩
  · exact ⟨_, h, by rw [e]; exact q _⟩
theorem h_tupOf (q : Q .sh (.tup ds)) : pTupOf (.lst ds) Q := ⟨ds, .inl rfl, q⟩
theorem h_listOfT (q : Q .ow (.lst ds)) : pListOf (.tup ds) Q := ⟨ds, .inr rfl, q⟩
/-- one of some, drawn -/
theorem h_pick (Pr : D → Prop) {r : Int} (h0 : 0 ≤ r) (h1 : r < (ds.length : Int)) (ha : ∀ d ∈ ds, Pr d) (h : ∀ d, Pr d → Q .sh d) : pIxL (.lst ds) (.int r) Q := by
  obtain ⟨v, e, hv, _⟩ := atI_of h0 h1
  exact ⟨ds, r, v, rfl, rfl, e, h v (ha v hv)⟩
/-! calls, with what they come to -/
theorem c_draw {md : Int} {S' : Prop} {E : Nat → Prop} (h0 : 0 < md) (h1 : md < 2 ^ 300) (h : ∀ r : Int, 0 ≤ r → r < md → Q .sh (.int r)) : psp_law_draw (List.map Ar.un [.tp, .sh (.int md)]) (fun m d => (S' → okR m d = true) ∧ Q m d) E :=
  ⟨md, rfl, h0, h1, fun r r0 r1 => ⟨fun _ => rfl, h r r0 r1⟩⟩
end
end Sw
end
section
local macro_rules | `(tactic| walk_at "go1") => `(tactic| first
  | with_reducible refine Sw.g_seqasg ?_ | with_reducible refine Sw.g_op ?_ | with_reducible refine Sw.g_var rfl ?_ | with_reducible refine Sw.g_c ?_ | with_reducible refine Sw.g_I0 ?_
  | with_reducible refine Sw.g_cons ?_ | with_reducible refine Sw.g_nil ?_ | with_reducible refine Sw.g_call ?_ | with_reducible refine Sw.g_cb ?_ | with_reducible refine Sw.g_test ?_ | with_reducible refine Sw.g_bl ?_
  | with_reducible refine Sw.g_seqdrop ?_ | with_reducible refine Sw.g_seqsub ?_ | with_reducible refine Sw.g_asg ?_ | with_reducible refine Sw.g_asgsub ?_ | with_reducible refine Sw.g_ret ?_ | with_reducible refine Sw.g_drop ?_ | with_reducible refine Sw.g_if ?_ | with_reducible refine Sw.g_next ?_ | with_reducible refine Sw.g_name ?_
  | with_reducible refine Sw.g_B ?_ | with_reducible refine Sw.g_not ?_ | with_reducible refine Sw.g_and ?_ | with_reducible refine Sw.g_or ?_ | with_reducible refine Sw.g_andV ?_ | with_reducible refine Sw.g_orV ?_ | with_reducible refine Sw.g_notV ?_
  | with_reducible refine Sw.g_ifE ?_ | with_reducible refine Sw.g_chain ?_ | with_reducible refine Sw.g_un ?_ | with_reducible refine Sw.g_tup ?_ | with_reducible refine Sw.g_lst ?_ | with_reducible refine Sw.g_sl ?_ | with_reducible refine Sw.g_part ?_ | with_reducible refine Sw.g_nopart ?_
  | with_reducible refine Sw.g_U ?_ | with_reducible refine Sw.g_eq rfl ?_ | with_reducible refine Sw.g_ne rfl ?_ | with_reducible refine Sw.g_int ?_ | with_reducible refine Sw.g_yes ?_ | with_reducible refine L2.iteT ?_ | with_reducible refine L2.iteF ?_ | with_reducible refine Sw.iteNT ?_ | with_reducible refine Sw.iteNF ?_ | with_reducible refine Sw.g_m1 ?_ | with_reducible refine Sw.g_bm ?_ | with_reducible refine ⟨Sw.ty_lst (by assumption), ?_⟩ | with_reducible refine Sw.g_sput ?_ | with_reducible refine Sw.g_put ?_ | with_reducible refine Sw.g_dget2 ?_ | with_reducible refine Sw.g_dget ?_ | with_reducible refine Sw.g_dK ?_ | with_reducible refine Sw.g_dT ?_ | with_reducible refine Sw.g_dnotin ?_ | with_reducible refine Sw.g_din ?_ | with_reducible refine Sw.g_bm0 ?_
  | with_reducible refine Sw.g_ixL (by assumption) rfl ?_ | with_reducible refine Sw.g_ixT (by assumption) rfl ?_)
local macro_rules | `(tactic| walk_at "go") => `(tactic| repeat walk_at "go1")
local macro_rules | `(tactic| walk_at "bd") => `(tactic| repeat (first | with_reducible exact Sw.all_nil | refine Sw.all_cons ⟨_, rfl, by omega, by omega⟩ ?_))
local macro_rules | `(tactic| walk_at "new") => `(tactic| (refine ⟨Nat.le_of_ble_eq_true rfl, fun p np => ?_⟩; generalize hX : L2.upd _ p _ = H'; have sm : L2.Same _ H' := hX ▸ Sw.same_upd np; have hp : H' p = some _ := hX ▸ L2.upd_same; clear hX))
namespace Sw
open PySem PySem.Spec PyProof.Rows L2 SX
/-! ### all(truths) -/
def pAll : P1 := fun d Q => ∃ bs : List Bool, d = .lst (bs.map .bl) ∧ Q .sh (.bl (bs.all id))
theorem o_all {K : PySem.W.Frag} {t : Option Addr} : Sim1 t (fun x => rAll K [x]) pAll := fun F H x d Q Qp s ht vx p k => by
  obtain ⟨bs, rfl, q⟩ := p
  obtain ⟨p1, xs, rfl, h1, h2⟩ := vw_lst s vx
  have e := rpl_bls h2
  subst e
  exact ⟨p1, bs, rfl, .inl (.inl h1), k.val s (d := .bl _) rfl q⟩
theorem h_all {bs : List Bool} {Q : Md → D → Prop} (q : Q .sh (.bl (bs.all id))) : pAll (.lst (bs.map .bl)) Q := ⟨bs, rfl, q⟩
/-! ### sorted(list of data) -/
abbrev rSortD (K : PySem.W.Frag) : RC := fun vs H Q => ∃ (a : Addr) (bs : List (V × D)), vs = [.ref a] ∧ SqL K H a (bs.map (·.1)) ∧ (∀ b ∈ bs, flatD b.2 = true ∧ Rp H b.2 b.1) ∧ PySem.W.AllAlike (bs.map fun b => toPy b.2) ∧ PySem.W.Sortable (bs.map fun b => toPy b.2) ∧ bs.length ≤ 1000000 ∧ (∀ b ∈ bs, (toPy b.2).depth ≤ 60) ∧
  ∀ p, H p = none → Q (.ref p) (upd H p (.lst ((bs.mergeSort (PySem.W.dataLe false fun b => toPy b.2)).map (·.1))))
theorem each_vals {X : Cx} {pins : List (Addr × Obj)} {s : Shared} {σ : L2.St} {H : Hp} (I : Inv X pins σ H s) : ∀ {bs : List (V × D)} {its : List Value}, Vals (bs.map (·.1)) its → (∀ b ∈ bs, flatD b.2 = true ∧ Rp H b.2 b.1) → PySem.W.EachIs (fun v b => RelV b.1 v) its bs ∧ PySem.W.EachIs (fun v b => ∃ as, Reads s.heap v (toPy b.2) as) its bs
  | [], _, .nil, _ => ⟨.nil, .nil⟩
  | b :: bs, _, .cons r t, h => by
    obtain ⟨h1, h2⟩ := each_vals I t fun x hx => h x (List.mem_cons_of_mem _ hx)
    obtain ⟨f, rp⟩ := h b List.mem_cons_self
    exact ⟨.cons r h1, .cons (Dp.reads I _ _ _ (rp_dp (K := X.K) f rp) r) h2⟩
theorem vals_each : ∀ {bs : List (V × D)} {its : List Value}, PySem.W.EachIs (fun v (b : V × D) => RelV b.1 v) its bs → Vals (bs.map (·.1)) its
  | [], _, .nil => .nil
  | _ :: _, _, .cons r t => .cons r (vals_each t)
theorem cr_sortD {X : Cx} (hu : X.A.units + 64 < cLine) : CallR X (.builtin "sorted") (rSortD X.K) := by
  intro pins s σ H vs us Q I r h
  obtain ⟨a, bs, rfl, hs, hd, al, so, hl, dp, q⟩ := h
  obtain ⟨its, rv, hlst, hz⟩ := I.list hs
  rw [Vals.ref1 r]
  obtain ⟨e, er⟩ := each_vals I rv hd
  refine PySem.W.sorted_data hlst.isList e er al so (Nat.le_trans hl (by decide)) (fun b hb => by have := dp b hb; omega) fun out hlen he => ?_
  refine ⟨.ref (s.heap.objs.size + 1), upd H (s.heap.objs.size + 1) (.lst _), I.laid (t' := s.toks) (fun b o e => sortedAll_old e) (Nat.le_succ _) ⟨?_, out, ?_⟩, rfl, q _ (I.hok.fresh (Nat.le_succ _))⟩
  · rw [List.length_map, (List.mergeSort_perm _ _).length_eq]
    exact Nat.le_trans hl (by decide)
  · obtain ⟨n, hn⟩ := sortedAll_at s.heap its out.toArray
    exact ⟨n, vals_each he, hn⟩
def pSortD : P1 := fun d Q => ∃ ds, d = .lst ds ∧ flatDL ds = true ∧ PySem.W.AllAlike (ds.map toPy) ∧ PySem.W.Sortable (ds.map toPy) ∧ ds.length ≤ 1000000 ∧ (∀ d ∈ ds, (toPy d).depth ≤ 60) ∧ ∀ so : List D, so.Perm ds → so.Pairwise (fun a b => PySem.W.dataLt (toPy b) (toPy a) = false) → Q .ow (.lst so)
theorem rpl_zip {F : Hp} : ∀ {ds : List D} {xs : List V}, RpL F ds xs → ∃ bs : List (V × D), bs.map (·.1) = xs ∧ bs.map (·.2) = ds ∧ ∀ b ∈ bs, Rp F b.2 b.1
  | [], _, h => by cases h; exact ⟨[], rfl, rfl, fun _ h => nomatch h⟩
  | d :: ds, _, h => by
    obtain ⟨x, r, rfl, h1, h2⟩ := h
    obtain ⟨bs, e1, e2, e3⟩ := rpl_zip h2
    refine ⟨(x, d) :: bs, by rw [List.map_cons, e1], by rw [List.map_cons, e2], fun b hb => ?_⟩
    rcases List.mem_cons.mp hb with rfl | hb
    · exact h1
    · exact e3 b hb
theorem rpl_unzip {F : Hp} : ∀ {bs : List (V × D)}, (∀ b ∈ bs, Rp F b.2 b.1) → RpL F (bs.map (·.2)) (bs.map (·.1))
  | [], _ => rfl
  | b :: bs, h => ⟨_, _, rfl, h b List.mem_cons_self, rpl_unzip fun x hx => h x (List.mem_cons_of_mem _ hx)⟩
theorem flatDL_at : ∀ {ds : List D}, flatDL ds = true → ∀ d ∈ ds, flatD d = true
  | d :: ds, h, x, hx => by
    have h' : (flatD d && flatDL ds) = true := h
    rw [Bool.and_eq_true] at h'
    rcases List.mem_cons.mp hx with rfl | hx
    · exact h'.1
    · exact flatDL_at h'.2 x hx
theorem o_sortD {K : PySem.W.Frag} {t : Option Addr} : Sim1 t (fun x => rSortD K [x]) pSortD := fun F H x d Q Qp s ht vx p k => by
  obtain ⟨ds, rfl, fl, al, so, hl, dp, q⟩ := p
  obtain ⟨a, xs, rfl, h1, h2⟩ := vw_lst s vx
  obtain ⟨bs, rfl, rfl, h3⟩ := rpl_zip h2
  have e : bs.map (fun b => toPy b.2) = (bs.map (·.2)).map toPy := by rw [List.map_map]; rfl
  have hm : ∀ b ∈ bs, b.2 ∈ bs.map (·.2) := fun b hb => List.mem_map.mpr ⟨b, hb, rfl⟩
  refine ⟨a, bs, rfl, .inl (.inl h1), fun b hb => ⟨flatDL_at fl _ (hm b hb), Rp.mono (.of s) (h3 b hb)⟩, by rw [e]; exact al, by rw [e]; exact so, by rw [List.length_map] at hl; exact hl, fun b hb => dp _ (hm b hb), fun p np => ?_⟩
  have pe := List.mergeSort_perm bs (PySem.W.dataLe false fun b => toPy b.2)
  refine k.new s ht np (o := .lst _) (d := .lst ((bs.mergeSort (PySem.W.dataLe false fun b => toPy b.2)).map (fun b : V × D => b.2))) (show OO F (.lst _) (.lst _) from rpl_unzip fun b hb => h3 b (pe.mem_iff.mp hb)) (q _ (pe.map _) ?_)
  rw [List.pairwise_map]
  refine List.Pairwise.imp ?_ (PySem.W.sort_pairwise (PySem.W.sortLe_total _ false _) bs)
  intro x y h
  have h' : (!PySem.W.dataLt (toPy y.2) (toPy x.2)) = true := h
  simpa using h'
end Sw
end
section
local macro_rules | `(tactic| walk_at "go1") => `(tactic| first
  | with_reducible refine Sw.g_seqasg ?_ | with_reducible refine Sw.g_op ?_ | with_reducible refine Sw.g_var rfl ?_ | with_reducible refine Sw.g_c ?_ | with_reducible refine Sw.g_I0 ?_
  | with_reducible refine Sw.g_cons ?_ | with_reducible refine Sw.g_nil ?_ | with_reducible refine Sw.g_call ?_ | with_reducible refine Sw.g_cb ?_ | with_reducible refine Sw.g_test ?_ | with_reducible refine Sw.g_bl ?_
  | with_reducible refine Sw.g_seqdrop ?_ | with_reducible refine Sw.g_seqsub ?_ | with_reducible refine Sw.g_asg ?_ | with_reducible refine Sw.g_asgsub ?_ | with_reducible refine Sw.g_ret ?_ | with_reducible refine Sw.g_drop ?_ | with_reducible refine Sw.g_if ?_ | with_reducible refine Sw.g_next ?_ | with_reducible refine Sw.g_name ?_
  | with_reducible refine Sw.g_B ?_ | with_reducible refine Sw.g_not ?_ | with_reducible refine Sw.g_and ?_ | with_reducible refine Sw.g_or ?_ | with_reducible refine Sw.g_andV ?_ | with_reducible refine Sw.g_orV ?_ | with_reducible refine Sw.g_notV ?_
  | with_reducible refine Sw.g_ifE ?_ | with_reducible refine Sw.g_chain ?_ | with_reducible refine Sw.g_un ?_ | with_reducible refine Sw.g_tup ?_ | with_reducible refine Sw.g_lst ?_ | with_reducible refine Sw.g_sl ?_ | with_reducible refine Sw.g_part ?_ | with_reducible refine Sw.g_nopart ?_
  | with_reducible refine Sw.g_U ?_ | with_reducible refine Sw.g_eq rfl ?_ | with_reducible refine Sw.g_ne rfl ?_ | with_reducible refine Sw.g_int ?_ | with_reducible refine Sw.g_yes ?_ | with_reducible refine L2.iteT ?_ | with_reducible refine L2.iteF ?_ | with_reducible refine Sw.iteNT ?_ | with_reducible refine Sw.iteNF ?_ | with_reducible refine Sw.g_m1 ?_ | with_reducible refine Sw.g_bm ?_ | with_reducible refine ⟨Sw.ty_lst (by assumption), ?_⟩ | with_reducible refine Sw.g_sput ?_ | with_reducible refine Sw.g_put ?_ | with_reducible refine Sw.g_dget2 ?_ | with_reducible refine Sw.g_dget ?_ | with_reducible refine Sw.g_dK ?_ | with_reducible refine Sw.g_dT ?_ | with_reducible refine Sw.g_dnotin ?_ | with_reducible refine Sw.g_din ?_ | with_reducible refine Sw.g_bm0 ?_
  | with_reducible refine Sw.g_ixL (by assumption) rfl ?_ | with_reducible refine Sw.g_ixT (by assumption) rfl ?_)
local macro_rules | `(tactic| walk_at "go") => `(tactic| repeat walk_at "go1")
local macro_rules | `(tactic| walk_at "bd") => `(tactic| repeat (first | with_reducible exact Sw.all_nil | refine Sw.all_cons ⟨_, rfl, by omega, by omega⟩ ?_))
local macro_rules | `(tactic| walk_at "new") => `(tactic| (refine ⟨Nat.le_of_ble_eq_true rfl, fun p np => ?_⟩; generalize hX : L2.upd _ p _ = H'; have sm : L2.Same _ H' := hX ▸ Sw.same_upd np; have hp : H' p = some _ := hX ▸ L2.upd_same; clear hX))
namespace Sw
open PySem PySem.Spec PyProof.Rows L2 SX
/-! ### min(text, text) -/
theorem cmp_texts {prog : Program} {w : World} {A : Around} {P : Nat → Value → Prop} (val : Nat → Str) (hval : ∀ i v, P i v → ∃ t, v = .str (val i) t) : CmpOf prog w A .Lt P (fun i j => decide ((val i).cps.toList < (val j).cps.toList)) := by
  intro i j vi vj s Q E hi hj h
  obtain ⟨t1, e1⟩ := hval i vi hi
  obtain ⟨t2, e2⟩ := hval j vj hj
  rw [e1, e2]
  exact PyProof.Rows.lt_str h
theorem min_texts {prog : Program} {w : World} {A : Around} {E : Value → Shared → Prop} {s : Shared} {a b : Str} {t u : Tok} {Q : Value → Shared → Prop} (hh : A.handled = none)
    (h : ∀ h' tk, (∀ c o, s.heap.get? c = some o → h'.get? c = some o) → Q (if b.cps.toList < a.cps.toList then .str b u else .str a t) { s with heap := h', toks := tk }) :
    wpAny (model prog w) A (call (.builtin "min") [.str a t, .str b u]) Q E s := by
  have n1 : (s.heap.push { cls := .type "tuple", data := .seq #[.str a t, .str b u] }).objs.size = s.heap.objs.size + 1 := Heap.size_push ..
  have tup : (s.heap.push { cls := .type "tuple", data := .seq #[.str a t, .str b u] }).IsTuple s.heap.objs.size #[.str a t, .str b u] := ⟨_, Heap.get?_push_size _ rfl, rfl, 0, rfl⟩
  have at2 : ∀ (i : Nat) (v : Value), (#[Value.str a t, .str b u] : Array Value)[i]? = some v → ∃ k, v = .str (if i = 0 then a else b) k := fun i v hv => by
    match i, hv with
    | 0, hv => exact ⟨t, by simpa using hv.symm⟩
    | 1, hv => exact ⟨u, by simpa using hv.symm⟩
    | n + 2, hv => simp at hv
  refine call_min_two (wpAny_pyIter_tuple tup ?_)
  refine ⟨_, [_, s.heap.objs.size], [_], _, _, _, _, rfl, Walks.tuple (A := A.in1) hh _ s.heap.objs.size (by show s.heap.objs.size ≠ (s.heap.push _).objs.size; rw [Heap.size_push]; exact Nat.ne_of_lt (Nat.lt_succ_self _)) #[.str a t, .str b u],
    ⟨⟨_, Heap.get?_push_size _ rfl, rfl, rfl⟩, tup.push _⟩, fun c hc => ?_, Nat.le_of_ble_eq_true rfl, cmp_texts (fun i => if i = 0 then a else b) at2, fun v h' tk hv hk => ?_⟩
  · show c < ((s.heap.push _).push _).objs.size
    rw [Heap.size_push, n1]
    rcases List.mem_cons.mp hc with z | z
    · have z' : c = (s.heap.push { cls := .type "tuple", data := .seq #[.str a t, .str b u] }).objs.size := z
      rw [z', n1]; exact Nat.lt_succ_self _
    · rw [List.mem_singleton.mp z]; exact Nat.lt_succ_of_lt (Nat.lt_succ_self _)
  · have old : ∀ c o, s.heap.get? c = some o → h'.get? c = some o := fun c o ec => by
      refine hk c o (fun z => ?_) (Heap.get?_push_of_some _ (Heap.get?_push_of_some _ ec))
      have lc : c < s.heap.objs.size := Heap.lt_size ec
      have z' : c = (s.heap.push { cls := .type "tuple", data := .seq #[.str a t, .str b u] }).objs.size := List.mem_singleton.mp z
      rw [z', n1] at lc
      exact absurd lc (Nat.not_lt.mpr (Nat.le_succ _))
    have q := h h' tk old
    have ev : v = if b.cps.toList < a.cps.toList then Value.str b u else Value.str a t := by
      have hv' : (#[Value.str a t, .str b u] : Array Value)[argBest (fun i j => decide ((if i = 0 then a else b).cps.toList < (if j = 0 then a else b).cps.toList)) 1]? = some v := hv
      by_cases hb : b.cps.toList < a.cps.toList
      · have e1 : argBest (fun i j => decide ((if i = 0 then a else b).cps.toList < (if j = 0 then a else b).cps.toList)) 1 = 1 := by
          unfold argBest argBest
          exact if_pos (show decide (b.cps.toList < a.cps.toList) = true from decide_eq_true hb)
        rw [e1] at hv'
        rw [if_pos hb]
        simpa using hv'.symm
      · have e1 : argBest (fun i j => decide ((if i = 0 then a else b).cps.toList < (if j = 0 then a else b).cps.toList)) 1 = 0 := by
          unfold argBest argBest
          exact if_neg (show ¬ decide (b.cps.toList < a.cps.toList) = true from fun z => hb (of_decide_eq_true z))
        rw [e1] at hv'
        rw [if_neg hb]
        simpa using hv'.symm
    rw [ev]
    exact q
abbrev rMin2S : RC := fun xs H Q => ∃ a b : Str, xs = [.str a, .str b] ∧ Q (.str (if b.cps.toList < a.cps.toList then b else a)) H
theorem call_min2S {X : Cx} (hc : X.calm = true) : CallR X (.builtin "min") rMin2S := by
  intro pins s σ H xs us Q I r h
  obtain ⟨a, b, rfl, q⟩ := h
  obtain ⟨u, v, rfl, ⟨t, rfl⟩, ⟨t', rfl⟩⟩ := vals2 r
  refine min_texts (I.ok.hd hc) fun h' tk k => ⟨_, H, I.kept k, ?_, q⟩
  by_cases hb : b.cps.toList < a.cps.toList
  · rw [if_pos hb, if_pos hb]; exact ⟨_, rfl⟩
  · rw [if_neg hb, if_neg hb]; exact ⟨_, rfl⟩
def minT (a b : List Nat) : List Nat := if b < a then b else a
def pMin2S : P2 := fun d e Q => ∃ a b : List Nat, d = .str a ∧ e = .str b ∧ Q .sh (.str (minT a b))
theorem S_list (l : List Nat) : (S l).cps.toList = l := by unfold S; simp
theorem o_min2S {t : Option Addr} : Sim2 t (fun x y => rMin2S [x, y]) pMin2S := fun F H x y d e Q Qp s ht vx vy p k => by
  obtain ⟨a, b, rfl, rfl, q⟩ := p
  refine ⟨S a, S b, by rw [vw_str vx, vw_str vy], k.val s (d := .str (minT a b)) ?_ q⟩
  show V.str _ = V.str (S (minT a b))
  rw [S_list, S_list]
  unfold minT
  split <;> rfl
theorem h_min2S {a b : List Nat} {Q : Md → D → Prop} (q : Q .sh (.str (minT a b))) : pMin2S (.str a) (.str b) Q := ⟨a, b, rfl, rfl, q⟩
/-! ### list(text) -/
abbrev rListS : RC := fun xs H Q => ∃ l : List Nat, xs = [.str (S l)] ∧ l.length ≤ sizeLine ∧ ∀ p, H p = none → Q (.ref p) (upd H p (.lst (l.map fun c => .str (S [c]))))
theorem call_listS {X : Cx} (hc : X.calm = true) : CallR X (.type "list") rListS := by
  intro pins s σ H xs us Q I r h
  obtain ⟨l, rfl, hl, q⟩ := h
  obtain ⟨u, rfl, ⟨t, rfl⟩⟩ := vals1 r
  have es : (S l).cps.size = l.length := by unfold S; simp
  refine PySem.call_list_str (I.ok.hd hc) (S l) t (hn := by rw [es]; exact hl) fun h' tk acc c' hk hS hacc => ?_
  refine ⟨.ref s.heap.objs.size, _, I.laid hk (Nat.le_refl _) (show ObjOk X.prog X.w _ _ _ (.lst (l.map fun c => .str (S [c]))) from ⟨?_, acc.toList, c', ?_, by simpa using hS⟩), rfl, q _ (I.hok.fresh (Nat.le_refl _))⟩
  · rw [List.length_map]; exact hl
  · have el : acc.toList.length = acc.size := by simp
    refine vals_of_at (by rw [List.length_map, el, hacc.1, es]) fun j x w h1 h2 => ?_
    obtain ⟨c, k, hcj, rfl⟩ := hacc.2 j w (by rw [← Array.getElem?_toList]; exact h2)
    rw [List.getElem?_map] at h1
    obtain ⟨c2, hc2, rfl⟩ := Option.map_eq_some_iff.mp h1
    have : (S l).cps[j]? = some c2 := by rw [← Array.getElem?_toList, S_list]; exact hc2
    rw [hcj] at this
    cases this
    exact ⟨k, rfl⟩
def pListS : P1 := fun d Q => ∃ l : List Nat, d = .str l ∧ l.length ≤ 1000000 ∧ Q .ow (.lst (l.map fun c => .str [c]))
theorem o_listS {t : Option Addr} : Sim1 t (fun x => rListS [x]) pListS := fun F H x d Q Qp s ht vx p k => by
  obtain ⟨l, rfl, hl, q⟩ := p
  refine ⟨l, by rw [vw_str vx], le_line6 hl, fun p np => k.new s ht np (o := .lst _) (d := .lst _) ?_ q⟩
  have e1 : (l.map fun c => D.str [c]) = (l.map fun c => [c]).map D.str := by rw [List.map_map]; rfl
  have e2 : (l.map fun c => V.str (S [c])) = ((l.map fun c => [c]).map S).map V.str := by rw [List.map_map, List.map_map]; rfl
  rw [e1, e2]
  exact rpl_of_strs _
theorem h_listS {l : List Nat} {Q : Md → D → Prop} (hl : l.length ≤ 1000000) (q : Q .ow (.lst (l.map fun c => .str [c]))) : pListS (.str l) Q := ⟨l, rfl, hl, q⟩
/-! ### index in a list of texts -/
def pIndexS : P2 := fun d e Q => ∃ (ns : List (List Nat)) (k : List Nat), d = .lst (ns.map .str) ∧ e = .str k ∧ k ∈ ns ∧ Q .sh (.int (ns.idxOf k : Nat))
theorem idx_firstS : ∀ (ns : List (List Nat)) (i : List Nat) (m : Nat) (n : List Nat), m < ns.idxOf i → ns[m]? = some n → n ≠ i
  | [], _, _, _, _, h => by simp at h
  | a :: ns, i, m, n, h, e => by
    rw [List.idxOf_cons] at h
    cases hb : (a == i) with
    | true => rw [hb] at h; exact absurd h (Nat.not_lt_zero _)
    | false =>
      rw [hb] at h
      have hne : a ≠ i := by rw [beq_eq_false_iff_ne] at hb; exact hb
      cases m with
      | zero => cases e; exact hne
      | succ m =>
        have h' : m + 1 < ns.idxOf i + 1 := h
        exact idx_firstS ns i m n (by omega) (by simpa using e)
theorem o_indexS {K : PySem.W.Frag} {t : Option Addr} : Sim2 t (fun x y => rIndex K x [y]) pIndexS := fun F H x y d e Q Qp s ht vx vy p k => by
  obtain ⟨ns, i, rfl, rfl, hm, q⟩ := p
  obtain ⟨a, xs, rfl, h1, h2⟩ := vw_lst s vx
  rw [rpl_strs h2] at h1
  have ey := vw_str vy
  subst ey
  have hlt : ns.idxOf i < ns.length := List.idxOf_lt_length_of_mem hm
  refine ⟨a, _, .str (S i), ns.idxOf i, .str (S i), rfl, rfl, .inl (.inl h1), rfl, ?_, ?_, by show (S i == S i) = true; simp, fun m z' hlt' hz' => ?_, k.val s (d := .int _) rfl q⟩
  · rw [List.all_eq_true]
    intro v hv
    obtain ⟨u, _, rfl⟩ := List.mem_map.mp hv
    rfl
  · rw [List.getElem?_map, List.getElem?_map, List.getElem?_eq_getElem hlt, List.getElem_idxOf]; rfl
  · rw [List.getElem?_map, List.getElem?_map] at hz'
    obtain ⟨u, hu, rfl⟩ := Option.map_eq_some_iff.mp hz'
    obtain ⟨n, hn, rfl⟩ := Option.map_eq_some_iff.mp hu
    show (S n == S i) = false
    rw [beq_eq_false_iff_ne]
    intro e
    exact idx_firstS ns i m n hlt' hn (S_inj e)
theorem s_indexS {K : PySem.W.Frag} {c : Cl} {t : Option Addr} {E : XE} {Ep : XP} {ta tb : TE} {qa qb : QE} (ha : SimE K c t E Ep ta qa) (hb : SimE K c t E Ep tb qb) : SimE K c t E Ep (tBM K "list" (rIndex K) ta (tCons tb tNil)) (qLM pIndexS qa qb) := s_LM o_indexS ha hb
/-! ### a text told from its end, but its first sign: s[:0:-1] -/
def tRev0 (te : TE) : TE := fun σ H Q => te σ H fun x H1 => ∃ l : List Nat, x = .str (S l) ∧ l.length ≤ sizeLine ∧ Q (.str (S (l.drop 1).reverse)) H1
theorem rev0_idx (n : Nat) : Builtin.Str.strSliceIndices none (some 0) (-1) n = ((List.range n).drop 1).reverse := by
  unfold Builtin.Str.strSliceIndices sliceRange
  have h0 : ¬ ((-1 : Int) > 0) := by decide
  have h1 : ¬ ((0 : Int) < 0) := by decide
  simp only [h0, h1, if_false]
  have hstop : max (-1 : Int) (min 0 ((n : Int) - 1)) = if n = 0 then -1 else 0 := by split <;> omega
  rw [hstop]
  have hcnt : (if (n : Int) - 1 > (if n = 0 then -1 else 0) then ((n : Int) - 1 - (if n = 0 then -1 else 0) - -1 - 1) / (- -1) else 0).toNat = n - 1 := by
    have e : (- -1 : Int) = 1 := by decide
    rw [e, Int.ediv_one]
    split <;> split <;> omega
  rw [hcnt]
  apply List.ext_getElem
  · simp
  · intro i h2 h3
    simp only [List.length_map, List.length_range] at h2
    simp only [List.getElem_map, List.getElem_range, List.getElem_reverse, List.getElem_drop, List.length_drop, List.length_range]
    omega
theorem rev0_pick (l : List Nat) : (Builtin.Str.strSliceIndices none (some 0) (-1) (S l).length).filterMap ((S l).cps[·]?) = (l.drop 1).reverse := by
  rw [rev0_idx, List.filterMap_reverse, S_len]
  refine congrArg List.reverse ?_
  cases l with
  | nil => rfl
  | cons a l =>
    show ((List.range (l.length + 1)).drop 1).filterMap _ = l
    rw [List.range_succ_eq_map]
    show ((List.range l.length).map Nat.succ).filterMap _ = l
    rw [List.filterMap_map]
    have e : ((fun i => (S (a :: l)).cps[i]?) ∘ Nat.succ) = fun i => l[i]? := by
      funext i
      show (S (a :: l)).cps[i + 1]? = l[i]?
      rw [← Array.getElem?_toList, S_list, List.getElem?_cons_succ]
    rw [e]
    clear e
    have key := PySem.W.krv_all l.toArray
    simpa using key
section
variable {X : Cx}
theorem pe_rev0 {e : Expr} {te : TE} {k k0 : Nat} {p0 p1 p2 p3 pos : Pos} (he : PE X e te) : PE X (.Subscript e (.Slice none (some (.Constant (.int 0) k0 p0)) (some (.UnaryOp .USub (.Constant (.int 1) k p1) p2)) p3) pos) (tRev0 te) := by
  refine ⟨fun pins s σ H Q I h => ?_⟩
  refine Subscript_ (thn (he.run pins s σ H _ I h) fun v s1 ⟨x, H1, I1, r1, q1⟩ => ?_)
  obtain ⟨l, ex, hz, q⟩ := q1
  subst ex
  obtain ⟨tk, rfl⟩ := r1
  have hst : PO X (some (.UnaryOp .USub (.Constant (.int 1) k p1) p2)) (tPart (tUn (rU fun i => .int (-i)) (tC (.int 1)))) := po_some (pe_un un_neg pe_int)
  have hup : PO X (some (.Constant (.int 0) k0 p0)) (tPart (tC (.int 0))) := po_some pe_int
  refine wpAny_Slice (thn (po_none.run pins s1 σ H1 (fun o H2 => o = none ∧ H2 = H1) I1 ⟨rfl, rfl⟩) fun vl s2 ⟨lo, H2, I2, pl, el, e2⟩ => ?_)
  subst el e2
  refine thn (hup.run pins s2 σ H2 (fun o H3 => o = some 0 ∧ H3 = H2) I2 ⟨0, rfl, rfl, rfl⟩) fun vu s3 ⟨u, H3, I3, pu, eu, e3⟩ => ?_
  subst eu e3
  refine thn (hst.run pins s3 σ H3 (fun o H4 => o = some (-1) ∧ H4 = H3) I3 ⟨1, rfl, -1, rfl, rfl, rfl⟩) fun vs s4 ⟨o, H4, I4, ps, eo, e4⟩ => ?_
  subst eo e4
  have I5 : Inv X pins σ H4 { s4 with heap := s4.heap.push { cls := .type "slice", data := .fields #[vl, vu, vs] } } := I4.kept (t' := s4.toks) fun b ob q => Heap.get?_push_of_some _ q
  obtain ⟨pl', rfl, epl⟩ := IsPart.raw pl
  obtain ⟨pu', rfl, epu⟩ := IsPart.raw pu
  obtain ⟨ps', rfl, eps⟩ := IsPart.raw ps
  have hsl := Heap.IsSliceOf.new s4.heap (partValue pl') (partValue pu') (partValue ps')
  obtain ⟨os, hos, hcs, hds⟩ := hsl
  show wpAny (model X.prog X.w) X.A (subscriptTail e (.Slice none (some (.Constant (.int 0) k0 p0)) (some (.UnaryOp .USub (.Constant (.int 1) k p1) p2)) p3) (.str (S l) tk) (.ref s4.heap.objs.size)) (EP X pins σ Q) X.xe _
  refine tail_any (ops := [.str (S l) tk, .ref s4.heap.objs.size]) (typeIs_str _ _ _) (F.slot_str_getitem.lookup) ?_ (by with_unfolding_all rfl)
  have h1 : ps'.map (·.1) = some (-1) := eps
  have h2 : pl'.map (·.1) = none := epl
  have h3 : pu'.map (·.1) = some 0 := epu
  refine wpAny_getItem_str_slice (l := pl') (u := pu') (st := ps') ⟨os, hos, hcs, hds⟩ (by rw [h1]; rfl) ?_
  unfold sliceMade slicePicked
  rw [h1, h2, h3, if_neg (by simp)]
  show Made.post (Made.str ⟨((Builtin.Str.strSliceIndices none (some 0) (-1) (S l).length).filterMap ((S l).cps[·]?)).toArray⟩) _ _
  rw [rev0_pick]
  exact ⟨by rw [S_len, List.length_reverse, List.length_drop]; omega, .str (S (l.drop 1).reverse), H4, I5.tok _, ⟨_, rfl⟩, q⟩
end
def pRev0 : P1 := fun d Q => ∃ l : List Nat, d = .str l ∧ l.length ≤ 1000000 ∧ Q .sh (.str (l.drop 1).reverse)
abbrev rRev0 : V → Hp → VK → Prop := fun x H1 Q => ∃ l : List Nat, x = .str (S l) ∧ l.length ≤ sizeLine ∧ Q (.str (S (l.drop 1).reverse)) H1
theorem o_rev0 {t : Option Addr} : Sim1 t rRev0 pRev0 := fun F H x d Q Qp s ht vx p k => by
  obtain ⟨l, rfl, hl, q⟩ := p
  exact ⟨l, vw_str vx, le_line6 hl, k.val s (d := .str _) rfl q⟩
theorem s_rev0 {K : PySem.W.Frag} {c : Cl} {t : Option Addr} {E : XE} {Ep : XP} {ta : TE} {qa : QE} (ha : SimE K c t E Ep ta qa) : SimE K c t E Ep (tRev0 ta) (qUn pRev0 qa) := s_un (r := rRev0) o_rev0 ha
end Sw
end
section
local macro_rules | `(tactic| walk_at "go1") => `(tactic| first
  | with_reducible refine Sw.g_seqasg ?_ | with_reducible refine Sw.g_op ?_ | with_reducible refine Sw.g_var rfl ?_ | with_reducible refine Sw.g_c ?_ | with_reducible refine Sw.g_I0 ?_
  | with_reducible refine Sw.g_cons ?_ | with_reducible refine Sw.g_nil ?_ | with_reducible refine Sw.g_call ?_ | with_reducible refine Sw.g_cb ?_ | with_reducible refine Sw.g_test ?_ | with_reducible refine Sw.g_bl ?_
  | with_reducible refine Sw.g_seqdrop ?_ | with_reducible refine Sw.g_seqsub ?_ | with_reducible refine Sw.g_asg ?_ | with_reducible refine Sw.g_asgsub ?_ | with_reducible refine Sw.g_ret ?_ | with_reducible refine Sw.g_drop ?_ | with_reducible refine Sw.g_if ?_ | with_reducible refine Sw.g_next ?_ | with_reducible refine Sw.g_name ?_
  | with_reducible refine Sw.g_B ?_ | with_reducible refine Sw.g_not ?_ | with_reducible refine Sw.g_and ?_ | with_reducible refine Sw.g_or ?_ | with_reducible refine Sw.g_andV ?_ | with_reducible refine Sw.g_orV ?_ | with_reducible refine Sw.g_notV ?_
  | with_reducible refine Sw.g_ifE ?_ | with_reducible refine Sw.g_chain ?_ | with_reducible refine Sw.g_un ?_ | with_reducible refine Sw.g_tup ?_ | with_reducible refine Sw.g_lst ?_ | with_reducible refine Sw.g_sl ?_ | with_reducible refine Sw.g_part ?_ | with_reducible refine Sw.g_nopart ?_
  | with_reducible refine Sw.g_U ?_ | with_reducible refine Sw.g_eq rfl ?_ | with_reducible refine Sw.g_ne rfl ?_ | with_reducible refine Sw.g_int ?_ | with_reducible refine Sw.g_yes ?_ | with_reducible refine L2.iteT ?_ | with_reducible refine L2.iteF ?_ | with_reducible refine Sw.iteNT ?_ | with_reducible refine Sw.iteNF ?_ | with_reducible refine Sw.g_m1 ?_ | with_reducible refine Sw.g_bm ?_ | with_reducible refine ⟨Sw.ty_lst (by assumption), ?_⟩ | with_reducible refine Sw.g_sput ?_ | with_reducible refine Sw.g_put ?_ | with_reducible refine Sw.g_dget2 ?_ | with_reducible refine Sw.g_dget ?_ | with_reducible refine Sw.g_dK ?_ | with_reducible refine Sw.g_dT ?_ | with_reducible refine Sw.g_dnotin ?_ | with_reducible refine Sw.g_din ?_ | with_reducible refine Sw.g_bm0 ?_
  | with_reducible refine Sw.g_ixL (by assumption) rfl ?_ | with_reducible refine Sw.g_ixT (by assumption) rfl ?_)
local macro_rules | `(tactic| walk_at "go") => `(tactic| repeat walk_at "go1")
local macro_rules | `(tactic| walk_at "bd") => `(tactic| repeat (first | with_reducible exact Sw.all_nil | refine Sw.all_cons ⟨_, rfl, by omega, by omega⟩ ?_))
local macro_rules | `(tactic| walk_at "new") => `(tactic| (refine ⟨Nat.le_of_ble_eq_true rfl, fun p np => ?_⟩; generalize hX : L2.upd _ p _ = H'; have sm : L2.Same _ H' := hX ▸ Sw.same_upd np; have hp : H' p = some _ := hX ▸ L2.upd_same; clear hX))
namespace Sw
open PySem PySem.Spec PyProof.Rows L2 SX
/-! ### sets of texts: what stands at an address, and one more put in -/
def txtOf (e : Int × Value) : Str := match e.2 with
  | .str x _ => x
  | _ => Str.empty
def TxOk (P : Program) (w : World) (e : Int × Value) : Prop := ∃ x u, e.2 = Value.str x u ∧ e.1 = (PySem.strKind P w).hash x
def TSet (P : Program) (w : World) (h : Heap) (a : Addr) (xs : List Str) : Prop :=
  ∃ o es ep tb, h.get? a = some o ∧ o.ExactSet ∧ o.data = .set es ep tb ∧ ((∀ e ∈ es.toList, TxOk P w e) ∧ (es.toList.map txtOf).Perm xs ∧ xs.Nodup) ∧
    es.size < scanBound ∧ tb.fits es.size = true ∧ Ris tb.place.toList ∧ (w.params.followText "set-order" = true ∨ tb.led = true)
theorem TSet.keep {P : Program} {w : World} {h h' : Heap} {a : Addr} {xs : List Str} (T : TSet P w h a xs) (k : ∀ o, h.get? a = some o → h'.get? a = some o) : TSet P w h' a xs := by
  obtain ⟨o, es, ep, tb, q, r⟩ := T
  exact ⟨o, es, ep, tb, k o q, r⟩
theorem tx_elems {P : Program} {w : World} {l : List (Int × Value)} (z : ∀ e ∈ l, TxOk P w e) : ElemsOf (PySem.strKind P w) l := fun e he => by
  obtain ⟨x, u, e1, e2⟩ := z e he
  refine ⟨⟨x, ?_, e2⟩, ?_⟩
  · rw [e1]; exact strKind_is P w x u
  · rw [e1]; rfl
theorem tx_is {P : Program} {w : World} {e : Int × Value} (z : TxOk P w e) (x : Str) : (PySem.strKind P w).is x e.2 = true ↔ txtOf e = x := by
  obtain ⟨y, u, e1, _⟩ := z
  have e2 : txtOf e = y := by unfold txtOf; rw [e1]
  rw [e1, e2]
  constructor
  · intro q; exact (PySem.strKind P w).inj _ y x (strKind_is P w y u) q
  · intro q; rw [← q]; exact strKind_is P w y u
def insU (xs : List Str) (x : Str) : List Str := if x ∈ xs then xs else xs ++ [x]
section
variable {P : Program} {w : World} {A : Around} {E : Value → Shared → Prop} {s : Shared} {a : Addr} {xs : List Str}
theorem tset_tail {gv : Bool → Sem Unit} (hgv : ∀ (b : Bool) (s1 : Shared) (Z : Unit → Shared → Prop), Z () s1 → wpAny (model P w) A (gv b) Z E s1) {o : Obj} {es fs : Array (Int × Value)} {ep : Nat} {tb tc : SetTable} {ys : List Str}
    (q0 : s.heap.get? a = some o) (q1 : o.ExactSet) (q2 : o.data = .set es ep tb) (q3 : (∀ e ∈ fs.toList, TxOk P w e) ∧ (fs.toList.map txtOf).Perm ys ∧ ys.Nodup) (q4 : fs.size < scanBound) (q5 : tc.fits fs.size = true)
    (q6 : Ris tc.place.toList) (q7 : w.params.followText "set-order" = true ∨ tc.led = true) {dm : Bool} {Z : Option Bool → Shared → Prop} (fin : ∀ h', Heap.SameBut a s.heap h' → TSet P w h' a ys → Z (some true) { s with heap := h' }) :
    wpAny (model P w) A (storeSet a fs tc >>= fun _ => if (!dm && tc.tooFull) = true then gv (relayAll tc fs (SetTable.grown fs.size)).2.2 >>= fun _ =>
        storeSet a (relayAll tc fs (SetTable.grown fs.size)).1 (relayAll tc fs (SetTable.grown fs.size)).2.1 >>= fun _ => pure (some true) else pure (some true)) Z E s := by
  refine wpAny_bind (wpAny_storeSet_of q0 q2 ?_ (fits_of_scanBound q4))
  have same := Heap.SameBut.update s.heap a (Obj.putSet fs tc)
  have now := store_at (es' := fs) (t' := tc) q0 q2
  by_cases full : (!dm && tc.tooFull) = true
  · rw [if_pos full]
    have r1 := relayAll_perm tc fs (SetTable.grown fs.size)
    have r2 := relayAll_fits tc fs (SetTable.grown fs.size)
    have r3 := relayAll_ris tc fs (SetTable.grown fs.size)
    have r4 := relayAll_led tc fs (SetTable.grown fs.size)
    generalize relayAll tc fs (SetTable.grown fs.size) = R at r1 r2 r3 r4 ⊢
    have sz : R.1.size = fs.size := by rw [← Array.length_toList, r1.length_eq, Array.length_toList]
    refine wpAny_bind (hgv _ _ _ (wpAny_bind (wpAny_storeSet_of now rfl ?_ (fits_of_scanBound (by rw [sz]; exact q4)))))
    have now2 := store_at (es' := R.1) (t' := R.2.1) now rfl
    refine wpAny_pure (fin _ (same.trans (Heap.SameBut.update _ a _)) ⟨_, R.1, _, R.2.1, now2, q1, rfl, ⟨fun e he => q3.1 e (r1.mem_iff.mp he), (r1.map txtOf).trans q3.2.1, q3.2.2⟩, by rw [sz]; exact q4, r2, r3, ?_⟩)
    rcases q7 with z | z
    · exact .inl z
    · exact .inr (by rw [r4]; exact z)
  · rw [if_neg full]
    exact wpAny_pure (fin _ same ⟨_, fs, _, tc, now, q1, rfl, q3, q4, q5, q6, q7⟩)
theorem tset_put {x : Str} {u : Tok} {Z : Bool → Shared → Prop} (T : TSet P w s.heap a xs) (room : xs.length + 1 < scanBound)
    (fin : ∀ (b : Bool) h', Heap.SameBut a s.heap h' → TSet P w h' a (insU xs x) → Z b { s with heap := h' }) : wpAny (model P w) A (setAddHashed a (.str x u) ((PySem.strKind P w).hash x)) Z E s := by
  obtain ⟨o, es, ep, tb, q0, q1, q2, ⟨z1, z2, z3⟩, q4, q5, q6, q7⟩ := T
  have el := tx_elems z1
  have isx := strKind_is P w x u
  have sc : (Value.str x u).scannable = true := rfl
  have len : es.size = xs.length := by rw [← z2.length_eq, List.length_map, Array.length_toList]
  unfold setAddHashed setAddHashedIn
  refine wpAny_holding (wpAny_bind (wpAny_setState_of q0 q2 q5 ?_))
  dsimp only
  rw [byScan_of sc q4 el, if_pos rfl]
  unfold setAddByScan
  refine wpAny_bind (wpAny_bind (wpAny_rule (wpAny_bind (wpAny_setScan_of isx q0 q2 q5 el ?_))))
  cases at1 : List.findIdx? (fun e => (PySem.strKind P w).is x e.2) es.toList with
  | some j =>
    dsimp only
    obtain ⟨lj, pj, _⟩ := List.findIdx?_eq_some_iff_getElem.mp at1
    have there : x ∈ xs := z2.mem_iff.mp (List.mem_map.mpr ⟨_, List.getElem_mem lj, (tx_is (z1 _ (List.getElem_mem lj)) x).mp pj⟩)
    refine wpAny_pure (wpAny_pure ?_)
    refine fin false s.heap (Heap.SameBut.refl a s.heap) ⟨o, es, ep, tb, q0, q1, q2, ⟨z1, ?_, ?_⟩, q4, q5, q6, q7⟩
    · unfold insU; rw [if_pos there]; exact z2
    · unfold insU; rw [if_pos there]; exact z3
  | none =>
    dsimp only
    have away : ¬ x ∈ xs := fun there => by
      obtain ⟨e, he, ee⟩ := List.mem_map.mp (z2.mem_iff.mpr there)
      have := List.findIdx?_eq_none_iff.mp at1 e he
      rw [(tx_is (z1 e he) x).mpr ee] at this
      cases this
    have r1 := layNew_perm tb es ((PySem.strKind P w).hash x) (.str x u)
    have r2 := layNew_fits tb es ((PySem.strKind P w).hash x) (.str x u)
    have r3 := layNew_ris tb es ((PySem.strKind P w).hash x) (.str x u) q6
    have r4 := layNew_led tb es ((PySem.strKind P w).hash x) (.str x u)
    generalize layNew tb es ((PySem.strKind P w).hash x) (.str x u) = L at r1 r2 r3 r4 ⊢
    obtain ⟨fs, tc, dm, gave⟩ := L
    dsimp only at r1 r2 r3 r4 ⊢
    rw [Array.toList_push] at r1
    have led : w.params.followText "set-order" = true ∨ tc.led = true := q7.imp id fun z => by rw [r4]; exact z
    have sz : fs.size = xs.length + 1 := by rw [← Array.length_toList, r1.length_eq, List.length_append, Array.length_toList, len]; rfl
    have ok : (∀ e ∈ fs.toList, TxOk P w e) ∧ (fs.toList.map txtOf).Perm (xs ++ [x]) ∧ (xs ++ [x]).Nodup := by
      refine ⟨fun e he => ?_, ?_, ?_⟩
      · rcases List.mem_append.mp (r1.mem_iff.mp he) with y | y
        · exact z1 e y
        · rw [List.mem_singleton.mp y]; exact ⟨x, u, rfl, rfl⟩
      · refine (r1.map txtOf).trans ?_
        rw [List.map_append]
        exact z2.append_right _
      · refine List.nodup_append.mpr ⟨z3, List.nodup_cons.mpr ⟨List.not_mem_nil, List.nodup_nil⟩, fun y hy y' hy' e => away ?_⟩
        rw [← List.mem_singleton.mp hy', ← e]; exact hy
    have fin' : ∀ h', Heap.SameBut a s.heap h' → TSet P w h' a (xs ++ [x]) → Z true { s with heap := h' } := fun h' same t => fin true h' same (by unfold insU; rw [if_neg away]; exact t)
    have bd : fs.size < scanBound := by rw [sz]; exact room
    have way : ∀ (b : Bool) (s1 : Shared) (Y : Unit → Shared → Prop), Y () s1 → wpAny (model P w) A (match b with | true => rule "set.scan.the-table-gave-way" | false => pure ()) Y E s1 :=
      fun b s1 Y y => by
        cases b
        · exact wpAny_pure y
        · exact wpAny_rule y
    refine wpAny_bind (way _ _ _ ?_)
    split
    · refine wpAny_bind ?_
      rw [hashByValue_scannable 8 sc]
      refine wpAny_pure ?_
      refine tset_tail ?_ q0 q1 q2 ok bd ?_ ?_ ?_ ?_
      · intro b s1 Y y
        cases b
        · exact wpAny_pure y
        · exact wpAny_rule y
      · split
        · exact r2
        · exact SetTable.fits_plain_off r2
      · split
        · exact r3
        · exact r3
      · split
        · exact led
        · exact led
      · intro h' same t
        exact wpAny_pure (fin' h' same t)
    · refine wpAny_bind (wpAny_pure ?_)
      rw [if_pos rfl]
      refine tset_tail ?_ q0 q1 q2 ok bd r2 r3 led ?_
      · intro b s1 Y y
        cases b
        · exact wpAny_pure y
        · exact wpAny_rule y
      · intro h' same t
        exact wpAny_pure (fin' h' same t)
end
end Sw
end
section
local macro_rules | `(tactic| walk_at "go1") => `(tactic| first
  | with_reducible refine Sw.g_seqasg ?_ | with_reducible refine Sw.g_op ?_ | with_reducible refine Sw.g_var rfl ?_ | with_reducible refine Sw.g_c ?_ | with_reducible refine Sw.g_I0 ?_
  | with_reducible refine Sw.g_cons ?_ | with_reducible refine Sw.g_nil ?_ | with_reducible refine Sw.g_call ?_ | with_reducible refine Sw.g_cb ?_ | with_reducible refine Sw.g_test ?_ | with_reducible refine Sw.g_bl ?_
  | with_reducible refine Sw.g_seqdrop ?_ | with_reducible refine Sw.g_seqsub ?_ | with_reducible refine Sw.g_asg ?_ | with_reducible refine Sw.g_asgsub ?_ | with_reducible refine Sw.g_ret ?_ | with_reducible refine Sw.g_drop ?_ | with_reducible refine Sw.g_if ?_ | with_reducible refine Sw.g_next ?_ | with_reducible refine Sw.g_name ?_
  | with_reducible refine Sw.g_B ?_ | with_reducible refine Sw.g_not ?_ | with_reducible refine Sw.g_and ?_ | with_reducible refine Sw.g_or ?_ | with_reducible refine Sw.g_andV ?_ | with_reducible refine Sw.g_orV ?_ | with_reducible refine Sw.g_notV ?_
  | with_reducible refine Sw.g_ifE ?_ | with_reducible refine Sw.g_chain ?_ | with_reducible refine Sw.g_un ?_ | with_reducible refine Sw.g_tup ?_ | with_reducible refine Sw.g_lst ?_ | with_reducible refine Sw.g_sl ?_ | with_reducible refine Sw.g_part ?_ | with_reducible refine Sw.g_nopart ?_
  | with_reducible refine Sw.g_U ?_ | with_reducible refine Sw.g_eq rfl ?_ | with_reducible refine Sw.g_ne rfl ?_ | with_reducible refine Sw.g_int ?_ | with_reducible refine Sw.g_yes ?_ | with_reducible refine L2.iteT ?_ | with_reducible refine L2.iteF ?_ | with_reducible refine Sw.iteNT ?_ | with_reducible refine Sw.iteNF ?_ | with_reducible refine Sw.g_m1 ?_ | with_reducible refine Sw.g_bm ?_ | with_reducible refine ⟨Sw.ty_lst (by assumption), ?_⟩ | with_reducible refine Sw.g_sput ?_ | with_reducible refine Sw.g_put ?_ | with_reducible refine Sw.g_dget2 ?_ | with_reducible refine Sw.g_dget ?_ | with_reducible refine Sw.g_dK ?_ | with_reducible refine Sw.g_dT ?_ | with_reducible refine Sw.g_dnotin ?_ | with_reducible refine Sw.g_din ?_ | with_reducible refine Sw.g_bm0 ?_
  | with_reducible refine Sw.g_ixL (by assumption) rfl ?_ | with_reducible refine Sw.g_ixT (by assumption) rfl ?_)
local macro_rules | `(tactic| walk_at "go") => `(tactic| repeat walk_at "go1")
local macro_rules | `(tactic| walk_at "bd") => `(tactic| repeat (first | with_reducible exact Sw.all_nil | refine Sw.all_cons ⟨_, rfl, by omega, by omega⟩ ?_))
local macro_rules | `(tactic| walk_at "new") => `(tactic| (refine ⟨Nat.le_of_ble_eq_true rfl, fun p np => ?_⟩; generalize hX : L2.upd _ p _ = H'; have sm : L2.Same _ H' := hX ▸ Sw.same_upd np; have hp : H' p = some _ := hX ▸ L2.upd_same; clear hX))
namespace Sw
open PySem PySem.Spec PyProof.Rows L2 SX
/-! ### a set of texts made from a walk -/
def ddp (l : List Str) : List Str := l.foldl insU []
theorem ddp_snoc (l : List Str) (x : Str) : ddp (l ++ [x]) = insU (ddp l) x := by unfold ddp; rw [List.foldl_append]; rfl
theorem insU_len (l : List Str) (x : Str) : (insU l x).length ≤ l.length + 1 := by
  unfold insU
  split
  · omega
  · rw [List.length_append]; exact Nat.le_refl _
theorem ddp_take {l : List Str} {i : Nat} (h : i < l.length) : ddp (l.take (i + 1)) = insU (ddp (l.take i)) (l.getD i Str.empty) := by
  rw [List.take_add_one, List.getElem?_eq_getElem h]
  show ddp (l.take i ++ [l[i]]) = _
  rw [ddp_snoc, List.getD, List.getElem?_eq_getElem h]
  rfl
theorem ddp_le : ∀ (l : List Str) (i : Nat), i ≤ l.length → (ddp (l.take i)).length ≤ i
  | l, 0, _ => by rw [List.take_zero]; exact Nat.le_refl _
  | l, i + 1, h => by
    rw [ddp_take (by omega)]
    have := ddp_le l i (by omega)
    have := insU_len (ddp (l.take i)) (l.getD i Str.empty)
    omega
abbrev newT (w : World) : Obj := { cls := .type "set", dict := none, data := .set #[] 0 (.fresh 0 0 (!w.params.followText "set-order")) }
theorem tset_nil {P : Program} {w : World} {h : Heap} {a : Addr} (q : h.get? a = some (newT w)) : TSet P w h a [] := by
  refine ⟨_, #[], 0, _, q, ⟨rfl, rfl, rfl⟩, rfl, ⟨(fun e he => absurd he (by simp)), List.Perm.nil, List.nodup_nil⟩, by decide, rfl, List.Pairwise.nil, ?_⟩
  show _ ∨ (!w.params.followText "set-order") = true
  cases w.params.followText "set-order"
  · exact .inr rfl
  · exact .inl rfl
section
variable {P : Program} {w : World} {A : Around} {E : Value → Shared → Prop} {s : Shared}
theorem tset_walk {R : Result → Shared → Prop} {I : Addr} {fp wr : List Addr} {G : Array GenState → Array GenState → Prop} {n : Nat} {Pv : Nat → Value → Prop} {St : Nat → Shared → Prop}
    (W : WalksS P w A.in1 I fp wr G n Pv St) {S : Addr} (out : S ∉ fp) {ys : List Str} (len : ys.length = n) (big : n + 1 < scanBound) (val : ∀ i v, Pv i v → ∃ t, v = .str (ys.getD i Str.empty) t) :
    ∀ (k i : Nat) (s : Shared), n = i + k → St i s → TSet P w s.heap S (ddp (ys.take i)) → (∀ s', Moved (S :: wr) G s s' → TSet P w s'.heap S (ddp ys) → R (.ok (.ret .none)) s') →
      codeAny (model P w) A (.builtin "set.update.loop" ⟨[.ref S, .ref I], []⟩) R s := by
  have out' : S ∉ wr := fun z => out (W.sub _ z)
  have more : ∀ b, b ∈ wr → b ∈ S :: wr := fun _ z => List.mem_cons_of_mem _ z
  intro k
  induction k with
  | zero =>
    intro i s ik st T fin
    have e : i = n := by omega
    subst e
    rw [← len, List.take_length] at T
    refine codeAny_builtin PyProof.Rows.F.entry_set_update_loop ?_
    rw [Around.under_plainId PyProof.Rows.F.plain_set_update_loop _]
    refine wpAny_bind (m := pyNext (.ref I)) (W.done s _ _ st fun s' mv => ?_)
    exact wpAny_pure (fin s' (mv.mono more) (T.keep fun o q => mv.heap S o out' q))
  | succ k ih =>
    intro i s ik st T fin
    refine codeAny_builtin PyProof.Rows.F.entry_set_update_loop ?_
    rw [Around.under_plainId PyProof.Rows.F.plain_set_update_loop _]
    refine wpAny_bind (m := pyNext (.ref I)) (W.item i s _ _ (by omega) st fun v s' pv st' mv => ?_)
    obtain ⟨t, rfl⟩ := val i v pv
    have T' : TSet P w s'.heap S (ddp (ys.take i)) := T.keep fun o q => mv.heap S o out' q
    refine wpAny_bind (m := holding [Value.str (ys.getD i Str.empty) t] (setAdd S (.str (ys.getD i Str.empty) t))) (wpAny_holding ?_)
    unfold setAdd
    refine wpAny_holding (wpAny_bind ((PySem.strKind P w).pyHash (strKind_is P w (ys.getD i Str.empty) t) ?_))
    have room : (ddp (ys.take i)).length + 1 < scanBound := by have := ddp_le ys i (by omega); omega
    refine tset_put (s := { s' with toks := s'.toks + 1 }) T' room fun b h' same T2 => ?_
    rw [← ddp_take (by omega)] at T2
    refine wpAny_pure ⟨plainId_quiet PyProof.Rows.F.plain_set_update_loop _, ih (i + 1) _ (by omega) (W.frame _ s' h' _ st' (Nat.le_succ _) fun c hc o q => ?_) T2 fun s2 mv2 T3 => ?_⟩
    · rw [same.2 c fun z => out (z ▸ hc)]; exact q
    · refine fin s2 (Moved.trans W.gtrans ((mv.mono more).then_heap (Nat.le_succ _) fun c o hc q => ?_) mv2) T3
      rw [same.2 c fun z => hc (z ▸ List.mem_cons_self)]; exact q
theorem tset_new1 (v : Value) {Z : Value → Shared → Prop} (h : Z (.ref s.heap.objs.size) { s with heap := s.heap.push (newT w) }) : codeAny (model P w) A (.call (.builtin "set.__new__") ⟨[.type "set", v], []⟩) (wants Z E) s := by
  refine codeAny_of_tree ?_
  show wpAny _ A.in1 (checkBuiltinCall "set.__new__" ⟨[.type "set", v], []⟩ >>= fun _ => again (.builtin "set.__new__" ⟨[.type "set", v], []⟩)) _ _ s
  refine wpAny_bind (wpAny_of_eq (PySem.F.newCall_set_1 v) (wpAny_pure ⟨plainId_quiet PySem.F.plain_set_new _, codeAny_builtin PySem.F.entry_set_new ?_⟩))
  rw [Around.under_plainId PySem.F.plain_set_new _]
  unfold Builtin.«set.__new__» Builtin.Frozenset.newClass
  have hsub := sub_set_self
  obtain ⟨hp, g, d, tk, os⟩ := s
  dsimp only
  wp_walk
  refine wpAny_askSetting (wpAny_pure ?_)
  dsimp only
  simp only [newObj]
  exact wpAny_bind (wpAny_alloc (wpAny_pure (wpAny_pure h)))
/-- set(v), where its feeding is known -/
theorem tset_call {v : Value} {xs : List Str} {Z : Value → Shared → Prop}
    (feed : ∀ (A' : Around) (Y : Unit → Shared → Prop), A'.handled = A.handled → (∀ h' tk, TSet P w h' s.heap.objs.size xs → (∀ b o, s.heap.get? b = some o → h'.get? b = some o) → Y () { s with heap := h', toks := tk }) →
      wpAny (model P w) A' (Builtin.Frozenset.updateFrom "set.__init__" s.heap.objs.size v) Y E { s with heap := s.heap.push (newT w) })
    (fin : ∀ h' tk, TSet P w h' s.heap.objs.size xs → (∀ b o, s.heap.get? b = some o → h'.get? b = some o) → Z (.ref s.heap.objs.size) { s with heap := h', toks := tk }) :
    wpAny (model P w) A (call (.type "set") [v]) Z E s := by
  obtain ⟨c, tl, hmro⟩ := PySem.F.called_set.mro
  have hmade := PySem.F.called_set.made
  have hsub := PySem.F.called_set.sub
  refine wpAny_call (codeAny_of_tree ?_)
  show wpAny _ _ (callAny (.type "set") _) _ _ _
  refine wpAny_pure ⟨Code.quiet_builtin _ (by decide +kernel), codeAny_builtin PySem.F.entry_type_call ?_⟩
  rw [Around.under_plain (weight_type_call_type "set" [v] []) rfl]
  have h1 := PySem.F.called_set.notType
  have h2 := PySem.F.called_set.canCreate
  have hct := PySem.F.typeCall_set_1 v
  repeat (any_goals (first | assumption | wp_step))
  refine codeAny_mono (tset_new1 v (E := E) (Z := fun y s1 => y = .ref s.heap.objs.size ∧ s1 = { s with heap := s.heap.push (newT w) }) ⟨rfl, rfl⟩) fun r s1 hr => ?_
  cases r with
  | error e => exact hr
  | ok fl =>
    cases fl with
    | ret y =>
      obtain ⟨rfl, rfl⟩ := hr
      have new : (s.heap.push (newT w)).get? s.heap.objs.size = some (newT w) := Heap.get?_push_size _ rfl
      have ty : Shared.TypeIs { s with heap := s.heap.push (newT w) } (.ref s.heap.objs.size) "set" := ⟨_, new, rfl⟩
      have hli := PySem.F.called_set.init.lookup
      have hbi := PySem.F.called_set.init.bind (.ref s.heap.objs.size)
      repeat (any_goals (first | assumption | wp_step))
      refine codeAny_mono (codeAny_call_builtin (R := wants (fun r s2 => r = .none ∧ ∃ h' tk, s2 = { s with heap := h', toks := tk } ∧ TSet P w h' s.heap.objs.size xs ∧ ∀ b o, s.heap.get? b = some o → h'.get? b = some o) E) PySem.F.called_set.init.plain PySem.F.entry_set_init (check_set_init_1 ty ?_)) fun r s2 hr => ?_
      · unfold Builtin.«set.__init__» noKeywords
        generalize hU : Builtin.Frozenset.updateFrom = U
        wp_walk
        subst hU
        refine feed _ _ rfl fun h' tk T k => ?_
        exact wpAny_pure ⟨rfl, h', tk, rfl, T, k⟩
      · cases r with
        | error e => exact hr
        | ok fl2 =>
          cases fl2 with
          | ret r =>
            obtain ⟨rfl, h', tk, rfl, T, k⟩ := hr
            repeat (any_goals (first | assumption | wp_step))
            exact fin h' tk T k
          | _ => exact hr.elim
    | _ => exact hr.elim
end
end Sw
end
section
local macro_rules | `(tactic| walk_at "go1") => `(tactic| first
  | with_reducible refine Sw.g_seqasg ?_ | with_reducible refine Sw.g_op ?_ | with_reducible refine Sw.g_var rfl ?_ | with_reducible refine Sw.g_c ?_ | with_reducible refine Sw.g_I0 ?_
  | with_reducible refine Sw.g_cons ?_ | with_reducible refine Sw.g_nil ?_ | with_reducible refine Sw.g_call ?_ | with_reducible refine Sw.g_cb ?_ | with_reducible refine Sw.g_test ?_ | with_reducible refine Sw.g_bl ?_
  | with_reducible refine Sw.g_seqdrop ?_ | with_reducible refine Sw.g_seqsub ?_ | with_reducible refine Sw.g_asg ?_ | with_reducible refine Sw.g_asgsub ?_ | with_reducible refine Sw.g_ret ?_ | with_reducible refine Sw.g_drop ?_ | with_reducible refine Sw.g_if ?_ | with_reducible refine Sw.g_next ?_ | with_reducible refine Sw.g_name ?_
  | with_reducible refine Sw.g_B ?_ | with_reducible refine Sw.g_not ?_ | with_reducible refine Sw.g_and ?_ | with_reducible refine Sw.g_or ?_ | with_reducible refine Sw.g_andV ?_ | with_reducible refine Sw.g_orV ?_ | with_reducible refine Sw.g_notV ?_
  | with_reducible refine Sw.g_ifE ?_ | with_reducible refine Sw.g_chain ?_ | with_reducible refine Sw.g_un ?_ | with_reducible refine Sw.g_tup ?_ | with_reducible refine Sw.g_lst ?_ | with_reducible refine Sw.g_sl ?_ | with_reducible refine Sw.g_part ?_ | with_reducible refine Sw.g_nopart ?_
  | with_reducible refine Sw.g_U ?_ | with_reducible refine Sw.g_eq rfl ?_ | with_reducible refine Sw.g_ne rfl ?_ | with_reducible refine Sw.g_int ?_ | with_reducible refine Sw.g_yes ?_ | with_reducible refine L2.iteT ?_ | with_reducible refine L2.iteF ?_ | with_reducible refine Sw.iteNT ?_ | with_reducible refine Sw.iteNF ?_ | with_reducible refine Sw.g_m1 ?_ | with_reducible refine Sw.g_bm ?_ | with_reducible refine ⟨Sw.ty_lst (by assumption), ?_⟩ | with_reducible refine Sw.g_sput ?_ | with_reducible refine Sw.g_put ?_ | with_reducible refine Sw.g_dget2 ?_ | with_reducible refine Sw.g_dget ?_ | with_reducible refine Sw.g_dK ?_ | with_reducible refine Sw.g_dT ?_ | with_reducible refine Sw.g_dnotin ?_ | with_reducible refine Sw.g_din ?_ | with_reducible refine Sw.g_bm0 ?_
  | with_reducible refine Sw.g_ixL (by assumption) rfl ?_ | with_reducible refine Sw.g_ixT (by assumption) rfl ?_)
local macro_rules | `(tactic| walk_at "go") => `(tactic| repeat walk_at "go1")
local macro_rules | `(tactic| walk_at "bd") => `(tactic| repeat (first | with_reducible exact Sw.all_nil | refine Sw.all_cons ⟨_, rfl, by omega, by omega⟩ ?_))
local macro_rules | `(tactic| walk_at "new") => `(tactic| (refine ⟨Nat.le_of_ble_eq_true rfl, fun p np => ?_⟩; generalize hX : L2.upd _ p _ = H'; have sm : L2.Same _ H' := hX ▸ Sw.same_upd np; have hp : H' p = some _ := hX ▸ L2.upd_same; clear hX))
namespace Sw
open PySem PySem.Spec PyProof.Rows L2 SX
section
variable {P : Program} {w : World} {A : Around} {E : Value → Shared → Prop} {s : Shared}
theorem strs_atQ {us : List Value} {xs : List Str} (h : StrsAre us xs) : ∀ (i : Nat) (v : Value), us[i]? = some v → ∃ t, v = .str (xs.getD i Str.empty) t := by
  induction h with
  | nil => intro i v e; simp at e
  | cons x t _ ih =>
    intro i v e
    cases i with
    | zero => exact ⟨t, (Option.some.inj e).symm⟩
    | succ i =>
      obtain ⟨u, q⟩ := ih i v (by simpa using e)
      exact ⟨u, by rw [q]; rfl⟩
theorem strs_each {vs : List Value} {xs : List Str} (h : PySem.W.EachIs (fun v x => ∃ t, v = Value.str x t) vs xs) : StrsAre vs xs := by
  induction h with
  | nil => exact .nil
  | cons r _ ih =>
    obtain ⟨t, rfl⟩ := r
    exact .cons _ t ih
/-! ### set(list of texts), set(text) -/
theorem tset_list {l : Addr} {items : Array Value} {ys : List Str} {Z : Value → Shared → Prop} (hh : A.handled = none) (hl : s.heap.IsList l items) (hi : StrsAre items.toList ys) (big : ys.length + 1 < scanBound)
    (fin : ∀ h' tk, TSet P w h' s.heap.objs.size (ddp ys) → (∀ b o, s.heap.get? b = some o → h'.get? b = some o) → Z (.ref s.heap.objs.size) { s with heap := h', toks := tk }) : wpAny (model P w) A (call (.type "set") [.ref l]) Z E s := by
  refine tset_call (fun A' Y ha' yes => ?_) fin
  obtain ⟨ol, q, c1, nl, c2⟩ := hl
  obtain ⟨ocls, odict, odata, oslots⟩ := ol
  simp only at c1 c2
  subst c1
  subst c2
  have new : (s.heap.push (newT w)).get? s.heap.objs.size = some (newT w) := Heap.get?_push_size _ rfl
  have q' : (s.heap.push (newT w)).get? l = some { cls := .type "list", dict := odict, data := .seq items nl, slots := oslots } := Heap.get?_push_of_some _ q
  have f1 := PySem.F.sub_list_set
  have f2 := PySem.F.sub_list_frozenset
  have f3 : (Value.type "list" == Value.type "dict") = false := by decide
  have isl : (s.heap.push (newT w)).IsList l items := ⟨_, q', rfl, nl, rfl⟩
  have ll : l < s.heap.objs.size := Heap.lt_size q
  have s1 : (s.heap.push (newT w)).objs.size = s.heap.objs.size + 1 := Heap.size_push ..
  unfold Builtin.Frozenset.updateFrom
  generalize hPI : pyIter = PI
  wp_walk
  subst hPI
  refine wpAny_pyIter_list isl ?_
  refine wpAny_bind (wpAny_runValue ?_)
  have len : ys.length = items.size := by rw [← StrsAre.len_eq hi, Array.length_toList]
  have hh3 : A'.in1.handled = none := by rw [← hh, ← ha']
  have ne1 : l ≠ (s.heap.push (newT w)).objs.size := by rw [s1]; exact Nat.ne_of_lt (Nat.lt_succ_of_lt ll)
  refine tset_walk (fp := [_, l]) ((Walks.list hh3 _ l ne1 items).toS) (S := s.heap.objs.size) (fun z => ?_) len (by rw [← len]; exact big) (fun i v hv => strs_atQ hi i v (by rw [Array.getElem?_toList]; exact hv)) items.size 0 _ (Nat.zero_add _).symm
    ⟨⟨_, Heap.get?_push_size _ rfl, rfl, rfl⟩, isl.push _⟩ (tset_nil (Heap.get?_push_of_some _ new)) fun s' mv T => ?_
  · rcases List.mem_cons.mp z with z | z
    · have z' : s.heap.objs.size = (s.heap.push (newT w)).objs.size := z
      rw [s1] at z'
      exact absurd z' (Nat.ne_of_lt (Nat.lt_succ_self _))
    · exact absurd (List.mem_singleton.mp z) (Nat.ne_of_gt ll)
  · obtain ⟨h', g', d', tk', os'⟩ := s'
    have e1 : g' = s.gens := mv.gens
    have e2 : d' = s.drawn := mv.drawn
    have e3 : os' = s.os := mv.os
    subst e1
    subst e2
    subst e3
    refine wpAny_pure (yes h' tk' T fun b o ob => ?_)
    have lb : b < s.heap.objs.size := Heap.lt_size ob
    refine mv.heap b o (fun z => ?_) (Heap.get?_push_of_some _ (Heap.get?_push_of_some _ ob))
    rcases List.mem_cons.mp z with z | z
    · exact absurd z (Nat.ne_of_lt lb)
    · have z' : b = (s.heap.push (newT w)).objs.size := List.mem_singleton.mp z
      rw [s1] at z'
      exact absurd z' (Nat.ne_of_lt (Nat.lt_succ_of_lt lb))
theorem tset_text {x : Str} {t : Tok} {Z : Value → Shared → Prop} (hh : A.handled = none) (big : x.cps.size + 1 < scanBound)
    (fin : ∀ h' tk, TSet P w h' s.heap.objs.size (ddp (x.cps.toList.map fun c => (⟨#[c]⟩ : Str))) → (∀ b o, s.heap.get? b = some o → h'.get? b = some o) → Z (.ref s.heap.objs.size) { s with heap := h', toks := tk }) :
    wpAny (model P w) A (call (.type "set") [.str x t]) Z E s := by
  refine tset_call (fun A' Y ha' yes => ?_) fin
  have new : (s.heap.push (newT w)).get? s.heap.objs.size = some (newT w) := Heap.get?_push_size _ rfl
  have f1 := PySem.F.sub_str_set
  have f2 := PySem.F.sub_str_frozenset
  have f3 : (Value.type "str" == Value.type "dict") = false := by decide
  have s1 : (s.heap.push (newT w)).objs.size = s.heap.objs.size + 1 := Heap.size_push ..
  unfold Builtin.Frozenset.updateFrom
  generalize hPI : pyIter = PI
  wp_walk
  subst hPI
  refine wpAny_pyIter_str fun ob St W st => ?_
  refine wpAny_bind (wpAny_runValue ?_)
  have len : (x.cps.toList.map fun c => (⟨#[c]⟩ : Str)).length = x.cps.size := by rw [List.length_map, Array.length_toList]
  have hh3 : A'.in1.handled = none := by rw [← hh, ← ha']
  refine tset_walk ((W _ hh3).toS) (S := s.heap.objs.size) (fun z => ?_) len big (fun i v hv => ?_) x.cps.size 0 _ (Nat.zero_add _).symm st (tset_nil (Heap.get?_push_of_some _ new)) fun s' mv T => ?_
  · have z' : s.heap.objs.size = (s.heap.push (newT w)).objs.size := List.mem_singleton.mp z
    rw [s1] at z'
    exact absurd z' (Nat.ne_of_lt (Nat.lt_succ_self _))
  · obtain ⟨c, u, hc, rfl⟩ := hv
    refine ⟨u, ?_⟩
    rw [List.getD, List.getElem?_map, Array.getElem?_toList, hc]
    rfl
  · obtain ⟨h', g', d', tk', os'⟩ := s'
    have e1 : g' = s.gens := mv.gens
    have e2 : d' = s.drawn := mv.drawn
    have e3 : os' = s.os := mv.os
    subst e1
    subst e2
    subst e3
    refine wpAny_pure (yes h' tk' T fun b o hb => ?_)
    have lb : b < s.heap.objs.size := Heap.lt_size hb
    refine mv.heap b o (fun z => ?_) (Heap.get?_push_of_some _ (Heap.get?_push_of_some _ hb))
    rcases List.mem_cons.mp z with z | z
    · exact absurd z (Nat.ne_of_lt lb)
    · have z' : b = (s.heap.push (newT w)).objs.size := List.mem_singleton.mp z
      rw [s1] at z'
      exact absurd z' (Nat.ne_of_lt (Nat.lt_succ_of_lt lb))
/-! ### len and sorted of such a set -/
theorem tset_len {a : Addr} {xs : List Str} {Z : Value → Shared → Prop} (T : TSet P w s.heap a xs) (h : ∀ t tk, Z (.int xs.length t) { s with toks := tk }) : wpAny (model P w) A (call (.builtin "len") [.ref a]) Z E s := by
  obtain ⟨o, es, ep, tb, q0, q1, q2, ⟨z1, z2, z3⟩, q4, q5, q6, q7⟩ := T
  have len : es.size = xs.length := by rw [← z2.length_eq, List.length_map, Array.length_toList]
  refine call_len_set q0 q1 q2 q5 ?_ ?_
  · unfold scanBound at q4; omega
  · rw [len]; exact h _ _
theorem tset_sorted {a : Addr} {xs : List Str} {Z : Value → Shared → Prop} (hh : A.handled = none) (hu : A.units + 64 < cLine) (T : TSet P w s.heap a xs)
    (fin : ∀ s' p (vs : List Value) c (ys : List Str), (∀ b o, s.heap.get? b = some o → s'.heap.get? b = some o) → s'.gens = s.gens → s'.os = s.os → s.heap.objs.size ≤ p → s'.heap.get? p = some (seqObj "list" vs.toArray c) →
      StrsAre vs ys → ys.Perm xs → ys.Pairwise (fun x y => x.cps.toList ≤ y.cps.toList) → Z (.ref p) s') : wpAny (model P w) A (call (.builtin "sorted") [.ref a]) Z E s := by
  obtain ⟨o, es, ep, tb, q0, q1, q2, ⟨z1, z2, z3⟩, q4, q5, q6, q7⟩ := T
  refine Calls.call_function_entry kind_sorted plain_sorted entry_sorted (args_sorted1 _) ?_
  unfold Builtin.«sorted»
  refine wpAny_bind (m := checkCount "sorted" 1 1 _) (wpAny_pure ?_)
  refine wpAny_bind (collect_set (A := A.in1) hh ⟨o, q0, q1.1, q2⟩ q5 q4 q6 q7 fun s1 vs k1 sz1 g1 o1 pm => ?_)
  have vl : vs.length = es.size := by rw [pm.length_eq, List.length_map, Array.length_toList]
  obtain ⟨bs, eb, pb⟩ : ∃ bs : List Str, PySem.W.EachIs (fun v x => ∃ t, v = Value.str x t) vs bs ∧ bs.Perm xs := by
    have each : ∀ vs : List Value, (∀ v ∈ vs, ∃ x t, v = Value.str x t) → PySem.W.EachIs (fun v x => ∃ t, v = Value.str x t) vs (vs.map fun v => txtOf (0, v)) := fun vs => by
      induction vs with
      | nil => intro _; exact .nil
      | cons v vs ih =>
        intro hv
        obtain ⟨x, t, rfl⟩ := hv v List.mem_cons_self
        exact .cons ⟨t, rfl⟩ (ih fun u hu => hv u (List.mem_cons_of_mem _ hu))
    refine ⟨vs.map fun v => txtOf (0, v), each vs fun v hv => ?_, ?_⟩
    · obtain ⟨e, he, rfl⟩ := List.mem_map.mp (pm.mem_iff.mp hv)
      obtain ⟨x, t, e1, _⟩ := z1 e he
      exact ⟨x, t, e1⟩
    · refine ((pm.map fun v => txtOf (0, v)).trans ?_)
      rw [List.map_map]
      exact z2
  have fitv : vs.length ≤ sizeLine := by rw [vl]; exact fits_of_scanBound q4
  refine wpAny_bind (wpAny_newList ?_ fitv)
  have new : (s1.heap.push (seqObj "list" vs.toArray 0)).get? s1.heap.objs.size = some (seqObj "list" vs.toArray 0) := Heap.get?_push_size _ rfl
  have bl : bs.length ≤ sizeLine := by rw [← eb.length]; exact fitv
  refine wpAny_bind (wpAny_holding (PySem.W.list_sort_data (s := { s1 with heap := s1.heap.push (seqObj "list" vs.toArray 0) }) (enc := fun x : Str => PyData.str x) new eb (eb.mono fun v x ⟨t, hv⟩ => ⟨[], by rw [hv]; exact .str x t, fun z => nomatch z⟩) (.of fun _ _ => rfl) (.others fun x => ⟨(fun z => nomatch z), fun _ z => nomatch z⟩) bl (fun x _ => by show A.in1.units + 1 + 0 < cLine; have : A.in1.units = A.units + 1 := units_in1 A; omega) fun outv ol eo => ?_))
  obtain ⟨c, hc⟩ := sortedHeap_at (vs := vs) (out := outv.toArray) new
  refine wpAny_pure ⟨_, rfl, fin _ s1.heap.objs.size outv c _ (fun b u ob => ?_) g1 o1 sz1 hc (strs_each eo) ((List.mergeSort_perm _ _).trans pb) ?_⟩
  · have ob1 := k1 b u ob
    have lb : b < s1.heap.objs.size := Heap.lt_size ob1
    have e := sortedHeap_old (h := s1.heap.push (seqObj "list" vs.toArray 0)) (a := s1.heap.objs.size) (vs := vs) (out := outv.toArray) (Nat.ne_of_lt lb) (by rw [size_push']; exact Nat.lt_succ_of_lt lb)
    exact e.trans (Heap.get?_push_of_some _ ob1)
  · refine List.Pairwise.imp ?_ (PySem.W.sort_pairwise (PySem.W.sortLe_total _ false _) bs)
    intro x y le
    have le' : (!PySem.W.dataLt (.str y) (.str x)) = true := le
    rw [PySem.W.dataLt_str] at le'
    exact List.not_lt.mp (by simpa using le')
end
end Sw
end
section
local macro_rules | `(tactic| walk_at "go1") => `(tactic| first
  | with_reducible refine Sw.g_seqasg ?_ | with_reducible refine Sw.g_op ?_ | with_reducible refine Sw.g_var rfl ?_ | with_reducible refine Sw.g_c ?_ | with_reducible refine Sw.g_I0 ?_
  | with_reducible refine Sw.g_cons ?_ | with_reducible refine Sw.g_nil ?_ | with_reducible refine Sw.g_call ?_ | with_reducible refine Sw.g_cb ?_ | with_reducible refine Sw.g_test ?_ | with_reducible refine Sw.g_bl ?_
  | with_reducible refine Sw.g_seqdrop ?_ | with_reducible refine Sw.g_seqsub ?_ | with_reducible refine Sw.g_asg ?_ | with_reducible refine Sw.g_asgsub ?_ | with_reducible refine Sw.g_ret ?_ | with_reducible refine Sw.g_drop ?_ | with_reducible refine Sw.g_if ?_ | with_reducible refine Sw.g_next ?_ | with_reducible refine Sw.g_name ?_
  | with_reducible refine Sw.g_B ?_ | with_reducible refine Sw.g_not ?_ | with_reducible refine Sw.g_and ?_ | with_reducible refine Sw.g_or ?_ | with_reducible refine Sw.g_andV ?_ | with_reducible refine Sw.g_orV ?_ | with_reducible refine Sw.g_notV ?_
  | with_reducible refine Sw.g_ifE ?_ | with_reducible refine Sw.g_chain ?_ | with_reducible refine Sw.g_un ?_ | with_reducible refine Sw.g_tup ?_ | with_reducible refine Sw.g_lst ?_ | with_reducible refine Sw.g_sl ?_ | with_reducible refine Sw.g_part ?_ | with_reducible refine Sw.g_nopart ?_
  | with_reducible refine Sw.g_U ?_ | with_reducible refine Sw.g_eq rfl ?_ | with_reducible refine Sw.g_ne rfl ?_ | with_reducible refine Sw.g_int ?_ | with_reducible refine Sw.g_yes ?_ | with_reducible refine L2.iteT ?_ | with_reducible refine L2.iteF ?_ | with_reducible refine Sw.iteNT ?_ | with_reducible refine Sw.iteNF ?_ | with_reducible refine Sw.g_m1 ?_ | with_reducible refine Sw.g_bm ?_ | with_reducible refine ⟨Sw.ty_lst (by assumption), ?_⟩ | with_reducible refine Sw.g_sput ?_ | with_reducible refine Sw.g_put ?_ | with_reducible refine Sw.g_dget2 ?_ | with_reducible refine Sw.g_dget ?_ | with_reducible refine Sw.g_dK ?_ | with_reducible refine Sw.g_dT ?_ | with_reducible refine Sw.g_dnotin ?_ | with_reducible refine Sw.g_din ?_ | with_reducible refine Sw.g_bm0 ?_
  | with_reducible refine Sw.g_ixL (by assumption) rfl ?_ | with_reducible refine Sw.g_ixT (by assumption) rfl ?_)
local macro_rules | `(tactic| walk_at "go") => `(tactic| repeat walk_at "go1")
local macro_rules | `(tactic| walk_at "bd") => `(tactic| repeat (first | with_reducible exact Sw.all_nil | refine Sw.all_cons ⟨_, rfl, by omega, by omega⟩ ?_))
local macro_rules | `(tactic| walk_at "new") => `(tactic| (refine ⟨Nat.le_of_ble_eq_true rfl, fun p np => ?_⟩; generalize hX : L2.upd _ p _ = H'; have sm : L2.Same _ H' := hX ▸ Sw.same_upd np; have hp : H' p = some _ := hX ▸ L2.upd_same; clear hX))
namespace Sw
open PySem PySem.Spec PyProof.Rows L2 SX
/-! ### len(set(..)) and sorted(set(..)) of texts -/
def sgs (z : Str) : List Str := z.cps.toList.map fun c => (⟨#[c]⟩ : Str)
abbrev rTexts (K : PySem.W.Frag) (x : V) (H : Hp) (ys : List Str) : Prop := ((∃ z, x = .str z ∧ ys = sgs z) ∨ ∃ l, x = .ref l ∧ SqL K H l (ys.map V.str)) ∧ ys.length ≤ 4000
def rLenT (K : PySem.W.Frag) : V → Hp → VK → Prop := fun x H Q => ∃ ys, rTexts K x H ys ∧ Q (.int ((ddp ys).length : Nat)) H
def rSortT (K : PySem.W.Frag) : V → Hp → VK → Prop := fun x H Q => ∃ ys, rTexts K x H ys ∧ ∀ zs : List Str, zs.Perm (ddp ys) → zs.Pairwise (fun a b => a.cps.toList ≤ b.cps.toList) → ∀ p, H p = none → Q (.ref p) (upd H p (.lst (zs.map V.str)))
section
variable {X : Cx}
theorem ddp_nd_le (ys : List Str) : (ddp ys).length ≤ ys.length := by
  have := ddp_le ys ys.length (Nat.le_refl _)
  rw [List.take_length] at this
  exact this
theorem strsAreQ : ∀ {ys : List Str} {us : List Value}, Vals (ys.map V.str) us → StrsAre us ys
  | [], _, .nil => .nil
  | y :: ys, _, .cons r t => by
    obtain ⟨k, rfl⟩ := r
    exact .cons y k (strsAreQ t)
theorem vals_strs {vs : List Value} {ys : List Str} (h : StrsAre vs ys) : Vals (ys.map V.str) vs := by
  induction h with
  | nil => exact .nil
  | cons x t _ ih => exact .cons ⟨t, rfl⟩ ih
theorem set_any (hc : X.calm = true) {pins : List (Addr × Obj)} {s : Shared} {σ : L2.St} {H : Hp} {x : V} {u : Value} {ys : List Str} {Z : Value → Shared → Prop} (I : Inv X pins σ H s) (rx : RelV x u) (ht : rTexts X.K x H ys)
    (fin : ∀ h' tk, TSet X.prog X.w h' s.heap.objs.size (ddp ys) → Inv X pins σ H { s with heap := h', toks := tk } → Z (.ref s.heap.objs.size) { s with heap := h', toks := tk }) : wpAny (model X.prog X.w) X.A (call (.type "set") [u]) Z X.xe s := by
  obtain ⟨h1, h2⟩ := ht
  have big : ys.length + 1 < scanBound := by unfold scanBound; omega
  rcases h1 with ⟨z, rfl, rfl⟩ | ⟨l, rfl, hl⟩
  · obtain ⟨t, rfl⟩ := rx
    refine tset_text (I.ok.hd hc) (by unfold sgs at big; rw [List.length_map, Array.length_toList] at big; exact big) fun h' tk T k => fin h' tk T (I.kept k)
  · cases rx
    obtain ⟨its, rv, il, _⟩ := I.list hl
    exact tset_list (I.ok.hd hc) il.isList (by simpa using strsAreQ rv) big fun h' tk T k => fin h' tk T (I.kept k)
theorem sort_any (hc : X.calm = true) (hu : X.A.units + 64 < cLine) {pins : List (Addr × Obj)} {s : Shared} {σ : L2.St} {H : Hp} {a : Addr} {xs : List Str} {Q : VK} (I : Inv X pins σ H s) (T : TSet X.prog X.w s.heap a xs) (lx : xs.length ≤ 4000)
    (q : ∀ zs : List Str, zs.Perm xs → zs.Pairwise (fun a b => a.cps.toList ≤ b.cps.toList) → ∀ p, H p = none → Q (.ref p) (upd H p (.lst (zs.map V.str)))) : wpAny (model X.prog X.w) X.A (call (.builtin "sorted") [.ref a]) (EP X pins σ Q) X.xe s := by
  refine tset_sorted (I.ok.hd hc) hu T fun s' b vs c zs k g o lb at' st pm pw => ?_
  have lv : (zs.map V.str).length ≤ sizeLine := by rw [List.length_map, sizeLine_eq, pm.length_eq]; omega
  have free : H b = none := I.hok.fresh lb
  have J : Inv X pins σ (upd H b (.lst (zs.map V.str))) { s with heap := s'.heap, gens := s'.gens, drawn := s'.drawn, toks := s'.toks } :=
    I.call (ch := []) (Un.laid k lb free) (I.hok.laid k lb ⟨lv, vs, c, vals_strs st, at'⟩) (by rw [g]; exact I.bare) (fun _ z => nomatch z)
  have e : s' = { s with heap := s'.heap, gens := s'.gens, drawn := s'.drawn, toks := s'.toks } := by
    cases s'
    cases s
    cases o
    rfl
  rw [e]
  exact ⟨.ref b, _, J, rfl, q zs pm pw b free⟩
variable {a : Expr} {ta : TE} {p p2 q pos : Pos}
theorem pe_lenT (hc : X.calm = true) (hg : Gl X "len") (hm : X.mg "len" = none) (hg2 : Gl X "set") (hm2 : X.mg "set" = none) (ha : PE X a ta) (na : starEach [a] X.env = (false, eval a X.env) :: starEach [] X.env := by rfl) :
    PE X (.Call (.Name "len" p) [.Call (.Name "set" p2) [a] [] q] [] pos) (tUn (rLenT X.K) ta) := by
  refine ⟨fun pins s σ H Q I h => Call_ (ld_blt I hg hm boot_len ?_)⟩
  refine PyProof.Rows.callWith_builtin1 (PyProof.Rows.args_cons (Call_ (ld_blt I hg2 hm2 boot_set ?_)) rfl) rfl rfl
  refine PyProof.Rows.callWith_type1 (PyProof.Rows.args_cons (thn (ha.run pins s σ H _ I h) fun v s1 ⟨x, H1, I1, r1, ys, ht, q1⟩ => PyProof.Rows.args_nil ?_) na) na rfl
  refine set_any hc I1 r1 ht fun h' tk T I2 => PyProof.Rows.args_nil ?_
  exact tset_len (s := { s1 with heap := h', toks := tk }) T fun t tk2 => ⟨.int ((ddp ys).length : Nat), H1, I2.tok _, ⟨_, rfl⟩, q1⟩
theorem pe_sortT (hc : X.calm = true) (hu : X.A.units + 64 < cLine) (hg : Gl X "sorted") (hm : X.mg "sorted" = none) (hg2 : Gl X "set") (hm2 : X.mg "set" = none) (ha : PE X a ta) (na : starEach [a] X.env = (false, eval a X.env) :: starEach [] X.env := by rfl) :
    PE X (.Call (.Name "sorted" p) [.Call (.Name "set" p2) [a] [] q] [] pos) (tUn (rSortT X.K) ta) := by
  refine ⟨fun pins s σ H Q I h => Call_ (ld_blt I hg hm boot_sorted ?_)⟩
  refine PyProof.Rows.callWith_builtin1 (PyProof.Rows.args_cons (Call_ (ld_blt I hg2 hm2 boot_set ?_)) rfl) rfl rfl
  refine PyProof.Rows.callWith_type1 (PyProof.Rows.args_cons (thn (ha.run pins s σ H _ I h) fun v s1 ⟨x, H1, I1, r1, ys, ht, q1⟩ => PyProof.Rows.args_nil ?_) na) na rfl
  refine set_any hc I1 r1 ht fun h' tk T I2 => PyProof.Rows.args_nil ?_
  exact sort_any hc hu I2 T (Nat.le_trans (ddp_nd_le ys) ht.2) q1
end
end Sw
end
section
local macro_rules | `(tactic| walk_at "go1") => `(tactic| first
  | with_reducible refine Sw.g_seqasg ?_ | with_reducible refine Sw.g_op ?_ | with_reducible refine Sw.g_var rfl ?_ | with_reducible refine Sw.g_c ?_ | with_reducible refine Sw.g_I0 ?_
  | with_reducible refine Sw.g_cons ?_ | with_reducible refine Sw.g_nil ?_ | with_reducible refine Sw.g_call ?_ | with_reducible refine Sw.g_cb ?_ | with_reducible refine Sw.g_test ?_ | with_reducible refine Sw.g_bl ?_
  | with_reducible refine Sw.g_seqdrop ?_ | with_reducible refine Sw.g_seqsub ?_ | with_reducible refine Sw.g_asg ?_ | with_reducible refine Sw.g_asgsub ?_ | with_reducible refine Sw.g_ret ?_ | with_reducible refine Sw.g_drop ?_ | with_reducible refine Sw.g_if ?_ | with_reducible refine Sw.g_next ?_ | with_reducible refine Sw.g_name ?_
  | with_reducible refine Sw.g_B ?_ | with_reducible refine Sw.g_not ?_ | with_reducible refine Sw.g_and ?_ | with_reducible refine Sw.g_or ?_ | with_reducible refine Sw.g_andV ?_ | with_reducible refine Sw.g_orV ?_ | with_reducible refine Sw.g_notV ?_
  | with_reducible refine Sw.g_ifE ?_ | with_reducible refine Sw.g_chain ?_ | with_reducible refine Sw.g_un ?_ | with_reducible refine Sw.g_tup ?_ | with_reducible refine Sw.g_lst ?_ | with_reducible refine Sw.g_sl ?_ | with_reducible refine Sw.g_part ?_ | with_reducible refine Sw.g_nopart ?_
  | with_reducible refine Sw.g_U ?_ | with_reducible refine Sw.g_eq rfl ?_ | with_reducible refine Sw.g_ne rfl ?_ | with_reducible refine Sw.g_int ?_ | with_reducible refine Sw.g_yes ?_ | with_reducible refine L2.iteT ?_ | with_reducible refine L2.iteF ?_ | with_reducible refine Sw.iteNT ?_ | with_reducible refine Sw.iteNF ?_ | with_reducible refine Sw.g_m1 ?_ | with_reducible refine Sw.g_bm ?_ | with_reducible refine ⟨Sw.ty_lst (by assumption), ?_⟩ | with_reducible refine Sw.g_sput ?_ | with_reducible refine Sw.g_put ?_ | with_reducible refine Sw.g_dget2 ?_ | with_reducible refine Sw.g_dget ?_ | with_reducible refine Sw.g_dK ?_ | with_reducible refine Sw.g_dT ?_ | with_reducible refine Sw.g_dnotin ?_ | with_reducible refine Sw.g_din ?_ | with_reducible refine Sw.g_bm0 ?_
  | with_reducible refine Sw.g_ixL (by assumption) rfl ?_ | with_reducible refine Sw.g_ixT (by assumption) rfl ?_)
local macro_rules | `(tactic| walk_at "go") => `(tactic| repeat walk_at "go1")
local macro_rules | `(tactic| walk_at "bd") => `(tactic| repeat (first | with_reducible exact Sw.all_nil | refine Sw.all_cons ⟨_, rfl, by omega, by omega⟩ ?_))
local macro_rules | `(tactic| walk_at "new") => `(tactic| (refine ⟨Nat.le_of_ble_eq_true rfl, fun p np => ?_⟩; generalize hX : L2.upd _ p _ = H'; have sm : L2.Same _ H' := hX ▸ Sw.same_upd np; have hp : H' p = some _ := hX ▸ L2.upd_same; clear hX))
namespace Sw
open PySem PySem.Spec PyProof.Rows L2 SX
/-! ### texts without those told twice -/
def insL1 (xs : List (List Nat)) (x : List Nat) : List (List Nat) := if x ∈ xs then xs else xs ++ [x]
def ddL (l : List (List Nat)) : List (List Nat) := l.foldl insL1 []
theorem ddL_snoc (l : List (List Nat)) (x : List Nat) : ddL (l ++ [x]) = insL1 (ddL l) x := by unfold ddL; rw [List.foldl_append]; rfl
theorem ins_map (xs : List (List Nat)) (x : List Nat) : insU (xs.map S) (S x) = (insL1 xs x).map S := by
  unfold insU insL1
  by_cases h : x ∈ xs
  · rw [if_pos h, if_pos (List.mem_map.mpr ⟨x, h, rfl⟩)]
  · rw [if_neg h, if_neg, List.map_append]
    · rfl
    · intro z
      obtain ⟨y, hy, e⟩ := List.mem_map.mp z
      rw [S_inj e] at hy
      exact h hy
theorem ddp_map (l : List (List Nat)) : ddp (l.map S) = (ddL l).map S := by
  have key : ∀ (l xs : List (List Nat)), (l.map S).foldl insU (xs.map S) = (l.foldl insL1 xs).map S := by
    intro l
    induction l with
    | nil => intro xs; rfl
    | cons x l ih =>
      intro xs
      show (l.map S).foldl insU (insU (xs.map S) (S x)) = (l.foldl insL1 (insL1 xs x)).map S
      rw [ins_map, ih]
  exact key l []
theorem insL1_mem {xs : List (List Nat)} {x y : List Nat} : y ∈ insL1 xs x ↔ y ∈ xs ∨ y = x := by
  unfold insL1
  by_cases h : x ∈ xs
  · rw [if_pos h]
    exact ⟨.inl, fun z => z.elim id fun e => e ▸ h⟩
  · rw [if_neg h, List.mem_append, List.mem_singleton]
theorem ddL_spec (l : List (List Nat)) : (ddL l).Nodup ∧ ∀ x, x ∈ ddL l ↔ x ∈ l := by
  have key : ∀ (l xs : List (List Nat)), xs.Nodup → (l.foldl insL1 xs).Nodup ∧ ∀ x, x ∈ l.foldl insL1 xs ↔ x ∈ xs ∨ x ∈ l := by
    intro l
    induction l with
    | nil => intro xs hx; exact ⟨hx, fun x => ⟨.inl, fun z => z.elim id fun y => nomatch y⟩⟩
    | cons a l ih =>
      intro xs hx
      have nd : (insL1 xs a).Nodup := by
        unfold insL1
        by_cases h : a ∈ xs
        · rw [if_pos h]; exact hx
        · rw [if_neg h]
          refine List.nodup_append.mpr ⟨hx, List.nodup_cons.mpr ⟨List.not_mem_nil, List.nodup_nil⟩, fun y hy y' hy' e => h ?_⟩
          rw [← List.mem_singleton.mp hy', ← e]; exact hy
      obtain ⟨h1, h2⟩ := ih (insL1 xs a) nd
      refine ⟨h1, fun x => (h2 x).trans ?_⟩
      rw [insL1_mem, List.mem_cons, or_assoc]
  obtain ⟨h1, h2⟩ := key l [] List.nodup_nil
  exact ⟨h1, fun x => (h2 x).trans ⟨fun z => z.elim (fun y => nomatch y) id, .inr⟩⟩
theorem perm_eqQ {α : Type} {le : α → α → Prop} : ∀ {l m : List α}, l.Perm m → (∀ a ∈ l, ∀ b ∈ l, le a b → le b a → a = b) → l.Pairwise le → m.Pairwise le → l = m
  | [], m, h, _, _, _ => (List.nil_perm.mp h).symm
  | a :: l, [], h, _, _, _ => (List.perm_nil.mp h)
  | a :: l, b :: m, h, anti, h1, h2 => by
    rw [List.pairwise_cons] at h1 h2
    have e : a = b := by
      rcases List.mem_cons.mp (h.mem_iff.mp List.mem_cons_self) with z | z
      · exact z
      · rcases List.mem_cons.mp (h.mem_iff.mpr (List.mem_cons_self : b ∈ b :: m)) with y | y
        · exact y.symm
        · exact anti a List.mem_cons_self b (List.mem_cons_of_mem _ y) (h1.1 b y) (h2.1 a z)
    subst e
    rw [perm_eqQ h.cons_inv (fun x hx y hy => anti x (List.mem_cons_of_mem _ hx) y (List.mem_cons_of_mem _ hy)) h1.2 h2.2]
/-- sorted, each once -/
def usort (l : List (List Nat)) : List (List Nat) := (ddL l).mergeSort fun a b => decide (a ≤ b)
theorem usort_perm (l : List (List Nat)) : (usort l).Perm (ddL l) := List.mergeSort_perm _ _
theorem usort_mem {l : List (List Nat)} {x : List Nat} : x ∈ usort l ↔ x ∈ l := (usort_perm l).mem_iff.trans ((ddL_spec l).2 x)
theorem usort_nd (l : List (List Nat)) : (usort l).Nodup := (usort_perm l).nodup_iff.mpr (ddL_spec l).1
theorem usort_le (l : List (List Nat)) : (usort l).Pairwise (· ≤ ·) := by
  have h := List.pairwise_mergeSort (le := fun a b : List Nat => decide (a ≤ b)) (fun a b c h1 h2 => decide_eq_true (List.le_trans (of_decide_eq_true h1) (of_decide_eq_true h2))) (fun a b => by
    rw [Bool.or_eq_true, decide_eq_true_eq, decide_eq_true_eq]; exact List.le_total a b) (ddL l)
  exact h.imp fun h => of_decide_eq_true h
theorem sorted_uniq {l m : List (List Nat)} (p : l.Perm m) (h1 : l.Pairwise (· ≤ ·)) (h2 : m.Pairwise (· ≤ ·)) : l = m := perm_eqQ p (fun _ _ _ _ z y => List.le_antisymm z y) h1 h2
theorem usort_eq {l m : List (List Nat)} (nd : m.Nodup) (le : m.Pairwise (· ≤ ·)) (mem : ∀ x, x ∈ m ↔ x ∈ l) : usort l = m :=
  sorted_uniq ((List.perm_ext_iff_of_nodup (usort_nd l) nd).mpr fun x => usort_mem.trans (mem x).symm) (usort_le l) le
theorem usort_congr {l m : List (List Nat)} (h : ∀ x, x ∈ l ↔ x ∈ m) : usort l = usort m := usort_eq (usort_nd m) (usort_le m) fun x => usort_mem.trans (h x).symm
/-! ### the rules over data -/
def dTexts (d : D) (ys : List (List Nat)) : Prop := ((∃ l : List Nat, d = .str l ∧ ys = l.map fun c => [c]) ∨ d = .lst (ys.map .str)) ∧ ys.length ≤ 4000
def pLenT : P1 := fun d Q => ∃ ys, dTexts d ys ∧ Q .sh (.int ((ddL ys).length : Nat))
def pSortT : P1 := fun d Q => ∃ ys, dTexts d ys ∧ Q .ow (.lst ((usort ys).map .str))
theorem sgs_S (l : List Nat) : sgs (S l) = (l.map fun c => [c]).map S := by
  unfold sgs
  rw [S_list, List.map_map]
  rfl
theorem texts_of {K : PySem.W.Frag} {t : Option Addr} {F H : Hp} {x : V} {d : D} {ys : List (List Nat)} (s : Same F H) (vx : Vw t F H x d) (h : dTexts d ys) : rTexts K x H (ys.map S) := by
  obtain ⟨h1, h2⟩ := h
  refine ⟨?_, by rw [List.length_map]; exact h2⟩
  rcases h1 with ⟨l, rfl, rfl⟩ | rfl
  · exact .inl ⟨S l, vw_str vx, (sgs_S l).symm⟩
  · obtain ⟨a, xs, rfl, e1, e2⟩ := vw_lst s vx
    rw [rpl_strs e2] at e1
    exact .inr ⟨a, rfl, .inl (.inl e1)⟩
theorem o_lenT {K : PySem.W.Frag} {t : Option Addr} : Sim1 t (rLenT K) pLenT := fun F H x d Q Qp s ht vx p k => by
  obtain ⟨ys, h, q⟩ := p
  refine ⟨ys.map S, texts_of s vx h, ?_⟩
  rw [ddp_map, List.length_map]
  exact k.val s (d := .int _) rfl q
theorem o_sortT {K : PySem.W.Frag} {t : Option Addr} : Sim1 t (rSortT K) pSortT := fun F H x d Q Qp s ht vx p k => by
  obtain ⟨ys, h, q⟩ := p
  refine ⟨ys.map S, texts_of s vx h, fun zs pm pw p np => ?_⟩
  have e1 : zs = (zs.map fun z => z.cps.toList).map S := by
    rw [List.map_map]
    have : (S ∘ fun z : Str => z.cps.toList) = id := by funext z; exact S_cps z
    rw [this, List.map_id]
  have e2 : (zs.map fun z => z.cps.toList) = usort ys := by
    rw [ddp_map] at pm
    have p2 := pm.map fun z => z.cps.toList
    rw [List.map_map, show ((fun z : Str => z.cps.toList) ∘ S) = id by funext z; exact S_list z, List.map_id] at p2
    exact sorted_uniq (p2.trans (usort_perm ys).symm) (List.pairwise_map.mpr pw) (usort_le ys)
  rw [e1, e2]
  exact k.new s ht np (o := .lst _) (d := .lst _) (rpl_of_strs _) q
theorem h_sortT {ys : List (List Nat)} {Q : Md → D → Prop} (hl : ys.length ≤ 4000) (q : Q .ow (.lst ((usort ys).map .str))) : pSortT (.lst (ys.map .str)) Q := ⟨ys, ⟨.inr rfl, hl⟩, q⟩
theorem h_sortC {l : List Nat} {Q : Md → D → Prop} (hl : l.length ≤ 4000) (q : Q .ow (.lst ((usort (l.map fun c => [c])).map .str))) : pSortT (.str l) Q := ⟨_, ⟨.inl ⟨l, rfl, rfl⟩, by rw [List.length_map]; exact hl⟩, q⟩
theorem h_lenU {ys : List (List Nat)} {Q : Md → D → Prop} (hl : ys.length ≤ 4000) (q : Q .sh (.int ((ddL ys).length : Nat))) : pLenT (.lst (ys.map .str)) Q := ⟨ys, ⟨.inr rfl, hl⟩, q⟩
end Sw
end
section
local macro_rules | `(tactic| walk_at "go1") => `(tactic| first
  | with_reducible refine Sw.g_seqasg ?_ | with_reducible refine Sw.g_op ?_ | with_reducible refine Sw.g_var rfl ?_ | with_reducible refine Sw.g_c ?_ | with_reducible refine Sw.g_I0 ?_
  | with_reducible refine Sw.g_cons ?_ | with_reducible refine Sw.g_nil ?_ | with_reducible refine Sw.g_call ?_ | with_reducible refine Sw.g_cb ?_ | with_reducible refine Sw.g_test ?_ | with_reducible refine Sw.g_bl ?_
  | with_reducible refine Sw.g_seqdrop ?_ | with_reducible refine Sw.g_seqsub ?_ | with_reducible refine Sw.g_asg ?_ | with_reducible refine Sw.g_asgsub ?_ | with_reducible refine Sw.g_ret ?_ | with_reducible refine Sw.g_drop ?_ | with_reducible refine Sw.g_if ?_ | with_reducible refine Sw.g_next ?_ | with_reducible refine Sw.g_name ?_
  | with_reducible refine Sw.g_B ?_ | with_reducible refine Sw.g_not ?_ | with_reducible refine Sw.g_and ?_ | with_reducible refine Sw.g_or ?_ | with_reducible refine Sw.g_andV ?_ | with_reducible refine Sw.g_orV ?_ | with_reducible refine Sw.g_notV ?_
  | with_reducible refine Sw.g_ifE ?_ | with_reducible refine Sw.g_chain ?_ | with_reducible refine Sw.g_un ?_ | with_reducible refine Sw.g_tup ?_ | with_reducible refine Sw.g_lst ?_ | with_reducible refine Sw.g_sl ?_ | with_reducible refine Sw.g_part ?_ | with_reducible refine Sw.g_nopart ?_
  | with_reducible refine Sw.g_U ?_ | with_reducible refine Sw.g_eq rfl ?_ | with_reducible refine Sw.g_ne rfl ?_ | with_reducible refine Sw.g_int ?_ | with_reducible refine Sw.g_yes ?_ | with_reducible refine L2.iteT ?_ | with_reducible refine L2.iteF ?_ | with_reducible refine Sw.iteNT ?_ | with_reducible refine Sw.iteNF ?_ | with_reducible refine Sw.g_m1 ?_ | with_reducible refine Sw.g_bm ?_ | with_reducible refine ⟨Sw.ty_lst (by assumption), ?_⟩ | with_reducible refine Sw.g_sput ?_ | with_reducible refine Sw.g_put ?_ | with_reducible refine Sw.g_dget2 ?_ | with_reducible refine Sw.g_dget ?_ | with_reducible refine Sw.g_dK ?_ | with_reducible refine Sw.g_dT ?_ | with_reducible refine Sw.g_dnotin ?_ | with_reducible refine Sw.g_din ?_ | with_reducible refine Sw.g_bm0 ?_
  | with_reducible refine Sw.g_ixL (by assumption) rfl ?_ | with_reducible refine Sw.g_ixT (by assumption) rfl ?_)
local macro_rules | `(tactic| walk_at "go") => `(tactic| repeat walk_at "go1")
local macro_rules | `(tactic| walk_at "bd") => `(tactic| repeat (first | with_reducible exact Sw.all_nil | refine Sw.all_cons ⟨_, rfl, by omega, by omega⟩ ?_))
local macro_rules | `(tactic| walk_at "new") => `(tactic| (refine ⟨Nat.le_of_ble_eq_true rfl, fun p np => ?_⟩; generalize hX : L2.upd _ p _ = H'; have sm : L2.Same _ H' := hX ▸ Sw.same_upd np; have hp : H' p = some _ := hX ▸ L2.upd_same; clear hX))
namespace Sw
open PySem PySem.Spec PyProof.Rows L2 SX
/-! ### sorted(text) -/
theorem collect_text {P : Program} {w : World} {A : Around} {E : Value → Shared → Prop} {s : Shared} {Z : List Value → Shared → Prop} (hh : A.handled = none) (x : Str) (t : Tok) (fit : x.cps.size ≤ sizeLine)
    (fin : ∀ s' acc, (∀ b o, s.heap.get? b = some o → s'.heap.get? b = some o) → s.heap.objs.size ≤ s'.heap.objs.size → s'.gens = s.gens → s'.os = s.os → ItemsOf (SignAt x) acc x.cps.size → Z acc.toList s') : wpAny (model P w) A (collect (.str x t)) Z E s := by
  unfold collect
  refine wpAny_bind (wpAny_runValue (codeAny_builtin PySem.F.entry_proto_collect ?_))
  rw [Around.under_plainId PySem.F.plain_proto_collect _]
  refine wpAny_bind (m := newList []) (wpAny_newObj_type (wpAny_pure ⟨plainId_quiet PySem.F.plain_list_iadd _, codeAny_builtin PySem.F.entry_list_iadd ?_⟩))
  rw [Around.under_plainId PySem.F.plain_list_iadd _]
  show wpAny _ A.in1 (Builtin.List.listExtendWith (Value.ref s.heap.objs.size) (Value.str x t) (Value.ref s.heap.objs.size)) _ _ _
  unfold Builtin.List.listExtendWith
  refine wpAny_bind (wpAny_typeOf (v := .str x t) (T := "str") rfl ?_)
  have n1 : Builtin.List.listSameRef (.ref s.heap.objs.size) (.str x t) = false := rfl
  have n2 : (Value.type "str" == .type "list") = false := by decide
  have n3 : (Value.type "str" == .type "tuple") = false := by decide
  simp only [n1, n2, n3, Bool.or_false, Bool.false_eq_true, if_false]
  refine wpAny_bind (wpAny_pyIter_str fun ob St W st => wpAny_bind (wpAny_holding ?_))
  unfold Builtin.List.listLengthHint
  refine wpAny_bind (wpAny_specialOf (v := .str x t) (T := "str") rfl PySem.F.str_len ?_)
  wp_delta
  refine wpAny_bind (wpAny_isInstance (v := .str x t) (T := "str") (b := true) rfl (by rw [isSubtype_type]; kernel_rfl) ?_)
  refine wpAny_bind (m := typeOf (Value.str x t)) (wpAny_typeOf (v := .str x t) (T := "str") rfl (wpAny_pure ?_))
  rw [if_neg (by decide)]
  generalize eh : s.heap.push { cls := .type "list", data := .seq ([] : List Value).toArray } = h1 at W st ⊢
  have z1 : h1.objs.size = s.heap.objs.size + 1 := by rw [← eh]; exact Heap.size_push ..
  have out : s.heap.objs.size ∉ [h1.objs.size] := fun z => by
    have := List.mem_singleton.mp z
    rw [z1] at this
    exact absurd this (Nat.ne_of_lt (Nat.lt_succ_self _))
  have new : (h1.push ob).get? s.heap.objs.size = some { cls := .type "list", data := .seq ([] : List Value).toArray } := Heap.get?_push_of_some _ (eh ▸ Heap.get?_push_size _ rfl)
  refine wpAny_pure ⟨plainId_quiet PySem.F.plain_extend_loop _, codeAny_extend_loopS (W A.in1 hh).toS fit _ out _ x.cps.size 0 _ _ _ rfl (Nat.zero_le _) st new (ItemsOf.nil _) fun s' acc c mv now it => ?_⟩
  refine wpAny_bind (m := load s.heap.objs.size) (wpAny_load now (wpAny_pure ?_))
  refine fin s' acc (fun b o q => ?_) (Nat.le_of_lt (Heap.lt_size now)) mv.gens mv.os it
  have lb : b < s.heap.objs.size := Heap.lt_size q
  refine mv.heap b o (fun z => ?_) (Heap.get?_push_of_some _ (eh ▸ Heap.get?_push_of_some _ q))
  rcases List.mem_cons.mp z with z | z
  · exact absurd z (Nat.ne_of_lt lb)
  · have z' := List.mem_singleton.mp z
    rw [z1] at z'
    exact absurd z' (Nat.ne_of_lt (Nat.lt_succ_of_lt lb))
theorem text_sorted {P : Program} {w : World} {A : Around} {E : Value → Shared → Prop} {s : Shared} {x : Str} {t : Tok} {Z : Value → Shared → Prop} (hh : A.handled = none) (hu : A.units + 64 < cLine) (big : x.cps.size ≤ 4000)
    (fin : ∀ s' p (vs : List Value) c (ys : List Str), (∀ b o, s.heap.get? b = some o → s'.heap.get? b = some o) → s'.gens = s.gens → s'.os = s.os → s.heap.objs.size ≤ p → s'.heap.get? p = some (seqObj "list" vs.toArray c) →
      StrsAre vs ys → ys.Perm (sgs x) → ys.Pairwise (fun x y => x.cps.toList ≤ y.cps.toList) → Z (.ref p) s') : wpAny (model P w) A (call (.builtin "sorted") [.str x t]) Z E s := by
  refine Calls.call_function_entry kind_sorted plain_sorted entry_sorted (args_sorted1 _) ?_
  unfold Builtin.«sorted»
  refine wpAny_bind (m := checkCount "sorted" 1 1 _) (wpAny_pure ?_)
  refine wpAny_bind (collect_text (A := A.in1) hh x t (by rw [sizeLine_eq]; omega) fun s1 acc k1 sz1 g1 o1 it => ?_)
  have eb : PySem.W.EachIs (fun v x => ∃ t, v = Value.str x t) acc.toList (sgs x) := by
    have all : ∀ (i : Nat) v, acc.toList[i]? = some v → ∃ y u, (sgs x)[i]? = some y ∧ v = .str y u := fun i v hv => by
      obtain ⟨c, u, hc, rfl⟩ := it.2 i v (by rw [← Array.getElem?_toList]; exact hv)
      refine ⟨_, u, ?_, rfl⟩
      unfold sgs
      rw [List.getElem?_map, Array.getElem?_toList, hc]
      rfl
    have len : acc.toList.length = (sgs x).length := by unfold sgs; rw [Array.length_toList, it.1, List.length_map, Array.length_toList]
    generalize acc.toList = vs at all len
    generalize sgs x = ys at all len
    clear it
    induction vs generalizing ys with
    | nil =>
      cases ys with
      | nil => exact .nil
      | cons y ys => simp at len
    | cons v vs ih =>
      cases ys with
      | nil => simp at len
      | cons y ys =>
        obtain ⟨y', u, e1, e2⟩ := all 0 v rfl
        cases e1
        refine .cons ⟨u, e2⟩ (ih ys (fun i v hv => ?_) (by simpa using len))
        have := all (i + 1) v (by simpa using hv)
        simpa using this
  generalize acc.toList = vs at eb
  have vl : vs.length = x.cps.size := by rw [eb.length]; unfold sgs; rw [List.length_map, Array.length_toList]
  have fitv : vs.length ≤ sizeLine := by rw [vl, sizeLine_eq]; omega
  refine wpAny_bind (wpAny_newList ?_ fitv)
  have new : (s1.heap.push (seqObj "list" vs.toArray 0)).get? s1.heap.objs.size = some (seqObj "list" vs.toArray 0) := Heap.get?_push_size _ rfl
  have bl : (sgs x).length ≤ sizeLine := by rw [← eb.length]; exact fitv
  refine wpAny_bind (wpAny_holding (PySem.W.list_sort_data (s := { s1 with heap := s1.heap.push (seqObj "list" vs.toArray 0) }) (enc := fun x : Str => PyData.str x) new eb (eb.mono fun v x ⟨t, hv⟩ => ⟨[], by rw [hv]; exact .str x t, fun z => nomatch z⟩) (.of fun _ _ => rfl) (.others fun x => ⟨(fun z => nomatch z), fun _ z => nomatch z⟩) bl (fun x _ => by show A.in1.units + 1 + 0 < cLine; have : A.in1.units = A.units + 1 := units_in1 A; omega) fun outv ol eo => ?_))
  obtain ⟨c, hc⟩ := sortedHeap_at (vs := vs) (out := outv.toArray) new
  refine wpAny_pure ⟨_, rfl, fin _ s1.heap.objs.size outv c _ (fun b u ob => ?_) g1 o1 sz1 hc (strs_each eo) (List.mergeSort_perm _ _) ?_⟩
  · have ob1 := k1 b u ob
    have lb : b < s1.heap.objs.size := Heap.lt_size ob1
    have e := sortedHeap_old (h := s1.heap.push (seqObj "list" vs.toArray 0)) (a := s1.heap.objs.size) (vs := vs) (out := outv.toArray) (Nat.ne_of_lt lb) (by rw [size_push']; exact Nat.lt_succ_of_lt lb)
    exact e.trans (Heap.get?_push_of_some _ ob1)
  · refine List.Pairwise.imp ?_ (PySem.W.sort_pairwise (PySem.W.sortLe_total _ false _) (sgs x))
    intro x y le
    have le' : (!PySem.W.dataLt (.str y) (.str x)) = true := le
    rw [PySem.W.dataLt_str] at le'
    exact List.not_lt.mp (by simpa using le')
abbrev rSortC : RC := fun xs H Q => ∃ z : Str, xs = [.str z] ∧ z.cps.size ≤ 4000 ∧ ∀ zs : List Str, zs.Perm (sgs z) → zs.Pairwise (fun a b => a.cps.toList ≤ b.cps.toList) → ∀ p, H p = none → Q (.ref p) (upd H p (.lst (zs.map V.str)))
theorem cr_sortC {X : Cx} (hc : X.calm = true) (hu : X.A.units + 64 < cLine) : CallR X (.builtin "sorted") rSortC := by
  intro pins s σ H xs us Q I r h
  obtain ⟨z, rfl, hz, q⟩ := h
  obtain ⟨u, rfl, ⟨t, rfl⟩⟩ := vals1 r
  refine text_sorted (I.ok.hd hc) hu hz fun s' b vs c zs k g o lb at' st pm pw => ?_
  have lv : (zs.map V.str).length ≤ sizeLine := by rw [List.length_map, sizeLine_eq, pm.length_eq]; unfold sgs; rw [List.length_map, Array.length_toList]; omega
  have free : H b = none := I.hok.fresh lb
  have J : Inv X pins σ (upd H b (.lst (zs.map V.str))) { s with heap := s'.heap, gens := s'.gens, drawn := s'.drawn, toks := s'.toks } :=
    I.call (ch := []) (Un.laid k lb free) (I.hok.laid k lb ⟨lv, vs, c, vals_strs st, at'⟩) (by rw [g]; exact I.bare) (fun _ z => nomatch z)
  have e : s' = { s with heap := s'.heap, gens := s'.gens, drawn := s'.drawn, toks := s'.toks } := by
    cases s'
    cases s
    cases o
    rfl
  rw [e]
  exact ⟨.ref b, _, J, rfl, q zs pm pw b free⟩
def csort (l : List Nat) : List Nat := l.mergeSort fun a b => decide (a ≤ b)
theorem csort_perm (l : List Nat) : (csort l).Perm l := List.mergeSort_perm _ _
theorem csort_le (l : List Nat) : (csort l).Pairwise (· ≤ ·) := by
  have h := List.pairwise_mergeSort (le := fun a b : Nat => decide (a ≤ b)) (fun a b c h1 h2 => decide_eq_true (Nat.le_trans (of_decide_eq_true h1) (of_decide_eq_true h2))) (fun a b => by
    rw [Bool.or_eq_true, decide_eq_true_eq, decide_eq_true_eq]; exact Nat.le_total a b) l
  exact h.imp fun h => of_decide_eq_true h
theorem one_le {a b : Nat} (h : a ≤ b) : [a] ≤ [b] := by
  refine List.not_lt.mp fun z => ?_
  have : b < a := by
    rcases List.cons_lt_cons_iff.mp z with y | ⟨_, y⟩
    · exact y
    · exact absurd y (List.lt_irrefl _)
  omega
def pSortC : P1 := fun d Q => ∃ l : List Nat, d = .str l ∧ l.length ≤ 4000 ∧ Q .ow (.lst ((csort l).map fun c => .str [c]))
theorem o_sortC {t : Option Addr} : Sim1 t (fun x => rSortC [x]) pSortC := fun F H x d Q Qp s ht vx p k => by
  obtain ⟨l, rfl, hl, q⟩ := p
  refine ⟨S l, by rw [vw_str vx], by unfold S; simpa using hl, fun zs pm pw p np => ?_⟩
  have e1 : zs = (zs.map fun z => z.cps.toList).map S := by
    rw [List.map_map]
    have : (S ∘ fun z : Str => z.cps.toList) = id := by funext z; exact S_cps z
    rw [this, List.map_id]
  have e2 : (zs.map fun z => z.cps.toList) = (csort l).map fun c => [c] := by
    rw [sgs_S] at pm
    have p2 := pm.map fun z => z.cps.toList
    rw [List.map_map, show ((fun z : Str => z.cps.toList) ∘ S) = id by funext z; exact S_list z, List.map_id] at p2
    exact sorted_uniq (p2.trans ((csort_perm l).map _).symm) (List.pairwise_map.mpr pw) (List.pairwise_map.mpr ((csort_le l).imp one_le))
  rw [e1, e2]
  have e3 : (csort l).map (fun c => D.str [c]) = ((csort l).map fun c => [c]).map D.str := by rw [List.map_map]; rfl
  rw [e3] at q
  exact k.new s ht np (o := .lst _) (d := .lst _) (rpl_of_strs _) q
/-! ### text.index(sign) -/
theorem occ_full (x y : Str) (n : Nat) : ∀ (l : List Nat) (st : Array Nat × Nat), st.1.size = 1 → (forIn l st (StrLaws.occBody x y n 1)).run.fst = st.1
  | [], st, _ => rfl
  | a :: l, st, h => by
    rw [List.forIn_cons]
    unfold StrLaws.occBody
    rw [if_neg (fun z => by have := z.1.1.1; omega)]
    exact occ_full x y n l _ h
theorem occ_go (x : Str) (c i : Nat) (h : x.cps.toList[i]? = some c) : ∀ (m a : Nat), a ≤ i → i < a + m → (∀ j, a ≤ j → j < i → x.cps.toList[j]? ≠ some c) →
    (forIn (List.range' a m) ((#[] : Array Nat), 0) (StrLaws.occBody x ⟨#[c]⟩ x.length 1)).run.fst = #[i]
  | 0, a, h1, h2, _ => by omega
  | m + 1, a, h1, h2, hf => by
    rw [List.range'_succ, List.forIn_cons]
    by_cases e : a = i
    · subst e
      have hit := (StrLaws.subAt_one x c a).mpr h
      unfold StrLaws.occBody
      rw [if_pos ⟨⟨⟨by show (0 : Nat) < 1; omega, Nat.zero_le _⟩, hit.1⟩, hit.2⟩]
      exact occ_full x ⟨#[c]⟩ x.length _ _ rfl
    · have no : ¬ (a + (⟨#[c]⟩ : Str).length ≤ x.length ∧ Builtin.Str.subAt x ⟨#[c]⟩ a = true) := fun z => hf a (Nat.le_refl _) (by omega) ((StrLaws.subAt_one x c a).mp z)
      unfold StrLaws.occBody
      rw [if_neg (fun z => no ⟨z.1.2, z.2⟩)]
      exact occ_go x c i h m (a + 1) (by omega) (by omega) fun j h3 h4 => hf j (by omega) h4
theorem occ_first {x : Str} {c i : Nat} (h : x.cps.toList[i]? = some c) (hf : ∀ j, j < i → x.cps.toList[j]? ≠ some c) : Builtin.Str.occurrences x ⟨#[c]⟩ 0 x.length 1 = [i] := by
  rw [StrLaws.occ_eq]
  have lt : i < x.length := by
    obtain ⟨z, _⟩ := List.getElem?_eq_some_iff.mp h
    simpa [Str.length] using z
  have := occ_go x c i h (x.length + 1 - 0) 0 (Nat.zero_le _) (by omega) fun j _ h2 => hf j h2
  rw [this]
def pIndexC : P2 := fun d e Q => ∃ (l : List Nat) (c : Nat), d = .str l ∧ e = .str [c] ∧ c ∈ l ∧ Q .sh (.int (l.idxOf c : Nat))
theorem idx_firstC : ∀ (l : List Nat) (c j : Nat), j < l.idxOf c → l[j]? ≠ some c
  | [], _, _, h => by simp
  | a :: l, c, j, h => by
    rw [List.idxOf_cons] at h
    cases hb : (a == c) with
    | true => rw [hb] at h; exact absurd h (Nat.not_lt_zero _)
    | false =>
      rw [hb] at h
      have hne : a ≠ c := by rw [beq_eq_false_iff_ne] at hb; exact hb
      cases j with
      | zero => intro e; exact hne (Option.some.inj e)
      | succ j =>
        have h' : j + 1 < l.idxOf c + 1 := h
        have := idx_firstC l c j (by omega)
        simpa using this
def rIndexC : V → List V → Hp → VK → Prop := fun x xs H Q => ∃ a b i rest, x = .str a ∧ xs = [.str b] ∧ Builtin.Str.occurrences a b 0 a.length 1 = i :: rest ∧ Q (.int (i : Nat)) H
theorem mt_indexC {X : Cx} : MtR X "str.index" rIndexC := by
  intro pins s σ H x xs v us Q I rx rs h
  obtain ⟨a, b, i, rest, rfl, rfl, ho, q⟩ := h
  obtain ⟨t, rfl⟩ := rx
  obtain ⟨u, rfl, ⟨t2, rfl⟩⟩ := vals1 rs
  exact PySem.SC.index ho ⟨.int (i : Nat), H, I.tok _, ⟨_, rfl⟩, q⟩
theorem o_indexC {t : Option Addr} : Sim2 t (fun x y => rIndexC x [y]) pIndexC := fun F H x y d e Q Qp s ht vx vy p k => by
  obtain ⟨l, c, rfl, rfl, hm, q⟩ := p
  have hlt : l.idxOf c < l.length := List.idxOf_lt_length_of_mem hm
  refine ⟨S l, S [c], l.idxOf c, [], vw_str vx, by rw [vw_str vy], occ_first (x := S l) (c := c) ?_ ?_, k.val s (d := .int _) rfl q⟩
  · rw [S_list, List.getElem?_eq_getElem hlt, List.getElem_idxOf]
  · rw [S_list]; exact idx_firstC l c
def qSM (p : P2) (a b : QE) : QE := fun δ Q => a δ fun _ d => (∃ l : List Nat, d = .str l) ∧ b δ fun _ e => p d e Q
theorem s_SM {K : PySem.W.Frag} {c : Cl} {t : Option Addr} {E : XE} {Ep : XP} {ta tb : TE} {qa qb : QE} {r : V → List V → Hp → VK → Prop} {p : P2} (h : Sim2 t (fun x y => r x [y]) p) (ha : SimE K c t E Ep ta qa) (hb : SimE K c t E Ep tb qb) : SimE K c t E Ep (tM1 r ta tb) (qSM p qa qb) := fun F0 H0 L F δ σ H Q Qp er rs hq k => by
  refine ha.vw er rs hq fun x F1 H1 m1 d1 g1 v1 _ q1 => ?_
  obtain ⟨⟨l, rfl⟩, q1⟩ := q1
  refine ⟨⟨S l, vw_str v1⟩, ?_⟩
  have rs1 := rs.grow g1
  refine hb.vw er rs1 q1 fun y F2 H2 m2 d2 g2 v2 _ q2 => ?_
  have st2 := (rs1.grow g2).st
  exact h F2 H2 x y (.str l) d2 Q Qp g2.s st2.dr (by rw [vw_str v1]; exact .inl rfl) v2 q2 fun z F3 H3 m d g3 rv qd => k z F3 H3 m d ((g1.trans g2 rs.st.dr).trans g3 rs.st.dr) ((rv.pre g2).pre g1) qd
theorem h_SM {p : P2} {a b : QE} {δ : DS} {Q : Md → D → Prop} (h : a δ fun _ d => (∃ l : List Nat, d = .str l) ∧ b δ fun _ e => p d e Q) : qSM p a b δ Q := h
theorem h_indexC {l : List Nat} {c : Nat} {Q : Md → D → Prop} (hm : c ∈ l) (q : Q .sh (.int (l.idxOf c : Nat))) : pIndexC (.str l) (.str [c]) Q := ⟨l, c, rfl, rfl, hm, q⟩
end Sw
end
section
local macro_rules | `(tactic| walk_at "go1") => `(tactic| first
  | with_reducible refine Sw.g_seqasg ?_ | with_reducible refine Sw.g_op ?_ | with_reducible refine Sw.g_var rfl ?_ | with_reducible refine Sw.g_c ?_ | with_reducible refine Sw.g_I0 ?_
  | with_reducible refine Sw.g_cons ?_ | with_reducible refine Sw.g_nil ?_ | with_reducible refine Sw.g_call ?_ | with_reducible refine Sw.g_cb ?_ | with_reducible refine Sw.g_test ?_ | with_reducible refine Sw.g_bl ?_
  | with_reducible refine Sw.g_seqdrop ?_ | with_reducible refine Sw.g_seqsub ?_ | with_reducible refine Sw.g_asg ?_ | with_reducible refine Sw.g_asgsub ?_ | with_reducible refine Sw.g_ret ?_ | with_reducible refine Sw.g_drop ?_ | with_reducible refine Sw.g_if ?_ | with_reducible refine Sw.g_next ?_ | with_reducible refine Sw.g_name ?_
  | with_reducible refine Sw.g_B ?_ | with_reducible refine Sw.g_not ?_ | with_reducible refine Sw.g_and ?_ | with_reducible refine Sw.g_or ?_ | with_reducible refine Sw.g_andV ?_ | with_reducible refine Sw.g_orV ?_ | with_reducible refine Sw.g_notV ?_
  | with_reducible refine Sw.g_ifE ?_ | with_reducible refine Sw.g_chain ?_ | with_reducible refine Sw.g_un ?_ | with_reducible refine Sw.g_tup ?_ | with_reducible refine Sw.g_lst ?_ | with_reducible refine Sw.g_sl ?_ | with_reducible refine Sw.g_part ?_ | with_reducible refine Sw.g_nopart ?_
  | with_reducible refine Sw.g_U ?_ | with_reducible refine Sw.g_eq rfl ?_ | with_reducible refine Sw.g_ne rfl ?_ | with_reducible refine Sw.g_int ?_ | with_reducible refine Sw.g_yes ?_ | with_reducible refine L2.iteT ?_ | with_reducible refine L2.iteF ?_ | with_reducible refine Sw.iteNT ?_ | with_reducible refine Sw.iteNF ?_ | with_reducible refine Sw.g_m1 ?_ | with_reducible refine Sw.g_bm ?_ | with_reducible refine ⟨Sw.ty_lst (by assumption), ?_⟩ | with_reducible refine Sw.g_sput ?_ | with_reducible refine Sw.g_put ?_ | with_reducible refine Sw.g_dget2 ?_ | with_reducible refine Sw.g_dget ?_ | with_reducible refine Sw.g_dK ?_ | with_reducible refine Sw.g_dT ?_ | with_reducible refine Sw.g_dnotin ?_ | with_reducible refine Sw.g_din ?_ | with_reducible refine Sw.g_bm0 ?_
  | with_reducible refine Sw.g_ixL (by assumption) rfl ?_ | with_reducible refine Sw.g_ixT (by assumption) rfl ?_)
local macro_rules | `(tactic| walk_at "go") => `(tactic| repeat walk_at "go1")
local macro_rules | `(tactic| walk_at "bd") => `(tactic| repeat (first | with_reducible exact Sw.all_nil | refine Sw.all_cons ⟨_, rfl, by omega, by omega⟩ ?_))
local macro_rules | `(tactic| walk_at "new") => `(tactic| (refine ⟨Nat.le_of_ble_eq_true rfl, fun p np => ?_⟩; generalize hX : L2.upd _ p _ = H'; have sm : L2.Same _ H' := hX ▸ Sw.same_upd np; have hp : H' p = some _ := hX ▸ L2.upd_same; clear hX))
namespace Sw
open PySem PySem.Spec PyProof.Rows L2 SX
/-! ### max(text, text) -/
theorem cmp_textsG {prog : Program} {w : World} {A : Around} {P : Nat → Value → Prop} (val : Nat → Str) (hval : ∀ i v, P i v → ∃ t, v = .str (val i) t) : CmpOf prog w A .Gt P (fun i j => decide ((val j).cps.toList < (val i).cps.toList)) := by
  intro i j vi vj s Q E hi hj h
  obtain ⟨t1, e1⟩ := hval i vi hi
  obtain ⟨t2, e2⟩ := hval j vj hj
  rw [e1, e2]
  exact PySem.P.gt_str h
theorem max_texts {prog : Program} {w : World} {A : Around} {E : Value → Shared → Prop} {s : Shared} {a b : Str} {t u : Tok} {Q : Value → Shared → Prop} (hh : A.handled = none)
    (h : ∀ h' tk, (∀ c o, s.heap.get? c = some o → h'.get? c = some o) → Q (if a.cps.toList < b.cps.toList then .str b u else .str a t) { s with heap := h', toks := tk }) :
    wpAny (model prog w) A (call (.builtin "max") [.str a t, .str b u]) Q E s := by
  have n1 : (s.heap.push { cls := .type "tuple", data := .seq #[.str a t, .str b u] }).objs.size = s.heap.objs.size + 1 := Heap.size_push ..
  have tup : (s.heap.push { cls := .type "tuple", data := .seq #[.str a t, .str b u] }).IsTuple s.heap.objs.size #[.str a t, .str b u] := ⟨_, Heap.get?_push_size _ rfl, rfl, 0, rfl⟩
  have at2 : ∀ (i : Nat) (v : Value), (#[Value.str a t, .str b u] : Array Value)[i]? = some v → ∃ k, v = .str (if i = 0 then a else b) k := fun i v hv => by
    match i, hv with
    | 0, hv => exact ⟨t, by simpa using hv.symm⟩
    | 1, hv => exact ⟨u, by simpa using hv.symm⟩
    | n + 2, hv => simp at hv
  refine call_max_two (wpAny_pyIter_tuple tup ?_)
  refine ⟨_, [_, s.heap.objs.size], [_], _, _, _, _, rfl, Walks.tuple (A := A.in1) hh _ s.heap.objs.size (by show s.heap.objs.size ≠ (s.heap.push _).objs.size; rw [Heap.size_push]; exact Nat.ne_of_lt (Nat.lt_succ_self _)) #[.str a t, .str b u],
    ⟨⟨_, Heap.get?_push_size _ rfl, rfl, rfl⟩, tup.push _⟩, fun c hc => ?_, Nat.le_of_ble_eq_true rfl, cmp_textsG (fun i => if i = 0 then a else b) at2, fun v h' tk hv hk => ?_⟩
  · show c < ((s.heap.push _).push _).objs.size
    rw [Heap.size_push, n1]
    rcases List.mem_cons.mp hc with z | z
    · have z' : c = (s.heap.push { cls := .type "tuple", data := .seq #[.str a t, .str b u] }).objs.size := z
      rw [z', n1]; exact Nat.lt_succ_self _
    · rw [List.mem_singleton.mp z]; exact Nat.lt_succ_of_lt (Nat.lt_succ_self _)
  · have old : ∀ c o, s.heap.get? c = some o → h'.get? c = some o := fun c o ec => by
      refine hk c o (fun z => ?_) (Heap.get?_push_of_some _ (Heap.get?_push_of_some _ ec))
      have lc : c < s.heap.objs.size := Heap.lt_size ec
      have z' : c = (s.heap.push { cls := .type "tuple", data := .seq #[.str a t, .str b u] }).objs.size := List.mem_singleton.mp z
      rw [z', n1] at lc
      exact absurd lc (Nat.not_lt.mpr (Nat.le_succ _))
    have q := h h' tk old
    have ev : v = if a.cps.toList < b.cps.toList then Value.str b u else Value.str a t := by
      have hv' : (#[Value.str a t, .str b u] : Array Value)[argBest (fun i j => decide ((if j = 0 then a else b).cps.toList < (if i = 0 then a else b).cps.toList)) 1]? = some v := hv
      by_cases hb : a.cps.toList < b.cps.toList
      · have e1 : argBest (fun i j => decide ((if j = 0 then a else b).cps.toList < (if i = 0 then a else b).cps.toList)) 1 = 1 := by
          unfold argBest argBest
          exact if_pos (show decide (a.cps.toList < b.cps.toList) = true from decide_eq_true hb)
        rw [e1] at hv'
        rw [if_pos hb]
        simpa using hv'.symm
      · have e1 : argBest (fun i j => decide ((if j = 0 then a else b).cps.toList < (if i = 0 then a else b).cps.toList)) 1 = 0 := by
          unfold argBest argBest
          exact if_neg (show ¬ decide (a.cps.toList < b.cps.toList) = true from fun z => hb (of_decide_eq_true z))
        rw [e1] at hv'
        rw [if_neg hb]
        simpa using hv'.symm
    rw [ev]
    exact q
abbrev rMax2S : RC := fun xs H Q => ∃ a b : Str, xs = [.str a, .str b] ∧ Q (.str (if a.cps.toList < b.cps.toList then b else a)) H
theorem call_max2S {X : Cx} (hc : X.calm = true) : CallR X (.builtin "max") rMax2S := by
  intro pins s σ H xs us Q I r h
  obtain ⟨a, b, rfl, q⟩ := h
  obtain ⟨u, v, rfl, ⟨t, rfl⟩, ⟨t', rfl⟩⟩ := vals2 r
  refine max_texts (I.ok.hd hc) fun h' tk k => ⟨_, H, I.kept k, ?_, q⟩
  by_cases hb : a.cps.toList < b.cps.toList
  · rw [if_pos hb, if_pos hb]; exact ⟨_, rfl⟩
  · rw [if_neg hb, if_neg hb]; exact ⟨_, rfl⟩
def maxT (a b : List Nat) : List Nat := if a < b then b else a
def pMax2S : P2 := fun d e Q => ∃ a b : List Nat, d = .str a ∧ e = .str b ∧ Q .sh (.str (maxT a b))
theorem o_max2S {t : Option Addr} : Sim2 t (fun x y => rMax2S [x, y]) pMax2S := fun F H x y d e Q Qp s ht vx vy p k => by
  obtain ⟨a, b, rfl, rfl, q⟩ := p
  refine ⟨S a, S b, by rw [vw_str vx, vw_str vy], k.val s (d := .str (maxT a b)) ?_ q⟩
  show V.str _ = V.str (S (maxT a b))
  rw [S_list, S_list]
  unfold maxT
  split <;> rfl
theorem h_max2S {a b : List Nat} {Q : Md → D → Prop} (q : Q .sh (.str (maxT a b))) : pMax2S (.str a) (.str b) Q := ⟨a, b, rfl, rfl, q⟩
end Sw
end
section
local macro_rules | `(tactic| walk_at "go1") => `(tactic| first
  | with_reducible refine Sw.g_seqasg ?_ | with_reducible refine Sw.g_op ?_ | with_reducible refine Sw.g_var rfl ?_ | with_reducible refine Sw.g_c ?_ | with_reducible refine Sw.g_I0 ?_
  | with_reducible refine Sw.g_cons ?_ | with_reducible refine Sw.g_nil ?_ | with_reducible refine Sw.g_call ?_ | with_reducible refine Sw.g_cb ?_ | with_reducible refine Sw.g_test ?_ | with_reducible refine Sw.g_bl ?_
  | with_reducible refine Sw.g_seqdrop ?_ | with_reducible refine Sw.g_seqsub ?_ | with_reducible refine Sw.g_asg ?_ | with_reducible refine Sw.g_asgsub ?_ | with_reducible refine Sw.g_ret ?_ | with_reducible refine Sw.g_drop ?_ | with_reducible refine Sw.g_if ?_ | with_reducible refine Sw.g_next ?_ | with_reducible refine Sw.g_name ?_
  | with_reducible refine Sw.g_B ?_ | with_reducible refine Sw.g_not ?_ | with_reducible refine Sw.g_and ?_ | with_reducible refine Sw.g_or ?_ | with_reducible refine Sw.g_andV ?_ | with_reducible refine Sw.g_orV ?_ | with_reducible refine Sw.g_notV ?_
  | with_reducible refine Sw.g_ifE ?_ | with_reducible refine Sw.g_chain ?_ | with_reducible refine Sw.g_un ?_ | with_reducible refine Sw.g_tup ?_ | with_reducible refine Sw.g_lst ?_ | with_reducible refine Sw.g_sl ?_ | with_reducible refine Sw.g_part ?_ | with_reducible refine Sw.g_nopart ?_
  | with_reducible refine Sw.g_U ?_ | with_reducible refine Sw.g_eq rfl ?_ | with_reducible refine Sw.g_ne rfl ?_ | with_reducible refine Sw.g_int ?_ | with_reducible refine Sw.g_yes ?_ | with_reducible refine L2.iteT ?_ | with_reducible refine L2.iteF ?_ | with_reducible refine Sw.iteNT ?_ | with_reducible refine Sw.iteNF ?_ | with_reducible refine Sw.g_m1 ?_ | with_reducible refine Sw.g_bm ?_ | with_reducible refine ⟨Sw.ty_lst (by assumption), ?_⟩ | with_reducible refine Sw.g_sput ?_ | with_reducible refine Sw.g_put ?_ | with_reducible refine Sw.g_dget2 ?_ | with_reducible refine Sw.g_dget ?_ | with_reducible refine Sw.g_dK ?_ | with_reducible refine Sw.g_dT ?_ | with_reducible refine Sw.g_dnotin ?_ | with_reducible refine Sw.g_din ?_ | with_reducible refine Sw.g_bm0 ?_
  | with_reducible refine Sw.g_ixL (by assumption) rfl ?_ | with_reducible refine Sw.g_ixT (by assumption) rfl ?_)
local macro_rules | `(tactic| walk_at "go") => `(tactic| repeat walk_at "go1")
local macro_rules | `(tactic| walk_at "bd") => `(tactic| repeat (first | with_reducible exact Sw.all_nil | refine Sw.all_cons ⟨_, rfl, by omega, by omega⟩ ?_))
local macro_rules | `(tactic| walk_at "new") => `(tactic| (refine ⟨Nat.le_of_ble_eq_true rfl, fun p np => ?_⟩; generalize hX : L2.upd _ p _ = H'; have sm : L2.Same _ H' := hX ▸ Sw.same_upd np; have hp : H' p = some _ := hX ▸ L2.upd_same; clear hX))
namespace Sw
open PySem PySem.Spec PyProof.Rows L2 SX
/-! ### zip of two texts -/
def ItzT (x y : Str) : It :=
  ⟨fun i _ => i < x.cps.size ∧ i < y.cps.size,
    fun i H v H' => ∃ T c1 c2, v = .ref T ∧ H T = none ∧ H' = upd H T (.tup [.str ⟨#[c1]⟩, .str ⟨#[c2]⟩]) ∧ x.cps[i]? = some c1 ∧ y.cps[i]? = some c2,
    fun i _ => i = min x.cps.size y.cps.size⟩
theorem turn_zipT {P : Program} {w : World} {K : PySem.W.Frag} {elts : List Expr} {kk : Nat} {tpos : Pos} {z TI TO i1 i2 : Addr} {x y : Str} {t u : Tok} (S : ZipSep2 z TI TO i1 i2 [i1] [i2]) :
    Turn P w K (.Tuple elts kk tpos) (ItzT x y) [z, TI, TO, i1, i2] z (fun i h => IsZip h z TI TO .none ∧ IsTupOf2 h TI (.ref i1) (.ref i2) ∧ (∃ x y, IsTupOf2 h TO x y) ∧ h.IsStrIter i1 (strIterType x) x t i ∧ h.IsStrIter i2 (strIterType y) y u i) where
  mem := by simp
  obj := fun i h st c hc => by
    obtain ⟨hz, hTI, ⟨x, y, hTO⟩, ⟨o1, e1, _, d1⟩, ⟨o2, e2, _, d2⟩⟩ := st
    have e' : c = z ∨ c = TI ∨ c = TO ∨ c = i1 ∨ c = i2 := by simpa using hc
    rcases e' with q | q | q | q | q
    · rw [q]; exact ⟨_, hz, fun v q => nomatch q⟩
    · rw [q]; exact ⟨_, hTI, fun v q => nomatch q⟩
    · rw [q]; exact ⟨_, hTO, fun v q => nomatch q⟩
    · rw [q]; exact ⟨o1, e1, fun v q => by rw [d1] at q; cases q⟩
    · rw [q]; exact ⟨o2, e2, fun v q => by rw [d2] at q; cases q⟩
  keep := fun i h h' st k => by
    obtain ⟨hz, hTI, ⟨x, y, hTO⟩, h1, h2⟩ := st
    exact ⟨k z (by simp) _ hz, k TI (by simp) _ hTI, ⟨x, y, k TO (by simp) _ hTO⟩, let ⟨o, ho, r⟩ := h1; ⟨o, k i1 (by simp) o ho, r⟩, let ⟨o, ho, r⟩ := h2; ⟨o, k i2 (by simp) o ho, r⟩⟩
  item := by
    intro X hP hw hK hc i pins s σ H E I hf st hg
    subst hP hw hK
    obtain ⟨hz, hTI, ⟨x0, y0, hTO⟩, h1, h2⟩ := st
    obtain ⟨hx, hy⟩ := hg
    have hzl : z < s.heap.objs.size := Heap.lt_size hz
    have W := WalksT.zipD2 S (Draws.text (prog := X.prog) (w := X.w) (A := X.A.in1) (I.ok.hd hc) i1 x t) (Draws.text (prog := X.prog) (w := X.w) (A := X.A.in1) (I.ok.hd hc) i2 y u)
    refine W.item i s _ _ (by omega) ⟨hz, hTI, ⟨_, _, hTO⟩, h1, h2⟩ fun T vals h' tk ⟨u1, u2, ⟨c1, tu1, hc1, e1⟩, ⟨c2, tu2, hc2, e2⟩, ev⟩ hT hTt hm hk => ?_
    have ap := W.apart i T h' hm
    refine ⟨_, rfl, W.go elts kk tpos i T { s with heap := h', toks := tk } _ _ hm fun h'' st' hk' => ?_⟩
    subst e1 e2 ev
    obtain ⟨oT, hoT, cT, dT⟩ := hTt
    have hT2 : h''.get? T = some oT := hk' T oT ap hoT
    have new : ObjOk X.prog X.w (upd H T (.tup [.str ⟨#[c1]⟩, .str ⟨#[c2]⟩])) h'' T (.tup [.str ⟨#[c1]⟩, .str ⟨#[c2]⟩]) :=
      ⟨by show 2 ≤ sizeLine; decide, [.str ⟨#[c1]⟩ tu1, .str ⟨#[c2]⟩ tu2], .cons ⟨tu1, rfl⟩ (.cons ⟨tu2, rfl⟩ .nil), ⟨oT, hT2, cT, dT⟩⟩
    have sub : ∀ c, c ∉ [z, TI, TO, i1, i2] → c ∉ [z, TO, i1, i2] := fun c h1 h2 => h1 (by
      have : c = z ∨ c = TO ∨ c = i1 ∨ c = i2 := by simpa using h2
      rcases this with q | q | q | q <;> simp [q])
    have I1 : Inv X pins σ (upd H T (.tup [.str ⟨#[c1]⟩, .str ⟨#[c2]⟩])) { s with heap := h'', toks := tk } :=
      I.turnedNew (t' := tk) (ch := [z, TI, TO, i1, i2]) (fun c o hb q => hk' c o (sub c hb) (hk c o (sub c hb) q)) hf hT new
    refine ⟨.ref T, _, I1, rfl, ⟨T, c1, c2, rfl, I.hok.fresh hT, rfl, hc1, hc2⟩, ⟨st'.1, st'.2.1, st'.2.2.1, st'.2.2.2.1, st'.2.2.2.2⟩, fun c hcm => ?_⟩
    have hlt : c < s.heap.objs.size := by
      have e' : c = z ∨ c = TI ∨ c = TO ∨ c = i1 ∨ c = i2 := by simpa using hcm
      rcases e' with q | q | q | q | q
      · rw [q]; exact hzl
      · rw [q]; exact Heap.lt_size hTI
      · rw [q]; exact Heap.lt_size hTO
      · rw [q]; obtain ⟨_, e1, _⟩ := h1; exact Heap.lt_size e1
      · rw [q]; obtain ⟨_, e2, _⟩ := h2; exact Heap.lt_size e2
    rw [upd_ne (Nat.ne_of_lt (Nat.lt_of_lt_of_le hlt hT))]
    exact (hf c hcm).1
  done := by
    intro X hP hw hK hc i pins s σ H E I hf st hg
    subst hP hw hK
    obtain ⟨hz, hTI, ⟨x0, y0, hTO⟩, h1, h2⟩ := st
    have hend : i = min x.cps.size y.cps.size := hg
    have W := WalksT.zipD2 S (Draws.text (prog := X.prog) (w := X.w) (A := X.A.in1) (I.ok.hd hc) i1 x t) (Draws.text (prog := X.prog) (w := X.w) (A := X.A.in1) (I.ok.hd hc) i2 y u)
    rw [hend] at h1 h2
    refine W.done s _ _ ⟨hz, hTI, ⟨_, _, hTO⟩, h1, h2⟩ fun h' tk hk => ⟨rfl, I.turnedL (t' := tk) (ch := [z, TI, TO, i1, i2]) (fun c o hb q => hk c o (fun h2 => hb (by
      have : c = z ∨ c = TO ∨ c = i1 ∨ c = i2 := by simpa using h2
      rcases this with q | q | q | q <;> simp [q])) q) hf⟩
  self := fun A i s Q E st h => wpAny_pyIter_zip st.1 h
def iZipT (ta : TA) : TI := fun σ H R => ta σ H fun vs H1 => ∃ x y, vs = [.str x, .str y] ∧ R (ItzT x y) H1
theorem pi_zipT {X : Cx} {e e2 : Expr} {ta : TA} {p pos tpos : Pos} {elts : List Expr} {kk : Nat} (hg : Gl X "zip") (hm : X.mg "zip" = none) (ha : PA X [e, e2] ta)
    (hs : starEach [e, e2] X.env = (false, eval e X.env) :: starEach [e2] X.env := by rfl) (hpl : (backTo pos (starEach [e2] X.env)).any (·.1) = false := by rfl) :
    PI X (.Tuple elts kk tpos) (.Call (.Name "zip" p) [e, e2] [] pos) (iZipT ta) := by
  refine ⟨fun pins s σ H R I h => ?_⟩
  refine Call_ (ld_blt I hg hm PyProof.Rows.boot_zip (PyProof.Rows.callWith_type1 (thn (ha.run pos pins s σ H _ I h) fun us s1 ⟨vs, H1, I1, r1, q1⟩ => ?_) hs hpl))
  obtain ⟨x, y, ex, q⟩ := q1
  subst ex
  cases r1 with
  | cons r rr =>
    cases rr with
    | cons r' rr =>
      cases rr
      obtain ⟨t, rfl⟩ := r
      obtain ⟨t', rfl⟩ := r'
      refine zip_begins2 (begins_text x t) (begins_text y t') trivial trivial fun h' hz hTI hTO h1 h2 hsz hk => wpAny_pyIter_zip hz ?_
      have I2 : Inv X pins σ H1 { s1 with heap := h' } := I1.kept (t' := s1.toks) hk
      refine ⟨s1.heap.objs.size + 4, [s1.heap.objs.size + 4, s1.heap.objs.size + 2, s1.heap.objs.size + 3, s1.heap.objs.size, s1.heap.objs.size + 1], _, _, H1, rfl, I2, turn_zipT (t := t) (u := t') (zip_sep2 (fp1 := []) (fp2 := []) (fun b hb => nomatch hb) (fun b hb => nomatch hb)), ⟨hz, hTI, ⟨_, _, hTO⟩, ⟨_, h1, rfl, rfl⟩, ⟨_, h2, rfl, rfl⟩⟩, fun c hcm => ?_, q⟩
      have e' : c = s1.heap.objs.size + 4 ∨ c = s1.heap.objs.size + 2 ∨ c = s1.heap.objs.size + 3 ∨ c = s1.heap.objs.size ∨ c = s1.heap.objs.size + 1 := by simpa using hcm
      have hle : s1.heap.objs.size ≤ c := by
        rcases e' with z | z | z | z | z
        · rw [z]; exact Nat.le_add_right _ _
        · rw [z]; exact Nat.le_add_right _ _
        · rw [z]; exact Nat.le_add_right _ _
        · rw [z]; exact Nat.le_refl _
        · rw [z]; exact Nat.le_add_right _ _
      exact I1.fpOk hle (I1.hok.fresh hle)
def qiZipT (a b : QE) : QI := fun δ Q => a δ fun _ d => b δ fun _ e => ∃ l l' : List Nat, d = .str l ∧ e = .str l' ∧ Q .sh ((l.zip l').map fun p => .tup [.str [p.1], .str [p.2]])
section
variable {K : PySem.W.Frag} {c : Cl} {t : Option Addr} {E : XE} {Ep : XP} {te ta tb tc : TE} {qe qa qb qc : QE}
theorem yields_zipT {F1 H1 : Hp} {l l' : List Nat} (s : Same F1 H1) : Yields (ItzT (S l) (S l')) F1 H1 ((l.zip l').map fun p => .tup [.str [p.1], .str [p.2]]) := by
  refine ⟨fun i d e => ?_, ?_⟩
  · rw [List.getElem?_map] at e
    obtain ⟨p, e1, rfl⟩ := Option.map_eq_some_iff.mp e
    obtain ⟨h3, h4⟩ := List.getElem?_zip_eq_some.mp e1
    have hl : i < l.length := (List.getElem?_eq_some_iff.mp h3).1
    have hl' : i < l'.length := (List.getElem?_eq_some_iff.mp h4).1
    refine ⟨⟨by show i < (S l).cps.size; simpa using hl, by show i < (S l').cps.size; simpa using hl'⟩, fun v H2 ⟨T, c1, c2, e1, e2, e3, e4, e5⟩ => ?_⟩
    have z1 : l[i]? = some c1 := by simpa using e4
    have z2 : l'[i]? = some c2 := by simpa using e5
    rw [h3] at z1
    rw [h4] at z2
    cases z1
    cases z2
    subst e1 e3
    exact ⟨_, .new s e2, T, _, rfl, upd_same, _, _, rfl, rfl, _, _, rfl, rfl, rfl⟩
  · show ((l.zip l').map fun p => D.tup [.str [p.1], .str [p.2]]).length = min (S l).cps.size (S l').cps.size
    rw [List.length_map, List.length_zip]
    simp
theorem si_zipT (ha : SimE K c t E Ep ta qa) (hb : SimE K c t E Ep tb qb) : SimI K c t E Ep (iZipT (tCons ta (tCons tb tNil))) (qiZipT qa qb) := fun F0 H0 L F δ σ H R Qp er rs hq k => by
  refine ha.vw er rs hq fun x F1 H1 m d g v rp q => ?_
  refine hb.vw er (rs.grow g) q fun y F2 H2 m2 e g2 v2 rp2 q2 => ?_
  obtain ⟨l, l', rfl, rfl, q3⟩ := q2
  have v1 := v.grow g2
  refine ⟨S l, S l', by rw [vw_str v1, vw_str v2], k _ F2 H2 _ _ (g.trans g2 rs.st.dr) (fun F3 H3 g3 => ?_) (fun hm F3 H3 s1 s2 => ?_) q3⟩
  · exact yields_zipT g3.s
  · exact yields_zipT s2
theorem h_iZipT {a b : QE} {δ : DS} {QI' : Md → List D → Prop} (h : a δ fun _ d => b δ fun _ e => ∃ l l' : List Nat, d = .str l ∧ e = .str l' ∧ QI' .sh ((l.zip l').map fun p => .tup [.str [p.1], .str [p.2]])) : qiZipT a b δ QI' := h
end
end Sw
end
section
local macro_rules | `(tactic| walk_at "go1") => `(tactic| first
  | with_reducible refine Sw.g_seqasg ?_ | with_reducible refine Sw.g_op ?_ | with_reducible refine Sw.g_var rfl ?_ | with_reducible refine Sw.g_c ?_ | with_reducible refine Sw.g_I0 ?_
  | with_reducible refine Sw.g_cons ?_ | with_reducible refine Sw.g_nil ?_ | with_reducible refine Sw.g_call ?_ | with_reducible refine Sw.g_cb ?_ | with_reducible refine Sw.g_test ?_ | with_reducible refine Sw.g_bl ?_
  | with_reducible refine Sw.g_seqdrop ?_ | with_reducible refine Sw.g_seqsub ?_ | with_reducible refine Sw.g_asg ?_ | with_reducible refine Sw.g_asgsub ?_ | with_reducible refine Sw.g_ret ?_ | with_reducible refine Sw.g_drop ?_ | with_reducible refine Sw.g_if ?_ | with_reducible refine Sw.g_next ?_ | with_reducible refine Sw.g_name ?_
  | with_reducible refine Sw.g_B ?_ | with_reducible refine Sw.g_not ?_ | with_reducible refine Sw.g_and ?_ | with_reducible refine Sw.g_or ?_ | with_reducible refine Sw.g_andV ?_ | with_reducible refine Sw.g_orV ?_ | with_reducible refine Sw.g_notV ?_
  | with_reducible refine Sw.g_ifE ?_ | with_reducible refine Sw.g_chain ?_ | with_reducible refine Sw.g_un ?_ | with_reducible refine Sw.g_tup ?_ | with_reducible refine Sw.g_lst ?_ | with_reducible refine Sw.g_sl ?_ | with_reducible refine Sw.g_part ?_ | with_reducible refine Sw.g_nopart ?_
  | with_reducible refine Sw.g_U ?_ | with_reducible refine Sw.g_eq rfl ?_ | with_reducible refine Sw.g_ne rfl ?_ | with_reducible refine Sw.g_int ?_ | with_reducible refine Sw.g_yes ?_ | with_reducible refine L2.iteT ?_ | with_reducible refine L2.iteF ?_ | with_reducible refine Sw.iteNT ?_ | with_reducible refine Sw.iteNF ?_ | with_reducible refine Sw.g_m1 ?_ | with_reducible refine Sw.g_bm ?_ | with_reducible refine ⟨Sw.ty_lst (by assumption), ?_⟩ | with_reducible refine Sw.g_sput ?_ | with_reducible refine Sw.g_put ?_ | with_reducible refine Sw.g_dget2 ?_ | with_reducible refine Sw.g_dget ?_ | with_reducible refine Sw.g_dK ?_ | with_reducible refine Sw.g_dT ?_ | with_reducible refine Sw.g_dnotin ?_ | with_reducible refine Sw.g_din ?_ | with_reducible refine Sw.g_bm0 ?_
  | with_reducible refine Sw.g_ixL (by assumption) rfl ?_ | with_reducible refine Sw.g_ixT (by assumption) rfl ?_)
local macro_rules | `(tactic| walk_at "go") => `(tactic| repeat walk_at "go1")
local macro_rules | `(tactic| walk_at "bd") => `(tactic| repeat (first | with_reducible exact Sw.all_nil | refine Sw.all_cons ⟨_, rfl, by omega, by omega⟩ ?_))
local macro_rules | `(tactic| walk_at "new") => `(tactic| (refine ⟨Nat.le_of_ble_eq_true rfl, fun p np => ?_⟩; generalize hX : L2.upd _ p _ = H'; have sm : L2.Same _ H' := hX ▸ Sw.same_upd np; have hp : H' p = some _ := hX ▸ L2.upd_same; clear hX))
namespace Sw
open PySem PySem.Spec PyProof.Rows L2 SX
/-! ### comprehensions over the keys of a dict -/
def tLcD (td : TE) (g : TG) (tt : TT) (te : TE) (vs : List Nat) : TE := fun σ H Q => tLockE (tLc (iKeys td) g tt te vs) σ H Q ∨ tLc (iKeys td) g tt te vs σ H Q
theorem pe_lcD {X : Cx} {e : Expr} {td te : TE} {g : TG} {tt : TT} {vs : List Nat} (h : PE X e (tLc (iKeys td) g tt te vs)) : PE X e (tLcD td g tt te vs) :=
  ⟨fun pins s σ H Q I hw => hw.elim (fun w => (pe_lock h).run pins s σ H Q I w) fun w => h.run pins s σ H Q I w⟩
def qLcD (e : QE) (g : QG) (tt : QT) (el : QE) (vs : List Nat) : QE := fun δ Q => e δ fun m d => m ≠ .pk ∧ ((∃ kvs, d = .dT kvs ∧ lcGo (wipeD δ vs) g tt el (fun acc => Q .ow (.lst acc)) (kvs.map fun e => .tup (e.1.map dKey)) []) ∨ ∃ kvs, d = .dK kvs ∧ lcGo (wipeD δ vs) g tt el (fun acc => Q .ow (.lst acc)) (kvs.map fun e => dKey e.1) [])
section
variable {K : PySem.W.Frag} {c : Cl} {t : Option Addr} {E : XE} {Ep : XP} {td te : TE} {qd qe : QE} {tt : TT} {qt : QT} {g : TG} {qg : QG} {vs nm : List Nat}
theorem lcd_core (hg : SimG K t nm g qg) (hw : ∀ i ∈ nm, i ∈ vs) (ht : SimT K c t E Ep tt qt) (he : SimE K c t E Ep te qe) {F0 H0 L F H : Hp} {δ : DS} {σ : L2.St} {J : It} {ds : List D} {Q : VK} {Qp : Md → D → Prop} (er : ER K c t F0 H0 L E Ep) (rs : RS K t F0 H0 L F δ σ H) (ok : ItOkP t J F H ds)
    (q : lcGo (wipeD δ vs) qg qt qe (fun acc => Qp .ow (.lst acc)) ds []) (k : ∀ x F' H' m d, Grow t F H F' H' → RV t H F' H' x m d → Qp m d → Q x H') : tLc (fun _ H' R => R J H') g tt te vs σ H Q := by
  intro Dl nD
  have tD : some Dl ≠ t := tape_ne rs.st.dr nD
  refine ⟨fun i m H' => m = ds.length - i ∧ i ≤ ds.length ∧ ∃ F' xs acc, Grow t F H F' H' ∧ H' Dl = some (.lst xs) ∧ F' Dl = none ∧ RpL F' acc xs ∧ lcGo (wipeD δ vs) qg qt qe (fun acc => Qp .ow (.lst acc)) (ds.drop i) acc,
    ⟨ds.length, by omega, by omega, F, [], [], .own rs.st.s nD, upd_same, rs.st.s.free nD, rfl, by rw [List.drop_zero]; exact q⟩, ?_⟩
  rintro i m H' ⟨rfl, hi, F', xs, acc, g', hD, fD, ra, q'⟩
  have y := ok F' H' g'
  have r' := rs.grow g'
  by_cases hlt : i < ds.length
  · have hd := List.getElem?_eq_getElem hlt
    generalize ds[i] = d at hd
    obtain ⟨y1, y2⟩ := y.1 i d hd
    refine .inr ⟨y1, fun H2 => ∃ F2 xs acc, Grow t F H F2 H2 ∧ H2 Dl = some (.lst xs) ∧ F2 Dl = none ∧ RpL F2 acc xs ∧ lcGo (wipeD δ vs) qg qt qe (fun acc => Qp .ow (.lst acc)) (ds.drop (i + 1)) acc, fun H2 h => ⟨ds.length - (i + 1), by omega, rfl, by omega, h⟩, fun x H2 hy => ?_⟩
    obtain ⟨F2, g2, rp⟩ := y2 x H2 hy
    replace g2 := g2.any (t := t)
    rw [drop_at hd] at q'
    refine hg F0 H0 L F2 (wipeD δ vs) (L2.wipe σ vs) H2 _ _ x d ((r'.grow g2).wipe vs) rp q' fun δ3 σ3 r3 w3 q3 => ?_
    refine ⟨(w3 vs hw).trans (wipe_wipe σ vs vs fun _ h => h), ?_⟩
    refine ht F0 H0 L F2 δ3 σ3 H2 _ _ er r3 q3 fun b F4 H4 g4 q4 => ?_
    have ga : Grow t F' H' F4 H4 := g2.trans g4 r'.st.dr
    have gb : Grow t F H F4 H4 := g'.trans ga rs.st.dr
    have nt : ∀ {Fx Hx Fy Hy : Hp} {zs : List V}, Grow t Fx Hx Fy Hy → Hx Dl = some (.lst zs) → Fx Dl = none → Hy Dl = some (.lst zs) ∧ Fy Dl = none := fun gg h1 h2 => ⟨gg.h _ _ h1 tD, gg.n _ h2 (by rw [h1]; exact Option.some_ne_none _) fun ys z => by rw [h1] at z; cases z⟩
    obtain ⟨hD4, fD4⟩ := nt ga hD fD
    cases b with
    | false => exact ⟨F4, xs, acc, gb, hD4, fD4, ra.mono (.of ga.f), q4⟩
    | true =>
      refine he.vw er (r3.grow g4) q4 fun z F5 H5 m5 d5 g5 v5 rp5 q5 => ?_
      obtain ⟨hm, hz, q6⟩ := q5
      obtain ⟨hD5, fD5⟩ := nt g5 hD4 fD4
      have gc := gb.trans g5 rs.st.dr
      refine ⟨xs, hD5, by rw [ra.len]; exact Nat.lt_of_le_of_lt hz (by decide), F5, xs ++ [z], acc ++ [d5], ?_, upd_same, fD5, (ra.mono (.of (ga.f.trans g5.f))).app (.one (rp5 hm)), q6⟩
      exact {
        z := gc.z
        f := gc.f
        h := fun b o e n => by rw [upd_ne (ne_of_none e nD)]; exact gc.h b o e n
        d := fun b e z => by
          by_cases hb : b = Dl
          · subst hb; rw [upd_same] at z; cases z
          · rw [upd_ne hb] at z; exact gc.d b e z
        n := gc.n
        s := fun b o e => by rw [upd_ne (ne_of_none e fD5)]; exact gc.s b o e
        t := fun a e h => by
          obtain ⟨c1, s1, p1, z1, z2⟩ := gc.t a e h
          exact ⟨c1, s1, p1, by rw [upd_ne (fun w => tD (by rw [e, w]))]; exact z1, z2⟩ }
  · have e : i = ds.length := by omega
    subst e
    rw [List.drop_length] at q'
    exact .inl ⟨y.2, k (.ref Dl) F' H' .ow (.lst acc) g' ⟨Dl, .lst xs, rfl, nD, hD, fD, tD, ra⟩ q'⟩
theorem s_lcD (hp : Peek K t td qd) (hg : SimG K t nm g qg) (hw : ∀ i ∈ nm, i ∈ vs) (ht : SimT K c t E P0 tt qt) (he : SimE K c t E P0 te qe) : SimE K c t E Ep (tLcD td g tt te vs) (qLcD qd qg qt qe vs) := fun F0 H0 L F δ σ H Q Qp er rs hq k => by
  obtain ⟨x, m, d, hm, v, r, ⟨hm2, q⟩, pk⟩ := hp F0 H0 L F δ σ H _ rs hq
  have rp := r hm2
  have main : ∀ (a : Addr) (u : HO) (ds : List D), x = .ref a → isDict u → Rd F a u → (∀ (G : Hp) (o : Obj), G a = some (.frz o u) → ∃ J, ItOk J G ds ∧ ∀ (H' : Hp) (R : It → Hp → Prop), H' a = some (.frz o u) → R J H' → (∃ kvs, H' a = some (.frz o (.dK kvs)) ∧ R (Itk a o kvs) H') ∨ ∃ kvs, H' a = some (.frz o (.dT kvs)) ∧ R (Itkt a o kvs) H') →
      lcGo (wipeD δ vs) qg qt qe (fun acc => Qp .ow (.lst acc)) ds [] → tLcD td g tt te vs σ H Q := by
    intro a u ds ex hu hr hit hl
    subst ex
    rcases hr with hF | ⟨o, hF⟩
    · have hH := rs.st.s _ _ hF
      refine .inl ⟨a, u, hH, by cases u <;> first | exact True.intro | exact hu, fun od => ?_⟩
      have rl := rs.lock (od := od) hF hu
      have eH : lk a od u H = upd H a (.frz od u) := lk_upd hH
      obtain ⟨J, ok, hJ⟩ := hit (lk a od u F) od (lk_at hF)
      rw [← eH]
      have r0 : RS K t F H F F [] [] H := bare (.refl rs.st.s) (.refl _) (fun b e _ => (rs.st.tp b e).1) rs.st.tp
      refine pk _ _ (lk_sees hH hu) ⟨a, od, rfl, hJ (lk a od u H) (fun J H1 => tLc (fun _ H' R => R J H') g tt te vs σ H1 fun v H' => H' a = some (.frz od u) ∧ Q v (upd H' a u)) (lk_at hH) ?_⟩
      refine lcd_core (Qp := Qp) (L := lk a od u L) hg hw ht he ER.no rl ok.p hl fun x4 F4 H4 m4 d4 g4 rv4 q4 => ?_
      have r4 : RS K t (lk a od u F) (lk a od u H) (lk a od u F) F4 [] [] H4 := bare g4 g4.f (fun b e _ => (rl.st.tp b e).1) ((rl.grow g4).st.tp)
      obtain ⟨z1, z2⟩ := r0.unlock hF hu r4
      have f4 : F4 a = some (.frz od u) := g4.f _ _ (lk_at hF)
      refine ⟨z1, k x4 _ _ m4 d4 z2.g ?_ q4⟩
      have se := un_sees f4 hu
      cases m4 with
      | sh => exact Rp.mono se rv4
      | pk =>
        obtain ⟨l, o, w0, w2, w3, w4, w5⟩ := rv4
        have hl : l ≠ a := fun z => by rw [z, f4] at w3; cases w3
        exact ⟨l, o, w0, by rw [upd_ne hl]; exact w2, by rw [upd_ne hl]; exact w3, w4, w5.mono se⟩
      | ow =>
        obtain ⟨l, o, w0, w1, w2, w3, w4, w5⟩ := rv4
        have hl : l ≠ a := fun z => by rw [z, f4] at w3; cases w3
        exact ⟨l, o, w0, lk_none' w1, by rw [upd_ne hl]; exact w2, by rw [upd_ne hl]; exact w3, w4, w5.mono se⟩
      | ot =>
        obtain ⟨p, l, o, y, d1, d2, e, a0, a1, a2, a3, a4, w1, w2, w3, w4, w5⟩ := rv4
        have hl : l ≠ a := fun z => by rw [z, f4] at w3; cases w3
        have hp : p ≠ a := fun z => by rw [z, f4] at a2; cases a2
        exact ⟨p, l, o, y, d1, d2, e, lk_none' a0, by rw [upd_ne hp]; exact a1, by rw [upd_ne hp]; exact a2, a3, a4.mono se, lk_none' w1, by rw [upd_ne hl]; exact w2, by rw [upd_ne hl]; exact w3, w4, w5.mono se⟩
    · obtain ⟨J, ok, hJ⟩ := hit F o hF
      refine .inr (pk _ _ ⟨fun _ _ h => h, fun _ _ h => h, fun _ _ h => h, fun _ _ h => h⟩ ⟨a, o, rfl, hJ H (fun J H1 => tLc (fun _ H' R => R J H') g tt te vs σ H1 Q) (rs.st.s _ _ hF) ?_⟩)
      exact lcd_core (Qp := Qp) hg hw ht he ER.no rs ok.p hl k
  rcases q with ⟨kvs, rfl, q⟩ | ⟨kvs, rfl, q⟩
  · obtain ⟨a, xs, rfl, h1, h2⟩ := rp
    exact main a (.dT xs) _ rfl True.intro h1 (fun G o h => ⟨Itkt a o xs, itkt_ok h h2.keys, fun H' R h' r => .inr ⟨xs, h', r⟩⟩) q
  · obtain ⟨a, xs, rfl, h1, h2⟩ := rp
    exact main a (.dK xs) _ rfl True.intro h1 (fun G o h => ⟨Itk a o xs, itk_ok h h2.keys, fun H' R h' r => .inl ⟨xs, h', r⟩⟩) q
theorem h_lcD {e : QE} {g : QG} {tt : QT} {el : QE} {vs : List Nat} {δ : DS} {Q : Md → D → Prop} (h : e δ fun m d => m ≠ .pk ∧ ((∃ kvs, d = .dT kvs ∧ lcGo (wipeD δ vs) g tt el (fun acc => Q .ow (.lst acc)) (kvs.map fun e => .tup (e.1.map dKey)) []) ∨ ∃ kvs, d = .dK kvs ∧ lcGo (wipeD δ vs) g tt el (fun acc => Q .ow (.lst acc)) (kvs.map fun e => dKey e.1) [])) : qLcD e g tt el vs δ Q := h
end
end Sw
end
section
local macro_rules | `(tactic| walk_at "go1") => `(tactic| first
  | with_reducible refine Sw.g_seqasg ?_ | with_reducible refine Sw.g_op ?_ | with_reducible refine Sw.g_var rfl ?_ | with_reducible refine Sw.g_c ?_ | with_reducible refine Sw.g_I0 ?_
  | with_reducible refine Sw.g_cons ?_ | with_reducible refine Sw.g_nil ?_ | with_reducible refine Sw.g_call ?_ | with_reducible refine Sw.g_cb ?_ | with_reducible refine Sw.g_test ?_ | with_reducible refine Sw.g_bl ?_
  | with_reducible refine Sw.g_seqdrop ?_ | with_reducible refine Sw.g_seqsub ?_ | with_reducible refine Sw.g_asg ?_ | with_reducible refine Sw.g_asgsub ?_ | with_reducible refine Sw.g_ret ?_ | with_reducible refine Sw.g_drop ?_ | with_reducible refine Sw.g_if ?_ | with_reducible refine Sw.g_next ?_ | with_reducible refine Sw.g_name ?_
  | with_reducible refine Sw.g_B ?_ | with_reducible refine Sw.g_not ?_ | with_reducible refine Sw.g_and ?_ | with_reducible refine Sw.g_or ?_ | with_reducible refine Sw.g_andV ?_ | with_reducible refine Sw.g_orV ?_ | with_reducible refine Sw.g_notV ?_
  | with_reducible refine Sw.g_ifE ?_ | with_reducible refine Sw.g_chain ?_ | with_reducible refine Sw.g_un ?_ | with_reducible refine Sw.g_tup ?_ | with_reducible refine Sw.g_lst ?_ | with_reducible refine Sw.g_sl ?_ | with_reducible refine Sw.g_part ?_ | with_reducible refine Sw.g_nopart ?_
  | with_reducible refine Sw.g_U ?_ | with_reducible refine Sw.g_eq rfl ?_ | with_reducible refine Sw.g_ne rfl ?_ | with_reducible refine Sw.g_int ?_ | with_reducible refine Sw.g_yes ?_ | with_reducible refine L2.iteT ?_ | with_reducible refine L2.iteF ?_ | with_reducible refine Sw.iteNT ?_ | with_reducible refine Sw.iteNF ?_ | with_reducible refine Sw.g_m1 ?_ | with_reducible refine Sw.g_bm ?_ | with_reducible refine ⟨Sw.ty_lst (by assumption), ?_⟩ | with_reducible refine Sw.g_sput ?_ | with_reducible refine Sw.g_put ?_ | with_reducible refine Sw.g_dget2 ?_ | with_reducible refine Sw.g_dget ?_ | with_reducible refine Sw.g_dK ?_ | with_reducible refine Sw.g_dT ?_ | with_reducible refine Sw.g_dnotin ?_ | with_reducible refine Sw.g_din ?_ | with_reducible refine Sw.g_bm0 ?_
  | with_reducible refine Sw.g_ixL (by assumption) rfl ?_ | with_reducible refine Sw.g_ixT (by assumption) rfl ?_)
local macro_rules | `(tactic| walk_at "go") => `(tactic| repeat walk_at "go1")
local macro_rules | `(tactic| walk_at "bd") => `(tactic| repeat (first | with_reducible exact Sw.all_nil | refine Sw.all_cons ⟨_, rfl, by omega, by omega⟩ ?_))
local macro_rules | `(tactic| walk_at "new") => `(tactic| (refine ⟨Nat.le_of_ble_eq_true rfl, fun p np => ?_⟩; generalize hX : L2.upd _ p _ = H'; have sm : L2.Same _ H' := hX ▸ Sw.same_upd np; have hp : H' p = some _ := hX ▸ L2.upd_same; clear hX))
namespace Sw
open PySem PySem.Spec PyProof.Rows L2 SX
/-! ### a new list inside a new pair -/
theorem okR_ints (ns : List Int) : okR .ow (.lst (ns.map .int)) = true := by
  show (ns.map D.int).all scalD = true
  rw [List.all_eq_true]
  intro d hd
  obtain ⟨i, _, rfl⟩ := List.mem_map.mp hd
  rfl
theorem okR_strs (ns : List (List Nat)) : okR .ow (.lst (ns.map .str)) = true := by
  show (ns.map D.str).all scalD = true
  rw [List.all_eq_true]
  intro d hd
  obtain ⟨i, _, rfl⟩ := List.mem_map.mp hd
  rfl
/-- return (x, y) -/
def qRetP (i j : Nat) : QS := fun P δ => ∃ s d2, δ[i]? = some (some s) ∧ δ[j]? = some (some (.sh d2)) ∧ match s with | .sh d => P.rt .sh (.tup [d, d2]) | .ow d => P.rt .ot (.tup [d, d2]) | _ => False
def SV.pr : Md → D → SV
  | .ot, d => .ow d
  | _, d => .sh d
/-- x, y = e -/
def qAsgP (e : QE) (i j : Nat) : QS := fun P δ => e δ fun m d => m ≠ .pk ∧ ∃ d1 d2, d = .tup [d1, d2] ∧ P.nx ((δ.set i (some (SV.pr m d1))).set j (some (.sh d2)))
section
variable {K : PySem.W.Frag} {c : Cl} {t : Option Addr} {E : XE} {Ep : XP} {te : TE} {qe : QE} {i j : Nat}
theorem s_retP : SimS K c t E Ep (tRet (tTup (tCons (tVar i) (tCons (tVar j) tNil)))) (qRetP i j) := fun F0 H0 L F δ σ H De Dp er rs en hq => by
  obtain ⟨s, d2, h1, h2, h3⟩ := hq
  obtain ⟨x, e1, sl⟩ := rs.st.sl i s h1
  obtain ⟨y, e2, r2⟩ := rs.st.sl j _ h2
  refine ⟨x, e1, y, e2, Nat.le_of_ble_eq_true rfl, fun p np => ?_⟩
  have n0 : H0 p = none := rs.g.pre np
  cases s with
  | sh d =>
    have g : Grow t F H (upd F p (.tup [x, y])) (upd H p (.tup [x, y])) := .new rs.st.s np
    have se : Sees F (upd F p (.tup [x, y])) := .of g.f
    exact en.rt _ _ (.ref p) .sh (.tup [d, d2]) (rs.g.trans' g rs.dr) (rs.lo.trans g.f) (rs.grow g).st.tp ⟨p, _, rfl, upd_same, _, _, rfl, Rp.mono se sl, _, _, rfl, Rp.mono se r2, rfl⟩ (by decide) h3
  | ow d =>
    obtain ⟨l, o, rfl, q3, q4, q5, q6⟩ := sl
    have g : Grow t F H F (upd H p (.tup [.ref l, y])) := .own rs.st.s np
    have hl : l ≠ p := fun z => by rw [z, np] at q3; cases q3
    exact en.rt _ _ (.ref p) .ot (.tup [d, d2]) (rs.g.trans' g rs.dr) (rs.lo.trans g.f) (rs.grow g).st.tp ⟨p, l, o, y, d, d2, rfl, n0, upd_same, rs.st.s.free np, rfl, r2, rs.fr i d l h1 e1, by rw [upd_ne hl]; exact q3, q4, q5, q6⟩ (by decide) h3
  | tp => exact False.elim h3
  | sc ns => exact False.elim h3
theorem s_asgP (he : SimE K c t E Ep te qe) : SimS K c t E Ep (tAsg te (gTup K 2 (gCons (gName i) (gCons (gName j) gNil)))) (qAsgP qe i j) := fun F0 H0 L F δ σ H De Dp er rs en hq =>
  he F0 H0 L F δ σ H _ _ er rs hq fun x F1 H1 m d g rv q => by
    obtain ⟨hm, d1, d2, rfl, q⟩ := q
    by_cases hot : m = .ot
    · subst hot
      obtain ⟨p, l, o, y, e1, e2, rfl, a0, a1, a2, ed, a4, w0, w1, w2, w3, w4⟩ := rv
      cases ed
      have r1 : RS K t F0 H0 L F1 (δ.set i (some (.ow d1))) (σ.set i (some (.ref l))) H1 := rs.setO g ⟨l, o, rfl, w0, w1, w2, w3, w4⟩
      exact ⟨p, _, rfl, .inl (.inl a1), rfl, _, _, rfl, _, _, rfl, rfl, en.nx F1 _ _ H1 (r1.setS a4) q⟩
    · have es : SV.pr m d1 = .sh d1 := by cases m <;> first | rfl | exact absurd rfl hot
      rw [es] at q
      obtain ⟨F2, g2, v2, r2⟩ := rv.view g
      obtain ⟨p, xs, rfl, a1, y, r, rfl, b1, z, r', rfl, b2, rfl⟩ := r2 hm
      exact ⟨p, _, rfl, .inl (.inl (g2.s _ _ a1)), rfl, _, _, rfl, _, _, rfl, rfl, en.nx F2 _ _ H1 (((rs.grow g2).setS b1).setS b2) q⟩
theorem h_retPO {P : Pn} {δ : DS} {d d2 : D} (h1 : δ[i]? = some (some (.ow d))) (h2 : δ[j]? = some (some (.sh d2))) (q : P.rt .ot (.tup [d, d2])) : qRetP i j P δ := ⟨_, _, h1, h2, q⟩
theorem h_retPS {P : Pn} {δ : DS} {d d2 : D} (h1 : δ[i]? = some (some (.sh d))) (h2 : δ[j]? = some (some (.sh d2))) (q : P.rt .sh (.tup [d, d2])) : qRetP i j P δ := ⟨_, _, h1, h2, q⟩
theorem h_asgP {e : QE} {P : Pn} {δ : DS} (h : e δ fun m d => m ≠ .pk ∧ ∃ d1 d2, d = .tup [d1, d2] ∧ P.nx ((δ.set i (some (SV.pr m d1))).set j (some (.sh d2)))) : qAsgP e i j P δ := h
theorem h_seqasgP {e : QE} {u : QS} {P : Pn} {δ : DS} (h : e δ fun m d => m ≠ .pk ∧ ∃ d1 d2, d = .tup [d1, d2] ∧ u P ((δ.set i (some (SV.pr m d1))).set j (some (.sh d2)))) : qSeq (qAsgP e i j) u P δ := h
theorem h_pairO {G : DS → Prop} {δ : DS} {d1 d2 : D} (h : G ((δ.set i (some (.ow d1))).set j (some (.sh d2)))) : Md.ot ≠ .pk ∧ ∃ e1 e2, D.tup [d1, d2] = .tup [e1, e2] ∧ G ((δ.set i (some (SV.pr .ot e1))).set j (some (.sh e2))) := ⟨by decide, d1, d2, rfl, h⟩
theorem h_pairS {G : DS → Prop} {δ : DS} {d1 d2 : D} (h : G ((δ.set i (some (.sh d1))).set j (some (.sh d2)))) : Md.sh ≠ .pk ∧ ∃ e1 e2, D.tup [d1, d2] = .tup [e1, e2] ∧ G ((δ.set i (some (SV.pr .sh e1))).set j (some (.sh e2))) := ⟨by decide, d1, d2, rfl, h⟩
end
end Sw
end
section
local macro_rules | `(tactic| walk_at "go1") => `(tactic| first
  | with_reducible refine Sw.g_seqasg ?_ | with_reducible refine Sw.g_op ?_ | with_reducible refine Sw.g_var rfl ?_ | with_reducible refine Sw.g_c ?_ | with_reducible refine Sw.g_I0 ?_
  | with_reducible refine Sw.g_cons ?_ | with_reducible refine Sw.g_nil ?_ | with_reducible refine Sw.g_call ?_ | with_reducible refine Sw.g_cb ?_ | with_reducible refine Sw.g_test ?_ | with_reducible refine Sw.g_bl ?_
  | with_reducible refine Sw.g_seqdrop ?_ | with_reducible refine Sw.g_seqsub ?_ | with_reducible refine Sw.g_asg ?_ | with_reducible refine Sw.g_asgsub ?_ | with_reducible refine Sw.g_ret ?_ | with_reducible refine Sw.g_drop ?_ | with_reducible refine Sw.g_if ?_ | with_reducible refine Sw.g_next ?_ | with_reducible refine Sw.g_name ?_
  | with_reducible refine Sw.g_B ?_ | with_reducible refine Sw.g_not ?_ | with_reducible refine Sw.g_and ?_ | with_reducible refine Sw.g_or ?_ | with_reducible refine Sw.g_andV ?_ | with_reducible refine Sw.g_orV ?_ | with_reducible refine Sw.g_notV ?_
  | with_reducible refine Sw.g_ifE ?_ | with_reducible refine Sw.g_chain ?_ | with_reducible refine Sw.g_un ?_ | with_reducible refine Sw.g_tup ?_ | with_reducible refine Sw.g_lst ?_ | with_reducible refine Sw.g_sl ?_ | with_reducible refine Sw.g_part ?_ | with_reducible refine Sw.g_nopart ?_
  | with_reducible refine Sw.g_U ?_ | with_reducible refine Sw.g_eq rfl ?_ | with_reducible refine Sw.g_ne rfl ?_ | with_reducible refine Sw.g_int ?_ | with_reducible refine Sw.g_yes ?_ | with_reducible refine L2.iteT ?_ | with_reducible refine L2.iteF ?_ | with_reducible refine Sw.iteNT ?_ | with_reducible refine Sw.iteNF ?_ | with_reducible refine Sw.g_m1 ?_ | with_reducible refine Sw.g_bm ?_ | with_reducible refine ⟨Sw.ty_lst (by assumption), ?_⟩ | with_reducible refine Sw.g_sput ?_ | with_reducible refine Sw.g_put ?_ | with_reducible refine Sw.g_dget2 ?_ | with_reducible refine Sw.g_dget ?_ | with_reducible refine Sw.g_dK ?_ | with_reducible refine Sw.g_dT ?_ | with_reducible refine Sw.g_dnotin ?_ | with_reducible refine Sw.g_din ?_ | with_reducible refine Sw.g_bm0 ?_
  | with_reducible refine Sw.g_ixL (by assumption) rfl ?_ | with_reducible refine Sw.g_ixT (by assumption) rfl ?_)
local macro_rules | `(tactic| walk_at "go") => `(tactic| repeat walk_at "go1")
local macro_rules | `(tactic| walk_at "bd") => `(tactic| repeat (first | with_reducible exact Sw.all_nil | refine Sw.all_cons ⟨_, rfl, by omega, by omega⟩ ?_))
local macro_rules | `(tactic| walk_at "new") => `(tactic| (refine ⟨Nat.le_of_ble_eq_true rfl, fun p np => ?_⟩; generalize hX : L2.upd _ p _ = H'; have sm : L2.Same _ H' := hX ▸ Sw.same_upd np; have hp : H' p = some _ := hX ▸ L2.upd_same; clear hX))
namespace Sw
open PySem PySem.Spec PyProof.Rows L2 SX
/-! ### the values of a dict with tuples as keys -/
section
variable {X : Cx} {pins : List (Addr × Obj)} {σ : L2.St} {H : Hp} {s : Shared} {d : Addr} {o : Obj}
theorem frzTV {kvs : List (List Key × V)} (I : Inv X pins σ H s) (h : H d = some (.frz o (.dT kvs))) :
    (d == sysModules) = false ∧ ∃ (es : Array DictEntry) (ep : Nat), s.heap.DictRaw d es ep ∧ o.data = .dict es ep ∧ es.size = kvs.length ∧
      ∀ (i : Nat) (k : List Key) (v : V), kvs[i]? = some (k, v) → ∃ en : DictEntry, es[i]? = some en ∧ RelV v en.val := by
  obtain ⟨hd, z, hs, xs, pr, o', es, ep, ho, hx, hdt, he, _⟩ := I.hok d _ h
  rw [hd] at ho
  cases ho
  refine ⟨hs, es, ep, ⟨_, hd, hx, hdt⟩, hdt, ?_, fun i k v e => ?_⟩
  · have l1 : es.size = xs.length := size_of_entries he
    have l2 : kvs.length = xs.length := Paired.length pr
    omega
  · obtain ⟨b, hb, e1, e2, e3⟩ := paired_get pr e
    have q := entry_at he i
    rw [hb] at q
    exact ⟨_, q, e3⟩
end
def Itdt (d : Addr) (o : Obj) (kvs : List (List Key × V)) : It :=
  ⟨fun i H => H d = some (.frz o (.dT kvs)) ∧ i < kvs.length, fun i H x H' => H' = H ∧ ∃ k, kvs[i]? = some (k, x), fun i H => H d = some (.frz o (.dT kvs)) ∧ kvs.length ≤ i⟩
theorem turn_valsT {P : Program} {w : World} {K : PySem.W.Frag} {tg : Expr} {d : Addr} {o : Obj} {es : Array DictEntry} {ep : Nat} {kvs : List (List Key × V)} (it : Addr) (hod : o.data = .dict es ep) : Turn P w K tg (Itdt d o kvs) [it] it (fun i h => h.IsValIter it d i kvs.length ep) where
  mem := by simp
  obj := fun i h st b hb => by
    have e : b = it := by simpa using hb
    subst e
    obtain ⟨oi, e, c, dd⟩ := st
    exact ⟨oi, e, fun v z => by rw [dd] at z; cases z⟩
  keep := fun i h h' st k => st.at fun oi e => k it (by simp) oi e
  item := by
    intro X hP hw hK hc i pins s σ H E I hf st hg
    subst hP hw hK
    obtain ⟨hd, hi⟩ := hg
    obtain ⟨f0, f1, f2, f3, f4, f5⟩ := hf it (by simp)
    obtain ⟨hs, es', ep', raw, hdt, hsz, ent⟩ := frzTV I hd
    obtain ⟨rfl, rfl⟩ := dict_ep hod hdt
    obtain ⟨⟨k, v⟩, hkv⟩ : ∃ p, kvs[i]? = some p := ⟨kvs[i], List.getElem?_eq_getElem hi⟩
    obtain ⟨en, hen, hrel⟩ := ent i k v hkv
    rw [← hsz] at st
    have hie : i < es'.size := by omega
    have eval : es'[i] = en := by
      rw [Array.getElem?_eq_getElem hie] at hen
      exact Option.some.inj hen
    refine wpAny_pyNext_values_item_raw st raw hie fun h' st' sb => ?_
    have I1 : Inv X pins σ H { s with heap := h' } := I.turned (t' := s.toks) (fun b ob hb e => (sb.2 b hb).trans e) f0 f1 f3 f4 f5
    obtain ⟨oi, e, c, dd⟩ := id st'
    refine ⟨es'[i].val, rfl, go_of (s := { s with heap := h' }) e c dd (by decide) ⟨v, H, I1, by rw [eval]; exact hrel, ⟨rfl, k, hkv⟩, ?_, fun b hb => (hf b hb).1⟩⟩
    show h'.IsValIter it d (i + 1) kvs.length _
    rw [← hsz]
    exact st'
  done := by
    intro X hP hw hK hc i pins s σ H E I hf st hg
    subst hP hw hK
    obtain ⟨hd, hi⟩ := hg
    obtain ⟨f0, f1, f2, f3, f4, f5⟩ := hf it (by simp)
    obtain ⟨hs, es', ep', raw, hdt, hsz, ent⟩ := frzTV I hd
    obtain ⟨rfl, rfl⟩ := dict_ep hod hdt
    rw [← hsz] at st
    exact wpAny_pyNext_values_end_raw (I.ok.hd hc) st raw (by omega) fun h' eb => ⟨rfl, I.turned (t' := s.toks) (fun b ob hb e => eb b ob hb e) f0 f1 f3 f4 f5⟩
  self := fun A i s Q E st h => wpAny_pyIter_valiter st h
def iValsT (td : TE) : TI := fun σ H R => td σ H fun x H1 => ∃ d o kvs, x = .ref d ∧ H1 d = some (.frz o (.dT kvs)) ∧ R (Itdt d o kvs) H1
theorem pi_valsT {X : Cx} {tg e : Expr} {td : TE} {apos cpos : Pos} (he : PE X e td) (hbase : attributeBase e "values" X.env (eval e X.env) = eval e X.env := by rfl) (hline : (apos.endLine == cpos.line) = true := by rfl) : PI X tg (.Call (.Attribute e "values" apos) [] [] cpos) (iValsT td) := by
  refine ⟨fun pins s σ H R I h => ?_⟩
  refine wpAny_Call_method (T := "dict") (id := "dict.values") hbase rfl hline F.plainAttrs_dict F.slot_dict_values F.type_dict_values (thn (he.run pins s σ H _ I h) fun u s1 ⟨x, H1, I1, rx, d, o, kvs, ex, hd, q⟩ => ?_)
  subst ex
  obtain rfl : u = Value.ref d := rx
  obtain ⟨hs, es, ep, raw, hdt, hsz, ent⟩ := frzTV I1 hd
  obtain ⟨ob, ho, ex, hdat⟩ := id raw
  refine ⟨⟨ob, ho, ex.1⟩, ?_, ?_⟩
  · intro b e
    cases e
    exact ⟨ob, ho, ex.2.1⟩
  have I2 : Inv X pins σ H1 { s1 with heap := s1.heap.push { cls := .type "dict_values", data := .fields #[.ref d] } } := I1.kept (t' := s1.toks) fun b ob q => Heap.get?_push_of_some _ q
  have raw1 : (s1.heap.push { cls := .type "dict_values", data := .fields #[.ref d] }).DictRaw d es ep := raw.at fun o e => Heap.get?_push_of_some _ e
  have fin : wpAny (model X.prog X.w) X.A (pyIter (.ref s1.heap.objs.size)) (PIE X pins σ tg R) X.xe { s1 with heap := s1.heap.push { cls := .type "dict_values", data := .fields #[.ref d] } } := by
    refine wpAny_pyIter_values_raw (d := d) ⟨_, Heap.get?_push_size _ rfl, rfl, rfl⟩ raw1 (pi_one (tk := s1.toks) I2 _ (turn_valsT _ hdt) ⟨_, Heap.get?_push_size _ rfl, rfl, ?_⟩ q)
    rw [hsz] <;> rfl
  show wpAny _ _ (callWith cpos (.builtin "dict.values") [.ref d] [] []) _ X.xe s1
  exact Calls.callWith_builtin rfl (PySem.evalArgs_none (call_meetsIn F.slot_dict_values ⟨ob, ho, ex.1⟩ F.entry_dict_values (F.args_dict_values_1 _) (meets_dict_values_raw d hs) ⟨⟨es, ep, raw⟩, fin⟩))
def tLcV (td : TE) (g : TG) (tt : TT) (te : TE) (vs : List Nat) : TE := fun σ H Q => tLockE (tLc (iValsT td) g tt te vs) σ H Q ∨ tLc (iValsT td) g tt te vs σ H Q
theorem pe_lcV {X : Cx} {e : Expr} {td te : TE} {g : TG} {tt : TT} {vs : List Nat} (h : PE X e (tLc (iValsT td) g tt te vs)) : PE X e (tLcV td g tt te vs) :=
  ⟨fun pins s σ H Q I hw => hw.elim (fun w => (pe_lock h).run pins s σ H Q I w) fun w => h.run pins s σ H Q I w⟩
def qLcV (e : QE) (g : QG) (tt : QT) (el : QE) (vs : List Nat) : QE := fun δ Q => e δ fun m d => m ≠ .pk ∧ ∃ kvs, d = .dT kvs ∧ lcGo (wipeD δ vs) g tt el (fun acc => Q .ow (.lst acc)) (kvs.map (·.2)) []
section
variable {K : PySem.W.Frag} {c : Cl} {t : Option Addr} {E : XE} {Ep : XP} {td te : TE} {qd qe : QE} {tt : TT} {qt : QT} {g : TG} {qg : QG} {vs nm : List Nat}
theorem rpt_at {F : Hp} : ∀ {kvs : List (List Key × D)} {xs : List (List Key × V)} {i : Nat} {d : D}, RpT F kvs xs → (kvs.map (·.2))[i]? = some d → ∃ k x, xs[i]? = some (k, x) ∧ Rp F d x
  | [], _, _, _, _, e => by simp at e
  | (k, d') :: _, _, 0, d, h, e => by
    obtain ⟨x, r, rfl, h2, h3⟩ := h
    have e' : d' = d := by simpa using e
    subst e'
    exact ⟨k, x, rfl, h2⟩
  | (_, _) :: _, _, i + 1, _, h, e => by
    obtain ⟨x, r, rfl, h2, h3⟩ := h
    obtain ⟨k, y, h4, h5⟩ := rpt_at (i := i) h3 (by simpa using e)
    exact ⟨k, y, by simpa using h4, h5⟩
theorem itdt_ok {F : Hp} {a : Addr} {o : Obj} {xs : List (List Key × V)} {kvs : List (List Key × D)} (h : F a = some (.frz o (.dT xs))) (hk : RpT F kvs xs) : ItOk (Itdt a o xs) F (kvs.map (·.2)) := fun F1 H1 s1 s2 => by
  have hl : xs.length = kvs.length := hk.len
  refine ⟨fun i d e => ?_, s2 _ _ (s1 _ _ h), by rw [List.length_map, hl]; exact Nat.le_refl _⟩
  have hi : i < (kvs.map (·.2)).length := (List.getElem?_eq_some_iff.mp e).1
  rw [List.length_map] at hi
  obtain ⟨k0, x0, h1, h2⟩ := rpt_at hk e
  refine ⟨⟨s2 _ _ (s1 _ _ h), by omega⟩, fun x H2 ⟨e1, k, h3⟩ => ?_⟩
  subst e1
  rw [h1] at h3
  cases h3
  exact ⟨F1, .refl s2, h2.mono (.of s1)⟩
theorem s_lcV (hp : Peek K t td qd) (hg : SimG K t nm g qg) (hw : ∀ i ∈ nm, i ∈ vs) (ht : SimT K c t E P0 tt qt) (he : SimE K c t E P0 te qe) : SimE K c t E Ep (tLcV td g tt te vs) (qLcV qd qg qt qe vs) := fun F0 H0 L F δ σ H Q Qp er rs hq k => by
  obtain ⟨x, m, d, hm, v, r, ⟨hm2, kvs, rfl, hl⟩, pk⟩ := hp F0 H0 L F δ σ H _ rs hq
  obtain ⟨a, xs, rfl, hr, hk⟩ := r hm2
  have hu : isDict (.dT xs) := True.intro
  rcases hr with hF | ⟨o, hF⟩
  · have hH := rs.st.s _ _ hF
    refine .inl ⟨a, .dT xs, hH, True.intro, fun od => ?_⟩
    have rl := rs.lock (od := od) hF hu
    have eH : lk a od (.dT xs) H = upd H a (.frz od (.dT xs)) := lk_upd hH
    have ok : ItOk (Itdt a od xs) (lk a od (.dT xs) F) (kvs.map (·.2)) := itdt_ok (lk_at hF) (hk.mono (lk_sees hF hu))
    rw [← eH]
    have r0 : RS K t F H F F [] [] H := bare (.refl rs.st.s) (.refl _) (fun b e _ => (rs.st.tp b e).1) rs.st.tp
    refine pk _ _ (lk_sees hH hu) ⟨a, od, xs, rfl, lk_at hH, ?_⟩
    show tLc (fun _ H' R => R (Itdt a od xs) H') g tt te vs σ (lk a od (.dT xs) H) fun v H' => H' a = some (.frz od (.dT xs)) ∧ Q v (upd H' a (.dT xs))
    refine lcd_core (Qp := Qp) (L := lk a od (.dT xs) L) hg hw ht he ER.no rl ok.p hl fun x4 F4 H4 m4 d4 g4 rv4 q4 => ?_
    have r4 : RS K t (lk a od (.dT xs) F) (lk a od (.dT xs) H) (lk a od (.dT xs) F) F4 [] [] H4 := bare g4 g4.f (fun b e _ => (rl.st.tp b e).1) ((rl.grow g4).st.tp)
    obtain ⟨z1, z2⟩ := r0.unlock hF hu r4
    have f4 : F4 a = some (.frz od (.dT xs)) := g4.f _ _ (lk_at hF)
    refine ⟨z1, k x4 _ _ m4 d4 z2.g ?_ q4⟩
    have se := un_sees f4 hu
    cases m4 with
    | sh => exact Rp.mono se rv4
    | pk =>
      obtain ⟨l, o, w0, w2, w3, w4, w5⟩ := rv4
      have hl : l ≠ a := fun z => by rw [z, f4] at w3; cases w3
      exact ⟨l, o, w0, by rw [upd_ne hl]; exact w2, by rw [upd_ne hl]; exact w3, w4, w5.mono se⟩
    | ow =>
      obtain ⟨l, o, w0, w1, w2, w3, w4, w5⟩ := rv4
      have hl : l ≠ a := fun z => by rw [z, f4] at w3; cases w3
      exact ⟨l, o, w0, lk_none' w1, by rw [upd_ne hl]; exact w2, by rw [upd_ne hl]; exact w3, w4, w5.mono se⟩
    | ot =>
      obtain ⟨p, l, o, y, d1, d2, e, a0, a1, a2, a3, a4, w1, w2, w3, w4, w5⟩ := rv4
      have hl : l ≠ a := fun z => by rw [z, f4] at w3; cases w3
      have hp : p ≠ a := fun z => by rw [z, f4] at a2; cases a2
      exact ⟨p, l, o, y, d1, d2, e, lk_none' a0, by rw [upd_ne hp]; exact a1, by rw [upd_ne hp]; exact a2, a3, a4.mono se, lk_none' w1, by rw [upd_ne hl]; exact w2, by rw [upd_ne hl]; exact w3, w4, w5.mono se⟩
  · have ok : ItOk (Itdt a o xs) F (kvs.map (·.2)) := itdt_ok hF hk
    refine .inr (pk _ _ ⟨fun _ _ h => h, fun _ _ h => h, fun _ _ h => h, fun _ _ h => h⟩ ⟨a, o, xs, rfl, rs.st.s _ _ hF, ?_⟩)
    exact lcd_core (Qp := Qp) hg hw ht he ER.no rs ok.p hl k
theorem h_lcV {e : QE} {g : QG} {tt : QT} {el : QE} {vs : List Nat} {δ : DS} {Q : Md → D → Prop} (h : e δ fun m d => m ≠ .pk ∧ ∃ kvs, d = .dT kvs ∧ lcGo (wipeD δ vs) g tt el (fun acc => Q .ow (.lst acc)) (kvs.map (·.2)) []) : qLcV e g tt el vs δ Q := h
end
end Sw
end
section
local macro_rules | `(tactic| walk_at "go1") => `(tactic| first
  | with_reducible refine Sw.g_seqasg ?_ | with_reducible refine Sw.g_op ?_ | with_reducible refine Sw.g_var rfl ?_ | with_reducible refine Sw.g_c ?_ | with_reducible refine Sw.g_I0 ?_
  | with_reducible refine Sw.g_cons ?_ | with_reducible refine Sw.g_nil ?_ | with_reducible refine Sw.g_call ?_ | with_reducible refine Sw.g_cb ?_ | with_reducible refine Sw.g_test ?_ | with_reducible refine Sw.g_bl ?_
  | with_reducible refine Sw.g_seqdrop ?_ | with_reducible refine Sw.g_seqsub ?_ | with_reducible refine Sw.g_asg ?_ | with_reducible refine Sw.g_asgsub ?_ | with_reducible refine Sw.g_ret ?_ | with_reducible refine Sw.g_drop ?_ | with_reducible refine Sw.g_if ?_ | with_reducible refine Sw.g_next ?_ | with_reducible refine Sw.g_name ?_
  | with_reducible refine Sw.g_B ?_ | with_reducible refine Sw.g_not ?_ | with_reducible refine Sw.g_and ?_ | with_reducible refine Sw.g_or ?_ | with_reducible refine Sw.g_andV ?_ | with_reducible refine Sw.g_orV ?_ | with_reducible refine Sw.g_notV ?_
  | with_reducible refine Sw.g_ifE ?_ | with_reducible refine Sw.g_chain ?_ | with_reducible refine Sw.g_un ?_ | with_reducible refine Sw.g_tup ?_ | with_reducible refine Sw.g_lst ?_ | with_reducible refine Sw.g_sl ?_ | with_reducible refine Sw.g_part ?_ | with_reducible refine Sw.g_nopart ?_
  | with_reducible refine Sw.g_U ?_ | with_reducible refine Sw.g_eq rfl ?_ | with_reducible refine Sw.g_ne rfl ?_ | with_reducible refine Sw.g_int ?_ | with_reducible refine Sw.g_yes ?_ | with_reducible refine L2.iteT ?_ | with_reducible refine L2.iteF ?_ | with_reducible refine Sw.iteNT ?_ | with_reducible refine Sw.iteNF ?_ | with_reducible refine Sw.g_m1 ?_ | with_reducible refine Sw.g_bm ?_ | with_reducible refine ⟨Sw.ty_lst (by assumption), ?_⟩ | with_reducible refine Sw.g_sput ?_ | with_reducible refine Sw.g_put ?_ | with_reducible refine Sw.g_dget2 ?_ | with_reducible refine Sw.g_dget ?_ | with_reducible refine Sw.g_dK ?_ | with_reducible refine Sw.g_dT ?_ | with_reducible refine Sw.g_dnotin ?_ | with_reducible refine Sw.g_din ?_ | with_reducible refine Sw.g_bm0 ?_
  | with_reducible refine Sw.g_ixL (by assumption) rfl ?_ | with_reducible refine Sw.g_ixT (by assumption) rfl ?_)
local macro_rules | `(tactic| walk_at "go") => `(tactic| repeat walk_at "go1")
local macro_rules | `(tactic| walk_at "bd") => `(tactic| repeat (first | with_reducible exact Sw.all_nil | refine Sw.all_cons ⟨_, rfl, by omega, by omega⟩ ?_))
local macro_rules | `(tactic| walk_at "new") => `(tactic| (refine ⟨Nat.le_of_ble_eq_true rfl, fun p np => ?_⟩; generalize hX : L2.upd _ p _ = H'; have sm : L2.Same _ H' := hX ▸ Sw.same_upd np; have hp : H' p = some _ := hX ▸ L2.upd_same; clear hX))
namespace Sw
open PySem PySem.Spec PyProof.Rows L2 SX
/-! ### one datum less than another; how often a text stands in a text; a truth among truths -/
def rLtD (K : PySem.W.Frag) : R2 := fun x y H Q => ∃ d e, Dp K H x d ∧ Dp K H y e ∧ PySem.W.alike d e = true ∧ d ≠ .none ∧ d.depth ≤ 60 ∧ Q (.bl (PySem.W.dataLt d e)) H
theorem op_ltD {X : Cx} (hu : X.A.units + 64 < cLine) : OpR X (compareOp .Lt) (rLtD X.K) := by
  intro pins s σ H x y v u Q I rx ry h
  obtain ⟨d, e, hd, he, al, hn, hdp, q⟩ := h
  obtain ⟨as, r1⟩ := Dp.reads I d x v hd rx
  obtain ⟨bs, r2⟩ := Dp.reads I e y u he ry
  exact PySem.W.lt_data r1 r2 al hn (by have : min d.depth e.depth ≤ d.depth := Nat.min_le_left _ _; omega) ⟨.bl _, H, I, rfl, q⟩
def pLtD : P2 := fun d e Q => flatD d = true ∧ flatD e = true ∧ PySem.W.alike (toPy d) (toPy e) = true ∧ toPy d ≠ .none ∧ (toPy d).depth ≤ 60 ∧ Q .sh (.bl (PySem.W.dataLt (toPy d) (toPy e)))
theorem o_ltD {K : PySem.W.Frag} {t : Option Addr} : Sim2 t (rLtD K) pLtD := fun F H x y d e Q Qp s ht vx vy p k => by
  obtain ⟨f1, f2, a1, a2, a3, q⟩ := p
  exact ⟨toPy d, toPy e, rp_dp f1 (vx.all s), rp_dp f2 (vy.all s), a1, a2, a3, k.val s (d := .bl _) rfl q⟩
/-! text.count(text) -/
abbrev rCountS : V → List V → Hp → VK → Prop := fun x xs H Q => ∃ a b, x = .str a ∧ xs = [.str b] ∧ Q (.int (Txt.count a b)) H
def cntS (l l' : List Nat) : Int := Txt.count (S l) (S l')
theorem cntS_bd (l l' : List Nat) : 0 ≤ cntS l l' ∧ cntS l l' ≤ (l.length : Int) + 1 := by
  unfold cntS Txt.count
  have h := PySem.StrLaws.occ_length_le (S l) (S l') 0 (S l).length ((S l).length + 1)
  rw [S_len] at h ⊢
  omega
def pCountS : P2 := fun d e Q => ∃ l l', d = .str l ∧ e = .str l' ∧ Q .sh (.int (cntS l l'))
theorem o_countS {t : Option Addr} : Sim2 t (fun x y => rCountS x [y]) pCountS := fun F H x y d e Q Qp s ht vx vy p k => by
  obtain ⟨l, l', rfl, rfl, q⟩ := p
  exact ⟨S l, S l', vw_str vx, by rw [vw_str vy], k.val s (d := .int _) rfl q⟩
theorem h_countS {l l' : List Nat} {Q : Md → D → Prop} (q : Q .sh (.int (cntS l l'))) : pCountS (.str l) (.str l') Q := ⟨l, l', rfl, rfl, q⟩
/-! a truth among truths -/
def pInB (neg : Bool) : P2 := fun d e Q => ∃ (b : Bool) (bs : List Bool), d = .bl b ∧ e = .lst (bs.map .bl) ∧ Q .sh (.bl (if neg then !decide (b ∈ bs) else decide (b ∈ bs)))
theorem flat_bls : ∀ bs : List Bool, (bs.map V.bl).all flatV = true
  | [] => rfl
  | b :: bs => by rw [List.map_cons, List.all_cons, flat_bls bs]; rfl
theorem inV_bl (b : Bool) (bs : List Bool) : inV (.bl b) (bs.map V.bl) = decide (b ∈ bs) := by
  unfold inV
  rw [List.any_map]
  induction bs with
  | nil => rfl
  | cons a bs ih =>
    rw [List.any_cons, ih]
    have e : decide (b ∈ a :: bs) = (decide (b = a) || decide (b ∈ bs)) := by simp [Bool.decide_or]
    rw [e]
    congr 1
    cases a <;> cases b <;> rfl
theorem o_inB {K : PySem.W.Frag} {t : Option Addr} {neg : Bool} : Sim2 t (rIn K neg) (pInB neg) := fun F H x y d e Q Qp s ht vx vy p k => by
  obtain ⟨b, bs, rfl, rfl, q⟩ := p
  obtain ⟨p1, xs, rfl, h1, h2⟩ := vw_lst s vy
  rw [rpl_bls h2] at h1
  have e := vw_bl vx
  subst e
  exact ⟨p1, _, rfl, .inl (.inl (.inl h1)), rfl, flat_bls bs, by rw [inV_bl]; exact k.val s (d := .bl _) rfl q⟩
theorem h_noF {bs : List Bool} {Q : Md → D → Prop} (h : ∀ b ∈ bs, b = true) (q : Q .sh (.bl false)) : pInB false (.bl false) (.lst (bs.map .bl)) Q :=
  ⟨false, bs, rfl, rfl, by
    have e : decide (false ∈ bs) = false := decide_eq_false fun z => nomatch h _ z
    rw [e]; exact q⟩
/-! pairs of numbers -/
theorem h_ixP0 {p : Int × Int} {Q : Md → D → Prop} (h : Q .sh (.int p.1)) : pIxT (encP p) (.int 0) Q := ⟨_, 0, _, rfl, rfl, rfl, h⟩
theorem h_ixP1 {p : Int × Int} {Q : Md → D → Prop} (h : Q .sh (.int p.2)) : pIxT (encP p) (.int 1) Q := ⟨_, 1, _, rfl, rfl, rfl, h⟩
theorem h_gP {p : Int × Int} {g : QGs} {δ : DS} {QG' : DS → Prop} (h : g [.int p.1, .int p.2] δ QG') : qgTup 2 g (encP p) δ QG' := ⟨_, rfl, rfl, h⟩
end Sw
end
section
local macro_rules | `(tactic| walk_at "go1") => `(tactic| first
  | with_reducible refine Sw.g_seqasg ?_ | with_reducible refine Sw.g_op ?_ | with_reducible refine Sw.g_var rfl ?_ | with_reducible refine Sw.g_c ?_ | with_reducible refine Sw.g_I0 ?_
  | with_reducible refine Sw.g_cons ?_ | with_reducible refine Sw.g_nil ?_ | with_reducible refine Sw.g_call ?_ | with_reducible refine Sw.g_cb ?_ | with_reducible refine Sw.g_test ?_ | with_reducible refine Sw.g_bl ?_
  | with_reducible refine Sw.g_seqdrop ?_ | with_reducible refine Sw.g_seqsub ?_ | with_reducible refine Sw.g_asg ?_ | with_reducible refine Sw.g_asgsub ?_ | with_reducible refine Sw.g_ret ?_ | with_reducible refine Sw.g_drop ?_ | with_reducible refine Sw.g_if ?_ | with_reducible refine Sw.g_next ?_ | with_reducible refine Sw.g_name ?_
  | with_reducible refine Sw.g_B ?_ | with_reducible refine Sw.g_not ?_ | with_reducible refine Sw.g_and ?_ | with_reducible refine Sw.g_or ?_ | with_reducible refine Sw.g_andV ?_ | with_reducible refine Sw.g_orV ?_ | with_reducible refine Sw.g_notV ?_
  | with_reducible refine Sw.g_ifE ?_ | with_reducible refine Sw.g_chain ?_ | with_reducible refine Sw.g_un ?_ | with_reducible refine Sw.g_tup ?_ | with_reducible refine Sw.g_lst ?_ | with_reducible refine Sw.g_sl ?_ | with_reducible refine Sw.g_part ?_ | with_reducible refine Sw.g_nopart ?_
  | with_reducible refine Sw.g_U ?_ | with_reducible refine Sw.g_eq rfl ?_ | with_reducible refine Sw.g_ne rfl ?_ | with_reducible refine Sw.g_int ?_ | with_reducible refine Sw.g_yes ?_ | with_reducible refine L2.iteT ?_ | with_reducible refine L2.iteF ?_ | with_reducible refine Sw.iteNT ?_ | with_reducible refine Sw.iteNF ?_ | with_reducible refine Sw.g_m1 ?_ | with_reducible refine Sw.g_bm ?_ | with_reducible refine ⟨Sw.ty_lst (by assumption), ?_⟩ | with_reducible refine Sw.g_sput ?_ | with_reducible refine Sw.g_put ?_ | with_reducible refine Sw.g_dget2 ?_ | with_reducible refine Sw.g_dget ?_ | with_reducible refine Sw.g_dK ?_ | with_reducible refine Sw.g_dT ?_ | with_reducible refine Sw.g_dnotin ?_ | with_reducible refine Sw.g_din ?_ | with_reducible refine Sw.g_bm0 ?_
  | with_reducible refine Sw.g_ixL (by assumption) rfl ?_ | with_reducible refine Sw.g_ixT (by assumption) rfl ?_)
local macro_rules | `(tactic| walk_at "go") => `(tactic| repeat walk_at "go1")
local macro_rules | `(tactic| walk_at "bd") => `(tactic| repeat (first | with_reducible exact Sw.all_nil | refine Sw.all_cons ⟨_, rfl, by omega, by omega⟩ ?_))
local macro_rules | `(tactic| walk_at "new") => `(tactic| (refine ⟨Nat.le_of_ble_eq_true rfl, fun p np => ?_⟩; generalize hX : L2.upd _ p _ = H'; have sm : L2.Same _ H' := hX ▸ Sw.same_upd np; have hp : H' p = some _ := hX ▸ L2.upd_same; clear hX))
namespace Sw
open PySem PySem.Spec PyProof.Rows L2 SX
/-! ### a call that is handed a new tape, and things of one's own to read -/
def InH (Hb : Hp) : V → Ar → Prop
  | x, .pk _ => ∃ b, x = .ref b ∧ Hb b ≠ none
  | _, _ => True
def InHL (Hb : Hp) : List V → List Ar → Prop
  | x :: xs, a :: as => InH Hb x a ∧ InHL Hb xs as
  | _, _ => True
def OwnIn (Hb : Hp) (δ : DS) (σ : L2.St) : Prop := ∀ (i : Nat) (d : D) (l : Addr), δ[i]? = some (some (.ow d)) → σ[i]? = some (some (.ref l)) → Hb l ≠ none
section
variable (K : PySem.W.Frag) (c : Cl) (t : Option Addr) (E : XE) (Ep : XP)
def SimB (ta : TA) (qa : QA) : Prop := ∀ F0 H0 L F δ σ H Q Qp Hb, ER K c t F0 H0 L E Ep → RS K t F0 H0 L F δ σ H → OwnIn Hb δ σ → qa δ Qp → (∀ xs F' H' as, Grow t F H F' H' → AvL K t F' H' xs as → InHL Hb xs as → Qp as → Q xs H') → ta σ H Q
end
/-- an argument that is no thing of one's own -/
def qConsN (a : QE) (r : QA) : QA := fun δ Q => a δ fun m d => m ≠ .pk ∧ r δ fun as => Q (.sh d :: as)
def qConsO (i : Nat) (r : QA) : QA := fun δ Q => ∃ d, δ[i]? = some (some (.ow d)) ∧ r δ fun as => Q (.pk d :: as)
def qCallDP (psp : PSp) (qd : QE) (a : QA) : QE := fun δ Q => qd δ fun m d => m = .ow ∧ d = .tape ∧ a δ fun as => (as.map Ar.un).all Ar.okD = true ∧ psp (.tp :: as.map Ar.un) (fun m d => okR m d = true ∧ Q m d) (fun _ => False)
section
variable {K : PySem.W.Frag} {c : Cl} {t : Option Addr} {E : XE} {Ep : XP} {ta : TE} {qa : QE} {tr : TA} {qr : QA}
theorem b_nil : SimB K c t E Ep tNil qNil := fun F0 H0 L F δ σ H Q Qp Hb er rs ow hq k => k [] F H [] (.refl rs.st.s) True.intro True.intro hq
theorem b_consN (ha : SimE K c t E Ep ta qa) (hr : SimB K c t E Ep tr qr) : SimB K c t E Ep (tCons ta tr) (qConsN qa qr) := fun F0 H0 L F δ σ H Q Qp Hb er rs ow hq k => by
  refine ha.vw er rs hq fun x F1 H1 m d g v rp q => ?_
  refine hr F0 H0 L F1 δ σ H1 _ _ Hb er (rs.grow g) ow q.2 fun xs F3 H3 as g3 avl inh q3 => ?_
  exact k (x :: xs) F3 H3 (.sh d :: as) (g.trans g3 rs.st.dr) ⟨(rp q.1).mono (.of g3.f), avl⟩ ⟨True.intro, inh⟩ q3
theorem b_consO {i : Nat} (hr : SimB K c t E Ep tr qr) : SimB K c t E Ep (tCons (tVar i) tr) (qConsO i qr) := fun F0 H0 L F δ σ H Q Qp Hb er rs ow hq k => by
  obtain ⟨d, h1, h2⟩ := hq
  obtain ⟨x, h3, pk⟩ := rs.st.sl i _ h1
  refine ⟨x, h3, hr F0 H0 L F δ σ H _ _ Hb er rs ow h2 fun xs F3 H3 as g3 avl inh q3 => ?_⟩
  have pk' : Pk t F3 H3 x d := Pk.grow g3 pk
  obtain ⟨l, o, rfl, _⟩ := pk
  exact k _ F3 H3 (.pk d :: as) g3 ⟨pk', avl⟩ ⟨⟨l, rfl, ow i d l h1 h3⟩, inh⟩ q3
theorem avl_move {t' : Option Addr} {F H Hb : Hp} (ht : ∀ b, t' = some b → Hb b = none) : ∀ {xs : List V} {as : List Ar}, (as.map Ar.un).all Ar.okD = true → AvL K t F H xs as → InHL Hb xs as → AvL K t' F H xs as
  | [], [], _, _, _ => True.intro
  | x :: xs, a :: as, h, av, inh => by
    rw [List.map_cons, List.all_cons, Bool.and_eq_true] at h
    refine ⟨?_, avl_move ht h.2 av.2 inh.2⟩
    have h1 := av.1
    cases a with
    | sh d => exact h1
    | sc ns => exact h1
    | pk d =>
      obtain ⟨l, o, e, q1, q2, q3, q4⟩ := h1
      obtain ⟨b, eb, hb⟩ := inh.1
      refine ⟨l, o, e, q1, q2, fun z => ?_, q4⟩
      rw [e] at eb
      cases eb
      exact hb (ht l z.symm)
    | tp => exact absurd h.1 (by intro z; cases z)
  | [], _ :: _, _, h, _ => False.elim h
  | _ :: _, [], _, h, _ => False.elim h
theorem s_callDP {psp : PSp} {td : TE} {qd : QE} (hd : SimE K c t E Ep td qd) (ha : SimB K c t E Ep tr qr) : SimE K c t E Ep (tCall (lift K c psp) [] E0 (tCons td tr)) (qCallDP psp qd qr) := fun F0 H0 L F δ σ H Q Qp er rs hq k => by
  have ow : OwnIn H δ σ := fun i d l e1 e2 z => by
    obtain ⟨x, h3, l', o, e, q1, _⟩ := rs.st.sl i _ e1
    rw [e2] at h3
    cases h3
    cases e
    rw [z] at q1
    cases q1
  refine hd F0 H0 L F δ σ H _ _ er rs hq fun x F1 H1 m d g1 rv q1 => ?_
  obtain ⟨rfl, rfl, q1⟩ := q1
  obtain ⟨l, o, rfl, n0, h1, f1, nt, oo⟩ := rv
  refine ha F0 H0 L F1 δ σ H1 _ _ H er (rs.grow g1) ow q1 fun xs F2 H2 as g2 av inh q2 => ?_
  obtain ⟨hok, q2⟩ := q2
  have g12 := g1.trans g2 rs.st.dr
  have h2 : H2 l = some o := g2.h _ _ h1 nt
  have nol : ∀ zs, o ≠ .tup zs := fun zs z => by subst z; exact oo
  have f2 : F2 l = none := g2.n l f1 (by rw [h1]; exact Option.some_ne_none _) fun zs z => by rw [h1] at z; exact nol zs (Option.some.inj z)
  have dl : Dr H2 l := by
    cases o <;> first | exact False.elim oo | (obtain ⟨c1, s1, p1, rfl, z⟩ := oo; exact ⟨c1, s1, p1, h2, z⟩)
  have av' : AvL K (some l) F2 H2 xs as := avl_move (fun b e => by cases e; exact n0) hok av inh
  obtain ⟨F3, s1, s2, n3, av3⟩ := avl_un g2.s (fun a e => by cases e; exact ⟨dl, f2⟩) av'
  rw [List.append_nil]
  refine ⟨some l, F3, .tp :: as.map Ar.un, _, fun _ => False, s2, fun a e => by cases e; exact ⟨dl, n3 _ rfl⟩, ⟨⟨l, rfl, rfl⟩, av3⟩, by rw [List.any_cons, ok_nopk hok]; rfl, q2, fun z F4 H4 m d g4 rv4 hm q4 => ?_, fun n F' H' _ z => False.elim z⟩
  have st2 := (rs.grow g12).st
  obtain ⟨m', e, rv'⟩ := rv_ok (F' := F2) (F1 := F2) q4.1 hm g2.s rv4
  have em : m' = m := e.elim id fun z => z.1.trans z.2.symm
  subst em
  refine k z F2 H4 m' d ?_ ?_ q4.2
  · exact {
      z := g12.z
      f := g12.f
      h := fun b o1 e n => g4.h b o1 (g12.h b o1 e n) fun z => by rw [Option.some.inj z, n0] at e; cases e
      d := fun b e => g4.d b (g12.d b e)
      n := g12.n
      s := fun b o1 e => g4.h b o1 (g2.s b o1 e) fun z => by rw [Option.some.inj z, f2] at e; cases e
      t := fun a e _ => by
        obtain ⟨c1, s1, p1, w1, w2⟩ := st2.dr a e
        exact ⟨c1, s1, p1, g4.h _ _ w1 (fun z => nt (by rw [← z, e])), w2⟩ }
  · cases m' with
    | sh => exact rv'
    | pk => exact absurd rfl hm
    | ow =>
      obtain ⟨l3, o3, e3, w0, w1, w2, _, w4⟩ := rv'
      exact ⟨l3, o3, e3, g12.pre w0, w1, w2, tape_ne st2.dr w0, w4⟩
    | ot =>
      obtain ⟨p, l, o, y, d1, d2, e, a0, a1, a2, a3, a4, w0, w1, w2, _, w4⟩ := rv'
      exact ⟨p, l, o, y, d1, d2, e, g12.pre a0, a1, a2, a3, a4, g12.pre w0, w1, w2, tape_ne st2.dr w0, w4⟩
theorem h_callDP {psp : PSp} {qd : QE} {a : QA} {δ : DS} {Q : Md → D → Prop} (h : qd δ fun m d => m = .ow ∧ d = .tape ∧ a δ fun as => (as.map Ar.un).all Ar.okD = true ∧ psp (.tp :: as.map Ar.un) (fun m d => okR m d = true ∧ Q m d) (fun _ => False)) : qCallDP psp qd a δ Q := h
theorem h_callD {psp : PSp} {qd : QE} {a : QA} {δ : DS} {Q : Md → D → Prop} (h : qd δ fun m d => m = .ow ∧ d = .tape ∧ a δ fun as => as.all Ar.okD = true ∧ psp (.tp :: as) Q (fun _ => False)) : qCallD psp qd a δ Q := h
theorem h_consN {a : QE} {r : QA} {δ : DS} {QA' : List Ar → Prop} (h : a δ fun m d => m ≠ .pk ∧ r δ fun as => QA' (.sh d :: as)) : qConsN a r δ QA' := h
theorem h_consO {i : Nat} {d : D} {r : QA} {δ : DS} {QA' : List Ar → Prop} (h1 : δ[i]? = some (some (.ow d))) (h : r δ fun as => QA' (.pk d :: as)) : qConsO i r δ QA' := ⟨d, h1, h⟩
end
end Sw
end
section
local macro_rules | `(tactic| walk_at "go1") => `(tactic| first
  | with_reducible refine Sw.g_seqasg ?_ | with_reducible refine Sw.g_op ?_ | with_reducible refine Sw.g_var rfl ?_ | with_reducible refine Sw.g_c ?_ | with_reducible refine Sw.g_I0 ?_
  | with_reducible refine Sw.g_cons ?_ | with_reducible refine Sw.g_nil ?_ | with_reducible refine Sw.g_call ?_ | with_reducible refine Sw.g_cb ?_ | with_reducible refine Sw.g_test ?_ | with_reducible refine Sw.g_bl ?_
  | with_reducible refine Sw.g_seqdrop ?_ | with_reducible refine Sw.g_seqsub ?_ | with_reducible refine Sw.g_asg ?_ | with_reducible refine Sw.g_asgsub ?_ | with_reducible refine Sw.g_ret ?_ | with_reducible refine Sw.g_drop ?_ | with_reducible refine Sw.g_if ?_ | with_reducible refine Sw.g_next ?_ | with_reducible refine Sw.g_name ?_
  | with_reducible refine Sw.g_B ?_ | with_reducible refine Sw.g_not ?_ | with_reducible refine Sw.g_and ?_ | with_reducible refine Sw.g_or ?_ | with_reducible refine Sw.g_andV ?_ | with_reducible refine Sw.g_orV ?_ | with_reducible refine Sw.g_notV ?_
  | with_reducible refine Sw.g_ifE ?_ | with_reducible refine Sw.g_chain ?_ | with_reducible refine Sw.g_un ?_ | with_reducible refine Sw.g_tup ?_ | with_reducible refine Sw.g_lst ?_ | with_reducible refine Sw.g_sl ?_ | with_reducible refine Sw.g_part ?_ | with_reducible refine Sw.g_nopart ?_
  | with_reducible refine Sw.g_U ?_ | with_reducible refine Sw.g_eq rfl ?_ | with_reducible refine Sw.g_ne rfl ?_ | with_reducible refine Sw.g_int ?_ | with_reducible refine Sw.g_yes ?_ | with_reducible refine L2.iteT ?_ | with_reducible refine L2.iteF ?_ | with_reducible refine Sw.iteNT ?_ | with_reducible refine Sw.iteNF ?_ | with_reducible refine Sw.g_m1 ?_ | with_reducible refine Sw.g_bm ?_ | with_reducible refine ⟨Sw.ty_lst (by assumption), ?_⟩ | with_reducible refine Sw.g_sput ?_ | with_reducible refine Sw.g_put ?_ | with_reducible refine Sw.g_dget2 ?_ | with_reducible refine Sw.g_dget ?_ | with_reducible refine Sw.g_dK ?_ | with_reducible refine Sw.g_dT ?_ | with_reducible refine Sw.g_dnotin ?_ | with_reducible refine Sw.g_din ?_ | with_reducible refine Sw.g_bm0 ?_
  | with_reducible refine Sw.g_ixL (by assumption) rfl ?_ | with_reducible refine Sw.g_ixT (by assumption) rfl ?_)
local macro_rules | `(tactic| walk_at "go") => `(tactic| repeat walk_at "go1")
local macro_rules | `(tactic| walk_at "bd") => `(tactic| repeat (first | with_reducible exact Sw.all_nil | refine Sw.all_cons ⟨_, rfl, by omega, by omega⟩ ?_))
local macro_rules | `(tactic| walk_at "new") => `(tactic| (refine ⟨Nat.le_of_ble_eq_true rfl, fun p np => ?_⟩; generalize hX : L2.upd _ p _ = H'; have sm : L2.Same _ H' := hX ▸ Sw.same_upd np; have hp : H' p = some _ := hX ▸ L2.upd_same; clear hX))
namespace Sw
open PySem PySem.Spec PyProof.Rows L2 SX
/-! ### a list of one new dict that is filled: found = [{}]; for x in rows: found[0][x] = v -/
section
variable {K : PySem.W.Frag} {c : Cl} {t : Option Addr} {F0 H0 L F H : Hp} {δ : DS} {σ : L2.St} {i : Nat} {l : Addr} {o : HO}
/-- an object of nobody's is changed -/
theorem RS.updX (r : RS K t F0 H0 L F δ σ H) (h0 : H0 l = none) (hf : F l = none) (ht : some l ≠ t) (hn : ∀ (j : Nat) (d : D), δ[j]? = some (some (.ow d)) → σ[j]? ≠ some (some (.ref l))) : RS K t F0 H0 L F δ σ (L2.upd H l o) := by
  have sF : Same F (L2.upd H l o) := fun b z e => by rw [upd_ne (ne_of_none e hf)]; exact r.st.s b z e
  have dr1 : ∀ a, t = some a → Dr H a → Dr (L2.upd H l o) a := fun a e h => by
    obtain ⟨c1, s1, p1, z1, z2⟩ := h
    exact ⟨c1, s1, p1, by rw [upd_ne (fun w => ht (by rw [e, w]))]; exact z1, z2⟩
  exact {
    st := {
      s := sF
      tp := fun a e => ⟨dr1 a e (r.st.tp a e).1, (r.st.tp a e).2⟩
      len := r.st.len
      sl := fun j v e => by
        obtain ⟨y, h1, h2⟩ := r.st.sl j v e
        refine ⟨y, h1, ?_⟩
        cases v with
        | sh d => exact h2
        | tp => exact h2
        | sc ns => exact h2
        | ow d2 =>
          obtain ⟨l2, o2, w1, w2, w3⟩ := h2
          refine ⟨l2, o2, w1, ?_, w3⟩
          rw [upd_ne (fun z => hn j d2 e (by rw [h1, w1, z]))]
          exact w2
      ne := r.st.ne }
    g := {
      z := r.g.z
      f := r.g.f
      h := fun b o1 e n => by rw [upd_ne (ne_of_none e h0)]; exact r.g.h b o1 e n
      d := fun b e z => by
        by_cases hb : b = l
        · subst hb; rw [upd_same] at z; cases z
        · rw [upd_ne hb] at z; exact r.g.d b e z
      n := r.g.n
      s := sF
      t := fun a e h => dr1 a e (r.g.t a e h) }
    lo := r.lo
    fr := r.fr
    dr := r.dr }
/-- an object of nobody's is frozen -/
theorem RS.frzX (r : RS K t F0 H0 L F δ σ H) (hl : H l = some o) (h0 : H0 l = none) (hf : F l = none) (ht : some l ≠ t) (hn : ∀ (j : Nat) (d : D), δ[j]? = some (some (.ow d)) → σ[j]? ≠ some (some (.ref l))) : RS K t F0 H0 L (L2.upd F l o) δ σ H := by
  have sF : Same F (L2.upd F l o) := same_upd hf
  have g := r.g.freeze h0 hl
  exact {
    st := {
      s := g.s
      tp := fun a e => ⟨(r.st.tp a e).1, by rw [upd_ne (fun w => ht (by rw [e, w]))]; exact (r.st.tp a e).2⟩
      len := r.st.len
      sl := fun j v e => by
        obtain ⟨y, h1, h2⟩ := r.st.sl j v e
        refine ⟨y, h1, ?_⟩
        cases v with
        | sh d => exact Rp.mono (.of sF) h2
        | tp => exact h2
        | sc ns => obtain ⟨a, w1, w2⟩ := h2; exact ⟨a, w1, sF.seq w2⟩
        | ow d2 =>
          obtain ⟨l2, o2, w1, w2, w3, w4, w5⟩ := h2
          refine ⟨l2, o2, w1, w2, ?_, w4, w5.mono (.of sF)⟩
          rw [upd_ne (fun z => hn j d2 e (by rw [h1, w1, z]))]
          exact w3
      ne := r.st.ne }
    g := g
    lo := r.lo.trans sF
    fr := r.fr
    dr := r.dr }
/-- an object of nobody's becomes slot i's own -/
theorem RS.adopt {d : D} (r : RS K t F0 H0 L F δ σ H) (hl : H l = some o) (h0 : H0 l = none) (hf : F l = none) (ht : some l ≠ t) (hn : ∀ (j : Nat) (d : D), δ[j]? = some (some (.ow d)) → σ[j]? ≠ some (some (.ref l))) (ho : OO F o d) (hx : σ[i]? = some (some (.ref l))) : RS K t F0 H0 L F (δ.set i (some (.ow d))) σ H where
  st := {
    s := r.st.s
    tp := r.st.tp
    len := by rw [List.length_set]; exact r.st.len
    sl := fun j v e => by
      rcases set_at e with ⟨rfl, e2, _⟩ | ⟨_, e2⟩
      · cases e2
        exact ⟨.ref l, hx, l, o, rfl, hl, hf, ht, ho⟩
      · exact r.st.sl j v e2
    ne := fun a b d1 d2 y e1 e2 e3 e4 => by
      rcases set_at e1 with ⟨rfl, _, _⟩ | ⟨_, e1⟩
      · rcases set_at e2 with ⟨rfl, _, _⟩ | ⟨_, e2⟩
        · rfl
        · rw [hx] at e3
          cases e3
          exact absurd e4 (hn b d2 e2)
      · rcases set_at e2 with ⟨rfl, _, _⟩ | ⟨_, e2⟩
        · rw [hx] at e4
          cases e4
          exact absurd e3 (hn a d1 e1)
        · exact r.st.ne a b d1 d2 y e1 e2 e3 e4 }
  g := r.g
  lo := r.lo
  fr := fun j e l2 e1 e2 => by
    rcases set_at e1 with ⟨rfl, _, _⟩ | ⟨_, e1⟩
    · rw [hx] at e2; cases e2; exact h0
    · exact r.fr j e l2 e1 e2
  dr := r.dr
end
def fillD (v : D) (ks : List (List Key)) : List (List Key × D) := ks.foldl (fun r k => putD r k v) []
theorem fillD_snoc (v : D) (ks : List (List Key)) (k : List Key) : fillD v (ks ++ [k]) = putD (fillD v ks) k v := by unfold fillD; rw [List.foldl_append]; rfl
def tupK (k : List Key) : D := .tup (k.map dKey)
theorem take_snocF {α : Type} {l : List α} {k : Nat} {x : α} (h : l[k]? = some x) : l.take (k + 1) = l.take k ++ [x] := by rw [List.take_succ, h]; rfl
def qFill (i j : Nat) (qi : QI) (qe : QE) : QS := fun P δ => i < δ.length ∧ j < δ.length ∧ qi ((δ.set i none).set j none) fun m ds => m ≠ .pk ∧ ∃ (ks : List (List Key)) (v : D), ds = ks.map tupK ∧ ks.length ≤ 100000 ∧ (∀ (δ' : DS) (Q : Md → D → Prop), Q .sh v → qe δ' Q) ∧ P.nx (((δ.set i none).set j none).set i (some (.ow (.lst [.dT (fillD v ks)]))))
theorem putD_len {κ : Type} [DecidableEq κ] (R : List (κ × D)) (k : κ) (d : D) : (putD R k d).length ≤ R.length + 1 := by
  unfold putD
  split
  · rw [List.length_map]; omega
  · rw [List.length_append]; exact Nat.le_refl _
theorem fillD_len (v : D) (ks : List (List Key)) : (fillD v ks).length ≤ ks.length := by
  have : ∀ (ks : List (List Key)) (r : List (List Key × D)), (ks.foldl (fun r k => putD r k v) r).length ≤ r.length + ks.length := by
    intro ks
    induction ks with
    | nil => intro r; exact Nat.le_refl _
    | cons k ks ih =>
      intro r
      have h1 := ih (putD r k v)
      have h2 := putD_len r k v
      rw [List.foldl_cons, List.length_cons]
      omega
  have := this ks []
  rw [List.length_nil] at this
  unfold fillD
  omega
section
variable {K : PySem.W.Frag} {c : Cl} {t : Option Addr} {E : XE} {Ep : XP} {te : TE} {qe : QE} {tu : TS} {qu : QS} {wi : TI} {qi : QI} {i j : Nat}
theorem s_fill (hij : i ≠ j) (hi : SimI K c t E Ep wi qi) (he : SimE K c t E Ep te qe) (hu : SimS K c t E Ep tu qu) :
    SimS K c t E Ep (tSeq (tAsg (tLst (tCons tDNewT tNil)) (gName i)) (tSeq (tFor wi (gName j) (sDPut (tOp (rIxL K) (tVar i) (tC (.int 0))) (tVar j) te)) tu)) (qSeq (qFill i j qi qe) qu) := fun F0 H0 L F δ σ H De Dp er rs en hq => by
  obtain ⟨hi2, hj2, hq⟩ := hq
  rw [← rs.st.len] at hi2 hj2
  intro D0 nD
  refine ⟨by show 1 ≤ sizeLine; exact le_line (by decide), fun L0 nL => ?_⟩
  have hDL : D0 ≠ L0 := fun z => by rw [← z, upd_same] at nL; cases nL
  have nL' : H L0 = none := by rw [upd_ne hDL.symm] at nL; exact nL
  have s0 := rs.st.s
  have g1 : Grow t F H F (L2.upd H D0 (.dT [])) := .own s0 nD
  have g2 : Grow t F H F (L2.upd (L2.upd H D0 (.dT [])) L0 (.lst [.ref D0])) := g1.trans (.own g1.s nL) rs.st.dr
  have tD : some D0 ≠ t := tape_ne rs.st.dr nD
  have tL : some L0 ≠ t := tape_ne rs.st.dr nL'
  have fD : F D0 = none := s0.free nD
  have fL : F L0 = none := s0.free nL'
  have h0D : H0 D0 = none := rs.g.pre nD
  have h0L : H0 L0 = none := rs.g.pre nL'
  have na : ∀ (k : Nat) (d : D), δ[k]? = some (some (.ow d)) → ∀ p, H p = none → σ[k]? ≠ some (some (.ref p)) := fun k d e p hp z => by
    obtain ⟨l, o, h1, h2, _⟩ := rs.own e
    rw [h1] at z
    cases z
    rw [hp] at h2
    cases h2
  have r2 : RS K t F0 H0 L F ((δ.set i none).set j none) (σ.set i (some (.ref L0))) (L2.upd (L2.upd H D0 (.dT [])) L0 (.lst [.ref D0])) := by
    have := ((rs.grow g2).setN (i := i) (y := some (.ref L0))).setN (i := j) (y := (σ.set i (some (.ref L0))).getD j none)
    have e : (σ.set i (some (.ref L0))).set j ((σ.set i (some (.ref L0))).getD j none) = σ.set i (some (.ref L0)) := by
      refine List.ext_getElem? fun k => ?_
      rw [List.getElem?_set]
      by_cases z : j = k
      · subst z
        rw [if_pos rfl]
        by_cases hl : j < (σ.set i (some (.ref L0))).length
        · rw [if_pos hl, List.getD, List.getElem?_eq_getElem hl]; rfl
        · rw [if_neg hl, List.getElem?_eq_none (by omega)]
      · rw [if_neg z]
    rw [e] at this
    exact this
  generalize hδ : (δ.set i none).set j none = δ2 at r2
  have na2 : ∀ (k : Nat) (d : D), δ2[k]? = some (some (.ow d)) → k ≠ i ∧ k ≠ j ∧ δ[k]? = some (some (.ow d)) := fun k d e => by
    rw [← hδ] at e
    rcases set_at e with ⟨_, z, _⟩ | ⟨n1, e⟩
    · cases z
    rcases set_at e with ⟨_, z, _⟩ | ⟨n2, e⟩
    · cases z
    exact ⟨n2.symm, n1.symm, e⟩
  have dj : δ2.set j none = δ2 := by rw [← hδ, List.set_set]
  show wi _ _ _
  have hq' : qi δ2 fun m ds => m ≠ .pk ∧ ∃ (ks : List (List Key)) (v : D), ds = ks.map tupK ∧ ks.length ≤ 100000 ∧ (∀ (δ' : DS) (Q : Md → D → Prop), Q .sh v → qe δ' Q) ∧ qu Dp (δ2.set i (some (.ow (.lst [.dT (fillD v ks)])))) := by
    rw [← hδ]
    exact hq
  refine hi F0 H0 L F δ2 _ _ _ _ er r2 hq' fun J F1 H1 m ds g3 _ ok q => ?_
  obtain ⟨hm, ks, v, rfl, hk, hv, q⟩ := q
  have ok := ok hm
  have r3 := r2.grow g3
  have keep : ∀ {Fx Hx Fy Hy : Hp} {p : Addr} {o : HO}, Grow t Fx Hx Fy Hy → (∀ xs, o ≠ .tup xs) → some p ≠ t → Hx p = some o → Fx p = none → Hy p = some o ∧ Fy p = none := fun gg ho hp h1 h2 => ⟨gg.h _ _ h1 hp, gg.n _ h2 (by rw [h1]; exact Option.some_ne_none _) fun xs z => by rw [h1] at z; exact ho xs (Option.some.inj z)⟩
  obtain ⟨hL1, fL1⟩ := keep g3 (fun _ z => by cases z) tL upd_same fL
  obtain ⟨hD1, fD1⟩ := keep (o := .dT []) g3 (fun _ z => by cases z) tD (by rw [upd_ne hDL, upd_same]) fD
  have er1 : ER K c t F0 H0 F1 E Ep := er.low r3.lo
  refine ⟨fun k m σ' H' => m = ks.length - k ∧ k ≤ ks.length ∧ σ'.length = σ.length ∧ (i < σ.length → σ'[i]? = some (some (.ref L0))) ∧ (∀ (a : Nat), a ≠ i → a ≠ j → σ'[a]? = σ[a]?) ∧ ∃ F' xs, RS K t F0 H0 F1 F' δ2 σ' H' ∧ H' L0 = some (.lst [.ref D0]) ∧ F' L0 = none ∧ H' D0 = some (.dT xs) ∧ F' D0 = none ∧ RpT F' (fillD v (ks.take k)) xs, ⟨ks.length, by omega, by omega, by rw [List.length_set], fun h => set_self h, fun a h _ => set_other h.symm, F1, [], r3.at, hL1, fL1, hD1, fD1, rfl⟩, ?_⟩
  rintro k m σ' H' ⟨rfl, hkl, sl, si, so, F', xs, r', a1, a2, a3, a4, a5⟩
  have nD2 : ∀ p, H p = none → ∀ (b : Nat) (d : D), δ2[b]? = some (some (.ow d)) → σ'[b]? ≠ some (some (.ref p)) := fun p hp b d e z => by
    obtain ⟨n1, n2, e⟩ := na2 b d e
    rw [so b n1 n2] at z
    exact na b d e p hp z
  have y := ok F' H' r'.lo r'.st.s
  by_cases hlt : k < ks.length
  · have hd := List.getElem?_eq_getElem hlt
    generalize ks[k] = key at hd
    obtain ⟨y1, y2⟩ := y.1 k (tupK key) (by rw [List.getElem?_map, hd]; rfl)
    refine .inr ⟨y1, fun σ2 H2 => σ2.length = σ.length ∧ (i < σ.length → σ2[i]? = some (some (.ref L0))) ∧ (∀ (a : Nat), a ≠ i → a ≠ j → σ2[a]? = σ[a]?) ∧ ∃ F2 xs2, RS K t F0 H0 F1 F2 δ2 σ2 H2 ∧ H2 L0 = some (.lst [.ref D0]) ∧ F2 L0 = none ∧ H2 D0 = some (.dT xs2) ∧ F2 D0 = none ∧ RpT F2 (fillD v (ks.take (k + 1))) xs2, fun σ2 H2 h2 => ⟨ks.length - (k + 1), by omega, rfl, by omega, h2⟩, fun x H2 hy => ?_⟩
    obtain ⟨F2, g4, rp⟩ := y2 x H2 hy
    replace g4 := g4.any (t := t)
    obtain ⟨b1, b2⟩ := keep g4 (fun _ z => by cases z) tL a1 a2
    obtain ⟨b3, b4⟩ := keep g4 (fun _ z => by cases z) tD a3 a4
    have r4 := (r'.grow g4).setS (i := j) rp
    have hjx : j < σ'.length → (σ'.set j (some x))[j]? = some (some x) := fun h => set_self h
    refine he.vw (Qp := fun m d => m = Md.sh ∧ d = v) er1 r4 (hv _ _ ⟨rfl, rfl⟩) fun y F3 H3 m d g5 _ rp5 q5 => ?_
    obtain ⟨rfl, rfl⟩ := q5
    have rp5 := rp5 (by decide)
    obtain ⟨c1, c2⟩ := keep g5 (fun _ z => by cases z) tL b1 b2
    obtain ⟨c3, c4⟩ := keep g5 (fun _ z => by cases z) tD b3 b4
    have r5 := (r4.grow g5).setN (i := j) (y := some x)
    rw [List.set_set, List.set_set, dj] at r5
    refine ⟨.ref L0, by rw [set_other hij.symm]; exact si hi2, ?_⟩
    refine ⟨L0, [.ref D0], 0, .ref D0, rfl, rfl, uniqL c1, rfl, ?_⟩
    refine ⟨x, hjx (by rw [sl]; exact hj2), ?_⟩
    obtain ⟨b, ys, rfl, hb, hrb⟩ := Rp.mono (.of g5.f) rp
    rw [rpl_keys' hrb] at hb
    have hlen : xs.length ≤ 100000 := by
      rw [a5.len]
      have := fillD_len d (ks.take k)
      rw [List.length_take] at this
      omega
    refine ⟨D0, _, rfl, .inr ⟨xs, key, b, c3, rfl, g5.s _ _ hb, Nat.lt_of_le_of_lt hlen (by decide), rfl⟩, ?_⟩
    have nx : ∀ p, H p = none → ∀ (a : Nat) (e : D), δ2[a]? = some (some (.ow e)) → (σ'.set j (some (V.ref b)))[a]? ≠ some (some (.ref p)) := fun p hp a e ea z => by
      obtain ⟨_, n2, _⟩ := na2 a e ea
      rw [set_other n2.symm] at z
      exact nD2 p hp a e ea z
    refine ⟨by rw [List.length_set]; exact sl, fun h => by rw [set_other hij.symm]; exact si h, fun a n1 n2 => by rw [set_other n2.symm]; exact so a n1 n2, F3, putK xs key y, r5.updX h0D c4 tD (nx D0 nD), by rw [upd_ne hDL.symm]; exact c1, c2, upd_same, c4, ?_⟩
    rw [take_snocF hd, fillD_snoc]
    exact ((a5.mono (.of (g4.f.trans g5.f)))).put rp5
  · have e : k = ks.length := by omega
    subst e
    rw [List.take_length] at a5
    refine .inl ⟨by have := y.2; rw [List.length_map] at this; exact this, ?_⟩
    have r6 := r'.frzX a3 h0D a4 tD (nD2 D0 nD)
    have s6 : Same F' (L2.upd F' D0 (.dT xs)) := same_upd a4
    have r7 := r6.adopt (i := i) (d := .lst [.dT (fillD v ks)]) a1 h0L (by rw [upd_ne hDL.symm]; exact a2) tL (nD2 L0 nL') ⟨_, _, rfl, ⟨D0, xs, rfl, .inl upd_same, a5.mono (.of s6)⟩, rfl⟩ (si hi2)
    exact hu F0 H0 L _ _ σ' H' De Dp er (r7.low r3.lo) en q
end
theorem h_seqfrzE {s u : QS} {P : Pn} {δ : DS} {i : Nat} {sv : SV} {d : D} (h : δ[i]? = some (some sv)) (hs : sv = .ow d ∨ sv = .sh d) (q : qSeq s u P (δ.set i (some (.sh d)))) : qSeq (qFrz i s) u P δ := by
  rcases hs with rfl | rfl
  · exact ⟨_, h, q⟩
  · have e : δ.set i (some (.sh d)) = δ := by
      refine List.ext_getElem? fun j => ?_
      rw [List.getElem?_set]
      by_cases z : i = j
      · subst z
        have hl := (List.getElem?_eq_some_iff.mp h).1
        rw [if_pos rfl, if_pos hl, h]
      · rw [if_neg z]
    rw [e] at q
    exact ⟨_, h, q⟩
end Sw
end
section
local macro_rules | `(tactic| walk_at "go1") => `(tactic| first
  | with_reducible refine Sw.g_seqasg ?_ | with_reducible refine Sw.g_op ?_ | with_reducible refine Sw.g_var rfl ?_ | with_reducible refine Sw.g_c ?_ | with_reducible refine Sw.g_I0 ?_
  | with_reducible refine Sw.g_cons ?_ | with_reducible refine Sw.g_nil ?_ | with_reducible refine Sw.g_call ?_ | with_reducible refine Sw.g_cb ?_ | with_reducible refine Sw.g_test ?_ | with_reducible refine Sw.g_bl ?_
  | with_reducible refine Sw.g_seqdrop ?_ | with_reducible refine Sw.g_seqsub ?_ | with_reducible refine Sw.g_asg ?_ | with_reducible refine Sw.g_asgsub ?_ | with_reducible refine Sw.g_ret ?_ | with_reducible refine Sw.g_drop ?_ | with_reducible refine Sw.g_if ?_ | with_reducible refine Sw.g_next ?_ | with_reducible refine Sw.g_name ?_
  | with_reducible refine Sw.g_B ?_ | with_reducible refine Sw.g_not ?_ | with_reducible refine Sw.g_and ?_ | with_reducible refine Sw.g_or ?_ | with_reducible refine Sw.g_andV ?_ | with_reducible refine Sw.g_orV ?_ | with_reducible refine Sw.g_notV ?_
  | with_reducible refine Sw.g_ifE ?_ | with_reducible refine Sw.g_chain ?_ | with_reducible refine Sw.g_un ?_ | with_reducible refine Sw.g_tup ?_ | with_reducible refine Sw.g_lst ?_ | with_reducible refine Sw.g_sl ?_ | with_reducible refine Sw.g_part ?_ | with_reducible refine Sw.g_nopart ?_
  | with_reducible refine Sw.g_U ?_ | with_reducible refine Sw.g_eq rfl ?_ | with_reducible refine Sw.g_ne rfl ?_ | with_reducible refine Sw.g_int ?_ | with_reducible refine Sw.g_yes ?_ | with_reducible refine L2.iteT ?_ | with_reducible refine L2.iteF ?_ | with_reducible refine Sw.iteNT ?_ | with_reducible refine Sw.iteNF ?_ | with_reducible refine Sw.g_m1 ?_ | with_reducible refine Sw.g_bm ?_ | with_reducible refine ⟨Sw.ty_lst (by assumption), ?_⟩ | with_reducible refine Sw.g_sput ?_ | with_reducible refine Sw.g_put ?_ | with_reducible refine Sw.g_dget2 ?_ | with_reducible refine Sw.g_dget ?_ | with_reducible refine Sw.g_dK ?_ | with_reducible refine Sw.g_dT ?_ | with_reducible refine Sw.g_dnotin ?_ | with_reducible refine Sw.g_din ?_ | with_reducible refine Sw.g_bm0 ?_
  | with_reducible refine Sw.g_ixL (by assumption) rfl ?_ | with_reducible refine Sw.g_ixT (by assumption) rfl ?_)
local macro_rules | `(tactic| walk_at "go") => `(tactic| repeat walk_at "go1")
local macro_rules | `(tactic| walk_at "bd") => `(tactic| repeat (first | with_reducible exact Sw.all_nil | refine Sw.all_cons ⟨_, rfl, by omega, by omega⟩ ?_))
local macro_rules | `(tactic| walk_at "new") => `(tactic| (refine ⟨Nat.le_of_ble_eq_true rfl, fun p np => ?_⟩; generalize hX : L2.upd _ p _ = H'; have sm : L2.Same _ H' := hX ▸ Sw.same_upd np; have hp : H' p = some _ := hX ▸ L2.upd_same; clear hX))
namespace Sw
open PySem PySem.Spec PyProof.Rows L2 SX
/-! ### texts: split at blanks, a number's text, a text's number; None among numbers -/
abbrev rSplitC : V → List V → Hp → VK → Prop := fun x xs H Q => ∃ a b, x = .str a ∧ xs = [.str b] ∧ (b.length == 0) = false ∧ a.length + 2 ≤ sizeLine ∧ rNewStrs (Txt.split a b) H Q
def splB (l : List Nat) : List (List Nat) := TL.spl [32] 0 [] l
def pSplitC : P2 := fun d e Q => ∃ l, d = .str l ∧ e = .str [32] ∧ l.length ≤ 1000000 ∧ Q .ow (.lst ((splB l).map .str))
theorem o_splitC {t : Option Addr} : Sim2 t (fun x y => rSplitC x [y]) pSplitC := fun F H x y d e Q Qp s ht vx vy p k => by
  obtain ⟨l, rfl, rfl, hl, q⟩ := p
  refine ⟨S l, S [32], vw_str vx, by rw [vw_str vy], rfl, ?_, fun p np => ?_⟩
  · rw [S_len]
    exact Nat.le_trans (Nat.add_le_add_right hl 2) (by decide)
  · rw [split_S (by decide) (by decide)]
    exact k.new s ht np (o := .lst _) (d := .lst _) (rpl_of_strs _) q
theorem h_splitC {l : List Nat} {Q : Md → D → Prop} (hl : l.length ≤ 1000000) (q : Q .ow (.lst ((splB l).map .str))) : pSplitC (.str l) (.str [32]) Q := ⟨l, rfl, rfl, hl, q⟩
abbrev rStrI : RC := fun xs H Q => ∃ i, xs = [.int i] ∧ i.natAbs.log2 < 1920 ∧ Q (.str (toString i)) H
def txtI (i : Int) : List Nat := ((toString i : String) : Str).cps.toList
def pStrI : P1 := fun d Q => ∃ i, d = .int i ∧ i.natAbs.log2 < 1920 ∧ Q .sh (.str (txtI i))
theorem o_strI {t : Option Addr} : Sim1 t (fun x => rStrI [x]) pStrI := fun F H x d Q Qp s ht vx p k => by
  obtain ⟨i, rfl, hi, q⟩ := p
  refine ⟨i, by rw [vw_int vx], hi, k.val s (d := .str (txtI i)) ?_ q⟩
  show V.str _ = V.str (S (txtI i))
  unfold txtI
  rw [S_cps]
theorem h_strI {i : Int} {Q : Md → D → Prop} (hi : i.natAbs.log2 < 1920) (q : Q .sh (.str (txtI i))) : pStrI (.int i) Q := ⟨i, rfl, hi, q⟩
abbrev rIntS : RC := fun xs H Q => ∃ a n, xs = [.str a] ∧ PySem.intText? a = some n ∧ a.length ≤ 640 ∧ Q (.int n) H
def pIntS : P1 := fun d Q => ∃ l n, d = .str l ∧ PySem.intText? (S l) = some n ∧ l.length ≤ 640 ∧ Q .sh (.int n)
theorem o_intS {t : Option Addr} : Sim1 t (fun x => rIntS [x]) pIntS := fun F H x d Q Qp s ht vx p k => by
  obtain ⟨l, n, rfl, hn, hl, q⟩ := p
  exact ⟨S l, n, by rw [vw_str vx], hn, by rw [S_len]; exact hl, k.val s (d := .int n) rfl q⟩
def optD : Option Int → D
  | none => .non
  | some i => .int i
def optV : Option Int → V
  | none => .non
  | some i => .int i
theorem rpl_opts {F : Hp} : ∀ {ns : List (Option Int)} {xs : List V}, RpL F (ns.map optD) xs → xs = ns.map optV
  | [], _, h => h
  | none :: _, _, h => by
    obtain ⟨x, r, rfl, h2, h3⟩ := h
    have e : x = V.non := h2
    rw [e, rpl_opts h3]; rfl
  | some i :: _, _, h => by
    obtain ⟨x, r, rfl, h2, h3⟩ := h
    have e : x = V.int i := h2
    rw [e, rpl_opts h3]; rfl
def pInN (neg : Bool) : P2 := fun d e Q => ∃ ns : List (Option Int), d = .non ∧ e = .lst (ns.map optD) ∧ Q .sh (.bl (if neg then !(ns.any Option.isNone) else ns.any Option.isNone))
theorem flat_opts : ∀ ns : List (Option Int), (ns.map optV).all flatV = true
  | [] => rfl
  | none :: ns => by rw [List.map_cons, List.all_cons, flat_opts ns]; rfl
  | some _ :: ns => by rw [List.map_cons, List.all_cons, flat_opts ns]; rfl
theorem inV_opts : ∀ ns : List (Option Int), inV .non (ns.map optV) = ns.any Option.isNone
  | [] => rfl
  | none :: ns => rfl
  | some i :: ns => by
    have := inV_opts ns
    unfold inV at this ⊢
    rw [List.map_cons, List.any_cons, this]
    rfl
theorem o_inN {K : PySem.W.Frag} {t : Option Addr} {neg : Bool} : Sim2 t (rIn K neg) (pInN neg) := fun F H x y d e Q Qp s ht vx vy p k => by
  obtain ⟨ns, rfl, rfl, q⟩ := p
  obtain ⟨p1, xs, rfl, h1, h2⟩ := vw_lst s vy
  rw [rpl_opts h2] at h1
  have e := vw_non vx
  subst e
  exact ⟨p1, _, rfl, .inl (.inl (.inl h1)), rfl, flat_opts ns, by rw [inV_opts]; exact k.val s (d := .bl _) rfl q⟩
theorem h_inN {ns : List (Option Int)} {Q : Md → D → Prop} (q : Q .sh (.bl (ns.any Option.isNone))) : pInN false .non (.lst (ns.map optD)) Q := ⟨ns, rfl, rfl, q⟩
theorem lift0 {K : PySem.W.Frag} {c : Cl} {psp : PSp} (h0 : ∀ as Q E, psp as Q E → False) {vs : List V} {H : Hp} {Q : VK} {E : XK} (h : lift K c psp vs H Q E) : False := by
  obtain ⟨_, _, _, _, _, _, _, _, _, h, _⟩ := h
  exact h0 _ _ _ h
end Sw
end
section
local macro_rules | `(tactic| walk_at "go1") => `(tactic| first
  | with_reducible refine Sw.h_seqasg ?_
  | with_reducible refine Sw.h_op ?_
  | with_reducible refine Sw.h_varS rfl ?_
  | with_reducible refine Sw.h_varO rfl ?_
  | with_reducible refine Sw.h_c ?_
  | with_reducible refine Sw.h_I0 ?_
  | with_reducible refine Sw.h_cons ?_
  | with_reducible refine Sw.h_consT rfl ?_
  | with_reducible refine Sw.h_consC rfl ?_
  | with_reducible refine Sw.h_nil ?_
  | with_reducible refine Sw.h_call ?_
  | with_reducible refine Sw.h_un ?_
  | with_reducible refine Sw.h_test ?_
  | with_reducible refine Sw.h_bl ?_
  | with_reducible refine Sw.h_seqdrop ?_
  | with_reducible refine Sw.h_asS ?_
  | with_reducible refine Sw.h_asO ?_
  | with_reducible refine Sw.h_ne1 ?_
  | with_reducible refine Sw.h_ne2 ?_
  | with_reducible refine Sw.h_asg ?_
  | with_reducible refine Sw.h_drop ?_
  | with_reducible refine Sw.h_ret ?_
  | with_reducible refine Sw.h_retS rfl ?_
  | with_reducible refine Sw.h_retO rfl ?_
  | with_reducible refine Sw.h_retN ?_
  | with_reducible refine Sw.h_next ?_
  | with_reducible refine Sw.h_if ?_
  | with_reducible refine Sw.h_frzO rfl ?_
  | with_reducible refine Sw.h_frzS rfl ?_
  | with_reducible refine Sw.h_and ?_
  | with_reducible refine Sw.h_or ?_
  | with_reducible refine Sw.h_not ?_
  | with_reducible refine Sw.h_yes ?_
  | with_reducible refine Sw.h_andV ?_
  | with_reducible refine Sw.h_orV ?_
  | with_reducible refine Sw.h_notV ?_
  | with_reducible refine Sw.h_ifE ?_
  | with_reducible refine Sw.h_chain ?_
  | with_reducible refine Sw.h_lenC rfl ?_
  | with_reducible refine Sw.h_tup ?_
  | with_reducible refine Sw.h_lst ?_
  | with_reducible refine Sw.h_shs0 ?_
  | with_reducible refine Sw.h_shs1 ?_
  | with_reducible refine Sw.h_shs2 ?_
  | with_reducible refine Sw.h_shs3 ?_
  | with_reducible refine Sw.h_shs4 ?_
  | with_reducible refine Sw.h_sl ?_
  | with_reducible refine Sw.h_nopart ?_
  | with_reducible refine Sw.h_part ?_
  | with_reducible refine Sw.h_int ?_
  | with_reducible refine Sw.h_neg ?_
  | with_reducible refine Sw.h_S ?_
  | with_reducible refine Sw.h_inSign ?_
  | with_reducible refine Sw.h_notInSign ?_
  | with_reducible refine Sw.h_isN ?_
  | with_reducible refine Sw.h_notN ?_
  | with_reducible refine Sw.h_eq rfl ?_
  | with_reducible refine Sw.h_ne rfl ?_
  | with_reducible refine Sw.h_lenL ?_
  | with_reducible refine Sw.h_lenT ?_
  | with_reducible refine Sw.h_abs ?_
  | with_reducible refine Sw.h_max2 ?_
  | with_reducible refine Sw.h_min2 ?_
  | with_reducible refine Sw.h_int1b ?_
  | with_reducible refine Sw.h_sum ?_
  | with_reducible refine Sw.h_listOf ?_
  | with_reducible refine Sw.h_slL ?_
  | with_reducible refine Sw.h_slT ?_
  | with_reducible refine Sw.h_revL ?_
  | with_reducible refine Sw.h_newK ?_
  | with_reducible refine Sw.h_newT ?_
  | with_reducible refine Sw.h_seqfor ?_
  | with_reducible refine Sw.h_seqforD ?_
  | with_reducible refine Sw.h_dispT ?_
  | with_reducible refine Sw.h_LM ?_
  | with_reducible refine Sw.h_SM ?_
  | with_reducible refine Sw.h_for ?_
  | with_reducible refine Sw.h_iList ?_
  | with_reducible refine Sw.h_iTup ?_
  | with_reducible refine Sw.h_iStr ?_
  | with_reducible refine Sw.h_iR1 ?_
  | with_reducible refine Sw.h_iR2 ?_
  | with_reducible refine Sw.h_iR3 ?_
  | with_reducible refine Sw.h_iEnum ?_
  | with_reducible refine Sw.h_iZip ?_
  | with_reducible refine Sw.h_iZipS ?_
  | with_reducible refine Sw.h_iZipT ?_
  | with_reducible refine Sw.h_lcD ?_
  | with_reducible refine Sw.h_callDP ?_
  | with_reducible refine Sw.h_callD ?_
  | with_reducible refine Sw.h_consN ?_
  | with_reducible refine Sw.h_consO rfl ?_
  | with_reducible refine Sw.h_lcV ?_
  | with_reducible refine Sw.h_countS ?_
  | with_reducible refine Sw.h_retPO rfl rfl ?_
  | with_reducible refine Sw.h_retPS rfl rfl ?_
  | with_reducible refine Sw.h_asgP ?_
  | with_reducible refine Sw.h_seqasgP ?_
  | with_reducible refine Sw.h_pairO ?_
  | with_reducible refine Sw.h_pairS ?_
  | with_reducible refine Sw.h_lst1 ?_
  | with_reducible refine Sw.h_tup1 ?_
  | with_reducible refine Sw.h_str1 ?_
  | with_reducible refine Sw.h_lc ?_
  | with_reducible refine Sw.h_gN ?_
  | with_reducible refine Sw.h_gT rfl ?_
  | with_reducible refine Sw.h_gC ?_
  | with_reducible refine Sw.h_gE ?_
  | with_reducible refine Sw.h_asgG ?_
  | with_reducible refine Sw.h_forD ?_
  | with_reducible refine Sw.h_raise ?_
  | with_reducible refine Sw.h_seqasgG ?_
  | with_reducible refine Sw.h_seqfrzO rfl ?_
  | with_reducible refine Sw.h_seqfrzS rfl ?_
  | with_reducible refine Sw.h_isi rfl rfl ?_
  | with_reducible refine Sw.h_ixT rfl ?_
  | with_reducible refine Sw.h_seq1 ?_
  | with_reducible refine L2.iteT ?_ | with_reducible refine L2.iteF ?_ | with_reducible refine Sw.iteNT ?_ | with_reducible refine Sw.iteNF ?_ | refine Sw.h_np rfl ?_)
local macro_rules | `(tactic| walk_at "go") => `(tactic| repeat walk_at "go1")
local macro_rules | `(tactic| walk_at "sz") => `(tactic| first
  | omega
  | decide
  | (simp only [List.length_append, List.length_map, List.length_cons, List.length_nil, List.length_take, List.length_drop, List.length_reverse, List.length_set, List.length_replicate, List.length_range]; omega)
  | (refine Nat.le_trans (Sw.cut_len _ _ _) ?_; omega))
local macro_rules | `(tactic| walk_at "gx1") => `(tactic| first
  | walk_at "go1"
  | refine Sw.c_draw (by omega) (by omega) (fun _ _ _ => ?_)
  | refine Sw.c_letters (by omega) (by omega) (by omega) (by omega) (fun _ _ _ => ?_)
  | refine Sw.c_wheel (by omega) (by omega) (fun _ _ _ _ => ?_)
  | refine Sw.c_word (by walk_at "sz") (by walk_at "sz") (by omega) (by omega) (fun _ _ _ => ?_)
  | refine Sw.c_bent (by walk_at "sz") (by assumption) (fun _ _ _ => ?_)
  | refine Sw.c_lis_word (by walk_at "sz") (by assumption) ?_
  | refine Sw.h_sc rfl ?_
  | refine Sw.h_lenS (by walk_at "sz") ?_
  | refine Sw.h_slS (by walk_at "sz") ?_
  | refine Sw.h_addS (by walk_at "sz") ?_
  | refine Sw.h_I (by omega) ?_
  | refine Sw.h_I (Sw.cm (by omega) (by omega) (by omega) (by omega)) ?_
  | refine Sw.h_I (Sw.cd (by omega) (by omega)) ?_
  | refine Sw.h_I ⟨by decide, by decide, by decide⟩ ?_
  | refine Sw.h_gT rfl ?_
  | refine Sw.h_ixT rfl ?_
  | refine Sw.h_ixL rfl ?_
  | refine Sw.h_appE rfl ?_
  | refine Sw.h_appK rfl (by decide) (by walk_at "sz") ?_
  | refine Sw.h_setLE rfl ?_
  | refine Sw.h_putTE rfl ?_
  | refine Sw.h_putKE rfl ?_
  | refine Sw.h_tupOf ?_
  | refine Sw.h_listOfT ?_
  | refine Sw.h_orS ?_
  | refine And.intro (by omega) (And.intro (by omega) ?_))
local macro_rules | `(tactic| walk_at "gx") => `(tactic| repeat walk_at "gx1")
local macro_rules | `(tactic| walk_at "gp1") => `(tactic| first
  | walk_at "go1"
  | with_reducible refine Sw.h_ixP0 ?_
  | with_reducible refine Sw.h_ixP1 ?_
  | with_reducible refine Sw.h_gP ?_)
local macro_rules | `(tactic| walk_at "gp") => `(tactic| repeat walk_at "gp1")
namespace Sw
open PySem PySem.Spec PyProof.Rows L2 SX
/-! ### signs, words: plain facts -/
def Low (l : List Nat) : Prop := ∀ c ∈ l, 97 ≤ c ∧ c ≤ 122
abbrev abc : List Nat := [97, 98, 99, 100, 101, 102, 103, 104, 105, 106, 107, 108, 109, 110, 111, 112, 113, 114, 115, 116, 117, 118, 119, 120, 121, 122]
theorem low_nil : Low [] := fun _ h => nomatch h
theorem low_app {l : List Nat} {c : Nat} (h : Low l) (hc : 97 ≤ c ∧ c ≤ 122) : Low (l ++ [c]) := fun x hx => by
  rcases List.mem_append.mp hx with e | e
  · exact h x e
  · rw [List.mem_singleton.mp e]; exact hc
theorem abc_low : Low abc := by unfold Low abc; decide
theorem join_nil (l : List Nat) : Txt.join (S []) (l.map fun c => S [c]) = S l := by
  have e : (l.map fun c => S [c]) = (l.map fun c => [c]).map S := by rw [List.map_map]; rfl
  rw [e, join_S]
  refine congrArg S ?_
  clear e
  induction l with
  | nil => rfl
  | cons c l ih =>
    cases l with
    | nil => rfl
    | cons b l => 
      show [c] ++ [] ++ TL.joinL [] ((b :: l).map fun c => [c]) = c :: b :: l
      rw [ih]
      rfl
def lowB (c : Nat) : Bool := decide (97 ≤ c) && decide (c ≤ 122)
theorem lowB_iff {c : Nat} : lowB c = true ↔ 97 ≤ c ∧ c ≤ 122 := by unfold lowB; simp
theorem mem_abc (c : Nat) : decide (c ∈ abc) = lowB c := by
  by_cases h : 97 ≤ c ∧ c ≤ 122
  · rw [lowB_iff.mpr h, decide_eq_true_eq]
    unfold abc
    simp only [List.mem_cons, List.not_mem_nil, or_false]
    omega
  · have h2 : lowB c = false := by
      cases e : lowB c with
      | false => rfl
      | true => exact absurd (lowB_iff.mp e) h
    rw [h2, decide_eq_false_iff_not]
    intro hm
    exact h (abc_low c hm)
def sgn (l : List Nat) : Bool := l.all lowB
def isWord (l : List Nat) : Bool := decide (l.length ≤ 80) && sgn l
def isWheel (l : List Nat) : Bool := isWord l && (decide (1 ≤ l.length) && decide (l.length ≤ 30))
theorem sgn_low {l : List Nat} : sgn l = true ↔ Low l := by
  unfold sgn Low
  rw [List.all_eq_true]
  exact forall_congr' fun c => forall_congr' fun _ => lowB_iff
theorem isWord_iff {l : List Nat} : isWord l = true ↔ l.length ≤ 80 ∧ Low l := by
  unfold isWord
  rw [Bool.and_eq_true, decide_eq_true_eq, sgn_low]
theorem isWheel_iff {l : List Nat} : isWheel l = true ↔ 1 ≤ l.length ∧ l.length ≤ 30 ∧ Low l := by
  unfold isWheel
  rw [Bool.and_eq_true, Bool.and_eq_true, decide_eq_true_eq, decide_eq_true_eq, isWord_iff]
  constructor
  · rintro ⟨⟨_, h⟩, h1, h2⟩; exact ⟨h1, h2, h⟩
  · rintro ⟨h1, h2, h⟩; exact ⟨⟨by omega, h⟩, h1, h2⟩
theorem all_take {p : Nat → Bool} {l : List Nat} {i c : Nat} (h : l[i]? = some c) : (l.take (i + 1)).all p = ((l.take i).all p && p c) := by
  rw [List.take_add_one, h, List.all_append]
  simp
theorem take_snoc {α : Type} {l : List α} {i : Nat} {x : α} (h : l[i]? = some x) : l.take (i + 1) = l.take i ++ [x] := by rw [List.take_add_one, h]; rfl
theorem map_at' {α : Type} {f : α → D} {l : List α} {i : Nat} {d : D} (h : (l.map f)[i]? = some d) : ∃ a, l[i]? = some a ∧ d = f a := by
  rw [List.getElem?_map] at h
  obtain ⟨a, h1, rfl⟩ := Option.map_eq_some_iff.mp h
  exact ⟨a, h1, rfl⟩
theorem ite_p {P : Prop} [Decidable P] {A B : Prop} (h1 : P → A) (h2 : ¬ P → B) : if decide P = true then A else B := by
  by_cases h : P
  · rw [if_pos (decide_eq_true h)]; exact h1 h
  · rw [if_neg (by simpa using h)]; exact h2 h
/-! ### is_word, is_wheel, refusals -/
def wordD : D → Bool
  | .str l => isWord l
  | _ => false
def wheelD : D → Bool
  | .str l => isWheel l
  | _ => false
def okT : D → Prop
  | .str l => l.length ≤ 1000000
  | d => noDict d = true
end Sw
end
section
local macro_rules | `(tactic| walk_at "go1") => `(tactic| first
  | with_reducible refine Sw.h_seqasg ?_
  | with_reducible refine Sw.h_op ?_
  | with_reducible refine Sw.h_varS rfl ?_
  | with_reducible refine Sw.h_varO rfl ?_
  | with_reducible refine Sw.h_c ?_
  | with_reducible refine Sw.h_I0 ?_
  | with_reducible refine Sw.h_cons ?_
  | with_reducible refine Sw.h_consT rfl ?_
  | with_reducible refine Sw.h_consC rfl ?_
  | with_reducible refine Sw.h_nil ?_
  | with_reducible refine Sw.h_call ?_
  | with_reducible refine Sw.h_un ?_
  | with_reducible refine Sw.h_test ?_
  | with_reducible refine Sw.h_bl ?_
  | with_reducible refine Sw.h_seqdrop ?_
  | with_reducible refine Sw.h_asS ?_
  | with_reducible refine Sw.h_asO ?_
  | with_reducible refine Sw.h_ne1 ?_
  | with_reducible refine Sw.h_ne2 ?_
  | with_reducible refine Sw.h_asg ?_
  | with_reducible refine Sw.h_drop ?_
  | with_reducible refine Sw.h_ret ?_
  | with_reducible refine Sw.h_retS rfl ?_
  | with_reducible refine Sw.h_retO rfl ?_
  | with_reducible refine Sw.h_retN ?_
  | with_reducible refine Sw.h_next ?_
  | with_reducible refine Sw.h_if ?_
  | with_reducible refine Sw.h_frzO rfl ?_
  | with_reducible refine Sw.h_frzS rfl ?_
  | with_reducible refine Sw.h_and ?_
  | with_reducible refine Sw.h_or ?_
  | with_reducible refine Sw.h_not ?_
  | with_reducible refine Sw.h_yes ?_
  | with_reducible refine Sw.h_andV ?_
  | with_reducible refine Sw.h_orV ?_
  | with_reducible refine Sw.h_notV ?_
  | with_reducible refine Sw.h_ifE ?_
  | with_reducible refine Sw.h_chain ?_
  | with_reducible refine Sw.h_lenC rfl ?_
  | with_reducible refine Sw.h_tup ?_
  | with_reducible refine Sw.h_lst ?_
  | with_reducible refine Sw.h_shs0 ?_
  | with_reducible refine Sw.h_shs1 ?_
  | with_reducible refine Sw.h_shs2 ?_
  | with_reducible refine Sw.h_shs3 ?_
  | with_reducible refine Sw.h_shs4 ?_
  | with_reducible refine Sw.h_sl ?_
  | with_reducible refine Sw.h_nopart ?_
  | with_reducible refine Sw.h_part ?_
  | with_reducible refine Sw.h_int ?_
  | with_reducible refine Sw.h_neg ?_
  | with_reducible refine Sw.h_S ?_
  | with_reducible refine Sw.h_inSign ?_
  | with_reducible refine Sw.h_notInSign ?_
  | with_reducible refine Sw.h_isN ?_
  | with_reducible refine Sw.h_notN ?_
  | with_reducible refine Sw.h_eq rfl ?_
  | with_reducible refine Sw.h_ne rfl ?_
  | with_reducible refine Sw.h_lenL ?_
  | with_reducible refine Sw.h_lenT ?_
  | with_reducible refine Sw.h_abs ?_
  | with_reducible refine Sw.h_max2 ?_
  | with_reducible refine Sw.h_min2 ?_
  | with_reducible refine Sw.h_int1b ?_
  | with_reducible refine Sw.h_sum ?_
  | with_reducible refine Sw.h_listOf ?_
  | with_reducible refine Sw.h_slL ?_
  | with_reducible refine Sw.h_slT ?_
  | with_reducible refine Sw.h_revL ?_
  | with_reducible refine Sw.h_newK ?_
  | with_reducible refine Sw.h_newT ?_
  | with_reducible refine Sw.h_seqfor ?_
  | with_reducible refine Sw.h_seqforD ?_
  | with_reducible refine Sw.h_dispT ?_
  | with_reducible refine Sw.h_LM ?_
  | with_reducible refine Sw.h_SM ?_
  | with_reducible refine Sw.h_for ?_
  | with_reducible refine Sw.h_iList ?_
  | with_reducible refine Sw.h_iTup ?_
  | with_reducible refine Sw.h_iStr ?_
  | with_reducible refine Sw.h_iR1 ?_
  | with_reducible refine Sw.h_iR2 ?_
  | with_reducible refine Sw.h_iR3 ?_
  | with_reducible refine Sw.h_iEnum ?_
  | with_reducible refine Sw.h_iZip ?_
  | with_reducible refine Sw.h_iZipS ?_
  | with_reducible refine Sw.h_iZipT ?_
  | with_reducible refine Sw.h_lcD ?_
  | with_reducible refine Sw.h_callDP ?_
  | with_reducible refine Sw.h_callD ?_
  | with_reducible refine Sw.h_consN ?_
  | with_reducible refine Sw.h_consO rfl ?_
  | with_reducible refine Sw.h_lcV ?_
  | with_reducible refine Sw.h_countS ?_
  | with_reducible refine Sw.h_retPO rfl rfl ?_
  | with_reducible refine Sw.h_retPS rfl rfl ?_
  | with_reducible refine Sw.h_asgP ?_
  | with_reducible refine Sw.h_seqasgP ?_
  | with_reducible refine Sw.h_pairO ?_
  | with_reducible refine Sw.h_pairS ?_
  | with_reducible refine Sw.h_lst1 ?_
  | with_reducible refine Sw.h_tup1 ?_
  | with_reducible refine Sw.h_str1 ?_
  | with_reducible refine Sw.h_lc ?_
  | with_reducible refine Sw.h_gN ?_
  | with_reducible refine Sw.h_gT rfl ?_
  | with_reducible refine Sw.h_gC ?_
  | with_reducible refine Sw.h_gE ?_
  | with_reducible refine Sw.h_asgG ?_
  | with_reducible refine Sw.h_forD ?_
  | with_reducible refine Sw.h_raise ?_
  | with_reducible refine Sw.h_seqasgG ?_
  | with_reducible refine Sw.h_seqfrzO rfl ?_
  | with_reducible refine Sw.h_seqfrzS rfl ?_
  | with_reducible refine Sw.h_isi rfl rfl ?_
  | with_reducible refine Sw.h_ixT rfl ?_
  | with_reducible refine Sw.h_seq1 ?_
  | with_reducible refine L2.iteT ?_ | with_reducible refine L2.iteF ?_ | with_reducible refine Sw.iteNT ?_ | with_reducible refine Sw.iteNF ?_ | refine Sw.h_np rfl ?_)
local macro_rules | `(tactic| walk_at "go") => `(tactic| repeat walk_at "go1")
local macro_rules | `(tactic| walk_at "sz") => `(tactic| first
  | omega
  | decide
  | (simp only [List.length_append, List.length_map, List.length_cons, List.length_nil, List.length_take, List.length_drop, List.length_reverse, List.length_set, List.length_replicate, List.length_range]; omega)
  | (refine Nat.le_trans (Sw.cut_len _ _ _) ?_; omega))
local macro_rules | `(tactic| walk_at "gx1") => `(tactic| first
  | walk_at "go1"
  | refine Sw.c_draw (by omega) (by omega) (fun _ _ _ => ?_)
  | refine Sw.c_letters (by omega) (by omega) (by omega) (by omega) (fun _ _ _ => ?_)
  | refine Sw.c_wheel (by omega) (by omega) (fun _ _ _ _ => ?_)
  | refine Sw.c_word (by walk_at "sz") (by walk_at "sz") (by omega) (by omega) (fun _ _ _ => ?_)
  | refine Sw.c_bent (by walk_at "sz") (by assumption) (fun _ _ _ => ?_)
  | refine Sw.c_lis_word (by walk_at "sz") (by assumption) ?_
  | refine Sw.h_sc rfl ?_
  | refine Sw.h_lenS (by walk_at "sz") ?_
  | refine Sw.h_slS (by walk_at "sz") ?_
  | refine Sw.h_addS (by walk_at "sz") ?_
  | refine Sw.h_I (by omega) ?_
  | refine Sw.h_I (Sw.cm (by omega) (by omega) (by omega) (by omega)) ?_
  | refine Sw.h_I (Sw.cd (by omega) (by omega)) ?_
  | refine Sw.h_I ⟨by decide, by decide, by decide⟩ ?_
  | refine Sw.h_gT rfl ?_
  | refine Sw.h_ixT rfl ?_
  | refine Sw.h_ixL rfl ?_
  | refine Sw.h_appE rfl ?_
  | refine Sw.h_appK rfl (by decide) (by walk_at "sz") ?_
  | refine Sw.h_setLE rfl ?_
  | refine Sw.h_putTE rfl ?_
  | refine Sw.h_putKE rfl ?_
  | refine Sw.h_tupOf ?_
  | refine Sw.h_listOfT ?_
  | refine Sw.h_orS ?_
  | refine And.intro (by omega) (And.intro (by omega) ?_))
local macro_rules | `(tactic| walk_at "gx") => `(tactic| repeat walk_at "gx1")
local macro_rules | `(tactic| walk_at "gp1") => `(tactic| first
  | walk_at "go1"
  | with_reducible refine Sw.h_ixP0 ?_
  | with_reducible refine Sw.h_ixP1 ?_
  | with_reducible refine Sw.h_gP ?_)
local macro_rules | `(tactic| walk_at "gp") => `(tactic| repeat walk_at "gp1")
namespace Sw
open PySem PySem.Spec PyProof.Rows L2 SX
/-! ### tables by keys, plain -/
def getA {κ α : Type} [DecidableEq κ] (R : List (κ × α)) (k : κ) : Option α := (R.find? fun e => decide (e.1 = k)).map (·.2)
def putA {κ α : Type} [DecidableEq κ] (R : List (κ × α)) (k : κ) (c : α) : List (κ × α) := if (R.any fun e => decide (e.1 = k)) = true then R.map (fun e => if e.1 = k then (e.1, c) else e) else R ++ [(k, c)]
section
variable {κ α : Type} [DecidableEq κ]
theorem getA_pos {e : κ × α} {R : List (κ × α)} {k : κ} (h : e.1 = k) : getA (e :: R) k = some e.2 := by unfold getA; rw [List.find?_cons_of_pos (by simpa using h)]; rfl
theorem getA_neg {e : κ × α} {R : List (κ × α)} {k : κ} (h : e.1 ≠ k) : getA (e :: R) k = getA R k := by unfold getA; rw [List.find?_cons_of_neg (by simpa using h)]
theorem getA_app (R : List (κ × α)) (k k' : κ) (c : α) (h : (R.any fun e => decide (e.1 = k)) = false) : getA (R ++ [(k, c)]) k' = if k' = k then some c else getA R k' := by
  induction R with
  | nil =>
    by_cases z : k' = k
    · subst z; rw [if_pos rfl]; exact getA_pos rfl
    · rw [if_neg z]; exact getA_neg (fun y => z y.symm)
  | cons e R ih =>
    rw [List.any_cons, Bool.or_eq_false_iff] at h
    have h1 : e.1 ≠ k := by simpa using h.1
    rw [List.cons_append]
    by_cases z : e.1 = k'
    · rw [getA_pos z, getA_pos z, if_neg (fun y => h1 (z.trans y))]
    · rw [getA_neg z, getA_neg z]; exact ih h.2
theorem getA_map (R : List (κ × α)) (k k' : κ) (c : α) (h : (R.any fun e => decide (e.1 = k)) = true) : getA (R.map fun e => if e.1 = k then (e.1, c) else e) k' = if k' = k then some c else getA R k' := by
  have key : ∀ R : List (κ × α), getA (R.map fun e => if e.1 = k then (e.1, c) else e) k' = if k' = k then (getA R k).map (fun _ => c) else getA R k' := by
    intro R
    induction R with
    | nil => by_cases z : k' = k <;> simp [getA, z]
    | cons e R ih =>
      rw [List.map_cons]
      by_cases y : e.1 = k
      · rw [if_pos y]
        by_cases z : k' = k
        · rw [if_pos z, getA_pos (show (e.1, c).1 = k' from y.trans z.symm), getA_pos y]; rfl
        · rw [if_neg z, getA_neg (show (e.1, c).1 ≠ k' from fun w => z (w.symm.trans y)), ih, if_neg z, getA_neg (fun w => z (w.symm.trans y))]
      · rw [if_neg y]
        by_cases w : e.1 = k'
        · have z : ¬ k' = k := fun z => y (w.trans z)
          rw [getA_pos w, if_neg z, getA_pos w]
        · rw [getA_neg w, ih]
          by_cases z : k' = k
          · rw [if_pos z, if_pos z, getA_neg y]
          · rw [if_neg z, if_neg z, getA_neg w]
  rw [key R]
  by_cases z : k' = k
  · rw [if_pos z, if_pos z]
    obtain ⟨e, he, hk⟩ := List.any_eq_true.mp h
    have : ∃ v, getA R k = some v := by
      cases q : getA R k with
      | some v => exact ⟨v, rfl⟩
      | none =>
        unfold getA at q
        rw [Option.map_eq_none_iff, List.find?_eq_none] at q
        exact absurd hk (q e he)
    obtain ⟨v, hv⟩ := this
    rw [hv]; rfl
  · rw [if_neg z, if_neg z]
theorem getA_put (R : List (κ × α)) (k k' : κ) (c : α) : getA (putA R k c) k' = if k' = k then some c else getA R k' := by
  unfold putA
  by_cases h : (R.any fun e => decide (e.1 = k)) = true
  · rw [if_pos h]; exact getA_map R k k' c h
  · rw [if_neg h]; exact getA_app R k k' c (by cases q : (R.any fun e => decide (e.1 = k)) with | false => rfl | true => exact absurd q h)
/-- keys and values told otherwise -/
theorem getA_enc {κ' β : Type} [DecidableEq κ'] {f : κ → κ'} (hf : ∀ a b, f a = f b → a = b) (g : α → β) (R : List (κ × α)) (k : κ) : getA (R.map fun e => (f e.1, g e.2)) (f k) = (getA R k).map g := by
  induction R with
  | nil => rfl
  | cons e R ih =>
    rw [List.map_cons]
    by_cases h : e.1 = k
    · rw [getA_pos (show (f e.1, g e.2).1 = f k by rw [h]), getA_pos h]; rfl
    · rw [getA_neg (show (f e.1, g e.2).1 ≠ f k from fun z => h (hf _ _ z)), ih, getA_neg h]
theorem putA_enc {κ' β : Type} [DecidableEq κ'] {f : κ → κ'} (hf : ∀ a b, f a = f b → a = b) (g : α → β) (R : List (κ × α)) (k : κ) (c : α) : putA (R.map fun e => (f e.1, g e.2)) (f k) (g c) = (putA R k c).map fun e => (f e.1, g e.2) := by
  have ha : ((R.map fun e => (f e.1, g e.2)).any fun e => decide (e.1 = f k)) = R.any fun e => decide (e.1 = k) := by
    rw [List.any_map]
    congr 1
    funext e
    exact decide_eq_decide.mpr ⟨fun z => hf _ _ z, fun z => congrArg f z⟩
  unfold putA
  rw [ha]
  by_cases h : (R.any fun e => decide (e.1 = k)) = true
  · rw [if_pos h, if_pos h, List.map_map, List.map_map]
    apply List.map_congr_left
    intro e _
    show (if f e.1 = f k then (f e.1, g c) else (f e.1, g e.2)) = (f (if e.1 = k then (e.1, c) else e).1, g (if e.1 = k then (e.1, c) else e).2)
    by_cases z : e.1 = k
    · rw [if_pos (show f e.1 = f k by rw [z]), if_pos z]
    · rw [if_neg (fun y => z (hf _ _ y)), if_neg z]
  · rw [if_neg h, if_neg h, List.map_append]; rfl
end
theorem getD_eq {κ : Type} [DecidableEq κ] (R : List (κ × D)) (k : κ) : getD' R k = getA R k := rfl
theorem putD_eq {κ : Type} [DecidableEq κ] (R : List (κ × D)) (k : κ) (d : D) : putD R k d = putA R k d := rfl
/-! ### ways and costs of turns -/
def wayOf (t w : Int) : Int := if 0 < t then 1 else if t < 0 then -1 else w
def absI (i : Int) : Int := if i < 0 then -i else i
def stepCost (t w s : Int) : Int := if w ≠ 0 ∧ wayOf t w ≠ w then absI t + s else absI t
def cst (s : Int) : Int → List Int → Int
  | _, [] => 0
  | w, t :: r => stepCost t w s + cst s (wayOf t w) r
def wayAll : Int → List Int → Int
  | w, [] => w
  | w, t :: r => wayAll (wayOf t w) r
theorem cst_app (s : Int) : ∀ (w : Int) (a b : List Int), cst s w (a ++ b) = cst s w a + cst s (wayAll w a) b
  | w, [], b => by simp [cst, wayAll]
  | w, t :: a, b => by
    show stepCost t w s + cst s (wayOf t w) (a ++ b) = stepCost t w s + cst s (wayOf t w) a + cst s (wayAll (wayOf t w) a) b
    rw [cst_app s _ a b]; omega
theorem wayAll_app : ∀ (w : Int) (a b : List Int), wayAll w (a ++ b) = wayAll (wayAll w a) b
  | w, [], b => rfl
  | w, t :: a, b => wayAll_app (wayOf t w) a b
theorem getD_at {w : List Nat} {z : Int} (h0 : 0 ≤ z) (h1 : z < (w.length : Int)) : atI w z = some (w.getD z.toNat 0) := by
  obtain ⟨v, e, _, e2⟩ := atI_of h0 h1
  rw [e, List.getD, e2]
  rfl
def posL (n : Nat) : Int → List Int → Int
  | p, [] => p
  | p, t :: ts => posL n ((p + t) % (n : Int)) ts
/-! ### turns to a sign, steps from a stand -/
abbrev Std := Int × Int
abbrev Stp := Int × Std × Int
def hits (w : List Nat) (p : Int) (sg : List Nat) (t : Int) : Bool := decide ([w.getD ((p + t) % (w.length : Int)).toNat 0] = sg)
def offs (n : Nat) (k : Nat) : List Int := (List.range k).map fun i : Nat => 1 - (n : Int) + (i : Int)
def turnsTo (w : List Nat) (p : Int) (sg : List Nat) : List Int := (offs w.length (2 * w.length - 1)).filter (hits w p sg)
theorem offs_succ (n k : Nat) : offs n (k + 1) = offs n k ++ [1 - (n : Int) + (k : Int)] := by unfold offs; rw [List.range_succ, List.map_append]; rfl
theorem mem_offs {n k : Nat} {t : Int} : t ∈ offs n k ↔ 1 - (n : Int) ≤ t ∧ t < 1 - (n : Int) + (k : Int) := by
  unfold offs
  rw [List.mem_map]
  constructor
  · rintro ⟨i, hi, rfl⟩
    have := List.mem_range.mp hi
    omega
  · intro h
    exact ⟨(t - (1 - (n : Int))).toNat, List.mem_range.mpr (by omega), by omega⟩
theorem mem_turnsTo {w : List Nat} {p : Int} {sg : List Nat} {t : Int} (hn : 0 < w.length) : t ∈ turnsTo w p sg ↔ -(w.length : Int) < t ∧ t < (w.length : Int) ∧ hits w p sg t = true := by
  unfold turnsTo
  rw [List.mem_filter, mem_offs]
  constructor
  · rintro ⟨h1, h2⟩; exact ⟨by omega, by omega, h2⟩
  · rintro ⟨h1, h2, h3⟩; exact ⟨by omega, h3⟩
theorem turnsTo_len (w : List Nat) (p : Int) (sg : List Nat) : (turnsTo w p sg).length ≤ 2 * w.length - 1 := by
  unfold turnsTo
  refine Nat.le_trans (List.length_filter_le _ _) ?_
  unfold offs
  simp
def stepsFrom (w : List Nat) (st : Std) (sg : List Nat) (s : Int) : List Stp := (turnsTo w st.1 sg).map fun t => (t, ((st.1 + t) % (w.length : Int), wayOf t st.2), stepCost t st.2 s)
abbrev Row := List (Std × Int)
abbrev encK (st : Std) : List Key := [.inl st.1, .inl st.2]
theorem encK_inj (a b : Std) (h : encK a = encK b) : a = b := by
  unfold encK at h
  simp only [List.cons.injEq, Sum.inl.injEq, and_true] at h
  exact Prod.ext h.1 h.2
abbrev valI (R : Row) (st : Std) : Option Int := getA R st
abbrev putI (R : Row) (st : Std) (c : Int) : Row := putA R st c
theorem valI_put (R : Row) (st st' : Std) (c : Int) : valI (putI R st c) st' = if st' = st then some c else valI R st' := getA_put R st st' c
def Nd {α : Type} (R : List (Std × α)) : Prop := (R.map (·.1)).Nodup
theorem nd_put {α : Type} {R : List (Std × α)} {st : Std} {c : α} (h : Nd R) : Nd (putA R st c) := by
  unfold Nd putA at *
  by_cases z : (R.any fun e => decide (e.1 = st)) = true
  · rw [if_pos z]
    have e : (R.map fun e => if e.1 = st then (e.1, c) else e).map (·.1) = R.map (·.1) := by
      rw [List.map_map]
      apply List.map_congr_left
      intro e _
      show (if e.1 = st then (e.1, c) else e).1 = e.1
      split <;> rfl
    rw [e]
    exact h
  · rw [if_neg z, List.map_append, List.nodup_append]
    refine ⟨h, by simp, ?_⟩
    intro a ha b hb
    have eb : b = st := by simpa using hb
    subst eb
    intro e
    subst e
    apply z
    rw [List.any_eq_true]
    obtain ⟨x, hx, ex⟩ := List.mem_map.mp ha
    exact ⟨x, hx, by simpa using ex⟩
theorem getA_mem {α : Type} {R : List (Std × α)} (h : Nd R) {st : Std} {c : α} : (st, c) ∈ R ↔ getA R st = some c := by
  induction R with
  | nil => simp [getA]
  | cons e R ih =>
    unfold Nd at h
    rw [List.map_cons, List.nodup_cons] at h
    by_cases z : e.1 = st
    · rw [getA_pos z]
      constructor
      · intro hm
        rcases List.mem_cons.mp hm with y | y
        · rw [← y]
        · exact absurd (List.mem_map.mpr ⟨_, y, z.symm⟩) h.1
      · intro hm
        have : e = (st, c) := Prod.ext z (by simpa using hm)
        rw [this]
        exact List.mem_cons_self
    · rw [getA_neg z, ← ih h.2, List.mem_cons]
      constructor
      · rintro (y | y)
        · exact absurd (by rw [← y]) z
        · exact y
      · exact Or.inr
theorem valI_mem {R : Row} (h : Nd R) {st : Std} {c : Int} : (st, c) ∈ R ↔ valI R st = some c := getA_mem h
theorem putI_len (R : Row) (st : Std) (c : Int) : (putI R st c).length ≤ R.length + 1 := by
  unfold putI putA
  split
  · rw [List.length_map]; omega
  · rw [List.length_append]; exact Nat.le_refl _
def relax (R : Row) (e : Std × Int) : Row := match valI R e.1 with
  | none => putI R e.1 e.2
  | some c => if e.2 < c then putI R e.1 e.2 else R
def relaxAll (L : List (Std × Int)) : Row := L.foldl relax []
theorem relax_nd {R : Row} {e : Std × Int} (h : Nd R) : Nd (relax R e) := by
  unfold relax
  split
  · exact nd_put h
  · split
    · exact nd_put h
    · exact h
theorem relaxAll_snoc (L : List (Std × Int)) (e : Std × Int) : relaxAll (L ++ [e]) = relax (relaxAll L) e := by unfold relaxAll; rw [List.foldl_append]; rfl
theorem foldr_nd : ∀ (L : List (Std × Int)) (R : Row), Nd R → Nd (L.foldl relax R)
  | [], _, h => h
  | e :: L, R, h => foldr_nd L (relax R e) (relax_nd h)
theorem relaxAll_nd (L : List (Std × Int)) : Nd (relaxAll L) := foldr_nd L [] (by unfold Nd; simp)
theorem relax_len (R : Row) (e : Std × Int) : (relax R e).length ≤ R.length + 1 := by
  unfold relax
  split
  · exact putI_len _ _ _
  · split
    · exact putI_len _ _ _
    · omega
def nextOf (w : List Nat) (s : Int) (sg : List Nat) (e : Std × Int) : List (Std × Int) := (stepsFrom w e.1 sg s).map fun x => (x.2.1, e.2 + x.2.2)
def nexts (w : List Nat) (s : Int) (sg : List Nat) (R : Row) : List (Std × Int) := R.flatMap (nextOf w s sg)
def rowNext (w : List Nat) (s : Int) (sg : List Nat) (R : Row) : Row := relaxAll (nexts w s sg R)
def rowI (w : List Nat) (s : Int) (p : Int) (word : List Nat) : Row := word.foldl (fun R c => rowNext w s [c] R) [((p, 0), 0)]
theorem rowI_snoc (w : List Nat) (s p : Int) (word : List Nat) (c : Nat) : rowI w s p (word ++ [c]) = rowNext w s [c] (rowI w s p word) := by unfold rowI; rw [List.foldl_append]; rfl
theorem rowI_nd (w : List Nat) (s p : Int) : ∀ word : List Nat, Nd (rowI w s p word) := fun word => by
  rcases List.eq_nil_or_concat word with rfl | ⟨l, c, rfl⟩
  · unfold Nd rowI; simp
  · rw [List.concat_eq_append, rowI_snoc]
    exact relaxAll_nd _
/-! ### the stands that may come -/
def StOk (n : Nat) (st : Std) : Prop := 0 ≤ st.1 ∧ st.1 < (n : Int) ∧ -1 ≤ st.2 ∧ st.2 ≤ 1
def RowOk (n : Nat) (R : Row) : Prop := Nd R ∧ ∀ e ∈ R, StOk n e.1
def code (n : Nat) (st : Std) : Nat := (st.1 + (st.2 + 1) * (n : Int)).toNat
theorem code_lt {n : Nat} {st : Std} (h : StOk n st) : code n st < 3 * n := by
  obtain ⟨h1, h2, h3, h4⟩ := h
  unfold code
  have : st.2 = -1 ∨ st.2 = 0 ∨ st.2 = 1 := by omega
  rcases this with e | e | e <;> rw [e] <;> omega
theorem code_inj {n : Nat} {a b : Std} (ha : StOk n a) (hb : StOk n b) (h : code n a = code n b) : a = b := by
  obtain ⟨a1, a2, a3, a4⟩ := ha
  obtain ⟨b1, b2, b3, b4⟩ := hb
  unfold code at h
  have x : a.2 = -1 ∨ a.2 = 0 ∨ a.2 = 1 := by omega
  have y : b.2 = -1 ∨ b.2 = 0 ∨ b.2 = 1 := by omega
  apply Prod.ext
  · rcases x with e | e | e <;> rcases y with e' | e' | e' <;> rw [e, e'] at h <;> omega
  · rcases x with e | e | e <;> rcases y with e' | e' | e' <;> rw [e, e'] at h <;> omega
theorem nodup_lt : ∀ (n : Nat) (l : List Nat), l.Nodup → (∀ x ∈ l, x < n) → l.length ≤ n
  | 0, l, _, h => by
    cases l with
    | nil => exact Nat.le_refl _
    | cons a l => exact absurd (h a List.mem_cons_self) (Nat.not_lt_zero _)
  | n + 1, l, nd, h => by
    by_cases hm : n ∈ l
    · have h1 := nodup_lt n (l.erase n) (nd.erase n) fun x hx => by
        have z := (List.Nodup.mem_erase_iff nd).mp hx
        have := h x z.2
        have := z.1
        omega
      rw [List.length_erase_of_mem hm] at h1
      have : 0 < l.length := List.length_pos_of_mem hm
      omega
    · have h1 := nodup_lt n l nd fun x hx => by
        have := h x hx
        have : x ≠ n := fun e => hm (e ▸ hx)
        omega
      omega
theorem row_len {n : Nat} {R : Row} (h : RowOk n R) : R.length ≤ 3 * n := by
  have hnd : (R.map fun e => code n e.1).Nodup := by
    have h1 := h.1
    unfold Nd at h1
    have e : (R.map fun e => code n e.1) = (R.map (·.1)).map (code n) := by rw [List.map_map]; rfl
    rw [e]
    have all : ∀ st ∈ R.map (·.1), StOk n st := fun st hst => by
      obtain ⟨x, hx, rfl⟩ := List.mem_map.mp hst
      exact h.2 x hx
    revert h1 all
    generalize R.map (·.1) = l
    intro h1 all
    induction l with
    | nil => simp
    | cons a l ih =>
      rw [List.nodup_cons] at h1
      rw [List.map_cons, List.nodup_cons]
      refine ⟨fun hm => ?_, ih h1.2 fun st hst => all st (List.mem_cons_of_mem _ hst)⟩
      obtain ⟨b, hb, eb⟩ := List.mem_map.mp hm
      have := code_inj (all b (List.mem_cons_of_mem _ hb)) (all a List.mem_cons_self) eb
      exact h1.1 (this ▸ hb)
  have := nodup_lt (3 * n) _ hnd fun x hx => by
    obtain ⟨e, he, rfl⟩ := List.mem_map.mp hx
    exact code_lt (h.2 e he)
  rw [List.length_map] at this
  exact this
theorem put_mem {R : Row} {st : Std} {c : Int} {e : Std × Int} (h : e ∈ putI R st c) : e ∈ R ∨ e = (st, c) := by
  unfold putI putA at h
  split at h
  · obtain ⟨x, hx, ex⟩ := List.mem_map.mp h
    by_cases z : x.1 = st
    · rw [if_pos z] at ex
      exact .inr (by rw [← ex, z])
    · rw [if_neg z] at ex
      exact .inl (ex ▸ hx)
  · rcases List.mem_append.mp h with z | z
    · exact .inl z
    · exact .inr (List.mem_singleton.mp z)
theorem relax_mem {R : Row} {x e : Std × Int} (h : e ∈ relax R x) : e ∈ R ∨ e = x := by
  unfold relax at h
  split at h
  · exact put_mem h
  · split at h
    · exact put_mem h
    · exact .inl h
theorem fold_mem : ∀ (L : List (Std × Int)) (R : Row) {e : Std × Int}, e ∈ L.foldl relax R → e ∈ R ∨ e ∈ L
  | [], _, _, h => .inl h
  | x :: L, R, e, h => by
    rcases fold_mem L (relax R x) h with z | z
    · rcases relax_mem z with y | y
      · exact .inl y
      · exact .inr (y ▸ List.mem_cons_self)
    · exact .inr (List.mem_cons_of_mem _ z)
theorem relaxAll_mem {L : List (Std × Int)} {e : Std × Int} (h : e ∈ relaxAll L) : e ∈ L := by
  rcases fold_mem L [] h with z | z
  · exact nomatch z
  · exact z
theorem wayOf_bd {t w : Int} (h1 : -1 ≤ w) (h2 : w ≤ 1) : -1 ≤ wayOf t w ∧ wayOf t w ≤ 1 := by
  unfold wayOf
  split
  · omega
  · split <;> omega
theorem nextOf_ok {w : List Nat} {s : Int} {sg : List Nat} {e x : Std × Int} (hw : 0 < w.length) (h : StOk w.length e.1) (hx : x ∈ nextOf w s sg e) : StOk w.length x.1 := by
  unfold nextOf stepsFrom at hx
  rw [List.map_map] at hx
  obtain ⟨t, _, rfl⟩ := List.mem_map.mp hx
  obtain ⟨a, b⟩ := emod_bd (z := e.1.1 + t) (m := (w.length : Int)) (by omega)
  obtain ⟨c, d⟩ := wayOf_bd (t := t) h.2.2.1 h.2.2.2
  exact ⟨a, b, c, d⟩
theorem nexts_ok {w : List Nat} {s : Int} {sg : List Nat} {R : Row} (hw : 0 < w.length) (h : ∀ e ∈ R, StOk w.length e.1) : ∀ x ∈ nexts w s sg R, StOk w.length x.1 := fun x hx => by
  unfold nexts at hx
  obtain ⟨e, he, hx⟩ := List.mem_flatMap.mp hx
  exact nextOf_ok hw (h e he) hx
theorem relaxAll_ok {n : Nat} {L : List (Std × Int)} (h : ∀ x ∈ L, StOk n x.1) : RowOk n (relaxAll L) := ⟨relaxAll_nd L, fun e he => h e (relaxAll_mem he)⟩
theorem rowI_ok {w : List Nat} {s p : Int} (hw : 0 < w.length) (h0 : 0 ≤ p) (h1 : p < (w.length : Int)) : ∀ (word : List Nat), RowOk w.length (rowI w s p word) := fun word => by
  have : ∀ (k : Nat), k ≤ word.length → RowOk w.length (rowI w s p (word.take k)) := by
    intro k
    induction k with
    | zero =>
      intro _
      refine ⟨by unfold Nd rowI; simp, fun e he => ?_⟩
      have : e = ((p, 0), 0) := by simpa [rowI] using he
      rw [this]
      exact ⟨h0, h1, by show (-1 : Int) ≤ 0; decide, by show (0 : Int) ≤ 1; decide⟩
    | succ k ih =>
      intro hk
      obtain ⟨x, hx⟩ : ∃ x, word[k]? = some x := ⟨_, List.getElem?_eq_getElem (by omega)⟩
      rw [take_snoc hx, rowI_snoc]
      exact relaxAll_ok (nexts_ok hw (ih (by omega)).2)
  have h := this word.length (Nat.le_refl _)
  rwa [List.take_length] at h
def rowsI (w : List Nat) (s p : Int) (word : List Nat) (k : Nat) : List Row := (List.range k).map fun i => rowI w s p (word.take i)
theorem rowsI_succ (w : List Nat) (s p : Int) (word : List Nat) (k : Nat) : rowsI w s p word (k + 1) = rowsI w s p word k ++ [rowI w s p (word.take k)] := by unfold rowsI; rw [List.range_succ, List.map_append]; rfl
theorem nexts_take {w : List Nat} {s : Int} {sg : List Nat} {R : Row} {k : Nat} {e : Std × Int} (h : R[k]? = some e) : nexts w s sg (R.take (k + 1)) = nexts w s sg (R.take k) ++ nextOf w s sg e := by
  unfold nexts
  rw [take_snoc h, List.flatMap_append]
  simp
/-! ### the least of some numbers -/
def IsBest (P : Int → Prop) : Option Int → Prop
  | none => ∀ c, ¬ P c
  | some c => P c ∧ ∀ c', P c' → c ≤ c'
theorem IsBest.uniq {P : Int → Prop} {o o' : Option Int} (h : IsBest P o) (h' : IsBest P o') : o = o' := by
  cases o with
  | none =>
    cases o' with
    | none => rfl
    | some c => exact absurd h'.1 (h c)
  | some c =>
    cases o' with
    | none => exact absurd h.1 (h' c)
    | some c' =>
      have h1 := h.2 c' h'.1
      have h2 := h'.2 c h.1
      have : c = c' := by omega
      rw [this]
/-- what is dominated does not matter -/
theorem IsBest.dom {P P' : Int → Prop} {o : Option Int} (h : IsBest P o) (h1 : ∀ c, P c → P' c) (h2 : ∀ c, P' c → ∃ c', c' ≤ c ∧ P c') : IsBest P' o := by
  cases o with
  | none => exact fun c hc => by obtain ⟨c', _, hc'⟩ := h2 c hc; exact h c' hc'
  | some c =>
    refine ⟨h1 c h.1, fun c' hc' => ?_⟩
    obtain ⟨d, hd, hp⟩ := h2 c' hc'
    have := h.2 d hp
    omega
theorem IsBest.congr {P P' : Int → Prop} {o : Option Int} (h : IsBest P o) (e : ∀ c, P c ↔ P' c) : IsBest P' o := h.dom (fun c => (e c).mp) fun c hc => ⟨c, Int.le_refl _, (e c).mpr hc⟩
theorem valI_relax (R : Row) (e : Std × Int) (st : Std) : valI (relax R e) st = if e.1 = st then (match valI R st with | none => some e.2 | some c => some (if e.2 < c then e.2 else c)) else valI R st := by
  unfold relax
  by_cases h : e.1 = st
  · rw [if_pos h]
    subst h
    cases hv : valI R e.1 with
    | none =>
      show valI (putI R e.1 e.2) e.1 = some e.2
      rw [valI_put, if_pos rfl]
    | some c =>
      show valI (if e.2 < c then putI R e.1 e.2 else R) e.1 = some (if e.2 < c then e.2 else c)
      by_cases z : e.2 < c
      · rw [if_pos z, if_pos z, valI_put, if_pos rfl]
      · rw [if_neg z, if_neg z, hv]
  · rw [if_neg h]
    have h' : ¬ st = e.1 := fun z => h z.symm
    split
    · rw [valI_put, if_neg h']
    · split
      · rw [valI_put, if_neg h']
      · rfl
theorem relaxAll_best (L : List (Std × Int)) (st : Std) : IsBest (fun c => (st, c) ∈ L) (valI (relaxAll L) st) := by
  have : ∀ k, k ≤ L.length → IsBest (fun c => (st, c) ∈ L.take k) (valI (relaxAll (L.take k)) st) := by
    intro k
    induction k with
    | zero =>
      intro _
      rw [List.take_zero]
      exact fun c h => nomatch h
    | succ k ih =>
      intro hk
      obtain ⟨e, he⟩ : ∃ e, L[k]? = some e := ⟨_, List.getElem?_eq_getElem (by omega)⟩
      have ih := ih (by omega)
      rw [take_snoc he, relaxAll_snoc, valI_relax]
      by_cases h : e.1 = st
      · rw [if_pos h]
        have em : ∀ c, (st, c) ∈ L.take k ++ [e] ↔ (st, c) ∈ L.take k ∨ c = e.2 := fun c => by
          rw [List.mem_append, List.mem_singleton]
          constructor
          · rintro (y | y)
            · exact .inl y
            · exact .inr (by rw [← y])
          · rintro (y | y)
            · exact .inl y
            · exact .inr (Prod.ext h.symm y)
        cases hv : valI (relaxAll (L.take k)) st with
        | none =>
          rw [hv] at ih
          exact ⟨(em _).mpr (.inr rfl), fun c' hc' => by
            rcases (em c').mp hc' with y | y
            · exact absurd y (ih c')
            · omega⟩
        | some c =>
          rw [hv] at ih
          show IsBest _ (some (if e.2 < c then e.2 else c))
          by_cases z : e.2 < c
          · rw [if_pos z]
            exact ⟨(em _).mpr (.inr rfl), fun c' hc' => by
              rcases (em c').mp hc' with y | y
              · have := ih.2 c' y; omega
              · omega⟩
          · rw [if_neg z]
            exact ⟨(em _).mpr (.inl ih.1), fun c' hc' => by
              rcases (em c').mp hc' with y | y
              · exact ih.2 c' y
              · omega⟩
      · rw [if_neg h]
        refine ih.congr fun c => ?_
        rw [List.mem_append, List.mem_singleton]
        constructor
        · exact .inl
        · rintro (y | y)
          · exact y
          · exact absurd (by rw [← y]) h
  have h := this L.length (Nat.le_refl _)
  rwa [List.take_length] at h
/-! ### plans, from a stand to a stand -/
def stepTo (w : List Nat) (a : Std) (t : Int) : Std := ((a.1 + t) % (w.length : Int), wayOf t a.2)
inductive Run (w : List Nat) (s : Int) : Std → List Nat → List Int → Std → Int → Prop where
  | nil (a : Std) : Run w s a [] [] a 0
  | cons {a b : Std} {x : Nat} {t : Int} {word : List Nat} {ts : List Int} {c : Int} (ht : t ∈ turnsTo w a.1 [x]) (r : Run w s (stepTo w a t) word ts b c) : Run w s a (x :: word) (t :: ts) b (stepCost t a.2 s + c)
theorem run_snoc {w : List Nat} {s : Int} : ∀ {a b : Std} {word : List Nat} {ts : List Int} {c : Int}, Run w s a word ts b c → ∀ {x : Nat} {t : Int}, t ∈ turnsTo w b.1 [x] → Run w s a (word ++ [x]) (ts ++ [t]) (stepTo w b t) (c + stepCost t b.2 s) := by
  intro a b word ts c r
  induction r with
  | nil a =>
    intro x t ht
    have z := Run.cons ht (Run.nil (w := w) (s := s) (stepTo w a t))
    rw [Int.add_zero] at z
    rw [Int.zero_add]
    exact z
  | cons ht r ih =>
    intro x t ht2
    have z := Run.cons ht (ih ht2)
    rw [← Int.add_assoc] at z
    exact z
theorem run_unsnoc {w : List Nat} {s : Int} : ∀ (word : List Nat) {a b : Std} {x : Nat} {ts : List Int} {c : Int}, Run w s a (word ++ [x]) ts b c → ∃ ts' t b' c', ts = ts' ++ [t] ∧ Run w s a word ts' b' c' ∧ t ∈ turnsTo w b'.1 [x] ∧ b = stepTo w b' t ∧ c = c' + stepCost t b'.2 s
  | [], a, b, x, ts, c, r => by
    cases r with
    | cons ht r =>
      cases r with
      | nil => exact ⟨[], _, a, 0, rfl, .nil a, ht, rfl, by omega⟩
  | y :: word, a, b, x, ts, c, r => by
    cases r with
    | cons ht r =>
      obtain ⟨ts', t, b', c', e1, r', ht', e2, e3⟩ := run_unsnoc word r
      exact ⟨_ :: ts', t, b', _, by rw [e1]; rfl, .cons ht r', ht', e2, by omega⟩
theorem run_len {w : List Nat} {s : Int} {a b : Std} {word : List Nat} {ts : List Int} {c : Int} (r : Run w s a word ts b c) : ts.length = word.length := by
  induction r with
  | nil => rfl
  | cons ht r ih => rw [List.length_cons, List.length_cons, ih]
theorem run_cost {w : List Nat} {s : Int} {a b : Std} {word : List Nat} {ts : List Int} {c : Int} (r : Run w s a word ts b c) : c = cst s a.2 ts := by
  induction r with
  | nil => rfl
  | cons ht r ih => rw [ih]; rfl
theorem run_way {w : List Nat} {s : Int} {a b : Std} {word : List Nat} {ts : List Int} {c : Int} (r : Run w s a word ts b c) : b.2 = wayAll a.2 ts := by
  induction r with
  | nil => rfl
  | cons ht r ih => rw [ih]; rfl
theorem run_pos {w : List Nat} {s : Int} {a b : Std} {word : List Nat} {ts : List Int} {c : Int} (r : Run w s a word ts b c) : b.1 = posL w.length a.1 ts := by
  induction r with
  | nil => rfl
  | cons ht r ih => rw [ih]; rfl
/-- some plan of the word leads there for that cost -/
def Lands (w : List Nat) (s p : Int) (word : List Nat) (st : Std) (c : Int) : Prop := ∃ ts, Run w s (p, 0) word ts st c
theorem mem_next {w : List Nat} {s : Int} {sg : List Nat} {R : Row} {st : Std} {c : Int} : (st, c) ∈ nexts w s sg R ↔ ∃ a c0 t, (a, c0) ∈ R ∧ t ∈ turnsTo w a.1 sg ∧ st = stepTo w a t ∧ c = c0 + stepCost t a.2 s := by
  unfold nexts nextOf stepsFrom
  rw [List.mem_flatMap]
  constructor
  · rintro ⟨e, he, hx⟩
    rw [List.map_map] at hx
    obtain ⟨t, ht, ex⟩ := List.mem_map.mp hx
    cases ex
    exact ⟨e.1, e.2, t, he, ht, rfl, rfl⟩
  · rintro ⟨a, c0, t, he, ht, e1, e2⟩
    refine ⟨(a, c0), he, ?_⟩
    rw [List.map_map]
    exact List.mem_map.mpr ⟨t, ht, Prod.ext e1.symm e2.symm⟩
theorem rowI_best (w : List Nat) (s p : Int) (word : List Nat) (st : Std) : IsBest (Lands w s p word st) (valI (rowI w s p word) st) := by
  have : ∀ k, k ≤ word.length → ∀ st, IsBest (Lands w s p (word.take k) st) (valI (rowI w s p (word.take k)) st) := by
    intro k
    induction k with
    | zero =>
      intro _ st
      rw [List.take_zero]
      show IsBest _ (valI [((p, 0), 0)] st)
      by_cases h : (p, 0) = st
      · subst h
        have : valI [((p, 0), (0 : Int))] (p, 0) = some 0 := getA_pos rfl
        rw [this]
        exact ⟨⟨[], .nil _⟩, fun c' ⟨ts, r⟩ => by cases r; exact Int.le_refl _⟩
      · have : valI [((p, 0), (0 : Int))] st = none := by
          exact (getA_neg h).trans rfl
        rw [this]
        exact fun c ⟨ts, r⟩ => by cases r; exact h rfl
    | succ k ih =>
      intro hk st
      have ih := ih (by omega)
      obtain ⟨x, hx⟩ : ∃ x, word[k]? = some x := ⟨_, List.getElem?_eq_getElem (by omega)⟩
      rw [take_snoc hx, rowI_snoc]
      have hnd := rowI_nd w s p (word.take k)
      refine (relaxAll_best (nexts w s [x] (rowI w s p (word.take k))) st).dom (fun c hc => ?_) (fun c hc => ?_)
      · obtain ⟨a, c0, t, hm, ht, e1, e2⟩ := mem_next.mp hc
        have hb := ih a
        rw [(valI_mem hnd).mp hm] at hb
        obtain ⟨ts, r⟩ := hb.1
        rw [e1, e2]
        exact ⟨_, run_snoc r ht⟩
      · obtain ⟨ts, r⟩ := hc
        obtain ⟨ts', t, b', c', _, r', ht, e1, e2⟩ := run_unsnoc _ r
        have hb := ih b'
        cases hv : valI (rowI w s p (word.take k)) b' with
        | none => rw [hv] at hb; exact absurd ⟨ts', r'⟩ (hb c')
        | some c0 =>
          rw [hv] at hb
          have := hb.2 c' ⟨ts', r'⟩
          exact ⟨c0 + stepCost t b'.2 s, by omega, mem_next.mpr ⟨b', c0, t, (valI_mem hnd).mpr hv, ht, e1, rfl⟩⟩
  have h := this word.length (Nat.le_refl _) st
  rwa [List.take_length] at h
end Sw
end
section
local macro_rules | `(tactic| walk_at "go1") => `(tactic| first
  | with_reducible refine Sw.h_seqasg ?_
  | with_reducible refine Sw.h_op ?_
  | with_reducible refine Sw.h_varS rfl ?_
  | with_reducible refine Sw.h_varO rfl ?_
  | with_reducible refine Sw.h_c ?_
  | with_reducible refine Sw.h_I0 ?_
  | with_reducible refine Sw.h_cons ?_
  | with_reducible refine Sw.h_consT rfl ?_
  | with_reducible refine Sw.h_consC rfl ?_
  | with_reducible refine Sw.h_nil ?_
  | with_reducible refine Sw.h_call ?_
  | with_reducible refine Sw.h_un ?_
  | with_reducible refine Sw.h_test ?_
  | with_reducible refine Sw.h_bl ?_
  | with_reducible refine Sw.h_seqdrop ?_
  | with_reducible refine Sw.h_asS ?_
  | with_reducible refine Sw.h_asO ?_
  | with_reducible refine Sw.h_ne1 ?_
  | with_reducible refine Sw.h_ne2 ?_
  | with_reducible refine Sw.h_asg ?_
  | with_reducible refine Sw.h_drop ?_
  | with_reducible refine Sw.h_ret ?_
  | with_reducible refine Sw.h_retS rfl ?_
  | with_reducible refine Sw.h_retO rfl ?_
  | with_reducible refine Sw.h_retN ?_
  | with_reducible refine Sw.h_next ?_
  | with_reducible refine Sw.h_if ?_
  | with_reducible refine Sw.h_frzO rfl ?_
  | with_reducible refine Sw.h_frzS rfl ?_
  | with_reducible refine Sw.h_and ?_
  | with_reducible refine Sw.h_or ?_
  | with_reducible refine Sw.h_not ?_
  | with_reducible refine Sw.h_yes ?_
  | with_reducible refine Sw.h_andV ?_
  | with_reducible refine Sw.h_orV ?_
  | with_reducible refine Sw.h_notV ?_
  | with_reducible refine Sw.h_ifE ?_
  | with_reducible refine Sw.h_chain ?_
  | with_reducible refine Sw.h_lenC rfl ?_
  | with_reducible refine Sw.h_tup ?_
  | with_reducible refine Sw.h_lst ?_
  | with_reducible refine Sw.h_shs0 ?_
  | with_reducible refine Sw.h_shs1 ?_
  | with_reducible refine Sw.h_shs2 ?_
  | with_reducible refine Sw.h_shs3 ?_
  | with_reducible refine Sw.h_shs4 ?_
  | with_reducible refine Sw.h_sl ?_
  | with_reducible refine Sw.h_nopart ?_
  | with_reducible refine Sw.h_part ?_
  | with_reducible refine Sw.h_int ?_
  | with_reducible refine Sw.h_neg ?_
  | with_reducible refine Sw.h_S ?_
  | with_reducible refine Sw.h_inSign ?_
  | with_reducible refine Sw.h_notInSign ?_
  | with_reducible refine Sw.h_isN ?_
  | with_reducible refine Sw.h_notN ?_
  | with_reducible refine Sw.h_eq rfl ?_
  | with_reducible refine Sw.h_ne rfl ?_
  | with_reducible refine Sw.h_lenL ?_
  | with_reducible refine Sw.h_lenT ?_
  | with_reducible refine Sw.h_abs ?_
  | with_reducible refine Sw.h_max2 ?_
  | with_reducible refine Sw.h_min2 ?_
  | with_reducible refine Sw.h_int1b ?_
  | with_reducible refine Sw.h_sum ?_
  | with_reducible refine Sw.h_listOf ?_
  | with_reducible refine Sw.h_slL ?_
  | with_reducible refine Sw.h_slT ?_
  | with_reducible refine Sw.h_revL ?_
  | with_reducible refine Sw.h_newK ?_
  | with_reducible refine Sw.h_newT ?_
  | with_reducible refine Sw.h_seqfor ?_
  | with_reducible refine Sw.h_seqforD ?_
  | with_reducible refine Sw.h_dispT ?_
  | with_reducible refine Sw.h_LM ?_
  | with_reducible refine Sw.h_SM ?_
  | with_reducible refine Sw.h_for ?_
  | with_reducible refine Sw.h_iList ?_
  | with_reducible refine Sw.h_iTup ?_
  | with_reducible refine Sw.h_iStr ?_
  | with_reducible refine Sw.h_iR1 ?_
  | with_reducible refine Sw.h_iR2 ?_
  | with_reducible refine Sw.h_iR3 ?_
  | with_reducible refine Sw.h_iEnum ?_
  | with_reducible refine Sw.h_iZip ?_
  | with_reducible refine Sw.h_iZipS ?_
  | with_reducible refine Sw.h_iZipT ?_
  | with_reducible refine Sw.h_lcD ?_
  | with_reducible refine Sw.h_callDP ?_
  | with_reducible refine Sw.h_callD ?_
  | with_reducible refine Sw.h_consN ?_
  | with_reducible refine Sw.h_consO rfl ?_
  | with_reducible refine Sw.h_lcV ?_
  | with_reducible refine Sw.h_countS ?_
  | with_reducible refine Sw.h_retPO rfl rfl ?_
  | with_reducible refine Sw.h_retPS rfl rfl ?_
  | with_reducible refine Sw.h_asgP ?_
  | with_reducible refine Sw.h_seqasgP ?_
  | with_reducible refine Sw.h_pairO ?_
  | with_reducible refine Sw.h_pairS ?_
  | with_reducible refine Sw.h_lst1 ?_
  | with_reducible refine Sw.h_tup1 ?_
  | with_reducible refine Sw.h_str1 ?_
  | with_reducible refine Sw.h_lc ?_
  | with_reducible refine Sw.h_gN ?_
  | with_reducible refine Sw.h_gT rfl ?_
  | with_reducible refine Sw.h_gC ?_
  | with_reducible refine Sw.h_gE ?_
  | with_reducible refine Sw.h_asgG ?_
  | with_reducible refine Sw.h_forD ?_
  | with_reducible refine Sw.h_raise ?_
  | with_reducible refine Sw.h_seqasgG ?_
  | with_reducible refine Sw.h_seqfrzO rfl ?_
  | with_reducible refine Sw.h_seqfrzS rfl ?_
  | with_reducible refine Sw.h_isi rfl rfl ?_
  | with_reducible refine Sw.h_ixT rfl ?_
  | with_reducible refine Sw.h_seq1 ?_
  | with_reducible refine L2.iteT ?_ | with_reducible refine L2.iteF ?_ | with_reducible refine Sw.iteNT ?_ | with_reducible refine Sw.iteNF ?_ | refine Sw.h_np rfl ?_)
local macro_rules | `(tactic| walk_at "go") => `(tactic| repeat walk_at "go1")
local macro_rules | `(tactic| walk_at "sz") => `(tactic| first
  | omega
  | decide
  | (simp only [List.length_append, List.length_map, List.length_cons, List.length_nil, List.length_take, List.length_drop, List.length_reverse, List.length_set, List.length_replicate, List.length_range]; omega)
  | (refine Nat.le_trans (Sw.cut_len _ _ _) ?_; omega))
local macro_rules | `(tactic| walk_at "gx1") => `(tactic| first
  | walk_at "go1"
  | refine Sw.c_draw (by omega) (by omega) (fun _ _ _ => ?_)
  | refine Sw.c_letters (by omega) (by omega) (by omega) (by omega) (fun _ _ _ => ?_)
  | refine Sw.c_wheel (by omega) (by omega) (fun _ _ _ _ => ?_)
  | refine Sw.c_word (by walk_at "sz") (by walk_at "sz") (by omega) (by omega) (fun _ _ _ => ?_)
  | refine Sw.c_bent (by walk_at "sz") (by assumption) (fun _ _ _ => ?_)
  | refine Sw.c_lis_word (by walk_at "sz") (by assumption) ?_
  | refine Sw.h_sc rfl ?_
  | refine Sw.h_lenS (by walk_at "sz") ?_
  | refine Sw.h_slS (by walk_at "sz") ?_
  | refine Sw.h_addS (by walk_at "sz") ?_
  | refine Sw.h_I (by omega) ?_
  | refine Sw.h_I (Sw.cm (by omega) (by omega) (by omega) (by omega)) ?_
  | refine Sw.h_I (Sw.cd (by omega) (by omega)) ?_
  | refine Sw.h_I ⟨by decide, by decide, by decide⟩ ?_
  | refine Sw.h_gT rfl ?_
  | refine Sw.h_ixT rfl ?_
  | refine Sw.h_ixL rfl ?_
  | refine Sw.h_appE rfl ?_
  | refine Sw.h_appK rfl (by decide) (by walk_at "sz") ?_
  | refine Sw.h_setLE rfl ?_
  | refine Sw.h_putTE rfl ?_
  | refine Sw.h_putKE rfl ?_
  | refine Sw.h_tupOf ?_
  | refine Sw.h_listOfT ?_
  | refine Sw.h_orS ?_
  | refine And.intro (by omega) (And.intro (by omega) ?_))
local macro_rules | `(tactic| walk_at "gx") => `(tactic| repeat walk_at "gx1")
local macro_rules | `(tactic| walk_at "gp1") => `(tactic| first
  | walk_at "go1"
  | with_reducible refine Sw.h_ixP0 ?_
  | with_reducible refine Sw.h_ixP1 ?_
  | with_reducible refine Sw.h_gP ?_)
local macro_rules | `(tactic| walk_at "gp") => `(tactic| repeat walk_at "gp1")
namespace Sw
open PySem PySem.Spec PyProof.Rows L2 SX
def encStep (x : Stp) : D := .tup [.int x.1, encP x.2.1, .int x.2.2]
def encRow (R : Row) : D := .dT (R.map fun e => (encK e.1, .int e.2))
theorem row_get (R : Row) (st : Std) : getD' (R.map fun e => (encK e.1, D.int e.2)) (encK st) = (valI R st).map D.int := getA_enc encK_inj D.int R st
theorem row_put (R : Row) (st : Std) (c : Int) : putD (R.map fun e => (encK e.1, D.int e.2)) (encK st) (.int c) = (putI R st c).map fun e => (encK e.1, D.int e.2) := putA_enc encK_inj D.int R st c
end Sw
end
section
local macro_rules | `(tactic| walk_at "go1") => `(tactic| first
  | with_reducible refine Sw.h_seqasg ?_
  | with_reducible refine Sw.h_op ?_
  | with_reducible refine Sw.h_varS rfl ?_
  | with_reducible refine Sw.h_varO rfl ?_
  | with_reducible refine Sw.h_c ?_
  | with_reducible refine Sw.h_I0 ?_
  | with_reducible refine Sw.h_cons ?_
  | with_reducible refine Sw.h_consT rfl ?_
  | with_reducible refine Sw.h_consC rfl ?_
  | with_reducible refine Sw.h_nil ?_
  | with_reducible refine Sw.h_call ?_
  | with_reducible refine Sw.h_un ?_
  | with_reducible refine Sw.h_test ?_
  | with_reducible refine Sw.h_bl ?_
  | with_reducible refine Sw.h_seqdrop ?_
  | with_reducible refine Sw.h_asS ?_
  | with_reducible refine Sw.h_asO ?_
  | with_reducible refine Sw.h_ne1 ?_
  | with_reducible refine Sw.h_ne2 ?_
  | with_reducible refine Sw.h_asg ?_
  | with_reducible refine Sw.h_drop ?_
  | with_reducible refine Sw.h_ret ?_
  | with_reducible refine Sw.h_retS rfl ?_
  | with_reducible refine Sw.h_retO rfl ?_
  | with_reducible refine Sw.h_retN ?_
  | with_reducible refine Sw.h_next ?_
  | with_reducible refine Sw.h_if ?_
  | with_reducible refine Sw.h_frzO rfl ?_
  | with_reducible refine Sw.h_frzS rfl ?_
  | with_reducible refine Sw.h_and ?_
  | with_reducible refine Sw.h_or ?_
  | with_reducible refine Sw.h_not ?_
  | with_reducible refine Sw.h_yes ?_
  | with_reducible refine Sw.h_andV ?_
  | with_reducible refine Sw.h_orV ?_
  | with_reducible refine Sw.h_notV ?_
  | with_reducible refine Sw.h_ifE ?_
  | with_reducible refine Sw.h_chain ?_
  | with_reducible refine Sw.h_lenC rfl ?_
  | with_reducible refine Sw.h_tup ?_
  | with_reducible refine Sw.h_lst ?_
  | with_reducible refine Sw.h_shs0 ?_
  | with_reducible refine Sw.h_shs1 ?_
  | with_reducible refine Sw.h_shs2 ?_
  | with_reducible refine Sw.h_shs3 ?_
  | with_reducible refine Sw.h_shs4 ?_
  | with_reducible refine Sw.h_sl ?_
  | with_reducible refine Sw.h_nopart ?_
  | with_reducible refine Sw.h_part ?_
  | with_reducible refine Sw.h_int ?_
  | with_reducible refine Sw.h_neg ?_
  | with_reducible refine Sw.h_S ?_
  | with_reducible refine Sw.h_inSign ?_
  | with_reducible refine Sw.h_notInSign ?_
  | with_reducible refine Sw.h_isN ?_
  | with_reducible refine Sw.h_notN ?_
  | with_reducible refine Sw.h_eq rfl ?_
  | with_reducible refine Sw.h_ne rfl ?_
  | with_reducible refine Sw.h_lenL ?_
  | with_reducible refine Sw.h_lenT ?_
  | with_reducible refine Sw.h_abs ?_
  | with_reducible refine Sw.h_max2 ?_
  | with_reducible refine Sw.h_min2 ?_
  | with_reducible refine Sw.h_int1b ?_
  | with_reducible refine Sw.h_sum ?_
  | with_reducible refine Sw.h_listOf ?_
  | with_reducible refine Sw.h_slL ?_
  | with_reducible refine Sw.h_slT ?_
  | with_reducible refine Sw.h_revL ?_
  | with_reducible refine Sw.h_newK ?_
  | with_reducible refine Sw.h_newT ?_
  | with_reducible refine Sw.h_seqfor ?_
  | with_reducible refine Sw.h_seqforD ?_
  | with_reducible refine Sw.h_dispT ?_
  | with_reducible refine Sw.h_LM ?_
  | with_reducible refine Sw.h_SM ?_
  | with_reducible refine Sw.h_for ?_
  | with_reducible refine Sw.h_iList ?_
  | with_reducible refine Sw.h_iTup ?_
  | with_reducible refine Sw.h_iStr ?_
  | with_reducible refine Sw.h_iR1 ?_
  | with_reducible refine Sw.h_iR2 ?_
  | with_reducible refine Sw.h_iR3 ?_
  | with_reducible refine Sw.h_iEnum ?_
  | with_reducible refine Sw.h_iZip ?_
  | with_reducible refine Sw.h_iZipS ?_
  | with_reducible refine Sw.h_iZipT ?_
  | with_reducible refine Sw.h_lcD ?_
  | with_reducible refine Sw.h_callDP ?_
  | with_reducible refine Sw.h_callD ?_
  | with_reducible refine Sw.h_consN ?_
  | with_reducible refine Sw.h_consO rfl ?_
  | with_reducible refine Sw.h_lcV ?_
  | with_reducible refine Sw.h_countS ?_
  | with_reducible refine Sw.h_retPO rfl rfl ?_
  | with_reducible refine Sw.h_retPS rfl rfl ?_
  | with_reducible refine Sw.h_asgP ?_
  | with_reducible refine Sw.h_seqasgP ?_
  | with_reducible refine Sw.h_pairO ?_
  | with_reducible refine Sw.h_pairS ?_
  | with_reducible refine Sw.h_lst1 ?_
  | with_reducible refine Sw.h_tup1 ?_
  | with_reducible refine Sw.h_str1 ?_
  | with_reducible refine Sw.h_lc ?_
  | with_reducible refine Sw.h_gN ?_
  | with_reducible refine Sw.h_gT rfl ?_
  | with_reducible refine Sw.h_gC ?_
  | with_reducible refine Sw.h_gE ?_
  | with_reducible refine Sw.h_asgG ?_
  | with_reducible refine Sw.h_forD ?_
  | with_reducible refine Sw.h_raise ?_
  | with_reducible refine Sw.h_seqasgG ?_
  | with_reducible refine Sw.h_seqfrzO rfl ?_
  | with_reducible refine Sw.h_seqfrzS rfl ?_
  | with_reducible refine Sw.h_isi rfl rfl ?_
  | with_reducible refine Sw.h_ixT rfl ?_
  | with_reducible refine Sw.h_seq1 ?_
  | with_reducible refine L2.iteT ?_ | with_reducible refine L2.iteF ?_ | with_reducible refine Sw.iteNT ?_ | with_reducible refine Sw.iteNF ?_ | refine Sw.h_np rfl ?_)
local macro_rules | `(tactic| walk_at "go") => `(tactic| repeat walk_at "go1")
local macro_rules | `(tactic| walk_at "sz") => `(tactic| first
  | omega
  | decide
  | (simp only [List.length_append, List.length_map, List.length_cons, List.length_nil, List.length_take, List.length_drop, List.length_reverse, List.length_set, List.length_replicate, List.length_range]; omega)
  | (refine Nat.le_trans (Sw.cut_len _ _ _) ?_; omega))
local macro_rules | `(tactic| walk_at "gx1") => `(tactic| first
  | walk_at "go1"
  | refine Sw.c_draw (by omega) (by omega) (fun _ _ _ => ?_)
  | refine Sw.c_letters (by omega) (by omega) (by omega) (by omega) (fun _ _ _ => ?_)
  | refine Sw.c_wheel (by omega) (by omega) (fun _ _ _ _ => ?_)
  | refine Sw.c_word (by walk_at "sz") (by walk_at "sz") (by omega) (by omega) (fun _ _ _ => ?_)
  | refine Sw.c_bent (by walk_at "sz") (by assumption) (fun _ _ _ => ?_)
  | refine Sw.c_lis_word (by walk_at "sz") (by assumption) ?_
  | refine Sw.h_sc rfl ?_
  | refine Sw.h_lenS (by walk_at "sz") ?_
  | refine Sw.h_slS (by walk_at "sz") ?_
  | refine Sw.h_addS (by walk_at "sz") ?_
  | refine Sw.h_I (by omega) ?_
  | refine Sw.h_I (Sw.cm (by omega) (by omega) (by omega) (by omega)) ?_
  | refine Sw.h_I (Sw.cd (by omega) (by omega)) ?_
  | refine Sw.h_I ⟨by decide, by decide, by decide⟩ ?_
  | refine Sw.h_gT rfl ?_
  | refine Sw.h_ixT rfl ?_
  | refine Sw.h_ixL rfl ?_
  | refine Sw.h_appE rfl ?_
  | refine Sw.h_appK rfl (by decide) (by walk_at "sz") ?_
  | refine Sw.h_setLE rfl ?_
  | refine Sw.h_putTE rfl ?_
  | refine Sw.h_putKE rfl ?_
  | refine Sw.h_tupOf ?_
  | refine Sw.h_listOfT ?_
  | refine Sw.h_orS ?_
  | refine And.intro (by omega) (And.intro (by omega) ?_))
local macro_rules | `(tactic| walk_at "gx") => `(tactic| repeat walk_at "gx1")
local macro_rules | `(tactic| walk_at "gp1") => `(tactic| first
  | walk_at "go1"
  | with_reducible refine Sw.h_ixP0 ?_
  | with_reducible refine Sw.h_ixP1 ?_
  | with_reducible refine Sw.h_gP ?_)
local macro_rules | `(tactic| walk_at "gp") => `(tactic| repeat walk_at "gp1")
namespace Sw
open PySem PySem.Spec PyProof.Rows L2 SX
/-! ### the least of a list of ints -/
def minL : List Int → Int
  | [] => 0
  | x :: xs => xs.foldl min x
theorem fold_min_le : ∀ (xs : List Int) (a : Int), xs.foldl min a ≤ a ∧ ∀ y ∈ xs, xs.foldl min a ≤ y
  | [], a => ⟨Int.le_refl _, fun _ h => nomatch h⟩
  | x :: xs, a => by
    obtain ⟨h1, h2⟩ := fold_min_le xs (min a x)
    refine ⟨Int.le_trans h1 (Int.min_le_left a x), fun y hy => ?_⟩
    rcases List.mem_cons.mp hy with rfl | hy
    · exact Int.le_trans h1 (Int.min_le_right a _)
    · exact h2 y hy
theorem fold_min_mem : ∀ (xs : List Int) (a : Int), xs.foldl min a = a ∨ xs.foldl min a ∈ xs
  | [], a => .inl rfl
  | x :: xs, a => by
    rcases fold_min_mem xs (min a x) with h | h
    · rw [List.foldl_cons, h]
      by_cases z : a ≤ x
      · rw [Int.min_eq_left z]; exact .inl rfl
      · rw [Int.min_eq_right (by omega)]; exact .inr List.mem_cons_self
    · exact .inr (List.mem_cons_of_mem _ h)
theorem minL_mem {l : List Int} (h : l ≠ []) : minL l ∈ l := by
  cases l with
  | nil => exact absurd rfl h
  | cons x xs =>
    rcases fold_min_mem xs x with e | e
    · show xs.foldl min x ∈ x :: xs; rw [e]; exact List.mem_cons_self
    · exact List.mem_cons_of_mem _ e
theorem minL_le {l : List Int} {y : Int} (h : y ∈ l) : minL l ≤ y := by
  cases l with
  | nil => exact nomatch h
  | cons x xs =>
    obtain ⟨h1, h2⟩ := fold_min_le xs x
    rcases List.mem_cons.mp h with rfl | h
    · exact h1
    · exact h2 y h
theorem minL_uniq {l : List Int} {m : Int} (h : m ∈ l) (h' : ∀ y ∈ l, m ≤ y) : m = minL l := by
  have h1 := h' _ (minL_mem (List.ne_nil_of_mem h))
  have h2 := minL_le h
  omega
/-! ### what is left: the least cost, and in how many ways -/
def rc (w : List Nat) (s : Int) : List Nat → Std → Int
  | [], _ => 0
  | x :: word, st => minL ((stepsFrom w st [x] s).map fun e => rc w s word e.2.1 + e.2.2)
def rn (w : List Nat) (s : Int) : List Nat → Std → Int
  | [], _ => 1
  | x :: word, st => (((stepsFrom w st [x] s).filter fun e => decide (rc w s word e.2.1 + e.2.2 = rc w s (x :: word) st)).map fun e => rn w s word e.2.1).sum
theorem turnsTo_ne {w : List Nat} {c : Nat} (p : Int) (h : c ∈ w) : turnsTo w p [c] ≠ [] := by
  obtain ⟨j, hj, e⟩ := List.mem_iff_getElem.mp h
  have hn : 0 < w.length := by omega
  obtain ⟨b0, b1⟩ := emod_bd (z := (j : Int) - p) (m := (w.length : Int)) (by omega)
  refine List.ne_nil_of_mem ((mem_turnsTo (t := ((j : Int) - p) % (w.length : Int)) hn).mpr ⟨by omega, b1, ?_⟩)
  unfold hits
  rw [decide_eq_true_eq]
  have e1 : (p + ((j : Int) - p) % (w.length : Int)) % (w.length : Int) = (j : Int) := by
    rw [Int.add_emod, Int.emod_emod_of_dvd _ (Int.dvd_refl _), ← Int.add_emod, show p + ((j : Int) - p) = (j : Int) by omega]
    exact Int.emod_eq_of_lt (by omega) (by omega)
  rw [e1, Int.toNat_natCast, List.getD, List.getElem?_eq_getElem hj, e]
  rfl
theorem stepsFrom_ne {w : List Nat} {c : Nat} (st : Std) (s : Int) (h : c ∈ w) : stepsFrom w st [c] s ≠ [] := by
  unfold stepsFrom
  intro z
  exact turnsTo_ne st.1 h (List.map_eq_nil_iff.mp z)
theorem stepsFrom_len (w : List Nat) (st : Std) (sg : List Nat) (s : Int) : (stepsFrom w st sg s).length ≤ 2 * w.length - 1 := by
  unfold stepsFrom
  rw [List.length_map]
  exact turnsTo_len w st.1 sg
/-- where a step leads to is in the next row -/
theorem next_in {w : List Nat} {s : Int} {c : Nat} {R : Row} {e : Std × Int} {x : Stp} (he : e ∈ R) (hx : x ∈ stepsFrom w e.1 [c] s) : ∃ v, valI (rowNext w s [c] R) x.2.1 = some v := by
  have hb := relaxAll_best (nexts w s [c] R) x.2.1
  cases hv : valI (rowNext w s [c] R) x.2.1 with
  | some v => exact ⟨v, rfl⟩
  | none =>
    have hv' : valI (relaxAll (nexts w s [c] R)) x.2.1 = none := hv
    rw [hv'] at hb
    refine absurd ?_ (hb (e.2 + x.2.2))
    unfold nexts
    exact List.mem_flatMap.mpr ⟨e, he, by unfold nextOf; exact List.mem_map.mpr ⟨x, hx, rfl⟩⟩
abbrev RowP := List (Std × (Int × Int))
def restOf (w : List Nat) (s : Int) (word : List Nat) (R : Row) : RowP := R.map fun e => (e.1, (rc w s word e.1, rn w s word e.1))
def restRow (w : List Nat) (s : Int) (word : List Nat) (k : Nat) : RowP := restOf w s (word.drop k) (rowI w s 0 (word.take k))
def encRowP (R : RowP) : D := .dT (R.map fun e => (encK e.1, encP e.2))
theorem getA_keys {α β : Type} (f : Std → β) (R : List (Std × α)) (st : Std) : getA (R.map fun e => (e.1, f e.1)) st = (getA R st).map fun _ => f st := by
  induction R with
  | nil => rfl
  | cons e R ih =>
    rw [List.map_cons]
    by_cases h : e.1 = st
    · rw [getA_pos (show (e.1, f e.1).1 = st from h), getA_pos h, ← h]; rfl
    · rw [getA_neg (show (e.1, f e.1).1 ≠ st from h), ih, getA_neg h]
theorem putA_new {κ α : Type} [DecidableEq κ] {R : List (κ × α)} {k : κ} {v : α} (h : (R.any fun e => decide (e.1 = k)) = false) : putA R k v = R ++ [(k, v)] := by
  unfold putA
  rw [if_neg (by rw [h]; exact Bool.false_ne_true)]
/-- a table's rows are laid one by one -/
theorem lay_next {α : Type} {R : Row} {k : Nat} {e : Std × Int} (nd : Nd R) (h : R[k]? = some e) (f : Std → α) : putA ((R.take k).map fun e => (e.1, f e.1)) e.1 (f e.1) = (R.take (k + 1)).map fun e => (e.1, f e.1) := by
  rw [take_snoc h, List.map_append]
  refine putA_new ?_
  rw [List.any_eq_false]
  intro x hx z
  obtain ⟨y, hy, rfl⟩ := List.mem_map.mp hx
  have z' : y.1 = e.1 := by simpa using z
  obtain ⟨j, hj, ej⟩ := List.mem_iff_getElem.mp hy
  rw [List.length_take] at hj
  have hk : k < R.length := (List.getElem?_eq_some_iff.mp h).1
  have ey : R[j]? = some y := by rw [List.getElem_take] at ej; rw [List.getElem?_eq_getElem (by omega), ej]
  have n1 : (R.map (·.1))[j]? = some y.1 := by rw [List.getElem?_map, ey]; rfl
  have n2 : (R.map (·.1))[k]? = some e.1 := by rw [List.getElem?_map, h]; rfl
  have := (List.getElem?_inj (i := j) (j := k) (by rw [List.length_map]; omega) nd).mp (by rw [n1, n2, z'])
  omega
end Sw
end
section
local macro_rules | `(tactic| walk_at "go1") => `(tactic| first
  | with_reducible refine Sw.h_seqasg ?_
  | with_reducible refine Sw.h_op ?_
  | with_reducible refine Sw.h_varS rfl ?_
  | with_reducible refine Sw.h_varO rfl ?_
  | with_reducible refine Sw.h_c ?_
  | with_reducible refine Sw.h_I0 ?_
  | with_reducible refine Sw.h_cons ?_
  | with_reducible refine Sw.h_consT rfl ?_
  | with_reducible refine Sw.h_consC rfl ?_
  | with_reducible refine Sw.h_nil ?_
  | with_reducible refine Sw.h_call ?_
  | with_reducible refine Sw.h_un ?_
  | with_reducible refine Sw.h_test ?_
  | with_reducible refine Sw.h_bl ?_
  | with_reducible refine Sw.h_seqdrop ?_
  | with_reducible refine Sw.h_asS ?_
  | with_reducible refine Sw.h_asO ?_
  | with_reducible refine Sw.h_ne1 ?_
  | with_reducible refine Sw.h_ne2 ?_
  | with_reducible refine Sw.h_asg ?_
  | with_reducible refine Sw.h_drop ?_
  | with_reducible refine Sw.h_ret ?_
  | with_reducible refine Sw.h_retS rfl ?_
  | with_reducible refine Sw.h_retO rfl ?_
  | with_reducible refine Sw.h_retN ?_
  | with_reducible refine Sw.h_next ?_
  | with_reducible refine Sw.h_if ?_
  | with_reducible refine Sw.h_frzO rfl ?_
  | with_reducible refine Sw.h_frzS rfl ?_
  | with_reducible refine Sw.h_and ?_
  | with_reducible refine Sw.h_or ?_
  | with_reducible refine Sw.h_not ?_
  | with_reducible refine Sw.h_yes ?_
  | with_reducible refine Sw.h_andV ?_
  | with_reducible refine Sw.h_orV ?_
  | with_reducible refine Sw.h_notV ?_
  | with_reducible refine Sw.h_ifE ?_
  | with_reducible refine Sw.h_chain ?_
  | with_reducible refine Sw.h_lenC rfl ?_
  | with_reducible refine Sw.h_tup ?_
  | with_reducible refine Sw.h_lst ?_
  | with_reducible refine Sw.h_shs0 ?_
  | with_reducible refine Sw.h_shs1 ?_
  | with_reducible refine Sw.h_shs2 ?_
  | with_reducible refine Sw.h_shs3 ?_
  | with_reducible refine Sw.h_shs4 ?_
  | with_reducible refine Sw.h_sl ?_
  | with_reducible refine Sw.h_nopart ?_
  | with_reducible refine Sw.h_part ?_
  | with_reducible refine Sw.h_int ?_
  | with_reducible refine Sw.h_neg ?_
  | with_reducible refine Sw.h_S ?_
  | with_reducible refine Sw.h_inSign ?_
  | with_reducible refine Sw.h_notInSign ?_
  | with_reducible refine Sw.h_isN ?_
  | with_reducible refine Sw.h_notN ?_
  | with_reducible refine Sw.h_eq rfl ?_
  | with_reducible refine Sw.h_ne rfl ?_
  | with_reducible refine Sw.h_lenL ?_
  | with_reducible refine Sw.h_lenT ?_
  | with_reducible refine Sw.h_abs ?_
  | with_reducible refine Sw.h_max2 ?_
  | with_reducible refine Sw.h_min2 ?_
  | with_reducible refine Sw.h_int1b ?_
  | with_reducible refine Sw.h_sum ?_
  | with_reducible refine Sw.h_listOf ?_
  | with_reducible refine Sw.h_slL ?_
  | with_reducible refine Sw.h_slT ?_
  | with_reducible refine Sw.h_revL ?_
  | with_reducible refine Sw.h_newK ?_
  | with_reducible refine Sw.h_newT ?_
  | with_reducible refine Sw.h_seqfor ?_
  | with_reducible refine Sw.h_seqforD ?_
  | with_reducible refine Sw.h_dispT ?_
  | with_reducible refine Sw.h_LM ?_
  | with_reducible refine Sw.h_SM ?_
  | with_reducible refine Sw.h_for ?_
  | with_reducible refine Sw.h_iList ?_
  | with_reducible refine Sw.h_iTup ?_
  | with_reducible refine Sw.h_iStr ?_
  | with_reducible refine Sw.h_iR1 ?_
  | with_reducible refine Sw.h_iR2 ?_
  | with_reducible refine Sw.h_iR3 ?_
  | with_reducible refine Sw.h_iEnum ?_
  | with_reducible refine Sw.h_iZip ?_
  | with_reducible refine Sw.h_iZipS ?_
  | with_reducible refine Sw.h_iZipT ?_
  | with_reducible refine Sw.h_lcD ?_
  | with_reducible refine Sw.h_callDP ?_
  | with_reducible refine Sw.h_callD ?_
  | with_reducible refine Sw.h_consN ?_
  | with_reducible refine Sw.h_consO rfl ?_
  | with_reducible refine Sw.h_lcV ?_
  | with_reducible refine Sw.h_countS ?_
  | with_reducible refine Sw.h_retPO rfl rfl ?_
  | with_reducible refine Sw.h_retPS rfl rfl ?_
  | with_reducible refine Sw.h_asgP ?_
  | with_reducible refine Sw.h_seqasgP ?_
  | with_reducible refine Sw.h_pairO ?_
  | with_reducible refine Sw.h_pairS ?_
  | with_reducible refine Sw.h_lst1 ?_
  | with_reducible refine Sw.h_tup1 ?_
  | with_reducible refine Sw.h_str1 ?_
  | with_reducible refine Sw.h_lc ?_
  | with_reducible refine Sw.h_gN ?_
  | with_reducible refine Sw.h_gT rfl ?_
  | with_reducible refine Sw.h_gC ?_
  | with_reducible refine Sw.h_gE ?_
  | with_reducible refine Sw.h_asgG ?_
  | with_reducible refine Sw.h_forD ?_
  | with_reducible refine Sw.h_raise ?_
  | with_reducible refine Sw.h_seqasgG ?_
  | with_reducible refine Sw.h_seqfrzO rfl ?_
  | with_reducible refine Sw.h_seqfrzS rfl ?_
  | with_reducible refine Sw.h_isi rfl rfl ?_
  | with_reducible refine Sw.h_ixT rfl ?_
  | with_reducible refine Sw.h_seq1 ?_
  | with_reducible refine L2.iteT ?_ | with_reducible refine L2.iteF ?_ | with_reducible refine Sw.iteNT ?_ | with_reducible refine Sw.iteNF ?_ | refine Sw.h_np rfl ?_)
local macro_rules | `(tactic| walk_at "go") => `(tactic| repeat walk_at "go1")
local macro_rules | `(tactic| walk_at "sz") => `(tactic| first
  | omega
  | decide
  | (simp only [List.length_append, List.length_map, List.length_cons, List.length_nil, List.length_take, List.length_drop, List.length_reverse, List.length_set, List.length_replicate, List.length_range]; omega)
  | (refine Nat.le_trans (Sw.cut_len _ _ _) ?_; omega))
local macro_rules | `(tactic| walk_at "gx1") => `(tactic| first
  | walk_at "go1"
  | refine Sw.c_draw (by omega) (by omega) (fun _ _ _ => ?_)
  | refine Sw.c_letters (by omega) (by omega) (by omega) (by omega) (fun _ _ _ => ?_)
  | refine Sw.c_wheel (by omega) (by omega) (fun _ _ _ _ => ?_)
  | refine Sw.c_word (by walk_at "sz") (by walk_at "sz") (by omega) (by omega) (fun _ _ _ => ?_)
  | refine Sw.c_bent (by walk_at "sz") (by assumption) (fun _ _ _ => ?_)
  | refine Sw.c_lis_word (by walk_at "sz") (by assumption) ?_
  | refine Sw.h_sc rfl ?_
  | refine Sw.h_lenS (by walk_at "sz") ?_
  | refine Sw.h_slS (by walk_at "sz") ?_
  | refine Sw.h_addS (by walk_at "sz") ?_
  | refine Sw.h_I (by omega) ?_
  | refine Sw.h_I (Sw.cm (by omega) (by omega) (by omega) (by omega)) ?_
  | refine Sw.h_I (Sw.cd (by omega) (by omega)) ?_
  | refine Sw.h_I ⟨by decide, by decide, by decide⟩ ?_
  | refine Sw.h_gT rfl ?_
  | refine Sw.h_ixT rfl ?_
  | refine Sw.h_ixL rfl ?_
  | refine Sw.h_appE rfl ?_
  | refine Sw.h_appK rfl (by decide) (by walk_at "sz") ?_
  | refine Sw.h_setLE rfl ?_
  | refine Sw.h_putTE rfl ?_
  | refine Sw.h_putKE rfl ?_
  | refine Sw.h_tupOf ?_
  | refine Sw.h_listOfT ?_
  | refine Sw.h_orS ?_
  | refine And.intro (by omega) (And.intro (by omega) ?_))
local macro_rules | `(tactic| walk_at "gx") => `(tactic| repeat walk_at "gx1")
local macro_rules | `(tactic| walk_at "gp1") => `(tactic| first
  | walk_at "go1"
  | with_reducible refine Sw.h_ixP0 ?_
  | with_reducible refine Sw.h_ixP1 ?_
  | with_reducible refine Sw.h_gP ?_)
local macro_rules | `(tactic| walk_at "gp") => `(tactic| repeat walk_at "gp1")
namespace Sw
open PySem PySem.Spec PyProof.Rows L2 SX
/-! ### letters, wheels, words that are drawn -/
theorem h_draw {δ : DS} {as : List Ar} {m : Int} {Q : Md → D → Prop} {E : Nat → Prop} (e : as = [.tp, .sh (.int m)]) (m0 : 0 < m) (m1 : m < 2 ^ 300) (h : ∀ r : Int, 0 ≤ r → r < m → Q .sh (.int r)) : psp_law_draw as Q E := ⟨m, e, m0, m1, h⟩
theorem h_ixA {ds : List D} {r : Int} {Q : Md → D → Prop} (h0 : 0 ≤ r) (h1 : r < (ds.length : Int)) (h : ∀ d ∈ ds, Q .sh d) : pIxL (.lst ds) (.int r) Q := by
  obtain ⟨v, e, hv, _⟩ := atI_of h0 h1
  exact ⟨ds, r, v, rfl, rfl, e, h v hv⟩
theorem all1 {P : D → Prop} {a : D} (h : P a) : ∀ d ∈ [a], P d := fun d hd => by rw [List.mem_singleton.mp hd]; exact h
theorem all2 {P : D → Prop} {a : D} {l : List D} (h : P a) (hl : ∀ d ∈ l, P d) : ∀ d ∈ a :: l, P d := fun d hd => by
  rcases List.mem_cons.mp hd with e | e
  · rw [e]; exact h
  · exact hl d e
theorem h_joinE {l : List Nat} {Q : Md → D → Prop} (hl : l.length ≤ 1000000) (h : Q .sh (.str l)) : pJoinC [] (.lst (l.map fun c => .str [c])) Q := by
  refine ⟨l.map fun c => [c], .inl (by rw [List.map_map]; rfl), ?_, ?_⟩
  · rw [List.map_map]
    have : ∀ l : List Nat, (l.map ((·.length) ∘ fun c : Nat => [c])).sum = l.length := by
      intro l
      induction l with
      | nil => rfl
      | cons a l ih => rw [List.map_cons, List.sum_cons, ih]; show 1 + l.length = l.length + 1; omega
    rw [this]
    simp
    exact hl
  · rw [List.map_map, show (l.map (S ∘ fun c => [c])) = l.map fun c => S [c] from rfl, join_nil]
    exact h
def psp_law_letters : PSp := fun as Q _ => ∃ n kinds : Int, as = [.tp, .sh (.int n), .sh (.int kinds)] ∧ 0 ≤ n ∧ n ≤ 1000 ∧ 1 ≤ kinds ∧ kinds ≤ 26 ∧ ∀ l : List Nat, l.length = n.toNat → Low l → Q .sh (.str l)
theorem ln_law_letters {as : List Ar} {Q : Md → D → Prop} {E : Nat → Prop} (h : psp_law_letters as Q E) : as.length = 3 := by obtain ⟨_, _, rfl, _⟩ := h; rfl
def t_law_letters (K : PySem.W.Frag) (c : Cl) : TS :=
  (tSeq (tAsg (tC (.str "abcdefghijklmnopqrstuvwxyz")) (gName 3))
  (tSeq (tAsg (tCall (lift K c psp_law_draw) [] E0 (tCons (tVar 0) (tCons (tOp rSub (tC (.int 27)) (tVar 2)) tNil))) (gName 4))
  (tRet (tM1 (rJoin K) (tC (.str "")) (tLc (iRng1 (tCons (tVar 1) tNil)) (gName 5) tYes (tOp rIxS (tVar 3) (tOp rAdd (tVar 4) (tCall (lift K c psp_law_draw) [] E0 (tCons (tVar 0) (tCons (tVar 2) tNil))))) [5])))))
def q_law_letters : QS :=
  (qSeq (qAsg (qC (.str [97, 98, 99, 100, 101, 102, 103, 104, 105, 106, 107, 108, 109, 110, 111, 112, 113, 114, 115, 116, 117, 118, 119, 120, 121, 122])) 3)
  (qSeq (qAsg (qCall psp_law_draw P0 (qConsT 0 (qCons (qOp pSub (qC (.int 27)) (qVar 2)) qNil))) 4)
  (qRet (qUn (pJoinC []) (qLc (qiR1 (qVar 1)) (qgName 5) qYes (qOp pIxS (qVar 3) (qOp pAdd (qVar 4) (qCall psp_law_draw P0 (qConsT 0 (qCons (qVar 2) qNil))))) [5])))))
theorem sim_law_letters {K : PySem.W.Frag} {c : Cl} (t : Option Addr) (E : XK) (Ep : XP) : SimS K c t (fun _ => E) Ep (t_law_letters K c) q_law_letters :=
  (s_seq (s_asg (s_c fun _ => (congrArg V.str (by decide +kernel : (PySem.Str.ofString "abcdefghijklmnopqrstuvwxyz") = S [97, 98, 99, 100, 101, 102, 103, 104, 105, 106, 107, 108, 109, 110, 111, 112, 113, 114, 115, 116, 117, 118, 119, 120, 121, 122]))))
  (s_seq (s_asg (s_call0 (s_consT (s_cons (s_op o_sub (s_c fun _ => rfl) (s_var 2)) s_nil))))
  (s_ret (s_joinC (congrArg V.str (by decide +kernel : (PySem.Str.ofString "") = S [])) (s_lc (si_r1 (s_var 1)) sg_name (by decide) s_yes (s_op o_ixS (s_var 3) (s_op o_add (s_var 4) (s_call0 (s_consT (s_cons (s_var 2) s_nil))))))))))

theorem pr_law_letters {as : List Ar} {Q : Md → D → Prop} {E : Nat → Prop} (h : psp_law_letters as Q E) : q_law_letters { nx := fun _ => Q .sh .non, rt := Q } (dstart 6 as) := by
  obtain ⟨n, kinds, rfl, n0, n1, k0, k1, q⟩ := h
  show q_law_letters _ [some .tp, some (.sh (.int n)), some (.sh (.int kinds)), none, none, none]
  unfold q_law_letters
  walk_at "go"
  refine ⟨27 - kinds, rfl, by omega, by omega, fun f f0 f1 => h_sc rfl ?_⟩
  walk_at "go"
  refine ⟨by omega, by omega, ?_⟩
  refine lc_inv (fun i acc => ∃ l : List Nat, acc = l.map (fun c => .str [c]) ∧ l.length = i ∧ Low l) ⟨[], rfl, rfl, low_nil⟩ (fun i d acc N hd hI hN => ?_) (fun acc hI => ?_)
  · obtain ⟨l, rfl, hl, low⟩ := hI
    obtain ⟨hi, rfl⟩ := rng_at hd
    walk_at "go"
    refine ⟨kinds, rfl, by omega, by omega, fun r r0 r1 => h_sc rfl ?_⟩
    walk_at "go"
    obtain ⟨v, ev, hv, _⟩ := atI_of (xs := abc) (r := f + r) (by omega) (by show f + r < 26; omega)
    refine h_ixS (by decide) ev ?_
    walk_at "go"
    refine ⟨by rw [List.length_map]; omega, hN _ ⟨l ++ [v], by rw [List.map_append]; rfl, by rw [List.length_append]; show l.length + 1 = i + 1; omega, low_app low (abc_low v hv)⟩⟩
  · obtain ⟨l, rfl, hl, low⟩ := hI
    rw [List.length_map] at hl
    unfold rng at hl
    rw [List.length_map, List.length_range] at hl
    refine h_joinE (by omega) ?_
    walk_at "go"
    exact q l hl low
theorem rd_law_letters {K : PySem.W.Frag} {c : Cl} {vs : List V} {H : Hp} {Q : VK} {E : XK} (h : lift K c psp_law_letters vs H Q E) : t_law_letters K c { nx := fun _ H' => Q .non H', rt := Q } (start ["draws", "many", "kinds", "letters", "first", "k"] vs) H :=
  rd_of (ts := fun _ => t_law_letters K c) (qs := fun _ => q_law_letters) (fun t e ep => sim_law_letters t e ep) (fun as Qp Ep h => Nat.le_trans (Nat.le_of_eq (ln_law_letters h)) (by decide)) (fun as Qp Ep h => pr_law_letters h) h

theorem c_letters {n kinds : Int} {S' : Prop} {Q : Md → D → Prop} {E : Nat → Prop} (h0 : 0 ≤ n) (h1 : n ≤ 1000) (h2 : 1 ≤ kinds) (h3 : kinds ≤ 26) (h : ∀ l : List Nat, l.length = n.toNat → Low l → Q .sh (.str l)) : psp_law_letters (List.map Ar.un [.tp, .sh (.int n), .sh (.int kinds)]) (fun m d => (S' → okR m d = true) ∧ Q m d) E :=
  ⟨n, kinds, rfl, h0, h1, h2, h3, fun l hl low => ⟨fun _ => rfl, h l hl low⟩⟩
/-! ### the law's own steps and costs -/
end Sw
end
section
local macro_rules | `(tactic| walk_at "go1") => `(tactic| first
  | with_reducible refine Sw.h_seqasg ?_
  | with_reducible refine Sw.h_op ?_
  | with_reducible refine Sw.h_varS rfl ?_
  | with_reducible refine Sw.h_varO rfl ?_
  | with_reducible refine Sw.h_c ?_
  | with_reducible refine Sw.h_I0 ?_
  | with_reducible refine Sw.h_cons ?_
  | with_reducible refine Sw.h_consT rfl ?_
  | with_reducible refine Sw.h_consC rfl ?_
  | with_reducible refine Sw.h_nil ?_
  | with_reducible refine Sw.h_call ?_
  | with_reducible refine Sw.h_un ?_
  | with_reducible refine Sw.h_test ?_
  | with_reducible refine Sw.h_bl ?_
  | with_reducible refine Sw.h_seqdrop ?_
  | with_reducible refine Sw.h_asS ?_
  | with_reducible refine Sw.h_asO ?_
  | with_reducible refine Sw.h_ne1 ?_
  | with_reducible refine Sw.h_ne2 ?_
  | with_reducible refine Sw.h_asg ?_
  | with_reducible refine Sw.h_drop ?_
  | with_reducible refine Sw.h_ret ?_
  | with_reducible refine Sw.h_retS rfl ?_
  | with_reducible refine Sw.h_retO rfl ?_
  | with_reducible refine Sw.h_retN ?_
  | with_reducible refine Sw.h_next ?_
  | with_reducible refine Sw.h_if ?_
  | with_reducible refine Sw.h_frzO rfl ?_
  | with_reducible refine Sw.h_frzS rfl ?_
  | with_reducible refine Sw.h_and ?_
  | with_reducible refine Sw.h_or ?_
  | with_reducible refine Sw.h_not ?_
  | with_reducible refine Sw.h_yes ?_
  | with_reducible refine Sw.h_andV ?_
  | with_reducible refine Sw.h_orV ?_
  | with_reducible refine Sw.h_notV ?_
  | with_reducible refine Sw.h_ifE ?_
  | with_reducible refine Sw.h_chain ?_
  | with_reducible refine Sw.h_lenC rfl ?_
  | with_reducible refine Sw.h_tup ?_
  | with_reducible refine Sw.h_lst ?_
  | with_reducible refine Sw.h_shs0 ?_
  | with_reducible refine Sw.h_shs1 ?_
  | with_reducible refine Sw.h_shs2 ?_
  | with_reducible refine Sw.h_shs3 ?_
  | with_reducible refine Sw.h_shs4 ?_
  | with_reducible refine Sw.h_sl ?_
  | with_reducible refine Sw.h_nopart ?_
  | with_reducible refine Sw.h_part ?_
  | with_reducible refine Sw.h_int ?_
  | with_reducible refine Sw.h_neg ?_
  | with_reducible refine Sw.h_S ?_
  | with_reducible refine Sw.h_inSign ?_
  | with_reducible refine Sw.h_notInSign ?_
  | with_reducible refine Sw.h_isN ?_
  | with_reducible refine Sw.h_notN ?_
  | with_reducible refine Sw.h_eq rfl ?_
  | with_reducible refine Sw.h_ne rfl ?_
  | with_reducible refine Sw.h_lenL ?_
  | with_reducible refine Sw.h_lenT ?_
  | with_reducible refine Sw.h_abs ?_
  | with_reducible refine Sw.h_max2 ?_
  | with_reducible refine Sw.h_min2 ?_
  | with_reducible refine Sw.h_int1b ?_
  | with_reducible refine Sw.h_sum ?_
  | with_reducible refine Sw.h_listOf ?_
  | with_reducible refine Sw.h_slL ?_
  | with_reducible refine Sw.h_slT ?_
  | with_reducible refine Sw.h_revL ?_
  | with_reducible refine Sw.h_newK ?_
  | with_reducible refine Sw.h_newT ?_
  | with_reducible refine Sw.h_seqfor ?_
  | with_reducible refine Sw.h_seqforD ?_
  | with_reducible refine Sw.h_dispT ?_
  | with_reducible refine Sw.h_LM ?_
  | with_reducible refine Sw.h_SM ?_
  | with_reducible refine Sw.h_for ?_
  | with_reducible refine Sw.h_iList ?_
  | with_reducible refine Sw.h_iTup ?_
  | with_reducible refine Sw.h_iStr ?_
  | with_reducible refine Sw.h_iR1 ?_
  | with_reducible refine Sw.h_iR2 ?_
  | with_reducible refine Sw.h_iR3 ?_
  | with_reducible refine Sw.h_iEnum ?_
  | with_reducible refine Sw.h_iZip ?_
  | with_reducible refine Sw.h_iZipS ?_
  | with_reducible refine Sw.h_iZipT ?_
  | with_reducible refine Sw.h_lcD ?_
  | with_reducible refine Sw.h_callDP ?_
  | with_reducible refine Sw.h_callD ?_
  | with_reducible refine Sw.h_consN ?_
  | with_reducible refine Sw.h_consO rfl ?_
  | with_reducible refine Sw.h_lcV ?_
  | with_reducible refine Sw.h_countS ?_
  | with_reducible refine Sw.h_retPO rfl rfl ?_
  | with_reducible refine Sw.h_retPS rfl rfl ?_
  | with_reducible refine Sw.h_asgP ?_
  | with_reducible refine Sw.h_seqasgP ?_
  | with_reducible refine Sw.h_pairO ?_
  | with_reducible refine Sw.h_pairS ?_
  | with_reducible refine Sw.h_lst1 ?_
  | with_reducible refine Sw.h_tup1 ?_
  | with_reducible refine Sw.h_str1 ?_
  | with_reducible refine Sw.h_lc ?_
  | with_reducible refine Sw.h_gN ?_
  | with_reducible refine Sw.h_gT rfl ?_
  | with_reducible refine Sw.h_gC ?_
  | with_reducible refine Sw.h_gE ?_
  | with_reducible refine Sw.h_asgG ?_
  | with_reducible refine Sw.h_forD ?_
  | with_reducible refine Sw.h_raise ?_
  | with_reducible refine Sw.h_seqasgG ?_
  | with_reducible refine Sw.h_seqfrzO rfl ?_
  | with_reducible refine Sw.h_seqfrzS rfl ?_
  | with_reducible refine Sw.h_isi rfl rfl ?_
  | with_reducible refine Sw.h_ixT rfl ?_
  | with_reducible refine Sw.h_seq1 ?_
  | with_reducible refine L2.iteT ?_ | with_reducible refine L2.iteF ?_ | with_reducible refine Sw.iteNT ?_ | with_reducible refine Sw.iteNF ?_ | refine Sw.h_np rfl ?_)
local macro_rules | `(tactic| walk_at "go") => `(tactic| repeat walk_at "go1")
local macro_rules | `(tactic| walk_at "sz") => `(tactic| first
  | omega
  | decide
  | (simp only [List.length_append, List.length_map, List.length_cons, List.length_nil, List.length_take, List.length_drop, List.length_reverse, List.length_set, List.length_replicate, List.length_range]; omega)
  | (refine Nat.le_trans (Sw.cut_len _ _ _) ?_; omega))
local macro_rules | `(tactic| walk_at "gx1") => `(tactic| first
  | walk_at "go1"
  | refine Sw.c_draw (by omega) (by omega) (fun _ _ _ => ?_)
  | refine Sw.c_letters (by omega) (by omega) (by omega) (by omega) (fun _ _ _ => ?_)
  | refine Sw.c_wheel (by omega) (by omega) (fun _ _ _ _ => ?_)
  | refine Sw.c_word (by walk_at "sz") (by walk_at "sz") (by omega) (by omega) (fun _ _ _ => ?_)
  | refine Sw.c_bent (by walk_at "sz") (by assumption) (fun _ _ _ => ?_)
  | refine Sw.c_lis_word (by walk_at "sz") (by assumption) ?_
  | refine Sw.h_sc rfl ?_
  | refine Sw.h_lenS (by walk_at "sz") ?_
  | refine Sw.h_slS (by walk_at "sz") ?_
  | refine Sw.h_addS (by walk_at "sz") ?_
  | refine Sw.h_I (by omega) ?_
  | refine Sw.h_I (Sw.cm (by omega) (by omega) (by omega) (by omega)) ?_
  | refine Sw.h_I (Sw.cd (by omega) (by omega)) ?_
  | refine Sw.h_I ⟨by decide, by decide, by decide⟩ ?_
  | refine Sw.h_gT rfl ?_
  | refine Sw.h_ixT rfl ?_
  | refine Sw.h_ixL rfl ?_
  | refine Sw.h_appE rfl ?_
  | refine Sw.h_appK rfl (by decide) (by walk_at "sz") ?_
  | refine Sw.h_setLE rfl ?_
  | refine Sw.h_putTE rfl ?_
  | refine Sw.h_putKE rfl ?_
  | refine Sw.h_tupOf ?_
  | refine Sw.h_listOfT ?_
  | refine Sw.h_orS ?_
  | refine And.intro (by omega) (And.intro (by omega) ?_))
local macro_rules | `(tactic| walk_at "gx") => `(tactic| repeat walk_at "gx1")
local macro_rules | `(tactic| walk_at "gp1") => `(tactic| first
  | walk_at "go1"
  | with_reducible refine Sw.h_ixP0 ?_
  | with_reducible refine Sw.h_ixP1 ?_
  | with_reducible refine Sw.h_gP ?_)
local macro_rules | `(tactic| walk_at "gp") => `(tactic| repeat walk_at "gp1")
namespace Sw
open PySem PySem.Spec PyProof.Rows L2 SX
/-! ### the same data compared -/
theorem toPyL_ints : ∀ ns : List Int, toPyL (ns.map .int) = ns.map PyData.int
  | [] => rfl
  | n :: ns => by show toPy (.int n) :: toPyL (ns.map .int) = _; rw [toPyL_ints ns]; rfl
theorem flat_dints : ∀ ns : List Int, flatDL (ns.map .int) = true
  | [] => rfl
  | n :: ns => by show (flatD (.int n) && flatDL (ns.map .int)) = true; rw [flat_dints ns]; rfl
theorem ok_ints (ns : List Int) : Ok 1 (toPy (.lst (ns.map .int))) := by
  show Ok 1 (.list (toPyL (ns.map .int)))
  rw [toPyL_ints]
  exact ok_lst (n := 0) (ok_dI ns)
theorem h_neSame {d : D} {n : Nat} {Q : Md → D → Prop} (f : flatD d = true) (ok : Ok n (toPy d)) (hn : n ≤ 64) (q : Q .sh (.bl false)) : pNeD d d Q := ⟨f, f, ok.shaped hn, ok.shaped hn, by rw [SeqAt.eqv_refl _ ok.1]; exact q⟩
theorem h_eqSame {d : D} {n : Nat} {Q : Md → D → Prop} (f : flatD d = true) (ok : Ok n (toPy d)) (hn : n ≤ 64) (q : Q .sh (.bl true)) : pEqD d d Q := ⟨f, f, ok.shaped hn, ok.shaped hn, by rw [SeqAt.eqv_refl _ ok.1]; exact q⟩
theorem h_neI {ns : List Int} {Q : Md → D → Prop} (q : Q .sh (.bl false)) : pNeD (.lst (ns.map .int)) (.lst (ns.map .int)) Q := h_neSame (flat_dints ns) (ok_ints ns) (by decide) q
theorem h_eqI {ns : List Int} {Q : Md → D → Prop} (q : Q .sh (.bl true)) : pEqD (.lst (ns.map .int)) (.lst (ns.map .int)) Q := h_eqSame (flat_dints ns) (ok_ints ns) (by decide) q
theorem h_minL' {ns : List Int} {Q : Md → D → Prop} (hn : ns ≠ []) (q : Q .sh (.int (minL ns))) : pMinL (.lst (ns.map .int)) Q := ⟨ns, rfl, hn, fun m hm hy => by rw [minL_uniq hm hy]; exact q⟩
end Sw
end
section
local macro_rules | `(tactic| walk_at "go1") => `(tactic| first
  | with_reducible refine Sw.h_seqasg ?_
  | with_reducible refine Sw.h_op ?_
  | with_reducible refine Sw.h_varS rfl ?_
  | with_reducible refine Sw.h_varO rfl ?_
  | with_reducible refine Sw.h_c ?_
  | with_reducible refine Sw.h_I0 ?_
  | with_reducible refine Sw.h_cons ?_
  | with_reducible refine Sw.h_consT rfl ?_
  | with_reducible refine Sw.h_consC rfl ?_
  | with_reducible refine Sw.h_nil ?_
  | with_reducible refine Sw.h_call ?_
  | with_reducible refine Sw.h_un ?_
  | with_reducible refine Sw.h_test ?_
  | with_reducible refine Sw.h_bl ?_
  | with_reducible refine Sw.h_seqdrop ?_
  | with_reducible refine Sw.h_asS ?_
  | with_reducible refine Sw.h_asO ?_
  | with_reducible refine Sw.h_ne1 ?_
  | with_reducible refine Sw.h_ne2 ?_
  | with_reducible refine Sw.h_asg ?_
  | with_reducible refine Sw.h_drop ?_
  | with_reducible refine Sw.h_ret ?_
  | with_reducible refine Sw.h_retS rfl ?_
  | with_reducible refine Sw.h_retO rfl ?_
  | with_reducible refine Sw.h_retN ?_
  | with_reducible refine Sw.h_next ?_
  | with_reducible refine Sw.h_if ?_
  | with_reducible refine Sw.h_frzO rfl ?_
  | with_reducible refine Sw.h_frzS rfl ?_
  | with_reducible refine Sw.h_and ?_
  | with_reducible refine Sw.h_or ?_
  | with_reducible refine Sw.h_not ?_
  | with_reducible refine Sw.h_yes ?_
  | with_reducible refine Sw.h_andV ?_
  | with_reducible refine Sw.h_orV ?_
  | with_reducible refine Sw.h_notV ?_
  | with_reducible refine Sw.h_ifE ?_
  | with_reducible refine Sw.h_chain ?_
  | with_reducible refine Sw.h_lenC rfl ?_
  | with_reducible refine Sw.h_tup ?_
  | with_reducible refine Sw.h_lst ?_
  | with_reducible refine Sw.h_shs0 ?_
  | with_reducible refine Sw.h_shs1 ?_
  | with_reducible refine Sw.h_shs2 ?_
  | with_reducible refine Sw.h_shs3 ?_
  | with_reducible refine Sw.h_shs4 ?_
  | with_reducible refine Sw.h_sl ?_
  | with_reducible refine Sw.h_nopart ?_
  | with_reducible refine Sw.h_part ?_
  | with_reducible refine Sw.h_int ?_
  | with_reducible refine Sw.h_neg ?_
  | with_reducible refine Sw.h_S ?_
  | with_reducible refine Sw.h_inSign ?_
  | with_reducible refine Sw.h_notInSign ?_
  | with_reducible refine Sw.h_isN ?_
  | with_reducible refine Sw.h_notN ?_
  | with_reducible refine Sw.h_eq rfl ?_
  | with_reducible refine Sw.h_ne rfl ?_
  | with_reducible refine Sw.h_lenL ?_
  | with_reducible refine Sw.h_lenT ?_
  | with_reducible refine Sw.h_abs ?_
  | with_reducible refine Sw.h_max2 ?_
  | with_reducible refine Sw.h_min2 ?_
  | with_reducible refine Sw.h_int1b ?_
  | with_reducible refine Sw.h_sum ?_
  | with_reducible refine Sw.h_listOf ?_
  | with_reducible refine Sw.h_slL ?_
  | with_reducible refine Sw.h_slT ?_
  | with_reducible refine Sw.h_revL ?_
  | with_reducible refine Sw.h_newK ?_
  | with_reducible refine Sw.h_newT ?_
  | with_reducible refine Sw.h_seqfor ?_
  | with_reducible refine Sw.h_seqforD ?_
  | with_reducible refine Sw.h_dispT ?_
  | with_reducible refine Sw.h_LM ?_
  | with_reducible refine Sw.h_SM ?_
  | with_reducible refine Sw.h_for ?_
  | with_reducible refine Sw.h_iList ?_
  | with_reducible refine Sw.h_iTup ?_
  | with_reducible refine Sw.h_iStr ?_
  | with_reducible refine Sw.h_iR1 ?_
  | with_reducible refine Sw.h_iR2 ?_
  | with_reducible refine Sw.h_iR3 ?_
  | with_reducible refine Sw.h_iEnum ?_
  | with_reducible refine Sw.h_iZip ?_
  | with_reducible refine Sw.h_iZipS ?_
  | with_reducible refine Sw.h_iZipT ?_
  | with_reducible refine Sw.h_lcD ?_
  | with_reducible refine Sw.h_callDP ?_
  | with_reducible refine Sw.h_callD ?_
  | with_reducible refine Sw.h_consN ?_
  | with_reducible refine Sw.h_consO rfl ?_
  | with_reducible refine Sw.h_lcV ?_
  | with_reducible refine Sw.h_countS ?_
  | with_reducible refine Sw.h_retPO rfl rfl ?_
  | with_reducible refine Sw.h_retPS rfl rfl ?_
  | with_reducible refine Sw.h_asgP ?_
  | with_reducible refine Sw.h_seqasgP ?_
  | with_reducible refine Sw.h_pairO ?_
  | with_reducible refine Sw.h_pairS ?_
  | with_reducible refine Sw.h_lst1 ?_
  | with_reducible refine Sw.h_tup1 ?_
  | with_reducible refine Sw.h_str1 ?_
  | with_reducible refine Sw.h_lc ?_
  | with_reducible refine Sw.h_gN ?_
  | with_reducible refine Sw.h_gT rfl ?_
  | with_reducible refine Sw.h_gC ?_
  | with_reducible refine Sw.h_gE ?_
  | with_reducible refine Sw.h_asgG ?_
  | with_reducible refine Sw.h_forD ?_
  | with_reducible refine Sw.h_raise ?_
  | with_reducible refine Sw.h_seqasgG ?_
  | with_reducible refine Sw.h_seqfrzO rfl ?_
  | with_reducible refine Sw.h_seqfrzS rfl ?_
  | with_reducible refine Sw.h_isi rfl rfl ?_
  | with_reducible refine Sw.h_ixT rfl ?_
  | with_reducible refine Sw.h_seq1 ?_
  | with_reducible refine L2.iteT ?_ | with_reducible refine L2.iteF ?_ | with_reducible refine Sw.iteNT ?_ | with_reducible refine Sw.iteNF ?_ | refine Sw.h_np rfl ?_)
local macro_rules | `(tactic| walk_at "go") => `(tactic| repeat walk_at "go1")
local macro_rules | `(tactic| walk_at "sz") => `(tactic| first
  | omega
  | decide
  | (simp only [List.length_append, List.length_map, List.length_cons, List.length_nil, List.length_take, List.length_drop, List.length_reverse, List.length_set, List.length_replicate, List.length_range]; omega)
  | (refine Nat.le_trans (Sw.cut_len _ _ _) ?_; omega))
local macro_rules | `(tactic| walk_at "gx1") => `(tactic| first
  | walk_at "go1"
  | refine Sw.c_draw (by omega) (by omega) (fun _ _ _ => ?_)
  | refine Sw.c_letters (by omega) (by omega) (by omega) (by omega) (fun _ _ _ => ?_)
  | refine Sw.c_wheel (by omega) (by omega) (fun _ _ _ _ => ?_)
  | refine Sw.c_word (by walk_at "sz") (by walk_at "sz") (by omega) (by omega) (fun _ _ _ => ?_)
  | refine Sw.c_bent (by walk_at "sz") (by assumption) (fun _ _ _ => ?_)
  | refine Sw.c_lis_word (by walk_at "sz") (by assumption) ?_
  | refine Sw.h_sc rfl ?_
  | refine Sw.h_lenS (by walk_at "sz") ?_
  | refine Sw.h_slS (by walk_at "sz") ?_
  | refine Sw.h_addS (by walk_at "sz") ?_
  | refine Sw.h_I (by omega) ?_
  | refine Sw.h_I (Sw.cm (by omega) (by omega) (by omega) (by omega)) ?_
  | refine Sw.h_I (Sw.cd (by omega) (by omega)) ?_
  | refine Sw.h_I ⟨by decide, by decide, by decide⟩ ?_
  | refine Sw.h_gT rfl ?_
  | refine Sw.h_ixT rfl ?_
  | refine Sw.h_ixL rfl ?_
  | refine Sw.h_appE rfl ?_
  | refine Sw.h_appK rfl (by decide) (by walk_at "sz") ?_
  | refine Sw.h_setLE rfl ?_
  | refine Sw.h_putTE rfl ?_
  | refine Sw.h_putKE rfl ?_
  | refine Sw.h_tupOf ?_
  | refine Sw.h_listOfT ?_
  | refine Sw.h_orS ?_
  | refine And.intro (by omega) (And.intro (by omega) ?_))
local macro_rules | `(tactic| walk_at "gx") => `(tactic| repeat walk_at "gx1")
local macro_rules | `(tactic| walk_at "gp1") => `(tactic| first
  | walk_at "go1"
  | with_reducible refine Sw.h_ixP0 ?_
  | with_reducible refine Sw.h_ixP1 ?_
  | with_reducible refine Sw.h_gP ?_)
local macro_rules | `(tactic| walk_at "gp") => `(tactic| repeat walk_at "gp1")
namespace Sw
open PySem PySem.Spec PyProof.Rows L2 SX
theorem cut_len {α : Type} (l : List α) (lo hi : Option Int) : (cut l lo hi).length ≤ l.length := by
  unfold cut
  rw [List.length_take, List.length_drop]
  omega
def Asc (l : List Nat) : Prop := ∀ c ∈ l, c < 128
theorem cut_asc {l : List Nat} {lo hi : Option Int} (h : Asc l) : Asc (cut l lo hi) := fun c hc => by
  unfold cut at hc
  exact h c (List.mem_of_mem_drop (List.mem_of_mem_take hc))
theorem app_asc {a b : List Nat} (ha : Asc a) (hb : Asc b) : Asc (a ++ b) := fun c hc => by
  rcases List.mem_append.mp hc with h | h
  · exact ha c h
  · exact hb c h
theorem low_asc {l : List Nat} (h : Low l) : Asc l := fun c hc => by have := h c hc; omega
theorem one_asc {c : Nat} (h : c < 128) : Asc [c] := fun d hd => by rw [List.mem_singleton.mp hd]; exact h
def psp_law_bent : PSp := fun as Q _ => ∃ l : List Nat, as = [.sh (.str l), .tp] ∧ l.length ≤ 10000 ∧ Asc l ∧ ∀ l' : List Nat, l'.length ≤ 2 * l.length + 1 → Asc l' → Q .sh (.str l')
theorem ln_law_bent {as : List Ar} {Q : Md → D → Prop} {E : Nat → Prop} (h : psp_law_bent as Q E) : as.length = 2 := by obtain ⟨_, rfl, _⟩ := h; rfl
def t_law_bent (K : PySem.W.Frag) (c : Cl) : TS :=
  (tSeq (tAsg (tC (.str " !\"#$&'()*+,-./0123456789:;<=>?@")) (gName 2))
  (tSeq (tAsg (tOp rAddS (tVar 2) (tC (.str "ABCDEFGHIJKLMNOPQRSTUVWXYZ[\\]^_`abcdefghijklmnopqrstuvwxyz{|}~\n"))) (gName 2))
  (tSeq (tAsg (tCall (lift K c psp_law_draw) [] E0 (tCons (tVar 1) (tCons (tC (.int 4)) tNil))) (gName 3))
  (tSeq (tAsg (tOp (rIxL K) (tLst (tCons (tOp rIxS (tVar 2) (tCall (lift K c psp_law_draw) [] E0 (tCons (tVar 1) (tCons (tCB rLenStr (tCons (tVar 2) tNil)) tNil)))) (tCons (tOp rIxS (tC (.str "- 0")) (tCall (lift K c psp_law_draw) [] E0 (tCons (tVar 1) (tCons (tC (.int 3)) tNil)))) tNil))) (tCall (lift K c psp_law_draw) [] E0 (tCons (tVar 1) (tCons (tC (.int 2)) tNil)))) (gName 4))
  (tSeq (tAsg (tCall (lift K c psp_law_draw) [] E0 (tCons (tVar 1) (tCons (tOp rAdd (tCB rLenStr (tCons (tVar 0) tNil)) (tC (.int 1))) tNil))) (gName 5))
  (tSeq (tIfS (tTest (tOp rLt (tVar 3) (tC (.int 2)))) (tRet (tOp rAddS (tOp rAddS (tSl rSlS (tVar 0) tNoPart (tPart (tVar 5))) (tVar 4)) (tSl rSlS (tVar 0) (tPart (tOp rAdd (tVar 5) (tVar 3))) tNoPart))) tNext)
  (tSeq (tIfS (tTest (tOp rEq (tVar 3) (tC (.int 2)))) (tRet (tOp rAddS (tSl rSlS (tVar 0) tNoPart (tPart (tVar 5))) (tSl rSlS (tVar 0) (tPart (tOp rAdd (tVar 5) (tC (.int 1)))) tNoPart))) tNext)
  (tRet (tOp rAddS (tSl rSlS (tVar 0) tNoPart (tPart (tOp rAdd (tVar 5) (tC (.int 1))))) (tSl rSlS (tVar 0) (tPart (tVar 5)) tNoPart))))))))))
def q_law_bent : QS :=
  (qSeq (qAsg (qC (.str [32, 33, 34, 35, 36, 38, 39, 40, 41, 42, 43, 44, 45, 46, 47, 48, 49, 50, 51, 52, 53, 54, 55, 56, 57, 58, 59, 60, 61, 62, 63, 64])) 2)
  (qSeq (qAsg (qOp pAddS (qVar 2) (qC (.str [65, 66, 67, 68, 69, 70, 71, 72, 73, 74, 75, 76, 77, 78, 79, 80, 81, 82, 83, 84, 85, 86, 87, 88, 89, 90, 91, 92, 93, 94, 95, 96, 97, 98, 99, 100, 101, 102, 103, 104, 105, 106, 107, 108, 109, 110, 111, 112, 113, 114, 115, 116, 117, 118, 119, 120, 121, 122, 123, 124, 125, 126, 10]))) 2)
  (qSeq (qAsg (qCall psp_law_draw P0 (qConsT 1 (qCons (qC (.int 4)) qNil))) 3)
  (qSeq (qAsg (qOp pIxL (qLst (qCons (qOp pIxS (qVar 2) (qCall psp_law_draw P0 (qConsT 1 (qCons (qUn pLenS (qVar 2)) qNil)))) (qCons (qOp pIxS (qC (.str [45, 32, 48])) (qCall psp_law_draw P0 (qConsT 1 (qCons (qC (.int 3)) qNil)))) qNil))) (qCall psp_law_draw P0 (qConsT 1 (qCons (qC (.int 2)) qNil)))) 4)
  (qSeq (qAsg (qCall psp_law_draw P0 (qConsT 1 (qCons (qOp pAdd (qUn pLenS (qVar 0)) (qC (.int 1))) qNil))) 5)
  (qSeq (qIfS (qTest (qOp pLt (qVar 3) (qC (.int 2)))) (qRet (qOp pAddS (qOp pAddS (qSl pSlS (qVar 0) qNoPart (qPart (qVar 5))) (qVar 4)) (qSl pSlS (qVar 0) (qPart (qOp pAdd (qVar 5) (qVar 3))) qNoPart))) qNext)
  (qSeq (qIfS (qTest (qOp pEq (qVar 3) (qC (.int 2)))) (qRet (qOp pAddS (qSl pSlS (qVar 0) qNoPart (qPart (qVar 5))) (qSl pSlS (qVar 0) (qPart (qOp pAdd (qVar 5) (qC (.int 1)))) qNoPart))) qNext)
  (qRet (qOp pAddS (qSl pSlS (qVar 0) qNoPart (qPart (qOp pAdd (qVar 5) (qC (.int 1))))) (qSl pSlS (qVar 0) (qPart (qVar 5)) qNoPart))))))))))
theorem sim_law_bent {K : PySem.W.Frag} {c : Cl} (t : Option Addr) (E : XK) (Ep : XP) : SimS K c t (fun _ => E) Ep (t_law_bent K c) q_law_bent :=
  (s_seq (s_asg (s_c fun _ => (congrArg V.str (by decide +kernel : (PySem.Str.ofString " !\"#$&'()*+,-./0123456789:;<=>?@") = S [32, 33, 34, 35, 36, 38, 39, 40, 41, 42, 43, 44, 45, 46, 47, 48, 49, 50, 51, 52, 53, 54, 55, 56, 57, 58, 59, 60, 61, 62, 63, 64]))))
  (s_seq (s_asg (s_op o_addS (s_var 2) (s_c fun _ => (congrArg V.str (by decide +kernel : (PySem.Str.ofString "ABCDEFGHIJKLMNOPQRSTUVWXYZ[\\]^_`abcdefghijklmnopqrstuvwxyz{|}~\n") = S [65, 66, 67, 68, 69, 70, 71, 72, 73, 74, 75, 76, 77, 78, 79, 80, 81, 82, 83, 84, 85, 86, 87, 88, 89, 90, 91, 92, 93, 94, 95, 96, 97, 98, 99, 100, 101, 102, 103, 104, 105, 106, 107, 108, 109, 110, 111, 112, 113, 114, 115, 116, 117, 118, 119, 120, 121, 122, 123, 124, 125, 126, 10])))))
  (s_seq (s_asg (s_call0 (s_consT (s_cons (s_c fun _ => rfl) s_nil))))
  (s_seq (s_asg (s_op o_ixL (s_lst (s_cons (s_op o_ixS (s_var 2) (s_call0 (s_consT (s_cons (s_cb1 (r := rLenStr) o_lenS (s_var 2)) s_nil)))) (s_cons (s_op o_ixS (s_c fun _ => (congrArg V.str (by decide +kernel : (PySem.Str.ofString "- 0") = S [45, 32, 48]))) (s_call0 (s_consT (s_cons (s_c fun _ => rfl) s_nil)))) s_nil))) (s_call0 (s_consT (s_cons (s_c fun _ => rfl) s_nil)))))
  (s_seq (s_asg (s_call0 (s_consT (s_cons (s_op o_add (s_cb1 (r := rLenStr) o_lenS (s_var 0)) (s_c fun _ => rfl)) s_nil))))
  (s_seq (s_ifS (s_test (s_op o_lt (s_var 3) (s_c fun _ => rfl))) (s_ret (s_op o_addS (s_op o_addS (s_sl o_slS (s_var 0) s_noPart (s_part (s_var 5))) (s_var 4)) (s_sl o_slS (s_var 0) (s_part (s_op o_add (s_var 5) (s_var 3))) s_noPart))) s_next)
  (s_seq (s_ifS (s_test (s_op o_eq (s_var 3) (s_c fun _ => rfl))) (s_ret (s_op o_addS (s_sl o_slS (s_var 0) s_noPart (s_part (s_var 5))) (s_sl o_slS (s_var 0) (s_part (s_op o_add (s_var 5) (s_c fun _ => rfl))) s_noPart))) s_next)
  (s_ret (s_op o_addS (s_sl o_slS (s_var 0) s_noPart (s_part (s_op o_add (s_var 5) (s_c fun _ => rfl)))) (s_sl o_slS (s_var 0) (s_part (s_var 5)) s_noPart))))))))))

theorem pr_law_bent {as : List Ar} {Q : Md → D → Prop} {E : Nat → Prop} (h : psp_law_bent as Q E) : q_law_bent { nx := fun _ => Q .sh .non, rt := Q } (dstart 6 as) := by
  obtain ⟨l, rfl, hl, hasc, q⟩ := h
  show q_law_bent _ [some (.sh (.str l)), some .tp, none, none, none, none]
  unfold q_law_bent
  walk_at "go"
  refine h_addS (by decide) ?_
  generalize hs : (([32, 33, 34, 35, 36, 38, 39, 40, 41, 42, 43, 44, 45, 46, 47, 48, 49, 50, 51, 52, 53, 54, 55, 56, 57, 58, 59, 60, 61, 62, 63, 64] : List Nat) ++ [65, 66, 67, 68, 69, 70, 71, 72, 73, 74, 75, 76, 77, 78, 79, 80, 81, 82, 83, 84, 85, 86, 87, 88, 89, 90, 91, 92, 93, 94, 95, 96, 97, 98, 99, 100, 101, 102, 103, 104, 105, 106, 107, 108, 109, 110, 111, 112, 113, 114, 115, 116, 117, 118, 119, 120, 121, 122, 123, 124, 125, 126, 10]) = sg
  have hsl : sg.length = 95 := by rw [← hs]; rfl
  have hsa : Asc sg := by rw [← hs]; unfold Asc; decide
  clear hs
  walk_at "go"
  refine ⟨4, rfl, by decide, by decide, fun a a0 a1 => h_sc rfl ?_⟩
  walk_at "go"
  refine h_lenS (by omega) ?_
  walk_at "go"
  refine ⟨(sg.length : Int), rfl, by omega, by omega, fun b b0 b1 => h_sc rfl ?_⟩
  obtain ⟨c1, e1, m1, _⟩ := atI_of (xs := sg) b0 b1
  refine h_ixS (by omega) e1 ?_
  walk_at "go"
  refine ⟨3, rfl, by decide, by decide, fun b' b0' b1' => h_sc rfl ?_⟩
  obtain ⟨c2, e2, m2, _⟩ := atI_of (xs := ([45, 32, 48] : List Nat)) b0' (by show b' < 3; omega)
  refine h_ixS (by decide) e2 ?_
  walk_at "go"
  refine ⟨2, rfl, by decide, by decide, fun r r0 r1 => h_sc rfl ?_⟩
  obtain ⟨v, ev, hv, _⟩ := atI_of (xs := [D.str [c1], .str [c2]]) r0 (by show r < 2; omega)
  refine h_ixL ev ?_
  have h45 : Asc [45, 32, 48] := by unfold Asc; decide
  have hc : ∃ c : Nat, v = .str [c] ∧ c < 128 := all2 (P := fun v => ∃ c : Nat, v = .str [c] ∧ c < 128) ⟨_, rfl, hsa _ m1⟩ (all1 ⟨_, rfl, h45 _ m2⟩) v hv
  obtain ⟨c, rfl, hc128⟩ := hc
  walk_at "go"
  refine h_lenS (by omega) ?_
  walk_at "go"
  refine ⟨(l.length : Int) + 1, rfl, by omega, by omega, fun at' t0 t1 => h_sc rfl ?_⟩
  walk_at "go"
  have c1 : ∀ lo hi, (cut l lo hi).length ≤ l.length := fun lo hi => cut_len l lo hi
  refine ite_p (fun h => ?_) (fun h => ?_)
  · walk_at "go"
    refine h_slS (by omega) ?_
    walk_at "go"
    have := c1 none (some at')
    refine h_addS (by simp; omega) ?_
    walk_at "go"
    refine h_slS (by omega) ?_
    walk_at "go"
    have := c1 (some (at' + a)) none
    refine h_addS (by simp; omega) ?_
    walk_at "go"
    exact q _ (by simp; omega) (app_asc (app_asc (cut_asc hasc) (one_asc hc128)) (cut_asc hasc))
  · walk_at "go"
    refine ite_p (fun h => ?_) (fun h => ?_)
    · walk_at "go"
      refine h_slS (by omega) ?_
      walk_at "go"
      refine h_slS (by omega) ?_
      walk_at "go"
      have := c1 none (some at')
      have := c1 (some (at' + 1)) none
      refine h_addS (by omega) ?_
      walk_at "go"
      exact q _ (by rw [List.length_append]; omega) (app_asc (cut_asc hasc) (cut_asc hasc))
    · walk_at "go"
      refine h_slS (by omega) ?_
      walk_at "go"
      refine h_slS (by omega) ?_
      walk_at "go"
      have := c1 none (some (at' + 1))
      have := c1 (some at') none
      refine h_addS (by omega) ?_
      walk_at "go"
      exact q _ (by rw [List.length_append]; omega) (app_asc (cut_asc hasc) (cut_asc hasc))
theorem rd_law_bent {K : PySem.W.Frag} {c : Cl} {vs : List V} {H : Hp} {Q : VK} {E : XK} (h : lift K c psp_law_bent vs H Q E) : t_law_bent K c { nx := fun _ H' => Q .non H', rt := Q } (start ["text", "draws", "signs", "way", "sign", "at"] vs) H :=
  rd_of (ts := fun _ => t_law_bent K c) (qs := fun _ => q_law_bent) (fun t e ep => sim_law_bent t e ep) (fun as Qp Ep h => Nat.le_trans (Nat.le_of_eq (ln_law_bent h)) (by decide)) (fun as Qp Ep h => pr_law_bent h) h

theorem c_bent {l : List Nat} {S' : Prop} {Q : Md → D → Prop} {E : Nat → Prop} (h0 : l.length ≤ 10000) (h1 : Asc l) (h : ∀ l' : List Nat, l'.length ≤ 2 * l.length + 1 → Asc l' → Q .sh (.str l')) : psp_law_bent (List.map Ar.un [.sh (.str l), .tp]) (fun m d => (S' → okR m d = true) ∧ Q m d) E :=
  ⟨l, rfl, h0, h1, fun l hl ha => ⟨fun _ => rfl, h l hl ha⟩⟩
/-- a list of signs against none -/
theorem toPyL_strs : ∀ ls : List (List Nat), toPyL (ls.map .str) = ls.map fun l => PyData.str (S l)
  | [] => rfl
  | l :: ls => by show toPy (.str l) :: toPyL (ls.map .str) = _; rw [toPyL_strs ls]; rfl
theorem flat_dstrs : ∀ ls : List (List Nat), flatDL (ls.map .str) = true
  | [] => rfl
  | l :: ls => by show (flatD (.str l) && flatDL (ls.map .str)) = true; rw [flat_dstrs ls]; rfl
theorem ok_strs {ls : List (List Nat)} (h : ∀ l ∈ ls, PyData.strOk (S l) = true) : Ok 1 (toPy (.lst (ls.map .str))) := by
  show Ok 1 (.list (toPyL (ls.map .str)))
  rw [toPyL_strs]
  refine ok_lst (n := 0) fun x hx => ?_
  obtain ⟨l, hl, rfl⟩ := List.mem_map.mp hx
  exact ok_str (h l hl)
theorem ok_empty : Ok 1 (toPy (.lst [])) := ok_lst (n := 0) ok_nil
theorem eqv_nil (ls : List D) : PyData.eqv (toPy (.lst ls)) (toPy (.lst [])) = decide (ls = []) := by
  cases ls with
  | nil => rfl
  | cons a l => rfl
def signF (f : Nat → Bool) : D → Option D := fun d => match d with | .str [ch] => if f ch = true then some (.str [ch]) else none | _ => none
theorem signF_one (f : Nat → Bool) (c : Nat) : signF f (.str [c]) = if f c = true then some (.str [c]) else none := rfl
theorem fm_signs {f : Nat → Bool} {l : List Nat} : (l.map fun ch => D.str [ch]).filterMap (signF f) = ((l.filter f).map fun ch => [ch]).map D.str := by
  induction l with
  | nil => rfl
  | cons a l ih =>
    rw [List.map_cons, List.filterMap_cons]
    by_cases h : f a = true
    · rw [List.filter_cons_of_pos h, List.map_cons, List.map_cons, ← ih, signF_one, if_pos h]
    · rw [List.filter_cons_of_neg h, ← ih, signF_one, if_neg h]
theorem signs_empty {f : Nat → Bool} {l : List Nat} : decide (((l.filter f).map fun ch => [ch]).map D.str = []) = l.all fun c => !f c := by
  induction l with
  | nil => rfl
  | cons a l ih =>
    by_cases h : f a = true
    · rw [List.filter_cons_of_pos h, List.all_cons, h]; rfl
    · rw [List.filter_cons_of_neg h, List.all_cons, ih]; simp [h]
theorem strOk_one {c : Nat} (h : c < 128) : PyData.strOk (S [c]) = true := by
  have : ∀ c : Fin 128, PyData.strOk (S [c.1]) = true := by decide +kernel
  exact this ⟨c, h⟩
theorem ok_signs {l : List Nat} (h : Asc l) : Ok 1 (toPy (.lst ((l.map fun ch => [ch]).map D.str))) := ok_strs fun x hx => by
  obtain ⟨c, hc, rfl⟩ := List.mem_map.mp hx
  exact strOk_one (h c hc)
theorem filter_asc {l : List Nat} {f : Nat → Bool} (h : Asc l) : Asc (l.filter f) := fun c hc => h c (List.mem_filter.mp hc).1
end Sw
end
section
local macro_rules | `(tactic| walk_at "go1") => `(tactic| first
  | with_reducible refine Sw.h_seqasg ?_
  | with_reducible refine Sw.h_op ?_
  | with_reducible refine Sw.h_varS rfl ?_
  | with_reducible refine Sw.h_varO rfl ?_
  | with_reducible refine Sw.h_c ?_
  | with_reducible refine Sw.h_I0 ?_
  | with_reducible refine Sw.h_cons ?_
  | with_reducible refine Sw.h_consT rfl ?_
  | with_reducible refine Sw.h_consC rfl ?_
  | with_reducible refine Sw.h_nil ?_
  | with_reducible refine Sw.h_call ?_
  | with_reducible refine Sw.h_un ?_
  | with_reducible refine Sw.h_test ?_
  | with_reducible refine Sw.h_bl ?_
  | with_reducible refine Sw.h_seqdrop ?_
  | with_reducible refine Sw.h_asS ?_
  | with_reducible refine Sw.h_asO ?_
  | with_reducible refine Sw.h_ne1 ?_
  | with_reducible refine Sw.h_ne2 ?_
  | with_reducible refine Sw.h_asg ?_
  | with_reducible refine Sw.h_drop ?_
  | with_reducible refine Sw.h_ret ?_
  | with_reducible refine Sw.h_retS rfl ?_
  | with_reducible refine Sw.h_retO rfl ?_
  | with_reducible refine Sw.h_retN ?_
  | with_reducible refine Sw.h_next ?_
  | with_reducible refine Sw.h_if ?_
  | with_reducible refine Sw.h_frzO rfl ?_
  | with_reducible refine Sw.h_frzS rfl ?_
  | with_reducible refine Sw.h_and ?_
  | with_reducible refine Sw.h_or ?_
  | with_reducible refine Sw.h_not ?_
  | with_reducible refine Sw.h_yes ?_
  | with_reducible refine Sw.h_andV ?_
  | with_reducible refine Sw.h_orV ?_
  | with_reducible refine Sw.h_notV ?_
  | with_reducible refine Sw.h_ifE ?_
  | with_reducible refine Sw.h_chain ?_
  | with_reducible refine Sw.h_lenC rfl ?_
  | with_reducible refine Sw.h_tup ?_
  | with_reducible refine Sw.h_lst ?_
  | with_reducible refine Sw.h_shs0 ?_
  | with_reducible refine Sw.h_shs1 ?_
  | with_reducible refine Sw.h_shs2 ?_
  | with_reducible refine Sw.h_shs3 ?_
  | with_reducible refine Sw.h_shs4 ?_
  | with_reducible refine Sw.h_sl ?_
  | with_reducible refine Sw.h_nopart ?_
  | with_reducible refine Sw.h_part ?_
  | with_reducible refine Sw.h_int ?_
  | with_reducible refine Sw.h_neg ?_
  | with_reducible refine Sw.h_S ?_
  | with_reducible refine Sw.h_inSign ?_
  | with_reducible refine Sw.h_notInSign ?_
  | with_reducible refine Sw.h_isN ?_
  | with_reducible refine Sw.h_notN ?_
  | with_reducible refine Sw.h_eq rfl ?_
  | with_reducible refine Sw.h_ne rfl ?_
  | with_reducible refine Sw.h_lenL ?_
  | with_reducible refine Sw.h_lenT ?_
  | with_reducible refine Sw.h_abs ?_
  | with_reducible refine Sw.h_max2 ?_
  | with_reducible refine Sw.h_min2 ?_
  | with_reducible refine Sw.h_int1b ?_
  | with_reducible refine Sw.h_sum ?_
  | with_reducible refine Sw.h_listOf ?_
  | with_reducible refine Sw.h_slL ?_
  | with_reducible refine Sw.h_slT ?_
  | with_reducible refine Sw.h_revL ?_
  | with_reducible refine Sw.h_newK ?_
  | with_reducible refine Sw.h_newT ?_
  | with_reducible refine Sw.h_seqfor ?_
  | with_reducible refine Sw.h_seqforD ?_
  | with_reducible refine Sw.h_dispT ?_
  | with_reducible refine Sw.h_LM ?_
  | with_reducible refine Sw.h_SM ?_
  | with_reducible refine Sw.h_for ?_
  | with_reducible refine Sw.h_iList ?_
  | with_reducible refine Sw.h_iTup ?_
  | with_reducible refine Sw.h_iStr ?_
  | with_reducible refine Sw.h_iR1 ?_
  | with_reducible refine Sw.h_iR2 ?_
  | with_reducible refine Sw.h_iR3 ?_
  | with_reducible refine Sw.h_iEnum ?_
  | with_reducible refine Sw.h_iZip ?_
  | with_reducible refine Sw.h_iZipS ?_
  | with_reducible refine Sw.h_iZipT ?_
  | with_reducible refine Sw.h_lcD ?_
  | with_reducible refine Sw.h_callDP ?_
  | with_reducible refine Sw.h_callD ?_
  | with_reducible refine Sw.h_consN ?_
  | with_reducible refine Sw.h_consO rfl ?_
  | with_reducible refine Sw.h_lcV ?_
  | with_reducible refine Sw.h_countS ?_
  | with_reducible refine Sw.h_retPO rfl rfl ?_
  | with_reducible refine Sw.h_retPS rfl rfl ?_
  | with_reducible refine Sw.h_asgP ?_
  | with_reducible refine Sw.h_seqasgP ?_
  | with_reducible refine Sw.h_pairO ?_
  | with_reducible refine Sw.h_pairS ?_
  | with_reducible refine Sw.h_lst1 ?_
  | with_reducible refine Sw.h_tup1 ?_
  | with_reducible refine Sw.h_str1 ?_
  | with_reducible refine Sw.h_lc ?_
  | with_reducible refine Sw.h_gN ?_
  | with_reducible refine Sw.h_gT rfl ?_
  | with_reducible refine Sw.h_gC ?_
  | with_reducible refine Sw.h_gE ?_
  | with_reducible refine Sw.h_asgG ?_
  | with_reducible refine Sw.h_forD ?_
  | with_reducible refine Sw.h_raise ?_
  | with_reducible refine Sw.h_seqasgG ?_
  | with_reducible refine Sw.h_seqfrzO rfl ?_
  | with_reducible refine Sw.h_seqfrzS rfl ?_
  | with_reducible refine Sw.h_isi rfl rfl ?_
  | with_reducible refine Sw.h_ixT rfl ?_
  | with_reducible refine Sw.h_seq1 ?_
  | with_reducible refine L2.iteT ?_ | with_reducible refine L2.iteF ?_ | with_reducible refine Sw.iteNT ?_ | with_reducible refine Sw.iteNF ?_ | refine Sw.h_np rfl ?_)
local macro_rules | `(tactic| walk_at "go") => `(tactic| repeat walk_at "go1")
local macro_rules | `(tactic| walk_at "sz") => `(tactic| first
  | omega
  | decide
  | (simp only [List.length_append, List.length_map, List.length_cons, List.length_nil, List.length_take, List.length_drop, List.length_reverse, List.length_set, List.length_replicate, List.length_range]; omega)
  | (refine Nat.le_trans (Sw.cut_len _ _ _) ?_; omega))
local macro_rules | `(tactic| walk_at "gx1") => `(tactic| first
  | walk_at "go1"
  | refine Sw.c_draw (by omega) (by omega) (fun _ _ _ => ?_)
  | refine Sw.c_letters (by omega) (by omega) (by omega) (by omega) (fun _ _ _ => ?_)
  | refine Sw.c_wheel (by omega) (by omega) (fun _ _ _ _ => ?_)
  | refine Sw.c_word (by walk_at "sz") (by walk_at "sz") (by omega) (by omega) (fun _ _ _ => ?_)
  | refine Sw.c_bent (by walk_at "sz") (by assumption) (fun _ _ _ => ?_)
  | refine Sw.c_lis_word (by walk_at "sz") (by assumption) ?_
  | refine Sw.h_sc rfl ?_
  | refine Sw.h_lenS (by walk_at "sz") ?_
  | refine Sw.h_slS (by walk_at "sz") ?_
  | refine Sw.h_addS (by walk_at "sz") ?_
  | refine Sw.h_I (by omega) ?_
  | refine Sw.h_I (Sw.cm (by omega) (by omega) (by omega) (by omega)) ?_
  | refine Sw.h_I (Sw.cd (by omega) (by omega)) ?_
  | refine Sw.h_I ⟨by decide, by decide, by decide⟩ ?_
  | refine Sw.h_gT rfl ?_
  | refine Sw.h_ixT rfl ?_
  | refine Sw.h_ixL rfl ?_
  | refine Sw.h_appE rfl ?_
  | refine Sw.h_appK rfl (by decide) (by walk_at "sz") ?_
  | refine Sw.h_setLE rfl ?_
  | refine Sw.h_putTE rfl ?_
  | refine Sw.h_putKE rfl ?_
  | refine Sw.h_tupOf ?_
  | refine Sw.h_listOfT ?_
  | refine Sw.h_orS ?_
  | refine And.intro (by omega) (And.intro (by omega) ?_))
local macro_rules | `(tactic| walk_at "gx") => `(tactic| repeat walk_at "gx1")
local macro_rules | `(tactic| walk_at "gp1") => `(tactic| first
  | walk_at "go1"
  | with_reducible refine Sw.h_ixP0 ?_
  | with_reducible refine Sw.h_ixP1 ?_
  | with_reducible refine Sw.h_gP ?_)
local macro_rules | `(tactic| walk_at "gp") => `(tactic| repeat walk_at "gp1")
namespace Sw
open PySem PySem.Spec PyProof.Rows L2 SX
/-! ### plain data compared: no truths in it, of little depth -/
def Nc : Nat → D → Prop
  | _, .non => True
  | _, .int _ => True
  | _, .str l => ∀ c ∈ l, c < 1114112
  | n + 1, .lst ds => ∀ d ∈ ds, Nc n d
  | n + 1, .tup ds => ∀ d ∈ ds, Nc n d
  | _, _ => False
theorem flatDL_all : ∀ {ds : List D}, (∀ d ∈ ds, flatD d = true) → flatDL ds = true
  | [], _ => rfl
  | d :: ds, h => by
    show (flatD d && flatDL ds) = true
    rw [h d List.mem_cons_self, flatDL_all fun x hx => h x (List.mem_cons_of_mem _ hx)]
    rfl
theorem Nc.flat : ∀ {n : Nat} {d : D}, Nc n d → flatD d = true
  | _, .non, _ => by rfl
  | _, .int _, _ => by rfl
  | _, .str _, _ => by rfl
  | n + 1, .lst ds, h => flatDL_all fun d hd => Nc.flat (h d hd)
  | n + 1, .tup ds, h => flatDL_all fun d hd => Nc.flat (h d hd)
  | 0, .lst _, h => False.elim h
  | 0, .tup _, h => False.elim h
  | _, .bl _, h => by cases ‹Nat› <;> exact False.elim h
  | _, .dK _, h => by cases ‹Nat› <;> exact False.elim h
  | _, .dT _, h => by cases ‹Nat› <;> exact False.elim h
  | _, .tape, h => by cases ‹Nat› <;> exact False.elim h
theorem strOk_S {l : List Nat} (h : ∀ c ∈ l, c < 1114112) : PyData.strOk (S l) = true := by
  unfold PyData.strOk S
  rw [List.all_toArray, List.all_eq_true]
  intro c hc
  exact decide_eq_true (h c hc)
theorem toPyL_mem : ∀ {ds : List D} {x : PyData}, x ∈ toPyL ds → ∃ d ∈ ds, x = toPy d
  | d :: ds, x, h => by
    rcases List.mem_cons.mp (show x ∈ toPy d :: toPyL ds from h) with e | e
    · exact ⟨d, List.mem_cons_self, e⟩
    · obtain ⟨d', hd', e'⟩ := toPyL_mem e
      exact ⟨d', List.mem_cons_of_mem _ hd', e'⟩
theorem Nc.ok : ∀ {n : Nat} {d : D}, Nc n d → Ok n (toPy d)
  | _, .non, _ => ok_non
  | _, .int _, _ => ok_int _
  | _, .str _, h => ok_str (strOk_S (by cases ‹Nat› <;> exact h))
  | n + 1, .lst ds, h => ok_lst fun x hx => by obtain ⟨d, hd, rfl⟩ := toPyL_mem hx; exact Nc.ok (h d hd)
  | n + 1, .tup ds, h => ok_tup fun x hx => by obtain ⟨d, hd, rfl⟩ := toPyL_mem hx; exact Nc.ok (h d hd)
  | 0, .lst _, h => False.elim h
  | 0, .tup _, h => False.elim h
  | _, .bl _, h => by cases ‹Nat› <;> exact False.elim h
  | _, .dK _, h => by cases ‹Nat› <;> exact False.elim h
  | _, .dT _, h => by cases ‹Nat› <;> exact False.elim h
  | _, .tape, h => by cases ‹Nat› <;> exact False.elim h
theorem eqvAll_iff {n m : Nat} (ih : ∀ d e, Nc n d → Nc m e → (PyData.eqv (toPy d) (toPy e) = true ↔ d = e)) : ∀ {ds es : List D}, (∀ d ∈ ds, Nc n d) → (∀ e ∈ es, Nc m e) → (PyData.eqvAll (toPyL ds) (toPyL es) = true ↔ ds = es)
  | [], [], _, _ => ⟨fun _ => rfl, fun _ => rfl⟩
  | [], _ :: _, _, _ => ⟨fun h => (by cases h), fun h => (by cases h)⟩
  | _ :: _, [], _, _ => ⟨fun h => (by cases h), fun h => (by cases h)⟩
  | d :: ds, e :: es, h, h' => by
    show (PyData.eqv (toPy d) (toPy e) && PyData.eqvAll (toPyL ds) (toPyL es)) = true ↔ _
    rw [Bool.and_eq_true, ih d e (h d List.mem_cons_self) (h' e List.mem_cons_self), eqvAll_iff ih (fun x hx => h x (List.mem_cons_of_mem _ hx)) (fun x hx => h' x (List.mem_cons_of_mem _ hx)), List.cons.injEq]
theorem nc_lst0 {ds : List D} (h : Nc 0 (.lst ds)) : False := h
theorem Nc.eqv : ∀ (n m : Nat) (d e : D), Nc n d → Nc m e → (PyData.eqv (toPy d) (toPy e) = true ↔ d = e) := by
  intro n
  induction n with
  | zero =>
    intro m d e hd he
    cases d <;> cases e <;> first
      | exact False.elim hd
      | (cases m <;> exact False.elim he)
      | exact ⟨fun _ => rfl, fun _ => rfl⟩
      | exact ⟨fun h => (by cases h), fun h => (by cases h)⟩
      | (rename_i a b; exact ⟨fun h => congrArg D.int (eq_of_beq h), fun h => by cases h; exact beq_self_eq_true _⟩)
      | (rename_i a b; exact ⟨fun h => congrArg D.str (S_inj (eq_of_beq h)), fun h => by cases h; exact beq_self_eq_true _⟩)
  | succ n ih =>
    intro m d e hd he
    cases m with
    | zero =>
      cases d <;> cases e <;> first
        | exact False.elim hd
        | exact False.elim he
        | exact ⟨fun _ => rfl, fun _ => rfl⟩
        | exact ⟨fun h => (by cases h), fun h => (by cases h)⟩
        | (rename_i a b; exact ⟨fun h => congrArg D.int (eq_of_beq h), fun h => by cases h; exact beq_self_eq_true _⟩)
        | (rename_i a b; exact ⟨fun h => congrArg D.str (S_inj (eq_of_beq h)), fun h => by cases h; exact beq_self_eq_true _⟩)
    | succ m =>
      cases d <;> cases e <;> first
        | exact False.elim hd
        | exact False.elim he
        | exact ⟨fun _ => rfl, fun _ => rfl⟩
        | exact ⟨fun h => (by cases h), fun h => (by cases h)⟩
        | (rename_i a b; exact ⟨fun h => congrArg D.int (eq_of_beq h), fun h => by cases h; exact beq_self_eq_true _⟩)
        | (rename_i a b; exact ⟨fun h => congrArg D.str (S_inj (eq_of_beq h)), fun h => by cases h; exact beq_self_eq_true _⟩)
        | (rename_i a b; exact (eqvAll_iff (ih m) hd he).trans ⟨fun h => congrArg D.lst h, fun h => D.lst.inj h⟩)
        | (rename_i a b; exact (eqvAll_iff (ih m) hd he).trans ⟨fun h => congrArg D.tup h, fun h => D.tup.inj h⟩)
section
variable {n m : Nat} {d e : D} {Q : Md → D → Prop}
theorem h_neN (hd : Nc n d) (he : Nc m e) (hn : n ≤ 64) (hm : m ≤ 64) (h1 : d = e → Q .sh (.bl false)) (h2 : d ≠ e → Q .sh (.bl true)) : pNeD d e Q := by
  refine ⟨hd.flat, he.flat, hd.ok.shaped hn, he.ok.shaped hm, ?_⟩
  cases hv : PyData.eqv (toPy d) (toPy e) with
  | true => exact h1 ((Nc.eqv _ _ _ _ hd he).mp hv)
  | false => exact h2 fun z => by rw [(Nc.eqv _ _ _ _ hd he).mpr z] at hv; cases hv
theorem h_eqN (hd : Nc n d) (he : Nc m e) (hn : n ≤ 64) (hm : m ≤ 64) (h1 : d = e → Q .sh (.bl true)) (h2 : d ≠ e → Q .sh (.bl false)) : pEqD d e Q := by
  refine ⟨hd.flat, he.flat, hd.ok.shaped hn, he.ok.shaped hm, ?_⟩
  cases hv : PyData.eqv (toPy d) (toPy e) with
  | true => exact h1 ((Nc.eqv _ _ _ _ hd he).mp hv)
  | false => exact h2 fun z => by rw [(Nc.eqv _ _ _ _ hd he).mpr z] at hv; cases hv
/-- the same -/
theorem h_neR (hd : Nc n d) (hn : n ≤ 64) (q : Q .sh (.bl false)) : pNeD d d Q := h_neN hd hd hn hn (fun _ => q) (fun z => absurd rfl z)
theorem h_eqR (hd : Nc n d) (hn : n ≤ 64) (q : Q .sh (.bl true)) : pEqD d d Q := h_eqN hd hd hn hn (fun _ => q) (fun z => absurd rfl z)
end
theorem nc_ints (n : Nat) (ns : List Int) : Nc (n + 1) (.lst (ns.map .int)) := fun d hd => by obtain ⟨i, _, rfl⟩ := List.mem_map.mp hd; cases n <;> exact True.intro
theorem nc_intsT (n : Nat) (ns : List Int) : Nc (n + 1) (.tup (ns.map .int)) := fun d hd => by obtain ⟨i, _, rfl⟩ := List.mem_map.mp hd; cases n <;> exact True.intro
theorem nc_int (n : Nat) (i : Int) : Nc n (.int i) := by cases n <;> exact True.intro
theorem nc_non (n : Nat) : Nc n .non := by cases n <;> exact True.intro
theorem nc_str (n : Nat) {l : List Nat} (h : Asc l) : Nc n (.str l) := by cases n <;> exact fun c hc => Nat.lt_trans (h c hc) (by decide)
theorem nc_nil (n : Nat) : Nc (n + 1) (.lst []) := fun _ h => nomatch h
theorem nc_strs (n : Nat) {ls : List (List Nat)} (h : ∀ l ∈ ls, Asc l) : Nc (n + 1) (.lst (ls.map .str)) := fun d hd => by obtain ⟨l, hl, rfl⟩ := List.mem_map.mp hd; exact nc_str n (h l hl)
theorem nc_lst {n : Nat} {α : Type} {f : α → D} {l : List α} (h : ∀ a ∈ l, Nc n (f a)) : Nc (n + 1) (.lst (l.map f)) := fun d hd => by obtain ⟨a, ha, rfl⟩ := List.mem_map.mp hd; exact h a ha
theorem nc_tup0 {n : Nat} : Nc (n + 1) (.tup []) := fun _ h => nomatch h
theorem nc_tupC {n : Nat} {d : D} {ds : List D} (h : Nc n d) (hs : Nc (n + 1) (.tup ds)) : Nc (n + 1) (.tup (d :: ds)) := fun x hx => by
  rcases List.mem_cons.mp hx with e | e
  · rw [e]; exact h
  · exact hs x e
theorem nc_lstC {n : Nat} {d : D} {ds : List D} (h : Nc n d) (hs : Nc (n + 1) (.lst ds)) : Nc (n + 1) (.lst (d :: ds)) := fun x hx => by
  rcases List.mem_cons.mp hx with e | e
  · rw [e]; exact h
  · exact hs x e
theorem nc_encP (n : Nat) (p : Int × Int) : Nc (n + 1) (encP p) := nc_tupC (nc_int _ _) (nc_tupC (nc_int _ _) nc_tup0)
theorem nc_pairs (n : Nat) (ps : List (Int × Int)) : Nc (n + 2) (.lst (ps.map encP)) := nc_lst fun p _ => nc_encP n p
theorem map_int_inj {a b : List Int} (h : a.map D.int = b.map D.int) : a = b := (List.map_inj_right (fun x y z => by cases z; rfl)).mp h
theorem map_str_inj {a b : List (List Nat)} (h : a.map D.str = b.map D.str) : a = b := (List.map_inj_right (fun x y z => by cases z; rfl)).mp h
theorem encP_inj {p q : Int × Int} (h : encP p = encP q) : p = q := by
  unfold encP at h
  simp only [D.tup.injEq, List.cons.injEq, D.int.injEq, and_true] at h
  exact Prod.ext h.1 h.2
theorem map_encP_inj {a b : List (Int × Int)} (h : a.map encP = b.map encP) : a = b := (List.map_inj_right (fun x y z => encP_inj z)).mp h
theorem atI_map {α β : Type} (f : α → β) (xs : List α) (i : Int) : atI (xs.map f) i = (atI xs i).map f := by
  unfold atI
  rw [List.length_map]
  cases ixN xs.length i with
  | none => rfl
  | some j => exact List.getElem?_map
theorem low_one {c : Nat} (h : 97 ≤ c ∧ c ≤ 122) : Low [c] := fun d hd => by rw [List.mem_singleton.mp hd]; exact h
theorem asc_nil : Asc [] := fun _ h => nomatch h
end Sw
end
section
local macro_rules | `(tactic| walk_at "go1") => `(tactic| first
  | with_reducible refine Sw.h_seqasg ?_
  | with_reducible refine Sw.h_op ?_
  | with_reducible refine Sw.h_varS rfl ?_
  | with_reducible refine Sw.h_varO rfl ?_
  | with_reducible refine Sw.h_c ?_
  | with_reducible refine Sw.h_I0 ?_
  | with_reducible refine Sw.h_cons ?_
  | with_reducible refine Sw.h_consT rfl ?_
  | with_reducible refine Sw.h_consC rfl ?_
  | with_reducible refine Sw.h_nil ?_
  | with_reducible refine Sw.h_call ?_
  | with_reducible refine Sw.h_un ?_
  | with_reducible refine Sw.h_test ?_
  | with_reducible refine Sw.h_bl ?_
  | with_reducible refine Sw.h_seqdrop ?_
  | with_reducible refine Sw.h_asS ?_
  | with_reducible refine Sw.h_asO ?_
  | with_reducible refine Sw.h_ne1 ?_
  | with_reducible refine Sw.h_ne2 ?_
  | with_reducible refine Sw.h_asg ?_
  | with_reducible refine Sw.h_drop ?_
  | with_reducible refine Sw.h_ret ?_
  | with_reducible refine Sw.h_retS rfl ?_
  | with_reducible refine Sw.h_retO rfl ?_
  | with_reducible refine Sw.h_retN ?_
  | with_reducible refine Sw.h_next ?_
  | with_reducible refine Sw.h_if ?_
  | with_reducible refine Sw.h_frzO rfl ?_
  | with_reducible refine Sw.h_frzS rfl ?_
  | with_reducible refine Sw.h_and ?_
  | with_reducible refine Sw.h_or ?_
  | with_reducible refine Sw.h_not ?_
  | with_reducible refine Sw.h_yes ?_
  | with_reducible refine Sw.h_andV ?_
  | with_reducible refine Sw.h_orV ?_
  | with_reducible refine Sw.h_notV ?_
  | with_reducible refine Sw.h_ifE ?_
  | with_reducible refine Sw.h_chain ?_
  | with_reducible refine Sw.h_lenC rfl ?_
  | with_reducible refine Sw.h_tup ?_
  | with_reducible refine Sw.h_lst ?_
  | with_reducible refine Sw.h_shs0 ?_
  | with_reducible refine Sw.h_shs1 ?_
  | with_reducible refine Sw.h_shs2 ?_
  | with_reducible refine Sw.h_shs3 ?_
  | with_reducible refine Sw.h_shs4 ?_
  | with_reducible refine Sw.h_sl ?_
  | with_reducible refine Sw.h_nopart ?_
  | with_reducible refine Sw.h_part ?_
  | with_reducible refine Sw.h_int ?_
  | with_reducible refine Sw.h_neg ?_
  | with_reducible refine Sw.h_S ?_
  | with_reducible refine Sw.h_inSign ?_
  | with_reducible refine Sw.h_notInSign ?_
  | with_reducible refine Sw.h_isN ?_
  | with_reducible refine Sw.h_notN ?_
  | with_reducible refine Sw.h_eq rfl ?_
  | with_reducible refine Sw.h_ne rfl ?_
  | with_reducible refine Sw.h_lenL ?_
  | with_reducible refine Sw.h_lenT ?_
  | with_reducible refine Sw.h_abs ?_
  | with_reducible refine Sw.h_max2 ?_
  | with_reducible refine Sw.h_min2 ?_
  | with_reducible refine Sw.h_int1b ?_
  | with_reducible refine Sw.h_sum ?_
  | with_reducible refine Sw.h_listOf ?_
  | with_reducible refine Sw.h_slL ?_
  | with_reducible refine Sw.h_slT ?_
  | with_reducible refine Sw.h_revL ?_
  | with_reducible refine Sw.h_newK ?_
  | with_reducible refine Sw.h_newT ?_
  | with_reducible refine Sw.h_seqfor ?_
  | with_reducible refine Sw.h_seqforD ?_
  | with_reducible refine Sw.h_dispT ?_
  | with_reducible refine Sw.h_LM ?_
  | with_reducible refine Sw.h_SM ?_
  | with_reducible refine Sw.h_for ?_
  | with_reducible refine Sw.h_iList ?_
  | with_reducible refine Sw.h_iTup ?_
  | with_reducible refine Sw.h_iStr ?_
  | with_reducible refine Sw.h_iR1 ?_
  | with_reducible refine Sw.h_iR2 ?_
  | with_reducible refine Sw.h_iR3 ?_
  | with_reducible refine Sw.h_iEnum ?_
  | with_reducible refine Sw.h_iZip ?_
  | with_reducible refine Sw.h_iZipS ?_
  | with_reducible refine Sw.h_iZipT ?_
  | with_reducible refine Sw.h_lcD ?_
  | with_reducible refine Sw.h_callDP ?_
  | with_reducible refine Sw.h_callD ?_
  | with_reducible refine Sw.h_consN ?_
  | with_reducible refine Sw.h_consO rfl ?_
  | with_reducible refine Sw.h_lcV ?_
  | with_reducible refine Sw.h_countS ?_
  | with_reducible refine Sw.h_retPO rfl rfl ?_
  | with_reducible refine Sw.h_retPS rfl rfl ?_
  | with_reducible refine Sw.h_asgP ?_
  | with_reducible refine Sw.h_seqasgP ?_
  | with_reducible refine Sw.h_pairO ?_
  | with_reducible refine Sw.h_pairS ?_
  | with_reducible refine Sw.h_lst1 ?_
  | with_reducible refine Sw.h_tup1 ?_
  | with_reducible refine Sw.h_str1 ?_
  | with_reducible refine Sw.h_lc ?_
  | with_reducible refine Sw.h_gN ?_
  | with_reducible refine Sw.h_gT rfl ?_
  | with_reducible refine Sw.h_gC ?_
  | with_reducible refine Sw.h_gE ?_
  | with_reducible refine Sw.h_asgG ?_
  | with_reducible refine Sw.h_forD ?_
  | with_reducible refine Sw.h_raise ?_
  | with_reducible refine Sw.h_seqasgG ?_
  | with_reducible refine Sw.h_seqfrzO rfl ?_
  | with_reducible refine Sw.h_seqfrzS rfl ?_
  | with_reducible refine Sw.h_isi rfl rfl ?_
  | with_reducible refine Sw.h_ixT rfl ?_
  | with_reducible refine Sw.h_seq1 ?_
  | with_reducible refine L2.iteT ?_ | with_reducible refine L2.iteF ?_ | with_reducible refine Sw.iteNT ?_ | with_reducible refine Sw.iteNF ?_ | refine Sw.h_np rfl ?_)
local macro_rules | `(tactic| walk_at "go") => `(tactic| repeat walk_at "go1")
local macro_rules | `(tactic| walk_at "sz") => `(tactic| first
  | omega
  | decide
  | (simp only [List.length_append, List.length_map, List.length_cons, List.length_nil, List.length_take, List.length_drop, List.length_reverse, List.length_set, List.length_replicate, List.length_range]; omega)
  | (refine Nat.le_trans (Sw.cut_len _ _ _) ?_; omega))
local macro_rules | `(tactic| walk_at "gx1") => `(tactic| first
  | walk_at "go1"
  | refine Sw.c_draw (by omega) (by omega) (fun _ _ _ => ?_)
  | refine Sw.c_letters (by omega) (by omega) (by omega) (by omega) (fun _ _ _ => ?_)
  | refine Sw.c_wheel (by omega) (by omega) (fun _ _ _ _ => ?_)
  | refine Sw.c_word (by walk_at "sz") (by walk_at "sz") (by omega) (by omega) (fun _ _ _ => ?_)
  | refine Sw.c_bent (by walk_at "sz") (by assumption) (fun _ _ _ => ?_)
  | refine Sw.c_lis_word (by walk_at "sz") (by assumption) ?_
  | refine Sw.h_sc rfl ?_
  | refine Sw.h_lenS (by walk_at "sz") ?_
  | refine Sw.h_slS (by walk_at "sz") ?_
  | refine Sw.h_addS (by walk_at "sz") ?_
  | refine Sw.h_I (by omega) ?_
  | refine Sw.h_I (Sw.cm (by omega) (by omega) (by omega) (by omega)) ?_
  | refine Sw.h_I (Sw.cd (by omega) (by omega)) ?_
  | refine Sw.h_I ⟨by decide, by decide, by decide⟩ ?_
  | refine Sw.h_gT rfl ?_
  | refine Sw.h_ixT rfl ?_
  | refine Sw.h_ixL rfl ?_
  | refine Sw.h_appE rfl ?_
  | refine Sw.h_appK rfl (by decide) (by walk_at "sz") ?_
  | refine Sw.h_setLE rfl ?_
  | refine Sw.h_putTE rfl ?_
  | refine Sw.h_putKE rfl ?_
  | refine Sw.h_tupOf ?_
  | refine Sw.h_listOfT ?_
  | refine Sw.h_orS ?_
  | refine And.intro (by omega) (And.intro (by omega) ?_))
local macro_rules | `(tactic| walk_at "gx") => `(tactic| repeat walk_at "gx1")
local macro_rules | `(tactic| walk_at "gp1") => `(tactic| first
  | walk_at "go1"
  | with_reducible refine Sw.h_ixP0 ?_
  | with_reducible refine Sw.h_ixP1 ?_
  | with_reducible refine Sw.h_gP ?_)
local macro_rules | `(tactic| walk_at "gp") => `(tactic| repeat walk_at "gp1")
namespace Sw
open PySem PySem.Spec PyProof.Rows L2 SX
/-! ### cuts; wheels turned -/
theorem cut_from {α : Type} (l : List α) {i : Int} (h : 0 ≤ i) : cut l (some i) none = l.drop i.toNat := by
  have e : (some i : Option Int) = some ((i.toNat : Nat) : Int) := by rw [Int.toNat_of_nonneg h]
  unfold cut
  rw [e, HT.sIx_nat, HT.sIx_none]
  by_cases hl : i.toNat ≤ l.length
  · rw [Nat.min_eq_left hl, List.take_of_length_le (by rw [List.length_drop]; exact Nat.le_refl _)]
  · rw [Nat.min_eq_right (by omega), List.drop_length, List.take_nil, List.drop_eq_nil_of_le (by omega)]
theorem cut_to {α : Type} (l : List α) {i : Int} (h : 0 ≤ i) : cut l none (some i) = l.take i.toNat := by
  have e : (some i : Option Int) = some ((i.toNat : Nat) : Int) := by rw [Int.toNat_of_nonneg h]
  unfold cut
  rw [e, HT.sIx_nat, HT.sIx_none, List.drop_zero, Nat.sub_zero]
  by_cases hl : i.toNat ≤ l.length
  · rw [Nat.min_eq_left hl]
  · rw [Nat.min_eq_right (by omega), List.take_length, List.take_of_length_le (by omega)]
def rotN (w : List Nat) (j : Nat) : List Nat := w.drop j ++ w.take j
def rotW (w : List Nat) (k : Int) : List Nat := rotN w (k % (w.length : Int)).toNat
theorem rotN_len (w : List Nat) (j : Nat) : (rotN w j).length = w.length := by unfold rotN; rw [List.length_append, List.length_drop, List.length_take]; omega
theorem rotN_mem {w : List Nat} {j c : Nat} : c ∈ rotN w j ↔ c ∈ w := by
  unfold rotN
  rw [List.mem_append, Or.comm, ← List.mem_append, List.take_append_drop]
theorem rotW_len (w : List Nat) (k : Int) : (rotW w k).length = w.length := rotN_len ..
theorem rotW_mem {w : List Nat} {k : Int} {c : Nat} : c ∈ rotW w k ↔ c ∈ w := rotN_mem
theorem rotW_low {w : List Nat} {k : Int} (h : Low w) : Low (rotW w k) := fun c hc => h c (rotW_mem.mp hc)
theorem rotW_wheel {w : List Nat} {k : Int} (h : isWheel w = true) : isWheel (rotW w k) = true := by
  obtain ⟨h1, h2, h3⟩ := isWheel_iff.mp h
  exact isWheel_iff.mpr ⟨by rw [rotW_len]; exact h1, by rw [rotW_len]; exact h2, rotW_low h3⟩
/-- what stands at a place of a wheel turned -/
theorem rotN_get {w : List Nat} {j i : Nat} (hj : j ≤ w.length) (hi : i < w.length) : (rotN w j)[i]? = w[(i + j) % w.length]? := by
  unfold rotN
  by_cases h : i < w.length - j
  · rw [List.getElem?_append_left (by rw [List.length_drop]; exact h), List.getElem?_drop, Nat.mod_eq_of_lt (by omega), Nat.add_comm]
  · rw [List.getElem?_append_right (by rw [List.length_drop]; omega), List.length_drop, List.getElem?_take_of_lt (by omega), Nat.mod_eq_sub_mod (by omega), Nat.mod_eq_of_lt (by omega)]
    congr 1
    omega
end Sw
end
section
local macro_rules | `(tactic| walk_at "go1") => `(tactic| first
  | with_reducible refine Sw.h_seqasg ?_
  | with_reducible refine Sw.h_op ?_
  | with_reducible refine Sw.h_varS rfl ?_
  | with_reducible refine Sw.h_varO rfl ?_
  | with_reducible refine Sw.h_c ?_
  | with_reducible refine Sw.h_I0 ?_
  | with_reducible refine Sw.h_cons ?_
  | with_reducible refine Sw.h_consT rfl ?_
  | with_reducible refine Sw.h_consC rfl ?_
  | with_reducible refine Sw.h_nil ?_
  | with_reducible refine Sw.h_call ?_
  | with_reducible refine Sw.h_un ?_
  | with_reducible refine Sw.h_test ?_
  | with_reducible refine Sw.h_bl ?_
  | with_reducible refine Sw.h_seqdrop ?_
  | with_reducible refine Sw.h_asS ?_
  | with_reducible refine Sw.h_asO ?_
  | with_reducible refine Sw.h_ne1 ?_
  | with_reducible refine Sw.h_ne2 ?_
  | with_reducible refine Sw.h_asg ?_
  | with_reducible refine Sw.h_drop ?_
  | with_reducible refine Sw.h_ret ?_
  | with_reducible refine Sw.h_retS rfl ?_
  | with_reducible refine Sw.h_retO rfl ?_
  | with_reducible refine Sw.h_retN ?_
  | with_reducible refine Sw.h_next ?_
  | with_reducible refine Sw.h_if ?_
  | with_reducible refine Sw.h_frzO rfl ?_
  | with_reducible refine Sw.h_frzS rfl ?_
  | with_reducible refine Sw.h_and ?_
  | with_reducible refine Sw.h_or ?_
  | with_reducible refine Sw.h_not ?_
  | with_reducible refine Sw.h_yes ?_
  | with_reducible refine Sw.h_andV ?_
  | with_reducible refine Sw.h_orV ?_
  | with_reducible refine Sw.h_notV ?_
  | with_reducible refine Sw.h_ifE ?_
  | with_reducible refine Sw.h_chain ?_
  | with_reducible refine Sw.h_lenC rfl ?_
  | with_reducible refine Sw.h_tup ?_
  | with_reducible refine Sw.h_lst ?_
  | with_reducible refine Sw.h_shs0 ?_
  | with_reducible refine Sw.h_shs1 ?_
  | with_reducible refine Sw.h_shs2 ?_
  | with_reducible refine Sw.h_shs3 ?_
  | with_reducible refine Sw.h_shs4 ?_
  | with_reducible refine Sw.h_sl ?_
  | with_reducible refine Sw.h_nopart ?_
  | with_reducible refine Sw.h_part ?_
  | with_reducible refine Sw.h_int ?_
  | with_reducible refine Sw.h_neg ?_
  | with_reducible refine Sw.h_S ?_
  | with_reducible refine Sw.h_inSign ?_
  | with_reducible refine Sw.h_notInSign ?_
  | with_reducible refine Sw.h_isN ?_
  | with_reducible refine Sw.h_notN ?_
  | with_reducible refine Sw.h_eq rfl ?_
  | with_reducible refine Sw.h_ne rfl ?_
  | with_reducible refine Sw.h_lenL ?_
  | with_reducible refine Sw.h_lenT ?_
  | with_reducible refine Sw.h_abs ?_
  | with_reducible refine Sw.h_max2 ?_
  | with_reducible refine Sw.h_min2 ?_
  | with_reducible refine Sw.h_int1b ?_
  | with_reducible refine Sw.h_sum ?_
  | with_reducible refine Sw.h_listOf ?_
  | with_reducible refine Sw.h_slL ?_
  | with_reducible refine Sw.h_slT ?_
  | with_reducible refine Sw.h_revL ?_
  | with_reducible refine Sw.h_newK ?_
  | with_reducible refine Sw.h_newT ?_
  | with_reducible refine Sw.h_seqfor ?_
  | with_reducible refine Sw.h_seqforD ?_
  | with_reducible refine Sw.h_dispT ?_
  | with_reducible refine Sw.h_LM ?_
  | with_reducible refine Sw.h_SM ?_
  | with_reducible refine Sw.h_for ?_
  | with_reducible refine Sw.h_iList ?_
  | with_reducible refine Sw.h_iTup ?_
  | with_reducible refine Sw.h_iStr ?_
  | with_reducible refine Sw.h_iR1 ?_
  | with_reducible refine Sw.h_iR2 ?_
  | with_reducible refine Sw.h_iR3 ?_
  | with_reducible refine Sw.h_iEnum ?_
  | with_reducible refine Sw.h_iZip ?_
  | with_reducible refine Sw.h_iZipS ?_
  | with_reducible refine Sw.h_iZipT ?_
  | with_reducible refine Sw.h_lcD ?_
  | with_reducible refine Sw.h_callDP ?_
  | with_reducible refine Sw.h_callD ?_
  | with_reducible refine Sw.h_consN ?_
  | with_reducible refine Sw.h_consO rfl ?_
  | with_reducible refine Sw.h_lcV ?_
  | with_reducible refine Sw.h_countS ?_
  | with_reducible refine Sw.h_retPO rfl rfl ?_
  | with_reducible refine Sw.h_retPS rfl rfl ?_
  | with_reducible refine Sw.h_asgP ?_
  | with_reducible refine Sw.h_seqasgP ?_
  | with_reducible refine Sw.h_pairO ?_
  | with_reducible refine Sw.h_pairS ?_
  | with_reducible refine Sw.h_lst1 ?_
  | with_reducible refine Sw.h_tup1 ?_
  | with_reducible refine Sw.h_str1 ?_
  | with_reducible refine Sw.h_lc ?_
  | with_reducible refine Sw.h_gN ?_
  | with_reducible refine Sw.h_gT rfl ?_
  | with_reducible refine Sw.h_gC ?_
  | with_reducible refine Sw.h_gE ?_
  | with_reducible refine Sw.h_asgG ?_
  | with_reducible refine Sw.h_forD ?_
  | with_reducible refine Sw.h_raise ?_
  | with_reducible refine Sw.h_seqasgG ?_
  | with_reducible refine Sw.h_seqfrzO rfl ?_
  | with_reducible refine Sw.h_seqfrzS rfl ?_
  | with_reducible refine Sw.h_isi rfl rfl ?_
  | with_reducible refine Sw.h_ixT rfl ?_
  | with_reducible refine Sw.h_seq1 ?_
  | with_reducible refine L2.iteT ?_ | with_reducible refine L2.iteF ?_ | with_reducible refine Sw.iteNT ?_ | with_reducible refine Sw.iteNF ?_ | refine Sw.h_np rfl ?_)
local macro_rules | `(tactic| walk_at "go") => `(tactic| repeat walk_at "go1")
local macro_rules | `(tactic| walk_at "sz") => `(tactic| first
  | omega
  | decide
  | (simp only [List.length_append, List.length_map, List.length_cons, List.length_nil, List.length_take, List.length_drop, List.length_reverse, List.length_set, List.length_replicate, List.length_range]; omega)
  | (refine Nat.le_trans (Sw.cut_len _ _ _) ?_; omega))
local macro_rules | `(tactic| walk_at "gx1") => `(tactic| first
  | walk_at "go1"
  | refine Sw.c_draw (by omega) (by omega) (fun _ _ _ => ?_)
  | refine Sw.c_letters (by omega) (by omega) (by omega) (by omega) (fun _ _ _ => ?_)
  | refine Sw.c_wheel (by omega) (by omega) (fun _ _ _ _ => ?_)
  | refine Sw.c_word (by walk_at "sz") (by walk_at "sz") (by omega) (by omega) (fun _ _ _ => ?_)
  | refine Sw.c_bent (by walk_at "sz") (by assumption) (fun _ _ _ => ?_)
  | refine Sw.c_lis_word (by walk_at "sz") (by assumption) ?_
  | refine Sw.h_sc rfl ?_
  | refine Sw.h_lenS (by walk_at "sz") ?_
  | refine Sw.h_slS (by walk_at "sz") ?_
  | refine Sw.h_addS (by walk_at "sz") ?_
  | refine Sw.h_I (by omega) ?_
  | refine Sw.h_I (Sw.cm (by omega) (by omega) (by omega) (by omega)) ?_
  | refine Sw.h_I (Sw.cd (by omega) (by omega)) ?_
  | refine Sw.h_I ⟨by decide, by decide, by decide⟩ ?_
  | refine Sw.h_gT rfl ?_
  | refine Sw.h_ixT rfl ?_
  | refine Sw.h_ixL rfl ?_
  | refine Sw.h_appE rfl ?_
  | refine Sw.h_appK rfl (by decide) (by walk_at "sz") ?_
  | refine Sw.h_setLE rfl ?_
  | refine Sw.h_putTE rfl ?_
  | refine Sw.h_putKE rfl ?_
  | refine Sw.h_tupOf ?_
  | refine Sw.h_listOfT ?_
  | refine Sw.h_orS ?_
  | refine And.intro (by omega) (And.intro (by omega) ?_))
local macro_rules | `(tactic| walk_at "gx") => `(tactic| repeat walk_at "gx1")
local macro_rules | `(tactic| walk_at "gp1") => `(tactic| first
  | walk_at "go1"
  | with_reducible refine Sw.h_ixP0 ?_
  | with_reducible refine Sw.h_ixP1 ?_
  | with_reducible refine Sw.h_gP ?_)
local macro_rules | `(tactic| walk_at "gp") => `(tactic| repeat walk_at "gp1")
namespace Sw
open PySem PySem.Spec PyProof.Rows L2 SX
def psp_law_whole : PSp := fun as Q _ => ∃ i : Int, as = [.sh (.int i)] ∧ Q .sh (.bl true)
theorem ln_law_whole {as : List Ar} {Q : Md → D → Prop} {E : Nat → Prop} (h : psp_law_whole as Q E) : as.length = 1 := by obtain ⟨_, rfl, _⟩ := h; rfl
def t_law_whole (K : PySem.W.Frag) (c : Cl) : TS :=
  (tRet (tAndV (tCB (rIsi K) (tCons (tVar 0) (tCons (tC (.ty "int")) tNil))) (tNotV (tCB (rIsi K) (tCons (tVar 0) (tCons (tC (.ty "bool")) tNil))))))
def q_law_whole : QS :=
  (qRet (qAndV (qUn (pIsi "int") (qVar 0)) (qNotV (qUn (pIsi "bool") (qVar 0)))))
theorem sim_law_whole {K : PySem.W.Frag} {c : Cl} (t : Option Addr) (E : XK) (Ep : XP) : SimS K c t (fun _ => E) Ep (t_law_whole K c) q_law_whole :=
  (s_ret (s_andV (s_isi (s_var 0)) (s_notV (s_isi (s_var 0)))))

theorem pr_law_whole {as : List Ar} {Q : Md → D → Prop} {E : Nat → Prop} (h : psp_law_whole as Q E) : q_law_whole { nx := fun _ => Q .sh .non, rt := Q } (dstart 1 as) := by
  obtain ⟨i, rfl, q⟩ := h
  show q_law_whole _ [some (.sh (.int i))]
  unfold q_law_whole
  walk_at "go"
  exact q
theorem rd_law_whole {K : PySem.W.Frag} {c : Cl} {vs : List V} {H : Hp} {Q : VK} {E : XK} (h : lift K c psp_law_whole vs H Q E) : t_law_whole K c { nx := fun _ H' => Q .non H', rt := Q } (start ["found"] vs) H :=
  rd_of (ts := fun _ => t_law_whole K c) (qs := fun _ => q_law_whole) (fun t e ep => sim_law_whole t e ep) (fun as Qp Ep h => Nat.le_trans (Nat.le_of_eq (ln_law_whole h)) (by decide)) (fun as Qp Ep h => pr_law_whole h) h

end Sw
end
section
local macro_rules | `(tactic| walk_at "go1") => `(tactic| first
  | with_reducible refine Sw.h_seqasg ?_
  | with_reducible refine Sw.h_op ?_
  | with_reducible refine Sw.h_varS rfl ?_
  | with_reducible refine Sw.h_varO rfl ?_
  | with_reducible refine Sw.h_c ?_
  | with_reducible refine Sw.h_I0 ?_
  | with_reducible refine Sw.h_cons ?_
  | with_reducible refine Sw.h_consT rfl ?_
  | with_reducible refine Sw.h_consC rfl ?_
  | with_reducible refine Sw.h_nil ?_
  | with_reducible refine Sw.h_call ?_
  | with_reducible refine Sw.h_un ?_
  | with_reducible refine Sw.h_test ?_
  | with_reducible refine Sw.h_bl ?_
  | with_reducible refine Sw.h_seqdrop ?_
  | with_reducible refine Sw.h_asS ?_
  | with_reducible refine Sw.h_asO ?_
  | with_reducible refine Sw.h_ne1 ?_
  | with_reducible refine Sw.h_ne2 ?_
  | with_reducible refine Sw.h_asg ?_
  | with_reducible refine Sw.h_drop ?_
  | with_reducible refine Sw.h_ret ?_
  | with_reducible refine Sw.h_retS rfl ?_
  | with_reducible refine Sw.h_retO rfl ?_
  | with_reducible refine Sw.h_retN ?_
  | with_reducible refine Sw.h_next ?_
  | with_reducible refine Sw.h_if ?_
  | with_reducible refine Sw.h_frzO rfl ?_
  | with_reducible refine Sw.h_frzS rfl ?_
  | with_reducible refine Sw.h_and ?_
  | with_reducible refine Sw.h_or ?_
  | with_reducible refine Sw.h_not ?_
  | with_reducible refine Sw.h_yes ?_
  | with_reducible refine Sw.h_andV ?_
  | with_reducible refine Sw.h_orV ?_
  | with_reducible refine Sw.h_notV ?_
  | with_reducible refine Sw.h_ifE ?_
  | with_reducible refine Sw.h_chain ?_
  | with_reducible refine Sw.h_lenC rfl ?_
  | with_reducible refine Sw.h_tup ?_
  | with_reducible refine Sw.h_lst ?_
  | with_reducible refine Sw.h_shs0 ?_
  | with_reducible refine Sw.h_shs1 ?_
  | with_reducible refine Sw.h_shs2 ?_
  | with_reducible refine Sw.h_shs3 ?_
  | with_reducible refine Sw.h_shs4 ?_
  | with_reducible refine Sw.h_sl ?_
  | with_reducible refine Sw.h_nopart ?_
  | with_reducible refine Sw.h_part ?_
  | with_reducible refine Sw.h_int ?_
  | with_reducible refine Sw.h_neg ?_
  | with_reducible refine Sw.h_S ?_
  | with_reducible refine Sw.h_inSign ?_
  | with_reducible refine Sw.h_notInSign ?_
  | with_reducible refine Sw.h_isN ?_
  | with_reducible refine Sw.h_notN ?_
  | with_reducible refine Sw.h_eq rfl ?_
  | with_reducible refine Sw.h_ne rfl ?_
  | with_reducible refine Sw.h_lenL ?_
  | with_reducible refine Sw.h_lenT ?_
  | with_reducible refine Sw.h_abs ?_
  | with_reducible refine Sw.h_max2 ?_
  | with_reducible refine Sw.h_min2 ?_
  | with_reducible refine Sw.h_int1b ?_
  | with_reducible refine Sw.h_sum ?_
  | with_reducible refine Sw.h_listOf ?_
  | with_reducible refine Sw.h_slL ?_
  | with_reducible refine Sw.h_slT ?_
  | with_reducible refine Sw.h_revL ?_
  | with_reducible refine Sw.h_newK ?_
  | with_reducible refine Sw.h_newT ?_
  | with_reducible refine Sw.h_seqfor ?_
  | with_reducible refine Sw.h_seqforD ?_
  | with_reducible refine Sw.h_dispT ?_
  | with_reducible refine Sw.h_LM ?_
  | with_reducible refine Sw.h_SM ?_
  | with_reducible refine Sw.h_for ?_
  | with_reducible refine Sw.h_iList ?_
  | with_reducible refine Sw.h_iTup ?_
  | with_reducible refine Sw.h_iStr ?_
  | with_reducible refine Sw.h_iR1 ?_
  | with_reducible refine Sw.h_iR2 ?_
  | with_reducible refine Sw.h_iR3 ?_
  | with_reducible refine Sw.h_iEnum ?_
  | with_reducible refine Sw.h_iZip ?_
  | with_reducible refine Sw.h_iZipS ?_
  | with_reducible refine Sw.h_iZipT ?_
  | with_reducible refine Sw.h_lcD ?_
  | with_reducible refine Sw.h_callDP ?_
  | with_reducible refine Sw.h_callD ?_
  | with_reducible refine Sw.h_consN ?_
  | with_reducible refine Sw.h_consO rfl ?_
  | with_reducible refine Sw.h_lcV ?_
  | with_reducible refine Sw.h_countS ?_
  | with_reducible refine Sw.h_retPO rfl rfl ?_
  | with_reducible refine Sw.h_retPS rfl rfl ?_
  | with_reducible refine Sw.h_asgP ?_
  | with_reducible refine Sw.h_seqasgP ?_
  | with_reducible refine Sw.h_pairO ?_
  | with_reducible refine Sw.h_pairS ?_
  | with_reducible refine Sw.h_lst1 ?_
  | with_reducible refine Sw.h_tup1 ?_
  | with_reducible refine Sw.h_str1 ?_
  | with_reducible refine Sw.h_lc ?_
  | with_reducible refine Sw.h_gN ?_
  | with_reducible refine Sw.h_gT rfl ?_
  | with_reducible refine Sw.h_gC ?_
  | with_reducible refine Sw.h_gE ?_
  | with_reducible refine Sw.h_asgG ?_
  | with_reducible refine Sw.h_forD ?_
  | with_reducible refine Sw.h_raise ?_
  | with_reducible refine Sw.h_seqasgG ?_
  | with_reducible refine Sw.h_seqfrzO rfl ?_
  | with_reducible refine Sw.h_seqfrzS rfl ?_
  | with_reducible refine Sw.h_isi rfl rfl ?_
  | with_reducible refine Sw.h_ixT rfl ?_
  | with_reducible refine Sw.h_seq1 ?_
  | with_reducible refine L2.iteT ?_ | with_reducible refine L2.iteF ?_ | with_reducible refine Sw.iteNT ?_ | with_reducible refine Sw.iteNF ?_ | refine Sw.h_np rfl ?_)
local macro_rules | `(tactic| walk_at "go") => `(tactic| repeat walk_at "go1")
local macro_rules | `(tactic| walk_at "sz") => `(tactic| first
  | omega
  | decide
  | (simp only [List.length_append, List.length_map, List.length_cons, List.length_nil, List.length_take, List.length_drop, List.length_reverse, List.length_set, List.length_replicate, List.length_range]; omega)
  | (refine Nat.le_trans (Sw.cut_len _ _ _) ?_; omega))
local macro_rules | `(tactic| walk_at "gx1") => `(tactic| first
  | walk_at "go1"
  | refine Sw.c_draw (by omega) (by omega) (fun _ _ _ => ?_)
  | refine Sw.c_letters (by omega) (by omega) (by omega) (by omega) (fun _ _ _ => ?_)
  | refine Sw.c_wheel (by omega) (by omega) (fun _ _ _ _ => ?_)
  | refine Sw.c_word (by walk_at "sz") (by walk_at "sz") (by omega) (by omega) (fun _ _ _ => ?_)
  | refine Sw.c_bent (by walk_at "sz") (by assumption) (fun _ _ _ => ?_)
  | refine Sw.c_lis_word (by walk_at "sz") (by assumption) ?_
  | refine Sw.h_sc rfl ?_
  | refine Sw.h_lenS (by walk_at "sz") ?_
  | refine Sw.h_slS (by walk_at "sz") ?_
  | refine Sw.h_addS (by walk_at "sz") ?_
  | refine Sw.h_I (by omega) ?_
  | refine Sw.h_I (Sw.cm (by omega) (by omega) (by omega) (by omega)) ?_
  | refine Sw.h_I (Sw.cd (by omega) (by omega)) ?_
  | refine Sw.h_I ⟨by decide, by decide, by decide⟩ ?_
  | refine Sw.h_gT rfl ?_
  | refine Sw.h_ixT rfl ?_
  | refine Sw.h_ixL rfl ?_
  | refine Sw.h_appE rfl ?_
  | refine Sw.h_appK rfl (by decide) (by walk_at "sz") ?_
  | refine Sw.h_setLE rfl ?_
  | refine Sw.h_putTE rfl ?_
  | refine Sw.h_putKE rfl ?_
  | refine Sw.h_tupOf ?_
  | refine Sw.h_listOfT ?_
  | refine Sw.h_orS ?_
  | refine And.intro (by omega) (And.intro (by omega) ?_))
local macro_rules | `(tactic| walk_at "gx") => `(tactic| repeat walk_at "gx1")
local macro_rules | `(tactic| walk_at "gp1") => `(tactic| first
  | walk_at "go1"
  | with_reducible refine Sw.h_ixP0 ?_
  | with_reducible refine Sw.h_ixP1 ?_
  | with_reducible refine Sw.h_gP ?_)
local macro_rules | `(tactic| walk_at "gp") => `(tactic| repeat walk_at "gp1")
namespace Sw
open PySem PySem.Spec PyProof.Rows L2 SX
/-! ### turns as texts -/
abbrev FIG : List Nat := [48, 49, 50, 51, 52, 53, 54, 55, 56, 57]
theorem mem_fig {c : Nat} : c ∈ FIG ↔ 48 ≤ c ∧ c ≤ 57 := by
  constructor
  · intro h
    have : ∀ c ∈ FIG, 48 ≤ c ∧ c ≤ 57 := by decide
    exact this c h
  · rintro ⟨h1, h2⟩
    have : ∀ k, k < 10 → 48 + k ∈ FIG := by decide
    have := this (c - 48) (by omega)
    rw [show 48 + (c - 48) = c by omega] at this
    exact this
def valF (l : List Nat) : Int := ((NumText.digitsVal l : Nat) : Int)
theorem valF_bd : ∀ (l : List Nat), (∀ c ∈ l, c ∈ FIG) → 0 ≤ valF l ∧ valF l < 10 ^ l.length := by
  have key : ∀ (l : List Nat) (a : Nat), (∀ c ∈ l, c ∈ FIG) → l.foldl (fun acc c => acc * 10 + (c - 48)) a < (a + 1) * 10 ^ l.length := by
    intro l
    induction l with
    | nil => intro a _; show a < (a + 1) * 1; omega
    | cons c l ih =>
      intro a h
      have h1 := ih (a * 10 + (c - 48)) fun x hx => h x (List.mem_cons_of_mem _ hx)
      have h2 := mem_fig.mp (h c List.mem_cons_self)
      rw [List.foldl_cons, List.length_cons, Nat.pow_succ]
      have h3 : (a * 10 + (c - 48) + 1) * 10 ^ l.length ≤ ((a + 1) * 10) * 10 ^ l.length := Nat.mul_le_mul_right _ (by omega)
      have h4 : (a + 1) * 10 * 10 ^ l.length = (a + 1) * (10 ^ l.length * 10) := by rw [Nat.mul_assoc, Nat.mul_comm 10]
      omega
  intro l h
  have := key l 0 h
  unfold valF NumText.digitsVal
  refine ⟨by omega, ?_⟩
  have e : ((10 : Int) ^ l.length) = ((10 ^ l.length : Nat) : Int) := by rw [Int.natCast_pow]; rfl
  rw [e]
  omega
theorem int_of {l : List Nat} (h : ∀ c ∈ l, c ∈ FIG) (h0 : l ≠ []) (h9 : l.length ≤ 9) : PySem.intText? (S l) = some (valF l) := by
  have e : (S l).cps.toList = l := by simp [S]
  have := PySem.intText_digits (x := S l) (by rw [e]; exact fun c hc => mem_fig.mp (h c hc)) (by rw [e]; exact h0) (by rw [S_len]; omega)
  rw [e] at this
  exact this
def figBad (l : List Nat) : Bool := decide (l.length < 1) || (decide (l.length > 9) || (decide (l.take 1 = [48]) && !decide (l = [48])))
def figI (l : List Nat) : Option Int := if figBad l = true then none else if l.all (fun c => decide (c ∈ FIG)) = true then some (valF l) else none
theorem figI_bd {l : List Nat} {n : Int} (h : figI l = some n) : 0 ≤ n ∧ n < 10 ^ 9 := by
  unfold figI at h
  by_cases hb : figBad l = true
  · rw [if_pos hb] at h; cases h
  · rw [if_neg hb] at h
    by_cases ha : l.all (fun c => decide (c ∈ FIG)) = true
    · rw [if_pos ha] at h
      have hd : ∀ c ∈ l, c ∈ FIG := fun c hc => of_decide_eq_true (List.all_eq_true.mp ha c hc)
      obtain ⟨h1, h2⟩ := valF_bd l hd
      have hl : l.length ≤ 9 := by
        apply Classical.byContradiction
        intro z
        apply hb
        unfold figBad
        rw [decide_eq_true (show l.length > 9 by omega), Bool.true_or, Bool.or_true]
      rw [← Option.some.inj h]
      refine ⟨h1, Int.lt_of_lt_of_le h2 ?_⟩
      have e : ∀ k : Nat, ((10 : Int) ^ k) = ((10 ^ k : Nat) : Int) := fun k => by rw [Int.natCast_pow]; rfl
      rw [e, e]
      have : 10 ^ l.length ≤ 10 ^ 9 := Nat.pow_le_pow_right (by decide) hl
      omega
    · rw [if_neg ha] at h; cases h
/-- the test at the head of both readers -/
theorem h_figtest {l : List Nat} {i : Nat} {δ : DS} {U : Bool → Prop} (hi : δ[i]? = some (some (.sh (.str l)))) (hl : l.length ≤ 1000000) (h : U (figBad l)) : qOr (qTest (qOp pLt (qUn pLenS (qVar i)) (qC (.int 1)))) (qOr (qTest (qOp pGt (qUn pLenS (qVar i)) (qC (.int 9)))) (qAnd (qTest (qOp pEq (qOp pIxS (qVar i) (qC (.int 0))) (qC (.str [48])))) (qTest (qOp pNe (qVar i) (qC (.str [48])))))) δ U := by
  have hv : ∀ Q : Md → D → Prop, Q .sh (.str l) → qVar i δ Q := fun Q q => ⟨_, hi, q⟩
  unfold figBad at h
  refine h_or (h_test (h_op (h_un (hv _ (h_lenS hl (h_c (h_I0 (h_bl ?_))))))))
  by_cases h1 : l.length < 1
  · rw [decide_eq_true h1, Bool.true_or] at h
    rw [decide_eq_true (show (l.length : Int) < 1 by omega)]
    exact iteT h
  · rw [decide_eq_false h1, Bool.false_or] at h
    rw [decide_eq_false (show ¬ (l.length : Int) < 1 by omega)]
    refine iteF (h_or (h_test (h_op (h_un (hv _ (h_lenS hl (h_c (h_I0 (h_bl ?_)))))))))
    by_cases h2 : l.length > 9
    · rw [decide_eq_true h2, Bool.true_or] at h
      rw [decide_eq_true (show (l.length : Int) > 9 by omega)]
      exact iteT h
    · rw [decide_eq_false h2, Bool.false_or] at h
      rw [decide_eq_false (show ¬ (l.length : Int) > 9 by omega)]
      refine iteF (h_and (h_test (h_op (h_op (hv _ (h_c ?_))))))
      cases l with
      | nil => exact absurd (by decide : ([] : List Nat).length < 1) h1
      | cons c r =>
        refine h_ixS hl (atI_nat (j := 0) rfl) (h_c (h_eq rfl (h_bl ?_)))
        have e : decide ((c :: r).take 1 = [48]) = decide ([c] = [48]) := rfl
        rw [e] at h
        by_cases h3 : [c] = [48]
        · rw [decide_eq_true h3, Bool.true_and] at h
          rw [decide_eq_true h3]
          exact iteT (h_test (h_op (hv _ (h_c (h_ne rfl (h_bl h))))))
        · rw [decide_eq_false h3, Bool.false_and] at h
          rw [decide_eq_false h3]
          exact iteF h
theorem figBad_not {l : List Nat} (h : ¬ figBad l = true) : l ≠ [] ∧ l.length ≤ 9 := by
  constructor
  · intro z; apply h; subst z; rfl
  · apply Classical.byContradiction
    intro z
    apply h
    unfold figBad
    rw [decide_eq_true (show l.length > 9 by omega), Bool.true_or, Bool.or_true]
def psp_number_in : PSp := fun as Q _ => ∃ l : List Nat, as = [.sh (.str l)] ∧ l.length ≤ 1000000 ∧ Q .sh (optD (figI l))
theorem ln_number_in {as : List Ar} {Q : Md → D → Prop} {E : Nat → Prop} (h : psp_number_in as Q E) : as.length = 1 := by obtain ⟨_, rfl, _⟩ := h; rfl
def t_number_in (K : PySem.W.Frag) (c : Cl) : TS :=
  (tSeq (tIfS (tOr (tTest (tOp rLt (tCB rLenStr (tCons (tVar 0) tNil)) (tC (.int 1)))) (tOr (tTest (tOp rGt (tCB rLenStr (tCons (tVar 0) tNil)) (tC (.int 9)))) (tAnd (tTest (tOp rEq (tOp rIxS (tVar 0) (tC (.int 0))) (tC (.str "0")))) (tTest (tOp rNe (tVar 0) (tC (.str "0"))))))) (tRet (tC .non)) tNext)
  (tSeq (tFor (iStr (tVar 0)) (gName 1)
  (tIfS (tTest (tOp rNotInSign (tVar 1) (tC (.str "0123456789")))) (tRet (tC .non)) tNext))
  (tRet (tCB rIntS (tCons (tVar 0) tNil)))))
def q_number_in : QS :=
  (qSeq (qIfS (qOr (qTest (qOp pLt (qUn pLenS (qVar 0)) (qC (.int 1)))) (qOr (qTest (qOp pGt (qUn pLenS (qVar 0)) (qC (.int 9)))) (qAnd (qTest (qOp pEq (qOp pIxS (qVar 0) (qC (.int 0))) (qC (.str [48])))) (qTest (qOp pNe (qVar 0) (qC (.str [48]))))))) (qRet (qC .non)) qNext)
  (qSeq (qFor (qiStr (qVar 0)) (qgName 1)
  (qIfS (qTest (qOp pNotInSign (qVar 1) (qC (.str [48, 49, 50, 51, 52, 53, 54, 55, 56, 57])))) (qRet (qC .non)) qNext))
  (qRet (qUn pIntS (qVar 0)))))
theorem sim_number_in {K : PySem.W.Frag} {c : Cl} (t : Option Addr) (E : XK) (Ep : XP) : SimS K c t (fun _ => E) Ep (t_number_in K c) q_number_in :=
  (s_seq (s_ifS (s_or (s_test (s_op o_lt (s_cb1 (r := rLenStr) o_lenS (s_var 0)) (s_c fun _ => rfl))) (s_or (s_test (s_op o_gt (s_cb1 (r := rLenStr) o_lenS (s_var 0)) (s_c fun _ => rfl))) (s_and (s_test (s_op o_eq (s_op o_ixS (s_var 0) (s_c fun _ => rfl)) (s_c fun _ => (congrArg V.str (by decide +kernel : (PySem.Str.ofString "0") = S [48]))))) (s_test (s_op o_ne (s_var 0) (s_c fun _ => (congrArg V.str (by decide +kernel : (PySem.Str.ofString "0") = S [48])))))))) (s_ret (s_c fun _ => rfl)) s_next)
  (s_seq (s_for (si_str (s_var 0)) sg_name
  (s_ifS (s_test (s_op o_notInSign (s_var 1) (s_c fun _ => (congrArg V.str (by decide +kernel : (PySem.Str.ofString "0123456789") = S [48, 49, 50, 51, 52, 53, 54, 55, 56, 57]))))) (s_ret (s_c fun _ => rfl)) s_next))
  (s_ret (s_cb1 (r := rIntS) o_intS (s_var 0)))))

theorem pr_number_in {as : List Ar} {Q : Md → D → Prop} {E : Nat → Prop} (h : psp_number_in as Q E) : q_number_in { nx := fun _ => Q .sh .non, rt := Q } (dstart 2 as) := by
  obtain ⟨l, rfl, hl, q⟩ := h
  show q_number_in _ [some (.sh (.str l)), none]
  unfold q_number_in
  unfold figI at q
  refine h_seq1 (h_figtest rfl hl ?_)
  by_cases hb : figBad l = true
  · rw [if_pos hb] at q ⊢
    walk_at "go"
    exact q
  · rw [if_neg hb] at q ⊢
    obtain ⟨h0, h9⟩ := figBad_not hb
    walk_at "go"
    refine loop_inv (fun i δ => (l.take i).all (fun c => decide (c ∈ FIG)) = true ∧ ∃ (v1 : Option SV), δ = [some (.sh (.str l)), v1]) ⟨rfl, _, rfl⟩ (fun i d δ' N hd hI hN => ?_) (fun δ' hI => ?_)
    · obtain ⟨ha, v1, rfl⟩ := hI
      obtain ⟨c, hc, rfl⟩ := map_at' hd
      walk_at "go"
      cases hx : decide (c ∈ FIG) with
      | true =>
        walk_at "go"
        refine hN _ ⟨?_, _, rfl⟩
        rw [all_take hc, ha, hx]
        rfl
      | false =>
        walk_at "go"
        have e : l.all (fun c => decide (c ∈ FIG)) = false := List.all_eq_false.mpr ⟨c, List.mem_of_getElem? hc, by rw [hx]; decide⟩
        rw [if_neg (by rw [e]; decide)] at q
        exact q
    · obtain ⟨ha, v1, rfl⟩ := hI
      rw [List.length_map, List.take_length] at ha
      rw [if_pos ha] at q
      walk_at "go"
      exact ⟨l, valF l, rfl, int_of (fun c hc => of_decide_eq_true (List.all_eq_true.mp ha c hc)) h0 h9, by omega, by decide, q⟩
theorem rd_number_in {K : PySem.W.Frag} {c : Cl} {vs : List V} {H : Hp} {Q : VK} {E : XK} (h : lift K c psp_number_in vs H Q E) : t_number_in K c { nx := fun _ H' => Q .non H', rt := Q } (start ["word", "sign"] vs) H :=
  rd_of (ts := fun _ => t_number_in K c) (qs := fun _ => q_number_in) (fun t e ep => sim_number_in t e ep) (fun as Qp Ep h => Nat.le_trans (Nat.le_of_eq (ln_number_in h)) (by decide)) (fun as Qp Ep h => pr_number_in h) h

def turnI (w : List Nat) : Option Int := if w.take 1 = [45] then (match figI (w.drop 1) with | none => none | some n => if n = 0 then none else some (0 - n)) else figI w
def psp_turn_in : PSp := fun as Q _ => ∃ l : List Nat, as = [.sh (.str l)] ∧ l.length ≤ 1000000 ∧ Q .sh (optD (turnI l))
theorem ln_turn_in {as : List Ar} {Q : Md → D → Prop} {E : Nat → Prop} (h : psp_turn_in as Q E) : as.length = 1 := by obtain ⟨_, rfl, _⟩ := h; rfl
def t_turn_in (K : PySem.W.Frag) (c : Cl) : TS :=
  (tSeq (tIfS (tTest (tOp rNe (tSl rSlS (tVar 0) tNoPart (tPart (tC (.int 1)))) (tC (.str "-")))) (tRet (tCall (lift K c psp_number_in) [] E0 (tCons (tVar 0) tNil))) tNext)
  (tSeq (tAsg (tCall (lift K c psp_number_in) [] E0 (tCons (tSl rSlS (tVar 0) (tPart (tC (.int 1))) tNoPart) tNil)) (gName 1))
  (tSeq (tIfS (tOr (tTest (tOp rIsNn (tVar 1) (tC .non))) (tTest (tOp rEq (tVar 1) (tC (.int 0))))) (tRet (tC .non)) tNext)
  (tRet (tOp rSub (tC (.int 0)) (tVar 1))))))
def q_turn_in : QS :=
  (qSeq (qIfS (qTest (qOp pNe (qSl pSlS (qVar 0) qNoPart (qPart (qC (.int 1)))) (qC (.str [45])))) (qRet (qCall psp_number_in P0 (qCons (qVar 0) qNil))) qNext)
  (qSeq (qAsg (qCall psp_number_in P0 (qCons (qSl pSlS (qVar 0) (qPart (qC (.int 1))) qNoPart) qNil)) 1)
  (qSeq (qIfS (qOr (qTest (qOp pIsN (qVar 1) (qC .non))) (qTest (qOp pEq (qVar 1) (qC (.int 0))))) (qRet (qC .non)) qNext)
  (qRet (qOp pSub (qC (.int 0)) (qVar 1))))))
theorem sim_turn_in {K : PySem.W.Frag} {c : Cl} (t : Option Addr) (E : XK) (Ep : XP) : SimS K c t (fun _ => E) Ep (t_turn_in K c) q_turn_in :=
  (s_seq (s_ifS (s_test (s_op o_ne (s_sl o_slS (s_var 0) s_noPart (s_part (s_c fun _ => rfl))) (s_c fun _ => (congrArg V.str (by decide +kernel : (PySem.Str.ofString "-") = S [45]))))) (s_ret (s_call0 (s_cons (s_var 0) s_nil))) s_next)
  (s_seq (s_asg (s_call0 (s_cons (s_sl o_slS (s_var 0) (s_part (s_c fun _ => rfl)) s_noPart) s_nil)))
  (s_seq (s_ifS (s_or (s_test (s_op o_isN (s_var 1) (s_c fun _ => rfl))) (s_test (s_op o_eq (s_var 1) (s_c fun _ => rfl)))) (s_ret (s_c fun _ => rfl)) s_next)
  (s_ret (s_op o_sub (s_c fun _ => rfl) (s_var 1))))))

theorem pr_turn_in {as : List Ar} {Q : Md → D → Prop} {E : Nat → Prop} (h : psp_turn_in as Q E) : q_turn_in { nx := fun _ => Q .sh .non, rt := Q } (dstart 2 as) := by
  obtain ⟨l, rfl, hl, q⟩ := h
  show q_turn_in _ [some (.sh (.str l)), none]
  unfold q_turn_in
  unfold turnI at q
  walk_at "go"
  refine h_slS hl ?_
  rw [cut_to l (show (0 : Int) ≤ 1 by decide)]
  walk_at "go"
  show if (!decide (l.take (1 : Int).toNat = [45])) = true then _ else _
  by_cases h1 : l.take 1 = [45]
  · rw [decide_eq_true (show l.take (1 : Int).toNat = [45] from h1)]
    rw [if_pos h1] at q
    walk_at "go"
    refine h_slS hl ?_
    rw [cut_from l (show (0 : Int) ≤ 1 by decide)]
    walk_at "go"
    refine ⟨l.drop 1, rfl, by rw [List.length_drop]; omega, ?_⟩
    cases hf : figI (l.drop 1) with
    | none =>
      rw [hf] at q
      refine h_sc rfl ?_
      rw [show optD none = D.non from rfl]
      walk_at "go"
      rw [show isNon D.non = true from rfl]
      walk_at "go"
      exact q
    | some n =>
      rw [hf] at q
      refine h_sc rfl ?_
      rw [show optD (some n) = D.int n from rfl]
      walk_at "go"
      rw [show isNon (D.int n) = false from rfl]
      walk_at "go"
      by_cases hz : n = 0
      · rw [decide_eq_true hz]
        have q : Q .sh (optD (if n = 0 then none else some (0 - n))) := q
        rw [if_pos hz] at q
        walk_at "go"
        exact q
      · rw [decide_eq_false hz]
        have q : Q .sh (optD (if n = 0 then none else some (0 - n))) := q
        rw [if_neg hz] at q
        walk_at "go"
        exact q
  · rw [decide_eq_false (show ¬ l.take (1 : Int).toNat = [45] from h1)]
    rw [if_neg h1] at q
    walk_at "go"
    refine ⟨l, rfl, hl, ?_⟩
    cases hf : figI l with
    | none => rw [hf] at q; exact h_sc rfl ⟨by decide, q⟩
    | some n => rw [hf] at q; exact h_sc rfl ⟨by decide, q⟩
theorem rd_turn_in {K : PySem.W.Frag} {c : Cl} {vs : List V} {H : Hp} {Q : VK} {E : XK} (h : lift K c psp_turn_in vs H Q E) : t_turn_in K c { nx := fun _ H' => Q .non H', rt := Q } (start ["word", "number"] vs) H :=
  rd_of (ts := fun _ => t_turn_in K c) (qs := fun _ => q_turn_in) (fun t e ep => sim_turn_in t e ep) (fun as Qp Ep h => Nat.le_trans (Nat.le_of_eq (ln_turn_in h)) (by decide)) (fun as Qp Ep h => pr_turn_in h) h

/-! words of a text -/
theorem pre32 (c : Nat) (r : List Nat) : TL.pre [32] (c :: r) = decide (c = 32) := by
  show ((c :: r).take 1 == [32]) = _
  by_cases h : c = 32
  · subst h; rfl
  · rw [decide_eq_false h]; simpa using h
theorem spl_cons (acc : List Nat) (c : Nat) (r : List Nat) : TL.spl [32] 0 acc (c :: r) = if c = 32 then acc :: TL.spl [32] 0 [] r else TL.spl [32] 0 (acc ++ [c]) r := by
  show (if TL.pre [32] (c :: r) = true then acc :: TL.spl [32] ([32].length - 1) [] r else TL.spl [32] 0 (acc ++ [c]) r) = _
  rw [pre32]
  by_cases h : c = 32
  · rw [decide_eq_true h, if_pos rfl, if_pos h]; rfl
  · rw [decide_eq_false h, if_neg (by decide), if_neg h]
theorem spl_ok : ∀ (r acc : List Nat), (TL.spl [32] 0 acc r).length ≤ r.length + 1 ∧ (∀ w ∈ TL.spl [32] 0 acc r, w.length ≤ acc.length + r.length) ∧ ((TL.spl [32] 0 acc r).map (·.length)).sum + (TL.spl [32] 0 acc r).length = acc.length + r.length + 1 ∧ TL.spl [32] 0 acc r ≠ []
  | [], acc => by
    rw [TL.spl_nil]
    exact ⟨Nat.le_refl _, fun w hw => by rw [List.mem_singleton.mp hw]; omega, by simp, by simp⟩
  | c :: r, acc => by
    rw [spl_cons]
    by_cases h : c = 32
    · rw [if_pos h]
      obtain ⟨h1, h2, h3, _⟩ := spl_ok r []
      refine ⟨by rw [List.length_cons, List.length_cons]; omega, fun w hw => ?_, ?_, by simp⟩
      · rw [List.length_cons]
        rcases List.mem_cons.mp hw with e | e
        · rw [e]; omega
        · have := h2 w e
          rw [List.length_nil] at this
          omega
      · rw [List.map_cons, List.sum_cons, List.length_cons, List.length_cons]
        rw [List.length_nil] at h3
        omega
    · rw [if_neg h]
      obtain ⟨h1, h2, h3, h4⟩ := spl_ok r (acc ++ [c])
      rw [List.length_append] at h2 h3
      refine ⟨by rw [List.length_cons]; omega, fun w hw => ?_, ?_, h4⟩
      · have := h2 w hw
        rw [List.length_cons]
        have e : [c].length = 1 := rfl
        omega
      · rw [List.length_cons]
        have e : [c].length = 1 := rfl
        omega
theorem splB_ok (l : List Nat) : (splB l).length ≤ l.length + 1 ∧ (∀ w ∈ splB l, w.length ≤ l.length) ∧ ((splB l).map (·.length)).sum + (splB l).length = l.length + 1 ∧ splB l ≠ [] := by
  obtain ⟨h1, h2, h3, h4⟩ := spl_ok l []
  rw [List.length_nil] at h2 h3
  refine ⟨h1, fun w hw => ?_, ?_, h4⟩
  · have := h2 w hw; omega
  · unfold splB; omega
def allSome : List (Option Int) → Option (List Int)
  | [] => some []
  | none :: _ => none
  | some a :: r => (allSome r).map (a :: ·)
theorem allSome_map : ∀ ns : List Int, allSome (ns.map some) = some ns
  | [] => rfl
  | n :: ns => by show (allSome (ns.map some)).map (n :: ·) = _; rw [allSome_map ns]; rfl
theorem allSome_cases : ∀ l : List (Option Int), (l.any Option.isNone = true ∧ allSome l = none) ∨ (l.any Option.isNone = false ∧ ∃ ns : List Int, l = ns.map some ∧ allSome l = some ns)
  | [] => .inr ⟨rfl, [], rfl, rfl⟩
  | none :: l => .inl ⟨rfl, rfl⟩
  | some a :: l => by
    rcases allSome_cases l with ⟨h1, h2⟩ | ⟨h1, ns, h2, h3⟩
    · exact .inl ⟨by rw [List.any_cons, h1]; rfl, by show (allSome l).map _ = _; rw [h2]; rfl⟩
    · exact .inr ⟨by rw [List.any_cons, h1]; rfl, a :: ns, by rw [h2]; rfl, by show (allSome l).map _ = _; rw [h3]; rfl⟩
theorem allSome_none {l : List (Option Int)} {i : Nat} (h : l[i]? = some none) : allSome l = none := by
  rcases allSome_cases l with ⟨_, h2⟩ | ⟨h1, _⟩
  · exact h2
  · exfalso
    rw [List.any_eq_false] at h1
    exact h1 none (List.mem_of_getElem? h) rfl
def readI (l : List Nat) : Option (List Int) := if l = [110, 111, 110, 101] then some [] else allSome ((splB l).map turnI)
def nonStr (d : D) : Prop := noDict d = true ∧ kitB (tyD d) "str" = some false
def psp_read_turns : PSp := fun as Q E => ∃ d : D, as = [.sh d] ∧ ((∃ l : List Nat, d = .str l ∧ l.length ≤ 100000 ∧ (∀ ns, readI l = some ns → Q .ow (.lst (ns.map .int))) ∧ (readI l = none → E 9)) ∨ (nonStr d ∧ E 9))
theorem ln_read_turns {as : List Ar} {Q : Md → D → Prop} {E : Nat → Prop} (h : psp_read_turns as Q E) : as.length = 1 := by obtain ⟨_, rfl, _⟩ := h; rfl
def t_read_turns (K : PySem.W.Frag) (c : Cl) (E : XK) : TS :=
  (tSeq (tIfS (tNot (tB (tCB (rIsi K) (tCons (tVar 0) (tCons (tC (.ty "str")) tNil))))) (tRaise E c.NoText) tNext)
  (tSeq (tIfS (tTest (tOp rEq (tVar 0) (tC (.str "none")))) (tRet (tLst tNil)) tNext)
  (tSeq (tAsg (tLc (iList K (tM1 rSplitC (tVar 0) (tC (.str " ")))) (gName 2) tYes (tCall (lift K c psp_turn_in) [] E0 (tCons (tVar 2) tNil)) [2]) (gName 1))
  (tSeq (tIfS (tTest (tOp (rIn K false) (tC .non) (tVar 1))) (tRaise E c.NoText) tNext)
  (tRet (tVar 1))))))
def q_read_turns (Ep : XP) : QS :=
  (qSeq (qIfS (qNot (qTest (qUn (pIsi "str") (qVar 0)))) (qRaise Ep 9) qNext)
  (qSeq (qIfS (qTest (qOp pEq (qVar 0) (qC (.str [110, 111, 110, 101])))) (qRet (qLst qNil)) qNext)
  (qSeq (qAsg (qLc (qiList (qSM pSplitC (qVar 0) (qC (.str [32])))) (qgName 2) qYes (qCall psp_turn_in P0 (qCons (qVar 2) qNil)) [2]) 1)
  (qSeq (qIfS (qTest (qOp (pInN false) (qC .non) (qVar 1))) (qRaise Ep 9) qNext)
  (qRetV 1)))))
theorem sim_read_turns {K : PySem.W.Frag} {c : Cl} (t : Option Addr) (E : XK) (Ep : XP) : SimS K c t (fun _ => E) Ep (t_read_turns K c E) (q_read_turns Ep) :=
  (s_seq (s_ifS (s_not (s_b (s_isi (s_var 0)))) (s_raise (n := 9)) s_next)
  (s_seq (s_ifS (s_test (s_op o_eq (s_var 0) (s_c fun _ => (congrArg V.str (by decide +kernel : (PySem.Str.ofString "none") = S [110, 111, 110, 101]))))) (s_ret (s_lst s_nil)) s_next)
  (s_seq (s_asg (s_lc (si_list (s_SM o_splitC (s_var 0) (s_c fun _ => (congrArg V.str (by decide +kernel : (PySem.Str.ofString " ") = S [32]))))) sg_name (by decide) s_yes (s_call0 (s_cons (s_var 2) s_nil))))
  (s_seq (s_ifS (s_test (s_op o_inN (s_c fun _ => rfl) (s_var 1))) (s_raise (n := 9)) s_next)
  (s_retV (i := 1))))))

def tuF : D → D
  | .str w => optD (turnI w)
  | d => d
theorem tu_map (ws : List (List Nat)) : (ws.map D.str).map tuF = (ws.map turnI).map optD := by rw [List.map_map, List.map_map]; rfl
theorem opt_some (ns : List Int) : (ns.map some).map optD = ns.map D.int := by rw [List.map_map]; rfl
theorem pr_read_turns {as : List Ar} {Q : Md → D → Prop} {E : Nat → Prop} (h : psp_read_turns as Q E) : q_read_turns (fun _ n => E n) { nx := fun _ => Q .sh .non, rt := Q } (dstart 3 as) := by
  obtain ⟨d, rfl, h | h⟩ := h
  · obtain ⟨l, rfl, hl, q, ex⟩ := h
    show q_read_turns _ _ [some (.sh (.str l)), none, none]
    unfold q_read_turns
    unfold readI at q ex
    walk_at "go"
    by_cases hn : l = [110, 111, 110, 101]
    · rw [decide_eq_true hn]
      walk_at "go"
      exact q [] (by rw [if_pos hn])
    · rw [decide_eq_false hn]
      obtain ⟨s1, s2, _, _⟩ := splB_ok l
      rw [if_neg hn] at q ex
      walk_at "go"
      refine ⟨⟨_, rfl⟩, ?_⟩
      walk_at "go"
      refine h_splitC (by omega) ?_
      walk_at "go"
      refine lc_map tuF (by rw [List.length_map]; omega) (fun d K n hd hn hk => ?_) ?_
      · obtain ⟨w, hw, rfl⟩ := List.mem_map.mp hd
        have := s2 w hw
        have hk : K (optD (turnI w)) := hk
        walk_at "go"
        refine ⟨w, rfl, by omega, ?_⟩
        cases ht : turnI w with
        | none => rw [ht] at hk; exact h_sc rfl ⟨by decide, hn, hk⟩
        | some z => rw [ht] at hk; exact h_sc rfl ⟨by decide, hn, hk⟩
      · rw [tu_map]
        walk_at "go"
        refine h_inN ?_
        rcases allSome_cases ((splB l).map turnI) with ⟨h1, h2⟩ | ⟨h1, ns, h2, h3⟩
        · rw [h1]
          walk_at "go"
          exact ex h2
        · rw [h1]
          walk_at "go"
          have := q ns h3
          rw [h2, opt_some]
          exact this
  · obtain ⟨⟨h1, h2⟩, ex⟩ := h
    show q_read_turns _ _ [some (.sh d), none, none]
    unfold q_read_turns
    refine h_seq1 (h_not (h_test (h_un (h_varS rfl (h_isi h1 h2 (h_bl ?_))))))
    exact iteT ex
theorem rd_read_turns {K : PySem.W.Frag} {c : Cl} {vs : List V} {H : Hp} {Q : VK} {E : XK} (h : lift K c psp_read_turns vs H Q E) : t_read_turns K c E { nx := fun _ H' => Q .non H', rt := Q } (start ["text", "turns", "word"] vs) H :=
  rd_of (ts := fun e => t_read_turns K c e) (qs := fun ep => q_read_turns ep) (fun t e ep => sim_read_turns t e ep) (fun as Qp Ep h => Nat.le_trans (Nat.le_of_eq (ln_read_turns h)) (by decide)) (fun as Qp Ep h => pr_read_turns h) h

def showI (ns : List Int) : List Nat := if ns.length = 0 then [110, 111, 110, 101] else (Txt.join (S [32]) ((ns.map txtI).map S)).cps.toList
def psp_show_turns : PSp := fun as Q _ => ∃ ns : List Int, as = [.sh (.lst (ns.map .int))] ∧ ns.length ≤ 100000 ∧ (∀ n ∈ ns, n.natAbs.log2 < 1920 ∧ (txtI n).length ≤ 100) ∧ ns.length ≤ 1000 ∧ Q .sh (.str (showI ns))
theorem ln_show_turns {as : List Ar} {Q : Md → D → Prop} {E : Nat → Prop} (h : psp_show_turns as Q E) : as.length = 1 := by obtain ⟨_, rfl, _⟩ := h; rfl
def t_show_turns (K : PySem.W.Frag) (c : Cl) : TS :=
  (tSeq (tIfS (tTest (tOp rEq (tCB (rLenSq K) (tCons (tVar 0) tNil)) (tC (.int 0)))) (tRet (tC (.str "none"))) tNext)
  (tRet (tM1 (rJoin K) (tC (.str " ")) (tLc (iList K (tVar 0)) (gName 1) tYes (tCB rStrI (tCons (tVar 1) tNil)) [1]))))
def q_show_turns : QS :=
  (qSeq (qIfS (qTest (qOp pEq (qUn pLenL (qVar 0)) (qC (.int 0)))) (qRet (qC (.str [110, 111, 110, 101]))) qNext)
  (qRet (qUn (pJoinC [32]) (qLc (qiList (qVar 0)) (qgName 1) qYes (qUn pStrI (qVar 1)) [1]))))
theorem sim_show_turns {K : PySem.W.Frag} {c : Cl} (t : Option Addr) (E : XK) (Ep : XP) : SimS K c t (fun _ => E) Ep (t_show_turns K c) q_show_turns :=
  (s_seq (s_ifS (s_test (s_op o_eq (s_cb1 (r := (rLenSq K)) o_lenL (s_var 0)) (s_c fun _ => rfl))) (s_ret (s_c fun _ => (congrArg V.str (by decide +kernel : (PySem.Str.ofString "none") = S [110, 111, 110, 101])))) s_next)
  (s_ret (s_joinC (congrArg V.str (by decide +kernel : (PySem.Str.ofString " ") = S [32])) (s_lc (si_list (s_var 0)) sg_name (by decide) s_yes (s_cb1 (r := rStrI) o_strI (s_var 1))))))

def stF : D → D
  | .int i => .str (txtI i)
  | d => d
theorem st_map (ns : List Int) : (ns.map D.int).map stF = (ns.map txtI).map D.str := by rw [List.map_map, List.map_map]; rfl
theorem txt_sum {ns : List Int} (h : ∀ n ∈ ns, (txtI n).length ≤ 100) : ((ns.map txtI).map (·.length)).sum ≤ ns.length * 100 := by
  induction ns with
  | nil => exact Nat.le_refl _
  | cons n ns ih =>
    have h1 := ih fun m hm => h m (List.mem_cons_of_mem _ hm)
    have h2 := h n List.mem_cons_self
    rw [List.map_cons, List.map_cons, List.sum_cons, List.length_cons]
    omega
theorem h_joinT {ns : List Int} {Q : Md → D → Prop} (h : ∀ n ∈ ns, (txtI n).length ≤ 100) (hl : ns.length ≤ 1000) (q : Q .sh (.str (Txt.join (S [32]) ((ns.map txtI).map S)).cps.toList)) : pJoinC [32] (.lst ((ns.map txtI).map .str)) Q := by
  refine ⟨ns.map txtI, .inl rfl, ?_, q⟩
  have := txt_sum h
  rw [List.length_map]
  show _ + ns.length * 1 ≤ _
  omega
theorem pr_show_turns {as : List Ar} {Q : Md → D → Prop} {E : Nat → Prop} (h : psp_show_turns as Q E) : q_show_turns { nx := fun _ => Q .sh .non, rt := Q } (dstart 2 as) := by
  obtain ⟨ns, rfl, _, hn, hl, q⟩ := h
  show q_show_turns _ [some (.sh (.lst (ns.map .int))), none]
  unfold q_show_turns
  unfold showI at q
  walk_at "go"
  rw [List.length_map]
  walk_at "go"
  by_cases h0 : ns.length = 0
  · rw [decide_eq_true (show (ns.length : Int) = 0 by omega)]
    rw [if_pos h0] at q
    walk_at "go"
    exact q
  · rw [decide_eq_false (show ¬ (ns.length : Int) = 0 by omega)]
    rw [if_neg h0] at q
    walk_at "go"
    refine lc_map stF (by rw [List.length_map]; omega) (fun d K n hd hn' hk => ?_) ?_
    · obtain ⟨i, hi, rfl⟩ := List.mem_map.mp hd
      walk_at "go"
      refine h_strI (hn i hi).1 ?_
      exact ⟨by decide, hn', hk⟩
    · rw [st_map]
      refine h_joinT (fun n hm => (hn n hm).2) hl ?_
      exact ⟨by decide, q⟩
theorem rd_show_turns {K : PySem.W.Frag} {c : Cl} {vs : List V} {H : Hp} {Q : VK} {E : XK} (h : lift K c psp_show_turns vs H Q E) : t_show_turns K c { nx := fun _ H' => Q .non H', rt := Q } (start ["turns", "turn"] vs) H :=
  rd_of (ts := fun _ => t_show_turns K c) (qs := fun _ => q_show_turns) (fun t e ep => sim_show_turns t e ep) (fun as Qp Ep h => Nat.le_trans (Nat.le_of_eq (ln_show_turns h)) (by decide)) (fun as Qp Ep h => pr_show_turns h) h

end Sw
end
section
local macro_rules | `(tactic| walk_at "go1") => `(tactic| first
  | with_reducible refine Sw.h_seqasg ?_
  | with_reducible refine Sw.h_op ?_
  | with_reducible refine Sw.h_varS rfl ?_
  | with_reducible refine Sw.h_varO rfl ?_
  | with_reducible refine Sw.h_c ?_
  | with_reducible refine Sw.h_I0 ?_
  | with_reducible refine Sw.h_cons ?_
  | with_reducible refine Sw.h_consT rfl ?_
  | with_reducible refine Sw.h_consC rfl ?_
  | with_reducible refine Sw.h_nil ?_
  | with_reducible refine Sw.h_call ?_
  | with_reducible refine Sw.h_un ?_
  | with_reducible refine Sw.h_test ?_
  | with_reducible refine Sw.h_bl ?_
  | with_reducible refine Sw.h_seqdrop ?_
  | with_reducible refine Sw.h_asS ?_
  | with_reducible refine Sw.h_asO ?_
  | with_reducible refine Sw.h_ne1 ?_
  | with_reducible refine Sw.h_ne2 ?_
  | with_reducible refine Sw.h_asg ?_
  | with_reducible refine Sw.h_drop ?_
  | with_reducible refine Sw.h_ret ?_
  | with_reducible refine Sw.h_retS rfl ?_
  | with_reducible refine Sw.h_retO rfl ?_
  | with_reducible refine Sw.h_retN ?_
  | with_reducible refine Sw.h_next ?_
  | with_reducible refine Sw.h_if ?_
  | with_reducible refine Sw.h_frzO rfl ?_
  | with_reducible refine Sw.h_frzS rfl ?_
  | with_reducible refine Sw.h_and ?_
  | with_reducible refine Sw.h_or ?_
  | with_reducible refine Sw.h_not ?_
  | with_reducible refine Sw.h_yes ?_
  | with_reducible refine Sw.h_andV ?_
  | with_reducible refine Sw.h_orV ?_
  | with_reducible refine Sw.h_notV ?_
  | with_reducible refine Sw.h_ifE ?_
  | with_reducible refine Sw.h_chain ?_
  | with_reducible refine Sw.h_lenC rfl ?_
  | with_reducible refine Sw.h_tup ?_
  | with_reducible refine Sw.h_lst ?_
  | with_reducible refine Sw.h_shs0 ?_
  | with_reducible refine Sw.h_shs1 ?_
  | with_reducible refine Sw.h_shs2 ?_
  | with_reducible refine Sw.h_shs3 ?_
  | with_reducible refine Sw.h_shs4 ?_
  | with_reducible refine Sw.h_sl ?_
  | with_reducible refine Sw.h_nopart ?_
  | with_reducible refine Sw.h_part ?_
  | with_reducible refine Sw.h_int ?_
  | with_reducible refine Sw.h_neg ?_
  | with_reducible refine Sw.h_S ?_
  | with_reducible refine Sw.h_inSign ?_
  | with_reducible refine Sw.h_notInSign ?_
  | with_reducible refine Sw.h_isN ?_
  | with_reducible refine Sw.h_notN ?_
  | with_reducible refine Sw.h_eq rfl ?_
  | with_reducible refine Sw.h_ne rfl ?_
  | with_reducible refine Sw.h_lenL ?_
  | with_reducible refine Sw.h_lenT ?_
  | with_reducible refine Sw.h_abs ?_
  | with_reducible refine Sw.h_max2 ?_
  | with_reducible refine Sw.h_min2 ?_
  | with_reducible refine Sw.h_int1b ?_
  | with_reducible refine Sw.h_sum ?_
  | with_reducible refine Sw.h_listOf ?_
  | with_reducible refine Sw.h_slL ?_
  | with_reducible refine Sw.h_slT ?_
  | with_reducible refine Sw.h_revL ?_
  | with_reducible refine Sw.h_newK ?_
  | with_reducible refine Sw.h_newT ?_
  | with_reducible refine Sw.h_seqfor ?_
  | with_reducible refine Sw.h_seqforD ?_
  | with_reducible refine Sw.h_dispT ?_
  | with_reducible refine Sw.h_LM ?_
  | with_reducible refine Sw.h_SM ?_
  | with_reducible refine Sw.h_for ?_
  | with_reducible refine Sw.h_iList ?_
  | with_reducible refine Sw.h_iTup ?_
  | with_reducible refine Sw.h_iStr ?_
  | with_reducible refine Sw.h_iR1 ?_
  | with_reducible refine Sw.h_iR2 ?_
  | with_reducible refine Sw.h_iR3 ?_
  | with_reducible refine Sw.h_iEnum ?_
  | with_reducible refine Sw.h_iZip ?_
  | with_reducible refine Sw.h_iZipS ?_
  | with_reducible refine Sw.h_iZipT ?_
  | with_reducible refine Sw.h_lcD ?_
  | with_reducible refine Sw.h_callDP ?_
  | with_reducible refine Sw.h_callD ?_
  | with_reducible refine Sw.h_consN ?_
  | with_reducible refine Sw.h_consO rfl ?_
  | with_reducible refine Sw.h_lcV ?_
  | with_reducible refine Sw.h_countS ?_
  | with_reducible refine Sw.h_retPO rfl rfl ?_
  | with_reducible refine Sw.h_retPS rfl rfl ?_
  | with_reducible refine Sw.h_asgP ?_
  | with_reducible refine Sw.h_seqasgP ?_
  | with_reducible refine Sw.h_pairO ?_
  | with_reducible refine Sw.h_pairS ?_
  | with_reducible refine Sw.h_lst1 ?_
  | with_reducible refine Sw.h_tup1 ?_
  | with_reducible refine Sw.h_str1 ?_
  | with_reducible refine Sw.h_lc ?_
  | with_reducible refine Sw.h_gN ?_
  | with_reducible refine Sw.h_gT rfl ?_
  | with_reducible refine Sw.h_gC ?_
  | with_reducible refine Sw.h_gE ?_
  | with_reducible refine Sw.h_asgG ?_
  | with_reducible refine Sw.h_forD ?_
  | with_reducible refine Sw.h_raise ?_
  | with_reducible refine Sw.h_seqasgG ?_
  | with_reducible refine Sw.h_seqfrzO rfl ?_
  | with_reducible refine Sw.h_seqfrzS rfl ?_
  | with_reducible refine Sw.h_isi rfl rfl ?_
  | with_reducible refine Sw.h_ixT rfl ?_
  | with_reducible refine Sw.h_seq1 ?_
  | with_reducible refine L2.iteT ?_ | with_reducible refine L2.iteF ?_ | with_reducible refine Sw.iteNT ?_ | with_reducible refine Sw.iteNF ?_ | refine Sw.h_np rfl ?_)
local macro_rules | `(tactic| walk_at "go") => `(tactic| repeat walk_at "go1")
local macro_rules | `(tactic| walk_at "sz") => `(tactic| first
  | omega
  | decide
  | (simp only [List.length_append, List.length_map, List.length_cons, List.length_nil, List.length_take, List.length_drop, List.length_reverse, List.length_set, List.length_replicate, List.length_range]; omega)
  | (refine Nat.le_trans (Sw.cut_len _ _ _) ?_; omega))
local macro_rules | `(tactic| walk_at "gx1") => `(tactic| first
  | walk_at "go1"
  | refine Sw.c_draw (by omega) (by omega) (fun _ _ _ => ?_)
  | refine Sw.c_letters (by omega) (by omega) (by omega) (by omega) (fun _ _ _ => ?_)
  | refine Sw.c_wheel (by omega) (by omega) (fun _ _ _ _ => ?_)
  | refine Sw.c_word (by walk_at "sz") (by walk_at "sz") (by omega) (by omega) (fun _ _ _ => ?_)
  | refine Sw.c_bent (by walk_at "sz") (by assumption) (fun _ _ _ => ?_)
  | refine Sw.c_lis_word (by walk_at "sz") (by assumption) ?_
  | refine Sw.h_sc rfl ?_
  | refine Sw.h_lenS (by walk_at "sz") ?_
  | refine Sw.h_slS (by walk_at "sz") ?_
  | refine Sw.h_addS (by walk_at "sz") ?_
  | refine Sw.h_I (by omega) ?_
  | refine Sw.h_I (Sw.cm (by omega) (by omega) (by omega) (by omega)) ?_
  | refine Sw.h_I (Sw.cd (by omega) (by omega)) ?_
  | refine Sw.h_I ⟨by decide, by decide, by decide⟩ ?_
  | refine Sw.h_gT rfl ?_
  | refine Sw.h_ixT rfl ?_
  | refine Sw.h_ixL rfl ?_
  | refine Sw.h_appE rfl ?_
  | refine Sw.h_appK rfl (by decide) (by walk_at "sz") ?_
  | refine Sw.h_setLE rfl ?_
  | refine Sw.h_putTE rfl ?_
  | refine Sw.h_putKE rfl ?_
  | refine Sw.h_tupOf ?_
  | refine Sw.h_listOfT ?_
  | refine Sw.h_orS ?_
  | refine And.intro (by omega) (And.intro (by omega) ?_))
local macro_rules | `(tactic| walk_at "gx") => `(tactic| repeat walk_at "gx1")
local macro_rules | `(tactic| walk_at "gp1") => `(tactic| first
  | walk_at "go1"
  | with_reducible refine Sw.h_ixP0 ?_
  | with_reducible refine Sw.h_ixP1 ?_
  | with_reducible refine Sw.h_gP ?_)
local macro_rules | `(tactic| walk_at "gp") => `(tactic| repeat walk_at "gp1")
namespace Sw
open PySem PySem.Spec PyProof.Rows L2 SX
def Rz : List Nat := [9]
abbrev Rx (K : PySem.W.Frag) (c : Cl) : Prop := ∀ n ∈ Rz, n < 14 ∧ Caught K c (c.at n) n

theorem kn9 : kn 9 = [78, 111, 84, 101, 120, 116, 43] := by decide +kernel
abbrev Uni (l : List Nat) : Prop := Asc l
theorem uni_app {a b : List Nat} (h : Uni a) (h' : Uni b) : Uni (a ++ b) := fun c hc => (List.mem_append.mp hc).elim (h c) (h' c)
theorem uni_take {a : List Nat} (h : Uni a) (n : Nat) : Uni (a.take n) := fun c hc => h c (List.mem_of_mem_take hc)
theorem uni_drop {a : List Nat} (h : Uni a) (n : Nat) : Uni (a.drop n) := fun c hc => h c (List.mem_of_mem_drop hc)
theorem uni_low {l : List Nat} (h : Low l) : Uni l := fun c hc => by have := h c hc; omega
theorem uni_txt (i : Int) : Uni (txtI i) := fun c hc => by
  unfold txtI at hc
  rw [Str.ofString_eq_toList] at hc
  obtain ⟨ch, h, rfl⟩ := List.mem_map.mp (show c ∈ (toString i).toList.map Char.toNat by simpa using hc)
  exact int_ascii i ch h
theorem txt_len {i : Int} (h1 : -(10 ^ 9) < i) (h2 : i < 10 ^ 9) : (txtI i).length ≤ 10 ∧ txtI i ≠ [] ∧ i.natAbs.log2 < 1920 := by
  have el : ∀ j : Int, (txtI j).length = (Str.ofString (toString j)).length := fun j => by unfold txtI; exact Array.length_toList
  have ge : ∀ j : Int, 0 ≤ j → 1 ≤ (Str.ofString (toString j)).length := fun j hj => by
    rw [PyProof.Rows.ofString_len]
    cases j with
    | ofNat m =>
      show 1 ≤ (Nat.repr m).length
      simpa [Nat.repr] using PySem.toDigits_len_ge 10 m
    | negSucc m => exact absurd hj (Int.not_le.mpr (Int.negSucc_lt_zero m))
  have hlog : i.natAbs.log2 < 1920 := by
    by_cases z : i.natAbs = 0
    · rw [z]; decide
    · rw [Nat.log2_lt z]
      refine Nat.lt_of_lt_of_le (show i.natAbs < 2 ^ 30 by omega) (Nat.pow_le_pow_right (by decide) (by decide))
  by_cases h0 : 0 ≤ i
  · have a := toString_length_le h0 (k := 9) (by decide) h2
    have b := ge i h0
    refine ⟨by rw [el]; omega, fun z => ?_, hlog⟩
    have := el i
    rw [z, List.length_nil] at this
    omega
  · have e := len_text_neg (n := i) (by omega)
    have a := toString_length_le (v := 0 - i) (by omega) (k := 9) (by decide) (by omega)
    refine ⟨by rw [el]; omega, fun z => ?_, hlog⟩
    have := el i
    rw [z, List.length_nil] at this
    omega
theorem spl_mem : ∀ (r acc : List Nat), ∀ w ∈ TL.spl [32] 0 acc r, ∀ c ∈ w, c ∈ acc ∨ c ∈ r
  | [], acc, w, hw, c, hc => by
    rw [TL.spl_nil] at hw
    rw [List.mem_singleton.mp hw] at hc
    exact .inl hc
  | x :: r, acc, w, hw, c, hc => by
    rw [spl_cons] at hw
    by_cases h : x = 32
    · rw [if_pos h] at hw
      rcases List.mem_cons.mp hw with e | e
      · rw [e] at hc; exact .inl hc
      · rcases spl_mem r [] w e c hc with z | z
        · exact nomatch z
        · exact .inr (List.mem_cons_of_mem _ z)
    · rw [if_neg h] at hw
      rcases spl_mem r (acc ++ [x]) w hw c hc with z | z
      · rcases List.mem_append.mp z with y | y
        · exact .inl y
        · rw [List.mem_singleton.mp y]; exact .inr List.mem_cons_self
      · exact .inr (List.mem_cons_of_mem _ z)
theorem splB_uni {l : List Nat} (h : Uni l) : ∀ w ∈ splB l, Uni w := fun w hw c hc => by
  rcases spl_mem l [] w hw c hc with z | z
  · exact nomatch z
  · exact h c z
theorem joinL_ok : ∀ ls : List (List Nat), (TL.joinL [32] ls).length ≤ (ls.map (·.length)).sum + ls.length ∧ (∀ c ∈ TL.joinL [32] ls, c = 32 ∨ ∃ l ∈ ls, c ∈ l)
  | [] => ⟨Nat.le_refl _, (fun _ h => nomatch h)⟩
  | [p] => ⟨by show p.length ≤ p.length + 0 + 1; omega, fun c hc => .inr ⟨p, List.mem_singleton.mpr rfl, hc⟩⟩
  | p :: q :: r => by
    obtain ⟨h1, h2⟩ := joinL_ok (q :: r)
    constructor
    · show (p ++ ([32] ++ TL.joinL [32] (q :: r))).length ≤ _
      simp only [List.length_append, List.map_cons, List.sum_cons, List.length_cons, List.length_nil] at h1 ⊢
      omega
    · intro c hc
      rcases List.mem_append.mp (show c ∈ p ++ ([32] ++ TL.joinL [32] (q :: r)) from hc) with z | z
      · exact .inr ⟨p, List.mem_cons_self, z⟩
      · rcases List.mem_append.mp z with y | y
        · exact .inl (List.mem_singleton.mp y)
        · rcases h2 c y with e | ⟨l, hl, hcl⟩
          · exact .inl e
          · exact .inr ⟨l, List.mem_cons_of_mem _ hl, hcl⟩
theorem join_ok (ls : List (List Nat)) (h : ∀ l ∈ ls, Uni l) : (Txt.join (S [32]) (ls.map S)).cps.toList.length ≤ (ls.map (·.length)).sum + ls.length ∧ Uni (Txt.join (S [32]) (ls.map S)).cps.toList := by
  have e : (Txt.join (S [32]) (ls.map S)).cps.toList = TL.joinL [32] ls := by rw [join_S]
  obtain ⟨h1, h2⟩ := joinL_ok ls
  rw [e]
  refine ⟨h1, fun c hc => ?_⟩
  rcases h2 c hc with z | ⟨l, hl, hcl⟩
  · omega
  · exact h l hl c hcl
theorem nc_uni (n : Nat) {l : List Nat} (h : Uni l) : Nc n (.str l) := nc_str n h
def psp_law_figures_in : PSp := fun as Q _ => ∃ l : List Nat, as = [.sh (.str l)] ∧ l.length ≤ 1000000 ∧ Uni l ∧ Q .sh (optD (figI l))
theorem ln_law_figures_in {as : List Ar} {Q : Md → D → Prop} {E : Nat → Prop} (h : psp_law_figures_in as Q E) : as.length = 1 := by obtain ⟨_, rfl, _⟩ := h; rfl
def t_law_figures_in (K : PySem.W.Frag) (c : Cl) : TS :=
  (tSeq (tIfS (tOr (tTest (tOp rLt (tCB rLenStr (tCons (tVar 0) tNil)) (tC (.int 1)))) (tOr (tTest (tOp rGt (tCB rLenStr (tCons (tVar 0) tNil)) (tC (.int 9)))) (tAnd (tTest (tOp rEq (tOp rIxS (tVar 0) (tC (.int 0))) (tC (.str "0")))) (tTest (tOp rNe (tVar 0) (tC (.str "0"))))))) (tRet (tC .non)) tNext)
  (tSeq (tAsg (tLc (iStr (tVar 0)) (gName 2) (tTest (tOp rNotInSign (tVar 2) (tC (.str "0123456789")))) (tVar 2) [2]) (gName 1))
  (tRet (tIf (tTest (tOp (rNeD K) (tVar 1) (tLst tNil))) (tC .non) (tCB rIntS (tCons (tVar 0) tNil))))))
def q_law_figures_in : QS :=
  (qSeq (qIfS (qOr (qTest (qOp pLt (qUn pLenS (qVar 0)) (qC (.int 1)))) (qOr (qTest (qOp pGt (qUn pLenS (qVar 0)) (qC (.int 9)))) (qAnd (qTest (qOp pEq (qOp pIxS (qVar 0) (qC (.int 0))) (qC (.str [48])))) (qTest (qOp pNe (qVar 0) (qC (.str [48]))))))) (qRet (qC .non)) qNext)
  (qSeq (qAsg (qLc (qiStr (qVar 0)) (qgName 2) (qTest (qOp pNotInSign (qVar 2) (qC (.str [48, 49, 50, 51, 52, 53, 54, 55, 56, 57])))) (qVar 2) [2]) 1)
  (qRet (qIf (qTest (qOp pNeD (qVar 1) (qLst qNil))) (qC .non) (qUn pIntS (qVar 0))))))
theorem sim_law_figures_in {K : PySem.W.Frag} {c : Cl} (t : Option Addr) (E : XK) (Ep : XP) : SimS K c t (fun _ => E) Ep (t_law_figures_in K c) q_law_figures_in :=
  (s_seq (s_ifS (s_or (s_test (s_op o_lt (s_cb1 (r := rLenStr) o_lenS (s_var 0)) (s_c fun _ => rfl))) (s_or (s_test (s_op o_gt (s_cb1 (r := rLenStr) o_lenS (s_var 0)) (s_c fun _ => rfl))) (s_and (s_test (s_op o_eq (s_op o_ixS (s_var 0) (s_c fun _ => rfl)) (s_c fun _ => (congrArg V.str (by decide +kernel : (PySem.Str.ofString "0") = S [48]))))) (s_test (s_op o_ne (s_var 0) (s_c fun _ => (congrArg V.str (by decide +kernel : (PySem.Str.ofString "0") = S [48])))))))) (s_ret (s_c fun _ => rfl)) s_next)
  (s_seq (s_asg (s_lc (si_str (s_var 0)) sg_name (by decide) (s_test (s_op o_notInSign (s_var 2) (s_c fun _ => (congrArg V.str (by decide +kernel : (PySem.Str.ofString "0123456789") = S [48, 49, 50, 51, 52, 53, 54, 55, 56, 57]))))) (s_var 2)))
  (s_ret (s_if (s_test (s_op o_neD (s_var 1) (s_lst s_nil))) (s_c fun _ => rfl) (s_cb1 (r := rIntS) o_intS (s_var 0))))))

theorem filt_takeT {α : Type} {f : α → Bool} {l : List α} {k : Nat} {x : α} (h : l[k]? = some x) : (l.take (k + 1)).filter f = (l.take k).filter f ++ (if f x = true then [x] else []) := by
  rw [take_snoc h, List.filter_append]
  congr 1
  by_cases z : f x = true
  · rw [if_pos z, List.filter_cons_of_pos z]; rfl
  · rw [if_neg z, List.filter_cons_of_neg z]; rfl
theorem pr_law_figures_in {as : List Ar} {Q : Md → D → Prop} {E : Nat → Prop} (h : psp_law_figures_in as Q E) : q_law_figures_in { nx := fun _ => Q .sh .non, rt := Q } (dstart 3 as) := by
  obtain ⟨l, rfl, hl, hu, q⟩ := h
  show q_law_figures_in _ [some (.sh (.str l)), none, none]
  unfold q_law_figures_in
  unfold figI at q
  refine h_seq1 (h_figtest rfl hl ?_)
  by_cases hb : figBad l = true
  · rw [if_pos hb] at q ⊢
    walk_at "go"
    exact q
  · rw [if_neg hb] at q ⊢
    obtain ⟨h0, h9⟩ := figBad_not hb
    walk_at "go"
    refine lc_inv (fun i acc => acc = ((l.take i).filter fun c => !decide (c ∈ FIG)).map fun c => D.str [c]) rfl (fun i d acc N hd hI hN => ?_) (fun acc hI => ?_)
    · subst hI
      obtain ⟨c, hc, rfl⟩ := map_at' hd
      have hfl : ((l.take i).filter fun c => !decide (c ∈ FIG)).length ≤ 9 := Nat.le_trans (List.length_filter_le _ _) (by rw [List.length_take]; omega)
      rw [filt_takeT hc] at hN
      walk_at "go"
      cases hx : decide (c ∈ FIG) with
      | true =>
        rw [hx] at hN
        walk_at "go"
        refine hN _ ?_
        rw [if_neg (by decide), List.append_nil]
      | false =>
        rw [hx] at hN
        walk_at "go"
        refine ⟨by rw [List.length_map]; omega, hN _ ?_⟩
        show _ = (((l.take i).filter fun c => !decide (c ∈ FIG)) ++ [c]).map fun c => D.str [c]
        rw [List.map_append]
        rfl
    · subst hI
      rw [List.length_map, List.take_length]
      have nc : Nc 1 (D.lst ((l.filter fun c => !decide (c ∈ FIG)).map fun c => D.str [c])) := nc_lst fun c hc => nc_uni 0 fun d hd => by
        rw [List.mem_singleton.mp hd]
        exact hu c (List.mem_filter.mp hc).1
      walk_at "go"
      refine h_neN nc (nc_nil 0) (by decide) (by decide) (fun e => ?_) (fun e => ?_)
      · have e2 := List.map_eq_nil_iff.mp (D.lst.inj e)
        have ha : l.all (fun c => decide (c ∈ FIG)) = true := List.all_eq_true.mpr fun c hc => by
          have := List.filter_eq_nil_iff.mp e2 c hc
          cases hd : decide (c ∈ FIG) with
          | true => rfl
          | false => rw [hd] at this; exact absurd rfl this
        rw [if_pos ha] at q
        walk_at "go"
        exact ⟨l, valF l, rfl, int_of (fun c hc => of_decide_eq_true (List.all_eq_true.mp ha c hc)) h0 h9, by omega, by decide, q⟩
      · have ha : ¬ l.all (fun c => decide (c ∈ FIG)) = true := fun z => e (by
          have : l.filter (fun c => !decide (c ∈ FIG)) = [] := List.filter_eq_nil_iff.mpr fun c hc => by
            have := List.all_eq_true.mp z c hc
            rw [this]
            decide
          rw [this]
          rfl)
        rw [if_neg ha] at q
        walk_at "go"
        exact q
theorem rd_law_figures_in {K : PySem.W.Frag} {c : Cl} {vs : List V} {H : Hp} {Q : VK} {E : XK} (h : lift K c psp_law_figures_in vs H Q E) : t_law_figures_in K c { nx := fun _ H' => Q .non H', rt := Q } (start ["word", "strange", "sign"] vs) H :=
  rd_of (ts := fun _ => t_law_figures_in K c) (qs := fun _ => q_law_figures_in) (fun t e ep => sim_law_figures_in t e ep) (fun as Qp Ep h => Nat.le_trans (Nat.le_of_eq (ln_law_figures_in h)) (by decide)) (fun as Qp Ep h => pr_law_figures_in h) h

def psp_law_turns_in : PSp := fun as Q _ => ∃ l : List Nat, as = [.sh (.str l)] ∧ l.length ≤ 100000 ∧ Uni l ∧ (∀ ns, readI l = some ns → Q .ow (.lst (ns.map .int))) ∧ (readI l = none → Q .sh .non)
theorem ln_law_turns_in {as : List Ar} {Q : Md → D → Prop} {E : Nat → Prop} (h : psp_law_turns_in as Q E) : as.length = 1 := by obtain ⟨_, rfl, _⟩ := h; rfl
def t_law_turns_in (K : PySem.W.Frag) (c : Cl) : TS :=
  (tSeq (tIfS (tTest (tOp rEq (tVar 0) (tC (.str "none")))) (tRet (tLst tNil)) tNext)
  (tSeq (tAsg (tLst tNil) (gName 1))
  (tSeq (tFor (iList K (tM1 rSplitC (tVar 0) (tC (.str " ")))) (gName 2)
  (tSeq (tAsg (tOp rEq (tSl rSlS (tVar 2) tNoPart (tPart (tC (.int 1)))) (tC (.str "-"))) (gName 3))
  (tSeq (tAsg (tCall (lift K c psp_law_figures_in) [] E0 (tCons (tSl rSlS (tVar 2) (tPart (tCB rInt1 (tCons (tVar 3) tNil))) tNoPart) tNil)) (gName 4))
  (tSeq (tIfS (tOr (tTest (tOp rIsNn (tVar 4) (tC .non))) (tAnd (tB (tVar 3)) (tTest (tOp rEq (tVar 4) (tC (.int 0)))))) (tRet (tC .non)) tNext)
  (tDrop (tBM K "list" rAppend (tVar 1) (tCons (tOp rMulW (tVar 4) (tOp (rIxL K) (tLst (tCons (tC (.int 1)) (tCons (tUn rNeg (tC (.int 1))) tNil))) (tCB rInt1 (tCons (tVar 3) tNil)))) tNil)))))))
  (tRet (tVar 1)))))
def q_law_turns_in : QS :=
  (qSeq (qIfS (qTest (qOp pEq (qVar 0) (qC (.str [110, 111, 110, 101])))) (qRet (qLst qNil)) qNext)
  (qSeq (qAsg (qLst qNil) 1)
  (qSeq (qFor (qiList (qSM pSplitC (qVar 0) (qC (.str [32])))) (qgName 2)
  (qSeq (qAsg (qOp pEq (qSl pSlS (qVar 2) qNoPart (qPart (qC (.int 1)))) (qC (.str [45]))) 3)
  (qSeq (qAsg (qCall psp_law_figures_in P0 (qCons (qSl pSlS (qVar 2) (qPart (qUn pInt1 (qVar 3))) qNoPart) qNil)) 4)
  (qSeq (qIfS (qOr (qTest (qOp pIsN (qVar 4) (qC .non))) (qAnd (qTest (qVar 3)) (qTest (qOp pEq (qVar 4) (qC (.int 0)))))) (qRet (qC .non)) qNext)
  (qAppS 1 (qOp pMulW (qVar 4) (qOp pIxL (qLst (qCons (qC (.int 1)) (qCons (qUn pNeg (qC (.int 1))) qNil))) (qUn pInt1 (qVar 3)))))))))
  (qRetV 1))))
theorem sim_law_turns_in {K : PySem.W.Frag} {c : Cl} (t : Option Addr) (E : XK) (Ep : XP) : SimS K c t (fun _ => E) Ep (t_law_turns_in K c) q_law_turns_in :=
  (s_seq (s_ifS (s_test (s_op o_eq (s_var 0) (s_c fun _ => (congrArg V.str (by decide +kernel : (PySem.Str.ofString "none") = S [110, 111, 110, 101]))))) (s_ret (s_lst s_nil)) s_next)
  (s_seq (s_asg (s_lst s_nil))
  (s_seq (s_for (si_list (s_SM o_splitC (s_var 0) (s_c fun _ => (congrArg V.str (by decide +kernel : (PySem.Str.ofString " ") = S [32]))))) sg_name
  (s_seq (s_asg (s_op o_eq (s_sl o_slS (s_var 2) s_noPart (s_part (s_c fun _ => rfl))) (s_c fun _ => (congrArg V.str (by decide +kernel : (PySem.Str.ofString "-") = S [45])))))
  (s_seq (s_asg (s_call0 (s_cons (s_sl o_slS (s_var 2) (s_part (s_cb1 (r := rInt1) o_int1 (s_var 3))) s_noPart) s_nil)))
  (s_seq (s_ifS (s_or (s_test (s_op o_isN (s_var 4) (s_c fun _ => rfl))) (s_and (s_b (s_var 3)) (s_test (s_op o_eq (s_var 4) (s_c fun _ => rfl))))) (s_ret (s_c fun _ => rfl)) s_next)
  (s_app K (i := 1) (s_op o_mulW (s_var 4) (s_op o_ixL (s_lst (s_cons (s_c fun _ => rfl) (s_cons (s_un o_neg (s_c fun _ => rfl)) s_nil))) (s_cb1 (r := rInt1) o_int1 (s_var 3)))))))))
  (s_retV (i := 1)))))

theorem pr_law_turns_in {as : List Ar} {Q : Md → D → Prop} {E : Nat → Prop} (h : psp_law_turns_in as Q E) : q_law_turns_in { nx := fun _ => Q .sh .non, rt := Q } (dstart 5 as) := by
  obtain ⟨l, rfl, hl, hu, q, q'⟩ := h
  show q_law_turns_in _ [some (.sh (.str l)), none, none, none, none]
  unfold q_law_turns_in
  unfold readI at q q'
  walk_at "go"
  by_cases hn : l = [110, 111, 110, 101]
  · rw [decide_eq_true hn]
    walk_at "go"
    exact q [] (by rw [if_pos hn])
  · rw [decide_eq_false hn]
    obtain ⟨s1, s2, _, _⟩ := splB_ok l
    have su := splB_uni hu
    rw [if_neg hn] at q q'
    walk_at "go"
    refine ⟨⟨_, rfl⟩, ?_⟩
    walk_at "go"
    refine h_splitC (by omega) ?_
    walk_at "go"
    refine loop_inv (fun i δ => ∃ ns : List Int, ((splB l).take i).map turnI = ns.map some ∧ ∃ (v2 v3 v4 : Option SV), δ = [some (.sh (.str l)), some (.ow (.lst (ns.map .int))), v2, v3, v4]) ⟨[], rfl, _, _, _, rfl⟩ (fun i d δ' N hd hI hN => ?_) (fun δ' hI => ?_)
    · obtain ⟨ns, hns, v2, v3, v4, rfl⟩ := hI
      obtain ⟨w, hw, rfl⟩ := map_at' hd
      have hwl := s2 w (List.mem_of_getElem? hw)
      have hwu := su w (List.mem_of_getElem? hw)
      have hil : i < (splB l).length := (List.getElem?_eq_some_iff.mp hw).1
      have hnl : ns.length ≤ 100001 := by
        have := congrArg List.length hns
        rw [List.length_map, List.length_map, List.length_take] at this
        omega
      have hnone : turnI w = none → allSome ((splB l).map turnI) = none := fun h => allSome_none (i := i) (by rw [List.getElem?_map, hw]; exact congrArg some h)
      have hsome : ∀ z, turnI w = some z → ((splB l).take (i + 1)).map turnI = (ns ++ [z]).map some := fun z h => by
        rw [take_snoc hw, List.map_append, hns, List.map_append, List.map_cons, List.map_nil, h]; rfl
      unfold turnI at hnone hsome
      walk_at "go"
      refine h_slS (by omega) ?_
      rw [cut_to w (show (0 : Int) ≤ 1 by decide)]
      walk_at "go"
      by_cases hb : w.take 1 = [45]
      · rw [if_pos hb] at hnone hsome
        rw [decide_eq_true (show w.take (1 : Int).toNat = [45] from hb)]
        refine h_slS (by omega) ?_
        rw [cut_from w (show (0 : Int) ≤ (if true = true then 1 else 0) by decide)]
        walk_at "go"
        refine ⟨w.drop 1, rfl, by rw [List.length_drop]; omega, uni_drop hwu 1, ?_⟩
        cases hf : figI (w.drop 1) with
        | none =>
          rw [hf] at hnone
          refine h_sc rfl ?_
          rw [show optD none = D.non from rfl]
          walk_at "go"
          rw [show isNon D.non = true from rfl]
          walk_at "go"
          exact q' (hnone rfl)
        | some z =>
          obtain ⟨z0, z1⟩ := figI_bd hf
          rw [hf] at hnone hsome
          refine h_sc rfl ?_
          rw [show optD (some z) = D.int z from rfl]
          walk_at "go"
          rw [show isNon (D.int z) = false from rfl]
          walk_at "go"
          by_cases hz : z = 0
          · rw [decide_eq_true hz]
            walk_at "go"
            exact q' (hnone (if_pos hz))
          · rw [decide_eq_false hz]
            walk_at "go"
            refine h_appE rfl ?_
            walk_at "go"
            refine h_ixL (d := .int (-1)) rfl ?_
            refine h_I (cm (by omega) (by omega) (by omega) (by omega)) ?_
            refine h_appK rfl (by decide) (by rw [List.length_map]; omega) ?_
            refine hN _ ⟨ns ++ [0 - z], hsome (0 - z) (if_neg hz), ?_⟩
            rw [List.map_append, show z * -1 = 0 - z by omega]
            exact ⟨_, _, _, rfl⟩
      · rw [if_neg hb] at hnone hsome
        rw [decide_eq_false (show ¬ w.take (1 : Int).toNat = [45] from hb)]
        refine h_slS (by omega) ?_
        rw [cut_from w (show (0 : Int) ≤ (if false = true then 1 else 0) by decide)]
        walk_at "go"
        refine ⟨w, rfl, by omega, hwu, ?_⟩
        cases hf : figI w with
        | none =>
          refine h_sc rfl ?_
          rw [show optD none = D.non from rfl]
          walk_at "go"
          rw [show isNon D.non = true from rfl]
          walk_at "go"
          exact q' (hnone hf)
        | some z =>
          obtain ⟨z0, z1⟩ := figI_bd hf
          refine h_sc rfl ?_
          rw [show optD (some z) = D.int z from rfl]
          walk_at "go"
          rw [show isNon (D.int z) = false from rfl]
          walk_at "go"
          refine h_appE rfl ?_
          walk_at "go"
          refine h_ixL (d := .int 1) rfl ?_
          refine h_I (cm (by omega) (by omega) (by omega) (by omega)) ?_
          refine h_appK rfl (by decide) (by rw [List.length_map]; omega) ?_
          refine hN _ ⟨ns ++ [z], hsome z hf, ?_⟩
          rw [List.map_append, show z * 1 = z by omega]
          exact ⟨_, _, _, rfl⟩
    · obtain ⟨ns, hns, v2, v3, v4, rfl⟩ := hI
      rw [List.length_map, List.take_length] at hns
      walk_at "go"
      exact q ns (by rw [hns, allSome_map])
theorem rd_law_turns_in {K : PySem.W.Frag} {c : Cl} {vs : List V} {H : Hp} {Q : VK} {E : XK} (h : lift K c psp_law_turns_in vs H Q E) : t_law_turns_in K c { nx := fun _ H' => Q .non H', rt := Q } (start ["text", "found", "word", "back", "number"] vs) H :=
  rd_of (ts := fun _ => t_law_turns_in K c) (qs := fun _ => q_law_turns_in) (fun t e ep => sim_law_turns_in t e ep) (fun as Qp Ep h => Nat.le_trans (Nat.le_of_eq (ln_law_turns_in h)) (by decide)) (fun as Qp Ep h => pr_law_turns_in h) h

def psp_law_read : PSp := fun as Q _ => ∃ d : D, as = [.sh d] ∧ ((∃ l : List Nat, d = .str l ∧ l.length ≤ 100000 ∧ (∀ ns, readI l = some ns → Q .ot (.tup [.lst (ns.map .int), .str []])) ∧ (readI l = none → Q .sh (.tup [.non, .str (kn 9)]))) ∨ (nonStr d ∧ Q .sh (.tup [.non, .str (kn 9)])))
theorem ln_law_read {as : List Ar} {Q : Md → D → Prop} {E : Nat → Prop} (h : psp_law_read as Q E) : as.length = 1 := by obtain ⟨_, rfl, _⟩ := h; rfl
def t_law_read (K : PySem.W.Frag) (c : Cl) : TS :=
  (tSeq (tAsg (tC .non) (gName 1))
  (tSeq (tAsg (tC (.str "")) (gName 2))
  (tSeq (tTry K c.WheelError 3 (fun W => (tAsg (tCallS (lift K c psp_read_turns) (WE W) (tCons (tVar 0) tNil)) (gName 1))) (fun a cls d => (tAsg (tCallE (sp_law_kind K c) a cls d (tVar 3)) (gName 2))))
  (tRet (tTup (tCons (tVar 1) (tCons (tVar 2) tNil)))))))
def q_law_read : QS :=
  (qSeq (qAsg (qC .non) 1)
  (qSeq (qAsg (qC (.str [])) 2)
  (qSeq (qTry Rz 3 2 (fun Ep => (qAsg (qCall psp_read_turns Ep (qCons (qVar 0) qNil)) 1)))
  (qRetP 1 2))))
theorem sim_law_read {K : PySem.W.Frag} {c : Cl} (X : Rx K c) (t : Option Addr) (E : XK) (Ep : XP) : SimS K c t (fun _ => E) Ep (t_law_read K c) q_law_read :=
  (s_seq (s_asg (s_c fun _ => rfl))
  (s_seq (s_asg (s_c fun _ => (congrArg V.str (by decide +kernel : (PySem.Str.ofString "") = S []))))
  (s_seq (s_try X (fun W Ep => (s_asg (s_callS (s_cons (s_var 0) s_nil)))) (by decide))
  (s_retP (i := 1) (j := 2)))))

theorem pr_law_read {as : List Ar} {Q : Md → D → Prop} {E : Nat → Prop} (h : psp_law_read as Q E) : q_law_read { nx := fun _ => Q .sh .non, rt := Q } (dstart 4 as) := by
  obtain ⟨d, rfl, h⟩ := h
  show q_law_read _ [some (.sh d), none, none, none]
  unfold q_law_read
  walk_at "go"
  refine h_seq ?_
  unfold qTry
  walk_at "go"
  rcases h with ⟨l, rfl, hl, q1, q2⟩ | ⟨hd, q2⟩
  · refine ⟨.str l, rfl, .inl ⟨l, rfl, hl, fun ns hns => h_np rfl ?_, fun hn => ⟨by decide, Nat.lt_of_lt_of_le (Nat.lt_succ_self 3) (Nat.le_of_eq rfl), ?_⟩⟩⟩
    · walk_at "go"
      exact q1 ns hns
    · exact h_retPS rfl rfl (q2 hn)
  · refine ⟨d, rfl, .inr ⟨hd, ⟨by decide, Nat.lt_of_lt_of_le (Nat.lt_succ_self 3) (Nat.le_of_eq rfl), ?_⟩⟩⟩
    exact h_retPS rfl rfl q2
theorem rd_law_read {K : PySem.W.Frag} {c : Cl} (X : Rx K c) {vs : List V} {H : Hp} {Q : VK} {E : XK} (h : lift K c psp_law_read vs H Q E) : t_law_read K c { nx := fun _ H' => Q .non H', rt := Q } (start ["text", "found", "kind", "e"] vs) H :=
  rd_of (ts := fun _ => t_law_read K c) (qs := fun _ => q_law_read) (fun t e ep => sim_law_read X t e ep) (fun as Qp Ep h => Nat.le_trans (Nat.le_of_eq (ln_law_read h)) (by decide)) (fun as Qp Ep h => pr_law_read h) h

def psp_law_right : PSp := fun as Q _ => ∃ d : D, as = [.sh d] ∧ ((∃ l : List Nat, d = .str l ∧ l.length ≤ 100000 ∧ Uni l) ∨ nonStr d) ∧ Q .sh (.bl true)
theorem ln_law_right {as : List Ar} {Q : Md → D → Prop} {E : Nat → Prop} (h : psp_law_right as Q E) : as.length = 1 := by obtain ⟨_, rfl, _⟩ := h; rfl
def t_law_right (K : PySem.W.Frag) (c : Cl) : TS :=
  (tSeq (tAsg (tIf (tB (tCB (rIsi K) (tCons (tVar 0) (tCons (tC (.ty "str")) tNil)))) (tCall (lift K c psp_law_turns_in) [] E0 (tCons (tVar 0) tNil)) (tC .non)) (gName 1))
  (tSeq (tAsg (tCall (lift K c psp_law_read) [] E0 (tCons (tVar 0) tNil)) (gTup K 2 (gCons (gName 2) (gCons (gName 3) gNil))))
  (tSeq (tIfS (tTest (tOp rIsNn (tVar 1) (tC .non))) (tRet (tAndV (tOp rIsNn (tVar 2) (tC .non)) (tOp rEq (tVar 3) (tC (.str "NoText+"))))) tNext)
  (tSeq (tIfS (tOr (tTest (tOp rNe (tVar 3) (tC (.str "")))) (tOr (tNot (tB (tCB (rIsi K) (tCons (tVar 2) (tCons (tC (.ty "list")) tNil))))) (tOr (tTest (tOp (rNeD K) (tVar 2) (tVar 1))) (tTest (tOp (rIn K false) (tC (.bl false)) (tLc (iList K (tVar 2)) (gName 4) tYes (tCall (lift K c psp_law_whole) [] E0 (tCons (tVar 4) tNil)) [4])))))) (tRet (tC (.bl false))) tNext)
  (tSeq (tDrop (tBM K "list" rAppend (tVar 2) (tCons (tC (.int 7)) tNil)))
  (tRet (tOp (rEqD K) (tCall (lift K c psp_read_turns) [] E0 (tCons (tVar 0) tNil)) (tVar 1))))))))
def q_law_right : QS :=
  (qSeq (qAsg (qIf (qTest (qUn (pIsi "str") (qVar 0))) (qCall psp_law_turns_in P0 (qCons (qVar 0) qNil)) (qC .non)) 1)
  (qSeq (qAsgP (qCall psp_law_read P0 (qCons (qVar 0) qNil)) 2 3)
  (qSeq (qIfS (qTest (qOp pIsN (qVar 1) (qC .non))) (qRet (qAndV (qOp pIsN (qVar 2) (qC .non)) (qOp pEq (qVar 3) (qC (.str [78, 111, 84, 101, 120, 116, 43]))))) qNext)
  (qSeq (qIfS (qOr (qTest (qOp pNe (qVar 3) (qC (.str [])))) (qOr (qNot (qTest (qUn (pIsi "list") (qVar 2)))) (qOr (qTest (qOp pNeD (qVar 2) (qVar 1))) (qTest (qOp (pInB false) (qC (.bl false)) (qLc (qiList (qVar 2)) (qgName 4) qYes (qCall psp_law_whole P0 (qCons (qVar 4) qNil)) [4])))))) (qRet (qC (.bl false))) qNext)
  (qSeq (qAppS 2 (qC (.int 7)))
  (qRet (qOp pEqD (qCall psp_read_turns P0 (qCons (qVar 0) qNil)) (qVar 1))))))))
theorem sim_law_right {K : PySem.W.Frag} {c : Cl} (t : Option Addr) (E : XK) (Ep : XP) : SimS K c t (fun _ => E) Ep (t_law_right K c) q_law_right :=
  (s_seq (s_asg (s_if (s_b (s_isi (s_var 0))) (s_call0 (s_cons (s_var 0) s_nil)) (s_c fun _ => rfl)))
  (s_seq (s_asgP (s_call0 (s_cons (s_var 0) s_nil)))
  (s_seq (s_ifS (s_test (s_op o_isN (s_var 1) (s_c fun _ => rfl))) (s_ret (s_andV (s_op o_isN (s_var 2) (s_c fun _ => rfl)) (s_op o_eq (s_var 3) (s_c fun _ => (congrArg V.str (by decide +kernel : (PySem.Str.ofString "NoText+") = S [78, 111, 84, 101, 120, 116, 43])))))) s_next)
  (s_seq (s_ifS (s_or (s_test (s_op o_ne (s_var 3) (s_c fun _ => (congrArg V.str (by decide +kernel : (PySem.Str.ofString "") = S []))))) (s_or (s_not (s_b (s_isi (s_var 2)))) (s_or (s_test (s_op o_neD (s_var 2) (s_var 1))) (s_test (s_op o_inB (s_c fun _ => rfl) (s_lc (si_list (s_var 2)) sg_name (by decide) s_yes (s_call0 (s_cons (s_var 4) s_nil)))))))) (s_ret (s_c fun _ => rfl)) s_next)
  (s_seq (s_app K (i := 2) (s_c fun _ => rfl))
  (s_ret (s_op o_eqD (s_call0 (s_cons (s_var 0) s_nil)) (s_var 1))))))))

theorem pr_law_right {as : List Ar} {Q : Md → D → Prop} {E : Nat → Prop} (h : psp_law_right as Q E) : q_law_right { nx := fun _ => Q .sh .non, rt := Q } (dstart 5 as) := by
  obtain ⟨d, rfl, hd, q⟩ := h
  show q_law_right _ [some (.sh d), none, none, none, none]
  unfold q_law_right
  rcases hd with ⟨l, rfl, hl, hu⟩ | ⟨h1, h2⟩
  · walk_at "gp"
    cases hr : readI l with
    | none =>
      refine ⟨l, rfl, hl, hu, (fun ns hns => by rw [hr] at hns; cases hns), fun _ => h_np rfl ?_⟩
      walk_at "gp"
      refine ⟨.str l, rfl, .inl ⟨l, rfl, hl, (fun ns hns => by rw [hr] at hns; cases hns), fun _ => h_np rfl ?_⟩⟩
      rw [kn9]
      walk_at "gp"
      refine ⟨_, _, rfl, ?_⟩
      walk_at "gp"
      rw [show isNon D.non = true from rfl]
      walk_at "gp"
      rw [show isNon D.non = true from rfl]
      walk_at "gp"
      rw [decide_eq_true (show ([78, 111, 84, 101, 120, 116, 43] : List Nat) = [78, 111, 84, 101, 120, 116, 43] from rfl)]
      exact q
    | some ns =>
      refine ⟨l, rfl, hl, hu, fun ns' hns => ?_, fun z => by rw [hr] at z; cases z⟩
      rw [hr] at hns
      cases hns
      refine h_np rfl ?_
      walk_at "gp"
      refine ⟨.str l, rfl, .inl ⟨l, rfl, hl, fun ns' hns => ?_, fun z => by rw [hr] at z; cases z⟩⟩
      rw [hr] at hns
      cases hns
      have hnl : ns.length ≤ 100001 := by
        unfold readI at hr
        by_cases hn : l = [110, 111, 110, 101]
        · rw [if_pos hn] at hr; cases hr; exact Nat.zero_le _
        · rw [if_neg hn] at hr
          rcases allSome_cases ((splB l).map turnI) with ⟨_, h2⟩ | ⟨_, ms, h2, h3⟩
          · rw [h2] at hr; cases hr
          · rw [h3] at hr
            cases hr
            have := congrArg List.length h2
            rw [List.length_map, List.length_map] at this
            have := (splB_ok l).1
            omega
      refine h_np rfl ?_
      walk_at "gp"
      rw [show isNon (D.lst (ns.map .int)) = false from rfl]
      walk_at "gp"
      rw [decide_eq_true (show ([] : List Nat) = [] from rfl)]
      walk_at "gp"
      refine h_neR (nc_ints 0 ns) (by decide) ?_
      walk_at "gp"
      refine lc_map (fun _ => .bl true) (by rw [List.length_map]; omega) (fun d K n hd hn hk => ?_) ?_
      · obtain ⟨t, _, rfl⟩ := List.mem_map.mp hd
        walk_at "gp"
        exact ⟨t, rfl, h_sc rfl ⟨by decide, hn, hk⟩⟩
      have eb : ((ns.map D.int).map fun _ => D.bl true) = (ns.map fun _ => true).map D.bl := by rw [List.map_map, List.map_map]; rfl
      rw [eb]
      refine h_noF (fun x hx => by obtain ⟨_, _, rfl⟩ := List.mem_map.mp hx; rfl) ?_
      walk_at "gp"
      refine h_appE rfl ?_
      walk_at "gp"
      refine h_appK rfl (by decide) (by rw [List.length_map]; omega) ?_
      walk_at "gp"
      refine ⟨.str l, rfl, .inl ⟨l, rfl, by omega, fun ns' hns => ?_, fun z => by rw [hr] at z; cases z⟩⟩
      rw [hr] at hns
      cases hns
      refine h_np rfl ?_
      walk_at "gp"
      refine h_eqR (nc_ints 0 ns) (by decide) ?_
      walk_at "gp"
      exact q
  · refine h_seqasg (h_ifE (h_test (h_un (h_varS rfl (h_isi h1 h2 (h_bl (iteF ?_)))))))
    walk_at "gp"
    refine ⟨d, rfl, .inr ⟨⟨h1, h2⟩, h_np rfl ?_⟩⟩
    rw [kn9]
    walk_at "gp"
    refine ⟨_, _, rfl, ?_⟩
    walk_at "gp"
    rw [show isNon D.non = true from rfl]
    walk_at "gp"
    rw [show isNon D.non = true from rfl]
    walk_at "gp"
    rw [decide_eq_true (show ([78, 111, 84, 101, 120, 116, 43] : List Nat) = [78, 111, 84, 101, 120, 116, 43] from rfl)]
    exact q
theorem rd_law_right {K : PySem.W.Frag} {c : Cl} {vs : List V} {H : Hp} {Q : VK} {E : XK} (h : lift K c psp_law_right vs H Q E) : t_law_right K c { nx := fun _ H' => Q .non H', rt := Q } (start ["text", "due", "found", "kind", "turn"] vs) H :=
  rd_of (ts := fun _ => t_law_right K c) (qs := fun _ => q_law_right) (fun t e ep => sim_law_right t e ep) (fun as Qp Ep h => Nat.le_trans (Nat.le_of_eq (ln_law_right h)) (by decide)) (fun as Qp Ep h => pr_law_right h) h

end Sw
end
section
local macro_rules | `(tactic| walk_at "go1") => `(tactic| first
  | with_reducible refine Sw.h_seqasg ?_
  | with_reducible refine Sw.h_op ?_
  | with_reducible refine Sw.h_varS rfl ?_
  | with_reducible refine Sw.h_varO rfl ?_
  | with_reducible refine Sw.h_c ?_
  | with_reducible refine Sw.h_I0 ?_
  | with_reducible refine Sw.h_cons ?_
  | with_reducible refine Sw.h_consT rfl ?_
  | with_reducible refine Sw.h_consC rfl ?_
  | with_reducible refine Sw.h_nil ?_
  | with_reducible refine Sw.h_call ?_
  | with_reducible refine Sw.h_un ?_
  | with_reducible refine Sw.h_test ?_
  | with_reducible refine Sw.h_bl ?_
  | with_reducible refine Sw.h_seqdrop ?_
  | with_reducible refine Sw.h_asS ?_
  | with_reducible refine Sw.h_asO ?_
  | with_reducible refine Sw.h_ne1 ?_
  | with_reducible refine Sw.h_ne2 ?_
  | with_reducible refine Sw.h_asg ?_
  | with_reducible refine Sw.h_drop ?_
  | with_reducible refine Sw.h_ret ?_
  | with_reducible refine Sw.h_retS rfl ?_
  | with_reducible refine Sw.h_retO rfl ?_
  | with_reducible refine Sw.h_retN ?_
  | with_reducible refine Sw.h_next ?_
  | with_reducible refine Sw.h_if ?_
  | with_reducible refine Sw.h_frzO rfl ?_
  | with_reducible refine Sw.h_frzS rfl ?_
  | with_reducible refine Sw.h_and ?_
  | with_reducible refine Sw.h_or ?_
  | with_reducible refine Sw.h_not ?_
  | with_reducible refine Sw.h_yes ?_
  | with_reducible refine Sw.h_andV ?_
  | with_reducible refine Sw.h_orV ?_
  | with_reducible refine Sw.h_notV ?_
  | with_reducible refine Sw.h_ifE ?_
  | with_reducible refine Sw.h_chain ?_
  | with_reducible refine Sw.h_lenC rfl ?_
  | with_reducible refine Sw.h_tup ?_
  | with_reducible refine Sw.h_lst ?_
  | with_reducible refine Sw.h_shs0 ?_
  | with_reducible refine Sw.h_shs1 ?_
  | with_reducible refine Sw.h_shs2 ?_
  | with_reducible refine Sw.h_shs3 ?_
  | with_reducible refine Sw.h_shs4 ?_
  | with_reducible refine Sw.h_sl ?_
  | with_reducible refine Sw.h_nopart ?_
  | with_reducible refine Sw.h_part ?_
  | with_reducible refine Sw.h_int ?_
  | with_reducible refine Sw.h_neg ?_
  | with_reducible refine Sw.h_S ?_
  | with_reducible refine Sw.h_inSign ?_
  | with_reducible refine Sw.h_notInSign ?_
  | with_reducible refine Sw.h_isN ?_
  | with_reducible refine Sw.h_notN ?_
  | with_reducible refine Sw.h_eq rfl ?_
  | with_reducible refine Sw.h_ne rfl ?_
  | with_reducible refine Sw.h_lenL ?_
  | with_reducible refine Sw.h_lenT ?_
  | with_reducible refine Sw.h_abs ?_
  | with_reducible refine Sw.h_max2 ?_
  | with_reducible refine Sw.h_min2 ?_
  | with_reducible refine Sw.h_int1b ?_
  | with_reducible refine Sw.h_sum ?_
  | with_reducible refine Sw.h_listOf ?_
  | with_reducible refine Sw.h_slL ?_
  | with_reducible refine Sw.h_slT ?_
  | with_reducible refine Sw.h_revL ?_
  | with_reducible refine Sw.h_newK ?_
  | with_reducible refine Sw.h_newT ?_
  | with_reducible refine Sw.h_seqfor ?_
  | with_reducible refine Sw.h_seqforD ?_
  | with_reducible refine Sw.h_dispT ?_
  | with_reducible refine Sw.h_LM ?_
  | with_reducible refine Sw.h_SM ?_
  | with_reducible refine Sw.h_for ?_
  | with_reducible refine Sw.h_iList ?_
  | with_reducible refine Sw.h_iTup ?_
  | with_reducible refine Sw.h_iStr ?_
  | with_reducible refine Sw.h_iR1 ?_
  | with_reducible refine Sw.h_iR2 ?_
  | with_reducible refine Sw.h_iR3 ?_
  | with_reducible refine Sw.h_iEnum ?_
  | with_reducible refine Sw.h_iZip ?_
  | with_reducible refine Sw.h_iZipS ?_
  | with_reducible refine Sw.h_iZipT ?_
  | with_reducible refine Sw.h_lcD ?_
  | with_reducible refine Sw.h_callDP ?_
  | with_reducible refine Sw.h_callD ?_
  | with_reducible refine Sw.h_consN ?_
  | with_reducible refine Sw.h_consO rfl ?_
  | with_reducible refine Sw.h_lcV ?_
  | with_reducible refine Sw.h_countS ?_
  | with_reducible refine Sw.h_retPO rfl rfl ?_
  | with_reducible refine Sw.h_retPS rfl rfl ?_
  | with_reducible refine Sw.h_asgP ?_
  | with_reducible refine Sw.h_seqasgP ?_
  | with_reducible refine Sw.h_pairO ?_
  | with_reducible refine Sw.h_pairS ?_
  | with_reducible refine Sw.h_lst1 ?_
  | with_reducible refine Sw.h_tup1 ?_
  | with_reducible refine Sw.h_str1 ?_
  | with_reducible refine Sw.h_lc ?_
  | with_reducible refine Sw.h_gN ?_
  | with_reducible refine Sw.h_gT rfl ?_
  | with_reducible refine Sw.h_gC ?_
  | with_reducible refine Sw.h_gE ?_
  | with_reducible refine Sw.h_asgG ?_
  | with_reducible refine Sw.h_forD ?_
  | with_reducible refine Sw.h_raise ?_
  | with_reducible refine Sw.h_seqasgG ?_
  | with_reducible refine Sw.h_seqfrzO rfl ?_
  | with_reducible refine Sw.h_seqfrzS rfl ?_
  | with_reducible refine Sw.h_isi rfl rfl ?_
  | with_reducible refine Sw.h_ixT rfl ?_
  | with_reducible refine Sw.h_seq1 ?_
  | with_reducible refine L2.iteT ?_ | with_reducible refine L2.iteF ?_ | with_reducible refine Sw.iteNT ?_ | with_reducible refine Sw.iteNF ?_ | refine Sw.h_np rfl ?_)
local macro_rules | `(tactic| walk_at "go") => `(tactic| repeat walk_at "go1")
local macro_rules | `(tactic| walk_at "sz") => `(tactic| first
  | omega
  | decide
  | (simp only [List.length_append, List.length_map, List.length_cons, List.length_nil, List.length_take, List.length_drop, List.length_reverse, List.length_set, List.length_replicate, List.length_range]; omega)
  | (refine Nat.le_trans (Sw.cut_len _ _ _) ?_; omega))
local macro_rules | `(tactic| walk_at "gx1") => `(tactic| first
  | walk_at "go1"
  | refine Sw.c_draw (by omega) (by omega) (fun _ _ _ => ?_)
  | refine Sw.c_letters (by omega) (by omega) (by omega) (by omega) (fun _ _ _ => ?_)
  | refine Sw.c_wheel (by omega) (by omega) (fun _ _ _ _ => ?_)
  | refine Sw.c_word (by walk_at "sz") (by walk_at "sz") (by omega) (by omega) (fun _ _ _ => ?_)
  | refine Sw.c_bent (by walk_at "sz") (by assumption) (fun _ _ _ => ?_)
  | refine Sw.c_lis_word (by walk_at "sz") (by assumption) ?_
  | refine Sw.h_sc rfl ?_
  | refine Sw.h_lenS (by walk_at "sz") ?_
  | refine Sw.h_slS (by walk_at "sz") ?_
  | refine Sw.h_addS (by walk_at "sz") ?_
  | refine Sw.h_I (by omega) ?_
  | refine Sw.h_I (Sw.cm (by omega) (by omega) (by omega) (by omega)) ?_
  | refine Sw.h_I (Sw.cd (by omega) (by omega)) ?_
  | refine Sw.h_I ⟨by decide, by decide, by decide⟩ ?_
  | refine Sw.h_gT rfl ?_
  | refine Sw.h_ixT rfl ?_
  | refine Sw.h_ixL rfl ?_
  | refine Sw.h_appE rfl ?_
  | refine Sw.h_appK rfl (by decide) (by walk_at "sz") ?_
  | refine Sw.h_setLE rfl ?_
  | refine Sw.h_putTE rfl ?_
  | refine Sw.h_putKE rfl ?_
  | refine Sw.h_tupOf ?_
  | refine Sw.h_listOfT ?_
  | refine Sw.h_orS ?_
  | refine And.intro (by omega) (And.intro (by omega) ?_))
local macro_rules | `(tactic| walk_at "gx") => `(tactic| repeat walk_at "gx1")
local macro_rules | `(tactic| walk_at "gp1") => `(tactic| first
  | walk_at "go1"
  | with_reducible refine Sw.h_ixP0 ?_
  | with_reducible refine Sw.h_ixP1 ?_
  | with_reducible refine Sw.h_gP ?_)
local macro_rules | `(tactic| walk_at "gp") => `(tactic| repeat walk_at "gp1")
namespace Sw
open PySem PySem.Spec PyProof.Rows L2 SX
theorem sum_take_le : ∀ (l : List Nat) (n : Nat), (l.take n).sum ≤ l.sum
  | [], n => by simp
  | _ :: _, 0 => by simp
  | a :: l, n + 1 => by rw [List.take_succ_cons, List.sum_cons, List.sum_cons]; have := sum_take_le l n; omega
theorem sum_drop_le : ∀ (l : List Nat) (n : Nat), (l.drop n).sum ≤ l.sum
  | [], n => by simp
  | _ :: _, 0 => by simp
  | a :: l, n + 1 => by rw [List.drop_succ_cons, List.sum_cons]; have := sum_drop_le l n; omega
theorem rng_lenT (lo : Int) (n : Nat) : (rng lo n).length = n := by unfold rng; simp
def psp_law_spoilt : PSp := fun as Q _ => ∃ l : List Nat, as = [.sh (.str l), .tp] ∧ l.length ≤ 10000 ∧ Uni l ∧ ∀ l' : List Nat, l'.length ≤ 3 * l.length + 30 → Uni l' → Q .sh (.str l')
theorem ln_law_spoilt {as : List Ar} {Q : Md → D → Prop} {E : Nat → Prop} (h : psp_law_spoilt as Q E) : as.length = 2 := by obtain ⟨_, rfl, _⟩ := h; rfl
def t_law_spoilt (K : PySem.W.Frag) (c : Cl) : TS :=
  (tSeq (tIfS (tTest (tOp rEq (tCall (lift K c psp_law_draw) [] E0 (tCons (tVar 1) (tCons (tC (.int 2)) tNil))) (tC (.int 0)))) (tRet (tCall (lift K c psp_law_bent) [] E0 (tCons (tVar 0) (tCons (tVar 1) tNil)))) tNext)
  (tSeq (tAsg (tM1 rSplitC (tVar 0) (tC (.str " "))) (gName 2))
  (tSeq (tAsg (tCall (lift K c psp_law_draw) [] E0 (tCons (tVar 1) (tCons (tCB (rLenSq K) (tCons (tVar 2) tNil)) tNil))) (gName 3))
  (tSeq (tAsg (tLst (tCons (tC (.str "")) (tCons (tC (.str "-")) (tCons (tC (.str "-0")) (tCons (tC (.str "00")) (tCons (tC (.str "none")) (tCons (tC (.str "999999999")) (tCons (tC (.str "1000000000")) (tCons (tC (.str "-7")) (tCons (tC (.str "+1")) (tCons (tOp (rIxL K) (tVar 2) (tVar 3)) tNil))))))))))) (gName 4))
  (tSeq (tAsg (tOp (rIxL K) (tVar 4) (tCall (lift K c psp_law_draw) [] E0 (tCons (tVar 1) (tCons (tC (.int 10)) tNil)))) (gName 5))
  (tRet (tM1 (rJoin K) (tC (.str " ")) (tOp rCat (tOp rCat (tSl (rSlL K) (tVar 2) tNoPart (tPart (tVar 3))) (tSl (rSlL K) (tLst (tCons (tVar 5) tNil)) tNoPart (tPart (tCall (lift K c psp_law_draw) [] E0 (tCons (tVar 1) (tCons (tC (.int 3)) tNil)))))) (tSl (rSlL K) (tVar 2) (tPart (tOp rAdd (tVar 3) (tCall (lift K c psp_law_draw) [] E0 (tCons (tVar 1) (tCons (tC (.int 2)) tNil))))) tNoPart)))))))))
def q_law_spoilt : QS :=
  (qSeq (qIfS (qTest (qOp pEq (qCall psp_law_draw P0 (qConsT 1 (qCons (qC (.int 2)) qNil))) (qC (.int 0)))) (qRet (qCall psp_law_bent P0 (qCons (qVar 0) (qConsT 1 qNil)))) qNext)
  (qSeq (qAsg (qSM pSplitC (qVar 0) (qC (.str [32]))) 2)
  (qSeq (qAsg (qCall psp_law_draw P0 (qConsT 1 (qCons (qUn pLenL (qVar 2)) qNil))) 3)
  (qSeq (qAsg (qLst (qCons (qC (.str [])) (qCons (qC (.str [45])) (qCons (qC (.str [45, 48])) (qCons (qC (.str [48, 48])) (qCons (qC (.str [110, 111, 110, 101])) (qCons (qC (.str [57, 57, 57, 57, 57, 57, 57, 57, 57])) (qCons (qC (.str [49, 48, 48, 48, 48, 48, 48, 48, 48, 48])) (qCons (qC (.str [45, 55])) (qCons (qC (.str [43, 49])) (qCons (qOp pIxL (qVar 2) (qVar 3)) qNil))))))))))) 4)
  (qSeq (qAsg (qOp pIxL (qVar 4) (qCall psp_law_draw P0 (qConsT 1 (qCons (qC (.int 10)) qNil)))) 5)
  (qRet (qUn (pJoinC [32]) (qOp pCat (qOp pCat (qSl pSlL (qVar 2) qNoPart (qPart (qVar 3))) (qSl pSlL (qLst (qCons (qVar 5) qNil)) qNoPart (qPart (qCall psp_law_draw P0 (qConsT 1 (qCons (qC (.int 3)) qNil)))))) (qSl pSlL (qVar 2) (qPart (qOp pAdd (qVar 3) (qCall psp_law_draw P0 (qConsT 1 (qCons (qC (.int 2)) qNil))))) qNoPart)))))))))
theorem sim_law_spoilt {K : PySem.W.Frag} {c : Cl} (t : Option Addr) (E : XK) (Ep : XP) : SimS K c t (fun _ => E) Ep (t_law_spoilt K c) q_law_spoilt :=
  (s_seq (s_ifS (s_test (s_op o_eq (s_call0 (s_consT (s_cons (s_c fun _ => rfl) s_nil))) (s_c fun _ => rfl))) (s_ret (s_call0 (s_cons (s_var 0) (s_consT s_nil)))) s_next)
  (s_seq (s_asg (s_SM o_splitC (s_var 0) (s_c fun _ => (congrArg V.str (by decide +kernel : (PySem.Str.ofString " ") = S [32])))))
  (s_seq (s_asg (s_call0 (s_consT (s_cons (s_cb1 (r := (rLenSq K)) o_lenL (s_var 2)) s_nil))))
  (s_seq (s_asg (s_lst (s_cons (s_c fun _ => (congrArg V.str (by decide +kernel : (PySem.Str.ofString "") = S []))) (s_cons (s_c fun _ => (congrArg V.str (by decide +kernel : (PySem.Str.ofString "-") = S [45]))) (s_cons (s_c fun _ => (congrArg V.str (by decide +kernel : (PySem.Str.ofString "-0") = S [45, 48]))) (s_cons (s_c fun _ => (congrArg V.str (by decide +kernel : (PySem.Str.ofString "00") = S [48, 48]))) (s_cons (s_c fun _ => (congrArg V.str (by decide +kernel : (PySem.Str.ofString "none") = S [110, 111, 110, 101]))) (s_cons (s_c fun _ => (congrArg V.str (by decide +kernel : (PySem.Str.ofString "999999999") = S [57, 57, 57, 57, 57, 57, 57, 57, 57]))) (s_cons (s_c fun _ => (congrArg V.str (by decide +kernel : (PySem.Str.ofString "1000000000") = S [49, 48, 48, 48, 48, 48, 48, 48, 48, 48]))) (s_cons (s_c fun _ => (congrArg V.str (by decide +kernel : (PySem.Str.ofString "-7") = S [45, 55]))) (s_cons (s_c fun _ => (congrArg V.str (by decide +kernel : (PySem.Str.ofString "+1") = S [43, 49]))) (s_cons (s_op o_ixL (s_var 2) (s_var 3)) s_nil))))))))))))
  (s_seq (s_asg (s_op o_ixL (s_var 4) (s_call0 (s_consT (s_cons (s_c fun _ => rfl) s_nil)))))
  (s_ret (s_joinC (congrArg V.str (by decide +kernel : (PySem.Str.ofString " ") = S [32])) (s_op o_cat (s_op o_cat (s_sl o_slL (s_var 2) s_noPart (s_part (s_var 3))) (s_sl o_slL (s_lst (s_cons (s_var 5) s_nil)) s_noPart (s_part (s_call0 (s_consT (s_cons (s_c fun _ => rfl) s_nil)))))) (s_sl o_slL (s_var 2) (s_part (s_op o_add (s_var 3) (s_call0 (s_consT (s_cons (s_c fun _ => rfl) s_nil))))) s_noPart)))))))))

theorem pr_law_spoilt {as : List Ar} {Q : Md → D → Prop} {E : Nat → Prop} (h : psp_law_spoilt as Q E) : q_law_spoilt { nx := fun _ => Q .sh .non, rt := Q } (dstart 6 as) := by
  obtain ⟨l, rfl, hl, hu, q⟩ := h
  show q_law_spoilt _ [some (.sh (.str l)), some .tp, none, none, none, none]
  unfold q_law_spoilt
  walk_at "go"
  refine c_draw (by decide) (by decide) fun r r0 r1 => ?_
  walk_at "go"
  refine ite_p (fun _ => ?_) (fun _ => ?_)
  · walk_at "go"
    refine c_bent hl hu fun l' h1 h2 => ?_
    exact ⟨by decide, q l' (by omega) h2⟩
  · obtain ⟨s1, s2, s3, s4⟩ := splB_ok l
    have su := splB_uni hu
    walk_at "go"
    refine ⟨⟨_, rfl⟩, ?_⟩
    walk_at "go"
    refine h_splitC (by omega) ?_
    generalize splB l = ws at s1 s2 s3 s4 su
    have wn : 0 < ws.length := List.length_pos_iff.mpr s4
    walk_at "go"
    rw [List.length_map]
    refine c_draw (by omega) (by omega) fun a a0 a1 => ?_
    walk_at "go"
    obtain ⟨v, ev, hv, _⟩ := atI_of (xs := ws) a0 a1
    have evd : atI (ws.map D.str) a = some (.str v) := by rw [atI_map, ev]; rfl
    refine h_ixL evd ?_
    walk_at "go"
    refine ⟨[_, _, _, _, _, _, _, _, _, _], rfl, Nat.le_of_ble_eq_true rfl, ?_⟩
    walk_at "go"
    refine c_draw (by decide) (by decide) fun b b0 b1 => ?_
    have un : ∀ x : List Nat, (x.all fun c => decide (c < 128)) = true → Uni x := fun x hx c hc => of_decide_eq_true (List.all_eq_true.mp hx c hc)
    refine h_pick (fun d => ∃ w : List Nat, d = .str w ∧ w.length ≤ l.length + 10 ∧ Uni w) b0 b1 (all2 ⟨_, rfl, by show 0 ≤ _; omega, un _ rfl⟩ (all2 ⟨_, rfl, by show 1 ≤ _; omega, un _ rfl⟩ (all2 ⟨_, rfl, by show 2 ≤ _; omega, un _ rfl⟩ (all2 ⟨_, rfl, by show 2 ≤ _; omega, un _ rfl⟩ (all2 ⟨_, rfl, by show 4 ≤ _; omega, un _ rfl⟩ (all2 ⟨_, rfl, by show 9 ≤ _; omega, un _ rfl⟩ (all2 ⟨_, rfl, by show 10 ≤ _; omega, un _ rfl⟩ (all2 ⟨_, rfl, by show 2 ≤ _; omega, un _ rfl⟩ (all2 ⟨_, rfl, by show 2 ≤ _; omega, un _ rfl⟩ (all1 ⟨v, rfl, by have := s2 v hv; omega, su v hv⟩)))))))))) ?_
    rintro _ ⟨w, rfl, wl, wu⟩
    walk_at "go"
    refine c_draw (by decide) (by decide) fun x x0 x1 => ?_
    walk_at "go"
    rw [cut_to (ws.map D.str) a0, cut_to [D.str w] x0]
    refine h_cat (by rw [List.length_take, List.length_take, List.length_map]; show _ + min _ 1 ≤ _; omega) ?_
    walk_at "go"
    refine c_draw (by decide) (by decide) fun y y0 y1 => ?_
    walk_at "go"
    rw [cut_from (ws.map D.str) (show (0 : Int) ≤ a + y by omega)]
    refine h_cat (by rw [List.length_append, List.length_take, List.length_take, List.length_drop, List.length_map]; show _ + min _ 1 + _ ≤ _; omega) ?_
    have e : (ws.map D.str).take a.toNat ++ [D.str w].take x.toNat ++ (ws.map D.str).drop (a + y).toNat = (ws.take a.toNat ++ [w].take x.toNat ++ ws.drop (a + y).toNat).map D.str := by
      rw [List.map_append, List.map_append, List.map_take, List.map_take, List.map_drop]; rfl
    rw [e]
    have hparts : ∀ p ∈ ws.take a.toNat ++ [w].take x.toNat ++ ws.drop (a + y).toNat, Uni p := fun p hp => by
      rcases List.mem_append.mp hp with z | z
      · rcases List.mem_append.mp z with z | z
        · exact su p (List.mem_of_mem_take z)
        · rw [List.mem_singleton.mp (List.mem_of_mem_take z)]; exact wu
      · exact su p (List.mem_of_mem_drop z)
    have hsum : ((ws.take a.toNat ++ [w].take x.toNat ++ ws.drop (a + y).toNat).map (·.length)).sum + (ws.take a.toNat ++ [w].take x.toNat ++ ws.drop (a + y).toNat).length ≤ 3 * l.length + 20 := by
      rw [List.map_append, List.map_append, List.sum_append, List.sum_append, List.length_append, List.length_append, List.map_take, List.map_take, List.map_drop, List.length_take, List.length_take, List.length_drop]
      have h1 := sum_take_le (ws.map (·.length)) a.toNat
      have h2 := sum_drop_le (ws.map (·.length)) (a + y).toNat
      have h3 := sum_take_le ([w].map (·.length)) x.toNat
      have h4 : ([w].map (·.length)).sum = w.length := by show w.length + 0 = _; omega
      have h5 : [w].length = 1 := rfl
      omega
    obtain ⟨j1, j2⟩ := join_ok _ hparts
    generalize ws.take a.toNat ++ [w].take x.toNat ++ ws.drop (a + y).toNat = ps at hparts hsum j1 j2
    refine ⟨ps, .inl rfl, by show _ + ps.length * 1 ≤ _; omega, ?_⟩
    exact ⟨by decide, q _ (by omega) j2⟩
theorem rd_law_spoilt {K : PySem.W.Frag} {c : Cl} {vs : List V} {H : Hp} {Q : VK} {E : XK} (h : lift K c psp_law_spoilt vs H Q E) : t_law_spoilt K c { nx := fun _ H' => Q .non H', rt := Q } (start ["text", "draws", "words", "at", "some", "word"] vs) H :=
  rd_of (ts := fun _ => t_law_spoilt K c) (qs := fun _ => q_law_spoilt) (fun t e ep => sim_law_spoilt t e ep) (fun as Qp Ep h => Nat.le_trans (Nat.le_of_eq (ln_law_spoilt h)) (by decide)) (fun as Qp Ep h => pr_law_spoilt h) h

def Thing (d : D) : Prop := (∃ l : List Nat, d = .str l ∧ l.length ≤ 10 ∧ Uni l) ∨ nonStr d
def psp_law_thing : Nat → PSp
  | 0 => fun _ _ _ => False
  | n + 1 => fun as Q _ => ∃ deep : Int, as = [.tp, .sh (.int deep)] ∧ deep ≤ (n : Int) ∧ -100 ≤ deep ∧ deep ≤ 100 ∧ ∀ d, Thing d → Q .sh d
theorem psp0_law_thing (as : List Ar) (Q : Md → D → Prop) (E : Nat → Prop) (h : psp_law_thing 0 as Q E) : False := h
theorem ln_law_thing {n : Nat} {as : List Ar} {Q : Md → D → Prop} {E : Nat → Prop} (h : psp_law_thing (n + 1) as Q E) : as.length = 2 := by obtain ⟨_, rfl, _⟩ := h; rfl
def t_law_thing (K : PySem.W.Frag) (c : Cl) (n : Nat) : TS :=
  (tSeq (tAsg (tCall (lift K c psp_law_draw) [] E0 (tCons (tVar 0) (tCons (tC (.int 11)) tNil))) (gName 2))
  (tSeq (tIfS (tTest (tOp rLt (tVar 2) (tC (.int 3)))) (tRet (tOp (rIxL K) (tLst (tCons (tOp rSub (tCall (lift K c psp_law_draw) [] E0 (tCons (tVar 0) (tCons (tC (.int 9)) tNil))) (tC (.int 4))) (tCons (tOp rSub (tC (.int 0)) (tOp rPow (tC (.int 10)) (tC (.int 39)))) (tCons (tCall (lift K c psp_law_draw) [] E0 (tCons (tVar 0) (tCons (tOp rPow (tC (.int 10)) (tC (.int 9))) tNil))) tNil)))) (tVar 2))) tNext)
  (tSeq (tIfS (tTest (tOp rLt (tVar 2) (tC (.int 6)))) (tRet (tOp (rIxL K) (tLst (tCons (tC (.bl true)) (tCons (tC (.bl false)) (tCons (tC .non) tNil)))) (tOp rSub (tVar 2) (tC (.int 3))))) tNext)
  (tSeq (tIfS (tTest (tOp rLt (tVar 2) (tC (.int 9)))) (tRet (tCall (lift K c psp_law_letters) [] E0 (tCons (tVar 0) (tCons (tCall (lift K c psp_law_draw) [] E0 (tCons (tVar 0) (tCons (tC (.int 4)) tNil))) (tCons (tC (.int 3)) tNil))))) tNext)
  (tSeq (tAsg (tLc (iRng1 (tCons (tOp rMulW (tCall (lift K c psp_law_draw) [] E0 (tCons (tVar 0) (tCons (tC (.int 4)) tNil))) (tCB rInt1 (tCons (tOp rGt (tVar 1) (tC (.int 0))) tNil))) tNil)) (gName 4) tYes (tCall (lift K c (psp_law_thing n)) [] E0 (tCons (tVar 0) (tCons (tOp rSub (tVar 1) (tC (.int 1))) tNil))) [4]) (gName 3))
  (tRet (tIf (tTest (tOp rEq (tVar 2) (tC (.int 9)))) (tVar 3) (tCB (rTupleOf K) (tCons (tVar 3) tNil)))))))))
def q_law_thing (n : Nat) : QS :=
  (qSeq (qAsg (qCall psp_law_draw P0 (qConsT 0 (qCons (qC (.int 11)) qNil))) 2)
  (qSeq (qIfS (qTest (qOp pLt (qVar 2) (qC (.int 3)))) (qRet (qOp pIxL (qLst (qCons (qOp pSub (qCall psp_law_draw P0 (qConsT 0 (qCons (qC (.int 9)) qNil))) (qC (.int 4))) (qCons (qOp pSub (qC (.int 0)) (qOp pPow (qC (.int 10)) (qC (.int 39)))) (qCons (qCall psp_law_draw P0 (qConsT 0 (qCons (qOp pPow (qC (.int 10)) (qC (.int 9))) qNil))) qNil)))) (qVar 2))) qNext)
  (qSeq (qIfS (qTest (qOp pLt (qVar 2) (qC (.int 6)))) (qRet (qOp pIxL (qLst (qCons (qC (.bl true)) (qCons (qC (.bl false)) (qCons (qC .non) qNil)))) (qOp pSub (qVar 2) (qC (.int 3))))) qNext)
  (qSeq (qIfS (qTest (qOp pLt (qVar 2) (qC (.int 9)))) (qRet (qCall psp_law_letters P0 (qConsT 0 (qCons (qCall psp_law_draw P0 (qConsT 0 (qCons (qC (.int 4)) qNil))) (qCons (qC (.int 3)) qNil))))) qNext)
  (qSeq (qAsg (qLc (qiR1 (qOp pMulW (qCall psp_law_draw P0 (qConsT 0 (qCons (qC (.int 4)) qNil))) (qUn pInt1 (qOp pGt (qVar 1) (qC (.int 0)))))) (qgName 4) qYes (qCall (psp_law_thing n) P0 (qConsT 0 (qCons (qOp pSub (qVar 1) (qC (.int 1))) qNil))) [4]) 3)
  (qFrz 3 (qRet (qIf (qTest (qOp pEq (qVar 2) (qC (.int 9)))) (qVar 3) (qUn pTupOf (qVar 3))))))))))
theorem sim_law_thing {K : PySem.W.Frag} {c : Cl} {n : Nat} (t : Option Addr) (E : XK) (Ep : XP) : SimS K c t (fun _ => E) Ep (t_law_thing K c n) (q_law_thing n) :=
  (s_seq (s_asg (s_call0 (s_consT (s_cons (s_c fun _ => rfl) s_nil))))
  (s_seq (s_ifS (s_test (s_op o_lt (s_var 2) (s_c fun _ => rfl))) (s_ret (s_op o_ixL (s_lst (s_cons (s_op o_sub (s_call0 (s_consT (s_cons (s_c fun _ => rfl) s_nil))) (s_c fun _ => rfl)) (s_cons (s_op o_sub (s_c fun _ => rfl) (s_op o_pow (s_c fun _ => rfl) (s_c fun _ => rfl))) (s_cons (s_call0 (s_consT (s_cons (s_op o_pow (s_c fun _ => rfl) (s_c fun _ => rfl)) s_nil))) s_nil)))) (s_var 2))) s_next)
  (s_seq (s_ifS (s_test (s_op o_lt (s_var 2) (s_c fun _ => rfl))) (s_ret (s_op o_ixL (s_lst (s_cons (s_c fun _ => rfl) (s_cons (s_c fun _ => rfl) (s_cons (s_c fun _ => rfl) s_nil)))) (s_op o_sub (s_var 2) (s_c fun _ => rfl)))) s_next)
  (s_seq (s_ifS (s_test (s_op o_lt (s_var 2) (s_c fun _ => rfl))) (s_ret (s_call0 (s_consT (s_cons (s_call0 (s_consT (s_cons (s_c fun _ => rfl) s_nil))) (s_cons (s_c fun _ => rfl) s_nil))))) s_next)
  (s_seq (s_asg (s_lc (si_r1 (s_op o_mulW (s_call0 (s_consT (s_cons (s_c fun _ => rfl) s_nil))) (s_cb1 (r := rInt1) o_int1 (s_op o_gt (s_var 1) (s_c fun _ => rfl))))) sg_name (by decide) s_yes (s_call0 (s_consT (s_cons (s_op o_sub (s_var 1) (s_c fun _ => rfl)) s_nil)))))
  (s_frz (i := 3) (s_ret (s_if (s_test (s_op o_eq (s_var 2) (s_c fun _ => rfl))) (s_var 3) (s_cb1 (r := (rTupleOf K)) o_tupOf (s_var 3))))))))))

theorem pr_law_thing {n : Nat} {as : List Ar} {Q : Md → D → Prop} {E : Nat → Prop} (h : psp_law_thing (n + 1) as Q E) : q_law_thing n { nx := fun _ => Q .sh .non, rt := Q } (dstart 5 as) := by
  obtain ⟨deep, rfl, hdn, d0, d1, q⟩ := h
  show q_law_thing n _ [some .tp, some (.sh (.int deep)), none, none, none]
  unfold q_law_thing
  have qi : ∀ i : Int, Q .sh (.int i) := fun i => q _ (.inr ⟨rfl, rfl⟩)
  walk_at "go"
  refine c_draw (by decide) (by decide) fun k k0 k1 => ?_
  walk_at "go"
  refine ite_p (fun h3 => ?_) (fun h3 => ?_)
  · walk_at "go"
    refine c_draw (by decide) (by decide) fun a a0 a1 => ?_
    walk_at "go"
    refine h_I ⟨by decide, by decide, by decide⟩ ?_
    walk_at "go"
    refine h_I ⟨by decide, by decide, by decide⟩ ?_
    walk_at "go"
    refine c_draw (by decide) (by decide) fun b b0 b1 => ?_
    walk_at "go"
    refine h_pick (fun d => ∃ i : Int, d = .int i) k0 (by show k < 3; omega) (all2 ⟨_, rfl⟩ (all2 ⟨_, rfl⟩ (all1 ⟨_, rfl⟩))) ?_
    rintro _ ⟨i, rfl⟩
    exact ⟨by decide, qi i⟩
  · walk_at "go"
    refine ite_p (fun h6 => ?_) (fun h6 => ?_)
    · walk_at "go"
      refine h_pick (fun d => nonStr d) (by omega) (by show k - 3 < 3; omega) (all2 ⟨rfl, rfl⟩ (all2 ⟨rfl, rfl⟩ (all1 ⟨rfl, rfl⟩))) ?_
      intro d hd
      exact ⟨by decide, q d (.inr hd)⟩
    · walk_at "go"
      refine ite_p (fun h9 => ?_) (fun h9 => ?_)
      · walk_at "go"
        refine c_draw (by decide) (by decide) fun a a0 a1 => ?_
        walk_at "go"
        refine c_letters (by omega) (by omega) (by decide) (by decide) fun l hl low => ?_
        exact ⟨by decide, q _ (.inl ⟨l, rfl, by omega, low_asc low⟩)⟩
      · walk_at "go"
        refine c_draw (by decide) (by decide) fun a a0 a1 => ?_
        walk_at "go"
        refine h_I (cm (by omega) (by omega) (by split <;> decide) (by split <;> decide)) ?_
        have hcount : a * (if decide (deep > 0) = true then 1 else 0) ≤ 3 ∧ 0 ≤ a * (if decide (deep > 0) = true then 1 else 0) ∧ (0 < a * (if decide (deep > 0) = true then 1 else 0) → 0 < deep) := by
          by_cases hd : deep > 0
          · rw [decide_eq_true hd, if_pos rfl, Int.mul_one]; exact ⟨by omega, a0, fun _ => hd⟩
          · rw [decide_eq_false hd, if_neg (by decide), Int.mul_zero]; exact ⟨by decide, by decide, fun z => absurd z (by decide)⟩
        generalize a * (if decide (deep > 0) = true then 1 else 0) = cn at hcount
        obtain ⟨c3, c0, cd⟩ := hcount
        walk_at "go"
        refine ⟨by omega, by omega, ?_⟩
        refine lc_inv (fun j acc => acc.length = j) rfl (fun j d acc N hd hI hN => ?_) (fun acc hI => ?_)
        · obtain ⟨hj, rfl⟩ := rng_at hd
          have hdeep := cd (by omega)
          cases n with
          | zero => exfalso; have : deep ≤ 0 := hdn; omega
          | succ m =>
            walk_at "go"
            refine ⟨deep - 1, rfl, by omega, by omega, by omega, fun d _ => h_np rfl ?_⟩
            exact ⟨by decide, by omega, hN _ (by rw [List.length_append, hI]; rfl)⟩
        · rw [List.length_map, rng_lenT] at hI
          walk_at "go"
          by_cases hk9 : k = 9
          · rw [decide_eq_true hk9]
            walk_at "go"
            exact q _ (.inr ⟨rfl, rfl⟩)
          · rw [decide_eq_false hk9]
            walk_at "go"
            refine h_tupOf ?_
            walk_at "go"
            exact q _ (.inr ⟨rfl, rfl⟩)
theorem rd_law_thing {K : PySem.W.Frag} {c : Cl} {n : Nat} {vs : List V} {H : Hp} {Q : VK} {E : XK} (h : lift K c (psp_law_thing (n + 1)) vs H Q E) : t_law_thing K c n { nx := fun _ H' => Q .non H', rt := Q } (start ["draws", "deep", "kind", "some", "k"] vs) H :=
  rd_of (ts := fun _ => t_law_thing K c n) (qs := fun _ => q_law_thing n) (fun t e ep => sim_law_thing t e ep) (fun as Qp Ep h => Nat.le_trans (Nat.le_of_eq (ln_law_thing h)) (by decide)) (fun as Qp Ep h => pr_law_thing h) h

theorem ten9 : (10 : Int) ^ 9 = 1000000000 := by decide
def t_law (K : PySem.W.Frag) (c : Cl) : TS :=
  (tSeq (tFor (iRng1 (tCons (tCB rMax2 (tCons (tC (.int 1)) (tCons (tCB rMin2 (tCons (tC (.int 16)) (tCons (tCB (rLenSq K) (tCons (tVar 0) tNil)) tNil))) tNil))) tNil)) (gName 1)
  (tSeq (tAsg (tCall (lift K c psp_law_draws) [] E0 (tCons (tVar 0) (tCons (tVar 1) tNil))) (gName 2))
  (tSeq (tAsg (tLst tNil) (gName 3))
  (tSeq (tFor (iRng1 (tCons (tOp (rIxL K) (tLst (tCons (tCall (lift K c psp_law_draw) [] E0 (tCons (tVar 2) (tCons (tC (.int 4)) tNil))) (tCons (tCall (lift K c psp_law_draw) [] E0 (tCons (tVar 2) (tCons (tC (.int 201)) tNil))) tNil))) (tCall (lift K c psp_law_draw) [] E0 (tCons (tVar 2) (tCons (tC (.int 2)) tNil)))) tNil)) (gName 4)
  (tSeq (tAsg (tOp rAdd (tOp rSub (tCall (lift K c psp_law_draw) [] E0 (tCons (tVar 2) (tCons (tOp rSub (tOp rMulW (tC (.int 2)) (tOp rPow (tC (.int 10)) (tC (.int 9)))) (tC (.int 1))) tNil))) (tOp rPow (tC (.int 10)) (tC (.int 9)))) (tC (.int 1))) (gName 5))
  (tDrop (tBM K "list" rAppend (tVar 3) (tCons (tOp (rIxL K) (tLst (tCons (tOp rSub (tCall (lift K c psp_law_draw) [] E0 (tCons (tVar 2) (tCons (tC (.int 60)) tNil))) (tC (.int 30))) (tCons (tVar 5) tNil))) (tOp rDivW (tCall (lift K c psp_law_draw) [] E0 (tCons (tVar 2) (tCons (tC (.int 4)) tNil))) (tC (.int 3)))) tNil)))))
  (tSeq (tAsg (tCB (rListOf K) (tCons (tVar 3) tNil)) (gName 6))
  (tSeq (tAsg (tCall (lift K c psp_show_turns) [] E0 (tCons (tVar 6) tNil)) (gName 7))
  (tSeq (tAsg (tOrT K (tM1 (rJoin K) (tC (.str " ")) (tLc (iList K (tVar 3)) (gName 8) tYes (tCB rStrI (tCons (tVar 8) tNil)) [8])) (tC (.str "none"))) (gName 9))
  (tSeq (tIfS (tOr (tNot (tB (tCB (rIsi K) (tCons (tVar 7) (tCons (tC (.ty "str")) tNil))))) (tOr (tTest (tOp rNe (tVar 7) (tVar 9))) (tOr (tTest (tOp (rNeD K) (tVar 6) (tVar 3))) (tNot (tB (tCall (lift K c psp_law_right) [] E0 (tCons (tVar 7) tNil))))))) (tRet (tC (.bl false))) tNext)
  (tSeq (tFor (iRng1 (tCons (tC (.int 2)) tNil)) (gName 8)
  (tSeq (tAsg (tCall (lift K c psp_law_spoilt) [] E0 (tCons (tVar 7) (tCons (tVar 2) tNil))) (gName 7))
  (tIfS (tNot (tB (tCall (lift K c psp_law_right) [] E0 (tCons (tVar 7) tNil)))) (tRet (tC (.bl false))) tNext)))
  (tIfS (tNot (tB (tCall (lift K c psp_law_right) [] E0 (tCons (tCall (lift K c (psp_law_thing 4)) [] E0 (tCons (tVar 2) (tCons (tC (.int 3)) tNil))) tNil)))) (tRet (tC (.bl false))) tNext))))))))))
  (tRet (tC (.bl true))))
def q_law : QS :=
  (qSeq (qFor (qiR1 (qOp pMax2 (qC (.int 1)) (qOp pMin2 (qC (.int 16)) (qLenC 0)))) (qgName 1)
  (qSeq (qAsg (qCall psp_law_draws P0 (qConsC 0 (qCons (qVar 1) qNil))) 2)
  (qMount 2 (qSeq (qAsg (qLst qNil) 3)
  (qSeq (qFor (qiR1 (qOp pIxL (qLst (qCons (qCall psp_law_draw P0 (qConsT 2 (qCons (qC (.int 4)) qNil))) (qCons (qCall psp_law_draw P0 (qConsT 2 (qCons (qC (.int 201)) qNil))) qNil))) (qCall psp_law_draw P0 (qConsT 2 (qCons (qC (.int 2)) qNil))))) (qgName 4)
  (qSeq (qAsg (qOp pAdd (qOp pSub (qCall psp_law_draw P0 (qConsT 2 (qCons (qOp pSub (qOp pMulW (qC (.int 2)) (qOp pPow (qC (.int 10)) (qC (.int 9)))) (qC (.int 1))) qNil))) (qOp pPow (qC (.int 10)) (qC (.int 9)))) (qC (.int 1))) 5)
  (qAppS 3 (qOp pIxL (qLst (qCons (qOp pSub (qCall psp_law_draw P0 (qConsT 2 (qCons (qC (.int 60)) qNil))) (qC (.int 30))) (qCons (qVar 5) qNil))) (qOp pDivW (qCall psp_law_draw P0 (qConsT 2 (qCons (qC (.int 4)) qNil))) (qC (.int 3)))))))
  (qSeq (qAsg (qUn pListOf (qVar 3)) 6)
  (qSeq (qAsg (qCall psp_show_turns P0 (qCons (qVar 6) qNil)) 7)
  (qSeq (qAsg (qOrS (qUn (pJoinC [32]) (qLc (qiList (qVar 3)) (qgName 8) qYes (qUn pStrI (qVar 8)) [8])) (qC (.str [110, 111, 110, 101]))) 9)
  (qSeq (qIfS (qOr (qNot (qTest (qUn (pIsi "str") (qVar 7)))) (qOr (qTest (qOp pNe (qVar 7) (qVar 9))) (qOr (qTest (qOp pNeD (qVar 6) (qVar 3))) (qNot (qTest (qCall psp_law_right P0 (qCons (qVar 7) qNil))))))) (qRet (qC (.bl false))) qNext)
  (qSeq (qFor (qiR1 (qC (.int 2))) (qgName 8)
  (qSeq (qAsg (qCall psp_law_spoilt P0 (qCons (qVar 7) (qConsT 2 qNil))) 7)
  (qIfS (qNot (qTest (qCall psp_law_right P0 (qCons (qVar 7) qNil)))) (qRet (qC (.bl false))) qNext)))
  (qIfS (qNot (qTest (qCall psp_law_right P0 (qCons (qCall (psp_law_thing 4) P0 (qConsT 2 (qCons (qC (.int 3)) qNil))) qNil)))) (qRet (qC (.bl false))) qNext)))))))))))
  (qRet (qC (.bl true))))
theorem sim_law {K : PySem.W.Frag} {c : Cl} : SimF K (t_law K c) q_law :=
  (f_seq (f_for c (fun _ _ _ => (si_r1 (s_cb2 (r := rMax2) o_max2 (s_c fun _ => rfl) (s_cb2 (r := rMin2) o_min2 (s_c fun _ => rfl) (s_lenC K))))) (fun _ => sg_name)
  (f_seq (SimF.of c fun _ _ _ => (s_asg (s_call0 (s_consC (s_cons (s_var 1) s_nil)))))
  (f_mount (i := 2) (SimF.of c fun _ _ _ => (s_seq (s_asg (s_lst s_nil))
  (s_seq (s_for (si_r1 (s_op o_ixL (s_lst (s_cons (s_call0 (s_consT (s_cons (s_c fun _ => rfl) s_nil))) (s_cons (s_call0 (s_consT (s_cons (s_c fun _ => rfl) s_nil))) s_nil))) (s_call0 (s_consT (s_cons (s_c fun _ => rfl) s_nil))))) sg_name
  (s_seq (s_asg (s_op o_add (s_op o_sub (s_call0 (s_consT (s_cons (s_op o_sub (s_op o_mulW (s_c fun _ => rfl) (s_op o_pow (s_c fun _ => rfl) (s_c fun _ => rfl))) (s_c fun _ => rfl)) s_nil))) (s_op o_pow (s_c fun _ => rfl) (s_c fun _ => rfl))) (s_c fun _ => rfl)))
  (s_app K (i := 3) (s_op o_ixL (s_lst (s_cons (s_op o_sub (s_call0 (s_consT (s_cons (s_c fun _ => rfl) s_nil))) (s_c fun _ => rfl)) (s_cons (s_var 5) s_nil))) (s_op o_divW (s_call0 (s_consT (s_cons (s_c fun _ => rfl) s_nil))) (s_c fun _ => rfl))))))
  (s_seq (s_asg (s_cb1 (r := (rListOf K)) o_listOf (s_var 3)))
  (s_seq (s_asg (s_call0 (s_cons (s_var 6) s_nil)))
  (s_seq (s_asg (s_orS (s_joinC (congrArg V.str (by decide +kernel : (PySem.Str.ofString " ") = S [32])) (s_lc (si_list (s_var 3)) sg_name (by decide) s_yes (s_cb1 (r := rStrI) o_strI (s_var 8)))) (s_c fun _ => (congrArg V.str (by decide +kernel : (PySem.Str.ofString "none") = S [110, 111, 110, 101])))))
  (s_seq (s_ifS (s_or (s_not (s_b (s_isi (s_var 7)))) (s_or (s_test (s_op o_ne (s_var 7) (s_var 9))) (s_or (s_test (s_op o_neD (s_var 6) (s_var 3))) (s_not (s_b (s_call0 (s_cons (s_var 7) s_nil))))))) (s_ret (s_c fun _ => rfl)) s_next)
  (s_seq (s_for (si_r1 (s_c fun _ => rfl)) sg_name
  (s_seq (s_asg (s_call0 (s_cons (s_var 7) (s_consT s_nil))))
  (s_ifS (s_not (s_b (s_call0 (s_cons (s_var 7) s_nil)))) (s_ret (s_c fun _ => rfl)) s_next)))
  (s_ifS (s_not (s_b (s_call0 (s_cons (s_call0 (s_consT (s_cons (s_c fun _ => rfl) s_nil))) s_nil)))) (s_ret (s_c fun _ => rfl)) s_next))))))))))))
  (SimF.of c fun _ _ _ => (s_ret (s_c fun _ => rfl))))

set_option maxHeartbeats 2000000 in
theorem pr_law (ns : List Int) (hn : ns.length ≤ 63) : q_law { nx := fun _ => False, rt := fun m d => m = .sh ∧ d = .bl true } (dstart 10 [.sc ns]) := by
  show q_law _ [some (.sc ns), none, none, none, none, none, none, none, none, none]
  unfold q_law
  walk_at "gp"
  have hm : (if (if (ns.length : Int) < 16 then (ns.length : Int) else 16) > 1 then (if (ns.length : Int) < 16 then (ns.length : Int) else 16) else 1) ≤ 16 ∧ 1 ≤ (if (if (ns.length : Int) < 16 then (ns.length : Int) else 16) > 1 then (if (ns.length : Int) < 16 then (ns.length : Int) else 16) else 1) := by split <;> split <;> omega
  generalize (if (if (ns.length : Int) < 16 then (ns.length : Int) else 16) > 1 then (if (ns.length : Int) < 16 then (ns.length : Int) else 16) else 1) = m at hm
  refine ⟨by omega, by omega, h_ne1 ?_⟩
  refine loop_inv (fun i δ => ∃ (v1 v2 v3 v4 v5 v6 v7 v8 v9 : Option SV), δ = [some (.sc ns), v1, v2, v3, v4, v5, v6, v7, v8, v9]) ⟨_, _, _, _, _, _, _, _, _, rfl⟩ (fun i d δ' N hd hI hN => ?_) (fun δ' hI => ?_)
  · obtain ⟨v1, v2, v3, v4, v5, v6, v7, v8, v9, rfl⟩ := hI
    obtain ⟨hi, rfl⟩ := rng_at hd
    walk_at "gp"
    refine ⟨ns, _, rfl, hn, by omega, by omega, h_np rfl ?_⟩
    walk_at "gp"
    refine ⟨rfl, ?_⟩
    show qSeq _ _ _ [some (.sc ns), some (.sh (.int (0 + (i : Int)))), some .tp, _, _, _, _, _, _, _]
    walk_at "gp"
    refine c_draw (by decide) (by decide) fun a a0 a1 => ?_
    walk_at "gp"
    refine c_draw (by decide) (by decide) fun b b0 b1 => ?_
    walk_at "gp"
    refine c_draw (by decide) (by decide) fun r r0 r1 => ?_
    refine h_pick (fun d => ∃ z : Int, d = .int z ∧ 0 ≤ z ∧ z ≤ 200) r0 r1 (all2 ⟨_, rfl, a0, by omega⟩ (all1 ⟨_, rfl, b0, by omega⟩)) ?_
    rintro _ ⟨many, rfl, m0, m1⟩
    refine ⟨many, rfl, by omega, by omega, h_ne1 ?_⟩
    refine loop_inv (fun j δ => ∃ ts : List Int, ts.length = j ∧ (∀ t ∈ ts, -(10 ^ 9) < t ∧ t < 10 ^ 9) ∧ ∃ (v1 v4 v5 v6 v7 v8 v9 : Option SV), δ = [some (.sc ns), v1, some (.tp), some (.ow (.lst (ts.map .int))), v4, v5, v6, v7, v8, v9]) ⟨[], rfl, (fun _ h => nomatch h), _, _, _, _, _, _, _, rfl⟩ (fun j d δ' N2 hd hI hN2 => ?_) (fun δ' hI => ?_)
    · obtain ⟨ts, hts, hb, v1, v4, v5, v6, v7, v8, v9, rfl⟩ := hI
      obtain ⟨hj, rfl⟩ := rng_at hd
      walk_at "gp"
      refine h_I ⟨by decide, by decide, by decide⟩ ?_
      walk_at "gp"
      refine h_I (cm (by decide) (by decide) (by decide) (by decide)) ?_
      walk_at "gp"
      refine c_draw (by decide) (by decide) fun g g0 g1 => ?_
      walk_at "gp"
      refine h_I ⟨by decide, by decide, by decide⟩ ?_
      walk_at "gp"
      refine h_appE rfl ?_
      walk_at "gp"
      refine c_draw (by decide) (by decide) fun x x0 x1 => ?_
      walk_at "gp"
      refine c_draw (by decide) (by decide) fun y y0 y1 => ?_
      walk_at "gp"
      refine h_I (cd (by decide) (by decide)) ?_
      have g1' : g < 2 * 1000000000 - 1 := g1
      refine h_pick (fun d => ∃ t : Int, d = .int t ∧ -(10 ^ 9) < t ∧ t < 10 ^ 9) (by omega) (by show y / 3 < 2; omega) (all2 ⟨_, rfl, by rw [ten9]; omega, by rw [ten9]; omega⟩ (all1 ⟨_, rfl, by show -(10 ^ 9) < g - 1000000000 + 1; rw [ten9]; omega, by show g - 1000000000 + 1 < 10 ^ 9; rw [ten9]; omega⟩)) ?_
      rintro _ ⟨t, rfl, t0, t1⟩
      refine h_appK rfl (by decide) (by rw [List.length_map]; omega) ?_
      refine hN2 _ ⟨ts ++ [t], by rw [List.length_append, hts]; rfl, fun z hz => ?_, ?_⟩
      · rcases List.mem_append.mp hz with e | e
        · exact hb z e
        · rw [List.mem_singleton.mp e]; exact ⟨t0, t1⟩
      · rw [List.map_append]
        exact ⟨_, _, _, _, _, _, _, rfl⟩
    obtain ⟨ts, hts, hb, v1, v4, v5, v6, v7, v8, v9, rfl⟩ := hI
    have tl : ts.length ≤ 200 := by rw [hts, List.length_map, rng_lenT]; omega
    clear hts
    have tk := fun t ht => txt_len (hb t ht).1 (hb t ht).2
    have hparts : ∀ p ∈ ts.map txtI, Uni p := fun p hp => by obtain ⟨t, _, rfl⟩ := List.mem_map.mp hp; exact uni_txt t
    have hsum : ((ts.map txtI).map (·.length)).sum ≤ ts.length * 10 := by
      have : ∀ l : List Int, (∀ t ∈ l, (txtI t).length ≤ 10) → ((l.map txtI).map (·.length)).sum ≤ l.length * 10 := by
        intro l
        induction l with
        | nil => intro _; exact Nat.le_refl _
        | cons t l ih =>
          intro h
          have h1 := ih fun z hz => h z (List.mem_cons_of_mem _ hz)
          have h2 := h t List.mem_cons_self
          rw [List.map_cons, List.map_cons, List.sum_cons, List.length_cons]
          omega
      exact this ts fun t ht => (tk t ht).1
    obtain ⟨j1, j2⟩ := join_ok (ts.map txtI) hparts
    rw [List.length_map] at j1
    have hshow : (showI ts).length ≤ 2400 ∧ Uni (showI ts) := by
      unfold showI
      split
      · exact ⟨by decide, by unfold Uni Asc; decide⟩
      · exact ⟨by omega, j2⟩
    have hor : ts.length ≠ 0 → (Txt.join (S [32]) ((ts.map txtI).map S)).cps.toList ≠ [] := fun h0 hz => by
      have e : (Txt.join (S [32]) ((ts.map txtI).map S)).cps.toList = TL.joinL [32] (ts.map txtI) := by rw [join_S]
      rw [e] at hz
      cases ts with
      | nil => exact h0 rfl
      | cons t l =>
        have ht := (tk t List.mem_cons_self).2.1
        cases l with
        | nil => exact ht hz
        | cons u l => exact ht (List.append_eq_nil_iff.mp hz).1
    walk_at "gp"
    refine ⟨ts, rfl, by omega, fun n hm => ⟨(tk n hm).2.2, by have := (tk n hm).1; omega⟩, by omega, h_sc rfl ?_⟩
    walk_at "gp"
    refine h_orS ?_
    walk_at "gp"
    refine lc_map stF (by rw [List.length_map]; omega) (fun d K n hd hn' hk => ?_) ?_
    · obtain ⟨t, ht, rfl⟩ := List.mem_map.mp hd
      walk_at "gp"
      refine h_strI (tk t ht).2.2 ?_
      exact ⟨by decide, hn', hk⟩
    rw [st_map]
    refine h_joinT (fun n hm => by have := (tk n hm).1; omega) (by omega) ?_
    refine ⟨_, rfl, by omega, ?_⟩
    have hdue : ∀ (δ : DS) (Q : Md → D → Prop), Q .sh (.str (showI ts)) → (if (Txt.join (S [32]) ((ts.map txtI).map S)).cps.toList = [] then qC (.str [110, 111, 110, 101]) δ Q else Q .sh (.str (Txt.join (S [32]) ((ts.map txtI).map S)).cps.toList)) := fun δ Q q => by
      unfold showI at q
      by_cases h0 : ts.length = 0
      · rw [if_pos h0] at q
        have : ts = [] := List.length_eq_zero_iff.mp h0
        subst this
        rw [if_pos (by rw [show (([] : List Int).map txtI).map S = [].map S from rfl, join_S]; rfl)]
        exact q
      · rw [if_neg h0] at q
        rw [if_neg (hor h0)]
        exact q
    refine hdue _ _ ?_
    obtain ⟨sl, su⟩ := hshow
    generalize showI ts = text at sl su
    walk_at "gp"
    rw [decide_eq_true (show text = text from rfl)]
    walk_at "gp"
    refine h_neR (nc_ints 0 ts) (by decide) ?_
    walk_at "gp"
    refine ⟨.str text, rfl, .inl ⟨text, rfl, by omega, su⟩, h_sc rfl ?_⟩
    walk_at "gp"
    refine ⟨by decide, by decide, h_ne1 ?_⟩
    refine loop_inv (fun j δ => ∃ text : List Nat, text.length ≤ (if j = 0 then 2400 else if j = 1 then 7300 else 22000) ∧ Uni text ∧ ∃ (v1 v3 v4 v5 v6 v8 v9 : Option SV), δ = [some (.sc ns), v1, some (.tp), v3, v4, v5, v6, some (.sh (.str text)), v8, v9]) ⟨text, by rw [if_pos rfl]; exact sl, su, _, _, _, _, _, _, _, rfl⟩ (fun j d δ' N2 hd hI hN2 => ?_) (fun δ' hI => ?_)
    · obtain ⟨text, tl2, tu, v1, v3, v4, v5, v6, v8, v9, rfl⟩ := hI
      obtain ⟨hj, rfl⟩ := rng_at hd
      have hj2 : j < 2 := hj
      have tl3 : text.length ≤ 7300 := by
        by_cases z : j = 0
        · rw [if_pos z] at tl2; omega
        · rw [if_neg z, if_pos (by omega)] at tl2; omega
      walk_at "gp"
      refine ⟨text, rfl, by omega, tu, fun l' h1 h2 => h_sc rfl ?_⟩
      walk_at "gp"
      refine ⟨.str l', rfl, .inl ⟨l', rfl, by omega, h2⟩, h_sc rfl ?_⟩
      walk_at "gp"
      refine hN2 _ ⟨l', ?_, h2, _, _, _, _, _, _, _, rfl⟩
      rw [if_neg (by omega)]
      by_cases z : j = 0
      · rw [if_pos z] at tl2
        rw [if_pos (by omega)]
        omega
      · rw [if_neg (by omega)]
        omega
    obtain ⟨text, tl2, tu, v1, v3, v4, v5, v6, v8, v9, rfl⟩ := hI
    walk_at "gp"
    refine ⟨3, rfl, by decide, by decide, by decide, fun d hd => h_np rfl ?_⟩
    walk_at "gp"
    refine ⟨d, rfl, ?_, h_sc rfl ?_⟩
    · rcases hd with ⟨l, rfl, h1, h2⟩ | hd
      · exact .inl ⟨l, rfl, by omega, h2⟩
      · exact .inr hd
    walk_at "gp"
    exact hN _ ⟨_, _, _, _, _, _, _, _, _, rfl⟩
  · obtain ⟨v1, v2, v3, v4, v5, v6, v7, v8, v9, rfl⟩ := hI
    walk_at "gp"
    exact ⟨rfl, rfl⟩
theorem rd_law {K : PySem.W.Frag} {c : Cl} {vs : List V} {H : Hp} {Q : VK} {E : XK} (h : sp_law K vs H Q E) : t_law K c { nx := fun _ H' => Q .non H', rt := Q } (start ["script", "k", "draws", "turns", "j", "great", "handed", "text", "turn", "due"] vs) H :=
  law_rd (N := ["script", "k", "draws", "turns", "j", "great", "handed", "text", "turn", "due"]) (sim_law) (by decide) (fun ns hn => pr_law ns hn) h

end Sw
end
namespace Sw
open PySem PySem.Spec PyProof.Rows L2 SX
def topS (i : Nat) : Stmt := PySem.Challenge.pw_strikewheel_k61_turns_written.main.body.getD i (.Pass ⟨0, 0, 0, 0⟩)
abbrev s_law_draws : Stmt := topS 30
abbrev s_law_draw : Stmt := topS 28
abbrev s_show_turns : Stmt := topS 21
abbrev s_law_figures_in : Stmt := topS 25
abbrev s_law_turns_in : Stmt := topS 26
abbrev s_law_kind : Stmt := topS 24
abbrev s_number_in : Stmt := topS 19
abbrev s_turn_in : Stmt := topS 20
abbrev s_read_turns : Stmt := topS 22
abbrev s_law_read : Stmt := topS 33
abbrev s_law_whole : Stmt := topS 27
abbrev s_law_right : Stmt := topS 34
abbrev s_law_bent : Stmt := topS 29
abbrev s_law_spoilt : Stmt := topS 35
abbrev s_law_letters : Stmt := topS 31
abbrev s_law_thing : Stmt := topS 32
abbrev s_law : Stmt := topS 36
structure Bl (mg : Str → Option Value) : Prop where
  ValueError : mg "ValueError" = none
  bool : mg "bool" = none
  int : mg "int" = none
  isinstance : mg "isinstance" = none
  len : mg "len" = none
  list : mg "list" = none
  max : mg "max" = none
  min : mg "min" = none
  range : mg "range" = none
  str : mg "str" = none
  tuple : mg "tuple" = none
  c_FIGURES : ∃ u, mg "FIGURES" = some u ∧ RelV (V.str "0123456789") u
  c_MOST_FIGURES : ∃ u, mg "MOST_FIGURES" = some u ∧ RelV (V.int 9) u
structure Xf (K : PySem.W.Frag) (mg : Str → Option Value) (c : Cl) : Prop where
  s : Rx K c
  g_Lacks : mg "Lacks" = some (.ref c.Lacks)
  g_NoBank : mg "NoBank" = some (.ref c.NoBank)
  g_NoBook : mg "NoBook" = some (.ref c.NoBook)
  g_NoDeed : mg "NoDeed" = some (.ref c.NoDeed)
  g_NoName : mg "NoName" = some (.ref c.NoName)
  g_NoOrder : mg "NoOrder" = some (.ref c.NoOrder)
  g_NoPlace : mg "NoPlace" = some (.ref c.NoPlace)
  g_NoRow : mg "NoRow" = some (.ref c.NoRow)
  g_NoSlack : mg "NoSlack" = some (.ref c.NoSlack)
  g_NoText : mg "NoText" = some (.ref c.NoText)
  g_NoTurns : mg "NoTurns" = some (.ref c.NoTurns)
  g_NoWheel : mg "NoWheel" = some (.ref c.NoWheel)
  g_NoWord : mg "NoWord" = some (.ref c.NoWord)
  g_TooMany : mg "TooMany" = some (.ref c.TooMany)
  g_WheelError : mg "WheelError" = some (.ref c.WheelError)
  x_NoText : PySem.W.excIn K c.NoText [.type "ValueError", .type "Exception", .type "BaseException", .type "object"] "ValueError.__new__" = true
  k_NoText : PySem.W.keepIn K (.ref c.NoText) = true
  b_NoText : PySem.W.subIn K (.ref c.NoText) (.type "BaseException") = some true
  t_NoText : PySem.W.typeIn K (.ref c.NoText) = some (.type "type")
section
variable {P : Program} {w : World} {K : PySem.W.Frag} {mg : Str → Option Value} {base : Heap} {c : Cl}
theorem sc_law_draws : FnScope ["script", "k", "primes", "cell", "seed"] ["script", "k"] (defScope s_law_draws) := ⟨rfl, rfl, rfl, by decide +kernel, rfl, by decide +kernel, by decide +kernel⟩
theorem ok_law_draws {f : Addr} {fd : FuncData} (F : L2.Fun K "_law_draws" "_law_draws" s_law_draws f fd) (g : mg "_law_draws" = some (.ref f)) (b : Binds K fd ["script", "k"] []) (B : Bl mg) (X : Xf K mg c)  : Cal P w K mg base 1 "_law_draws" (lift K c psp_law_draws) :=
  ⟨f, fd, ["script", "k"], F.ok sc_law_draws (fun vs H Q E h => ln_lift ln_p_law_draws h) (fun cdv A outer s H vs Q E hr h => have hu := hu_of hr; ⟨t_law_draws K, (pss_cons (ps_set (i := 2) sc_law_draws.nd rfl (Or.inl rfl) (pe_tup (pa_cons pe_int (pa_cons pe_int (pa_cons pe_int (pa_cons pe_int (pa_cons pe_int (pa_cons pe_int (pa_cons pe_int (pa_cons pe_int pa_nil))))))))))
      (pss_cons (ps_set (i := 3) sc_law_draws.nd rfl (Or.inl rfl) (pe_op op_add (pe_op op_mulW pe_int (pv 1)) pe_int))
      (pss_cons (ps_if (pt_cmpR op_lt (pv 1) (pe_callB call_len_seq (by rfl) B.len (by decide +kernel) (pa_cons (pv 0) pa_nil)) (nomark _)) (pss_one (ps_set (i := 3) sc_law_draws.nd rfl (Or.inl rfl) (pe_op op_mod (pe_ix ix_list (pv 0) (pv 1) (fun _ _ => rfl)) (pe_op op_mulW (pe_op op_pow pe_int pe_int) (pe_op op_pow pe_int pe_int))))) (pss_one (ps_if (pt_cmpR op_gt (pe_callB call_len_seq (by rfl) B.len (by decide +kernel) (pa_cons (pv 0) pa_nil)) pe_int (nomark _)) (pss_one (ps_set (i := 3) sc_law_draws.nd rfl (Or.inl rfl) (pe_op op_add (pe_op op_mod (pe_ix ix_list (pv 0) (pe_op op_mod (pv 1) (pe_callB call_len_seq (by rfl) B.len (by decide +kernel) (pa_cons (pv 0) pa_nil))) (fun _ _ => rfl)) (pe_op op_pow pe_int pe_int)) (pe_op op_mulW pe_int (pv 1))))) pss_nil)))
      (pss_cons (ps_set (i := 4) sc_law_draws.nd rfl (Or.inl rfl) (pe_op op_mod (pe_op op_mulW (pe_op op_add (pe_op op_add (pe_op op_mod (pv 3) pe_int) (pe_op op_mulW pe_int (pv 1))) pe_int) (pe_op op_add pe_int (pe_op op_mulW (pe_op op_mulW pe_int (pv 1)) (pv 1)))) pe_int))
      (pss_cons (ps_set (i := 4) sc_law_draws.nd rfl (Or.inl rfl) (pe_op op_add (pe_op op_add (pe_op op_mod (pe_op op_mulW (pe_op op_mulW (pv 4) (pv 4)) (pv 4)) pe_int) (pv 1)) pe_int))
      (pss_one (ps_ret (pe_lst (pa_cons (pe_op op_mulW (pv 3) (pe_callTy call_int1 (by rfl) B.int (by decide +kernel) (pa_cons (pe_cmpR op_ge (pv 3) (pe_op op_pow pe_int pe_int) (nomark _)) pa_nil))) (pa_cons (pv 4) (pa_cons (pe_ix ix_tup (pv 2) (pe_op op_mod (pv 1) pe_int) (fun _ _ => rfl)) pa_nil))))))))))), rd_law_draws (E := E0) (old_law_draws h)⟩), g, F.kp, b⟩
theorem sc_law_draw : FnScope ["draws", "many", "found"] ["draws", "many"] (defScope s_law_draw) := ⟨rfl, rfl, rfl, by decide +kernel, rfl, by decide +kernel, by decide +kernel⟩
theorem ok_law_draw {f : Addr} {fd : FuncData} (F : L2.Fun K "_law_draw" "_law_draw" s_law_draw f fd) (g : mg "_law_draw" = some (.ref f)) (b : Binds K fd ["draws", "many"] []) (B : Bl mg) (X : Xf K mg c)  : Cal P w K mg base 1 "_law_draw" (lift K c psp_law_draw) :=
  ⟨f, fd, ["draws", "many"], F.ok sc_law_draw (fun vs H Q E h => ln_lift ln_p_law_draw h) (fun cdv A outer s H vs Q E hr h => have hu := hu_of hr; ⟨t_law_draw K, (pss_cons (ps_if (pt_cmpR op_gt (pe_ix ix_list (pv 0) pe_int (fun _ _ => rfl)) pe_int (nomark _)) (pss_cons (ps_set (i := 2) sc_law_draw.nd rfl (Or.inl rfl) (pe_op op_mod (pe_ix ix_list (pv 0) pe_int (fun _ _ => rfl)) (pv 1)))
      (pss_cons (ps_asg (pe_op op_fdivW (pe_ix ix_list (pv 0) pe_int (fun _ _ => rfl)) (pv 1)) (pg_sub (pv 0) pe_int set_list))
      (pss_one (ps_ret (pv 2))))) pss_nil)
      (pss_cons (ps_asg (pe_op op_add (pe_op op_mod (pe_op op_mulW (pe_ix ix_list (pv 0) pe_int (fun _ _ => rfl)) pe_int) (pe_ix ix_list (pv 0) pe_int (fun _ _ => rfl))) pe_int) (pg_sub (pv 0) pe_int set_list))
      (pss_one (ps_ret (pe_op op_mod (pe_op op_fdivW (pe_op op_mod (pe_op op_mulW (pe_ix ix_list (pv 0) pe_int (fun _ _ => rfl)) (pe_op op_add (pe_op op_fdivW (pe_ix ix_list (pv 0) pe_int (fun _ _ => rfl)) pe_int) pe_int)) pe_int) pe_int) (pv 1)))))), rd_law_draw (E := E0) (old_law_draw h)⟩), g, F.kp, b⟩
theorem sc_show_turns : FnScope ["turns", "turn"] ["turns"] (defScope s_show_turns) := ⟨rfl, rfl, rfl, by decide +kernel, rfl, by decide +kernel, by decide +kernel⟩
theorem ok_show_turns {f : Addr} {fd : FuncData} (F : L2.Fun K "show_turns" "show_turns" s_show_turns f fd) (g : mg "show_turns" = some (.ref f)) (b : Binds K fd ["turns"] []) (B : Bl mg) (X : Xf K mg c)  : Cal P w K mg base 1 "show_turns" (lift K c psp_show_turns) :=
  ⟨f, fd, ["turns"], F.ok sc_show_turns (fun vs H Q E h => ln_lift ln_show_turns h) (fun cdv A outer s H vs Q E hr h => have hu := hu_of hr; ⟨t_show_turns K c, (pss_cons (ps_if (pt_cmpR op_eq (pe_callB call_len_seq (by rfl) B.len (by decide +kernel) (pa_cons (pv 0) pa_nil)) pe_int (nomark _)) (pss_one (ps_ret pe_str)) pss_nil)
      (pss_one (ps_ret (pe_join pe_str (pe_lc (own := [("turn", 1)]) (g := (gName 1)) (tt := tYes) (by rfl) sc_show_turns.nd (pi_list (pv 0)) (blkOk_by (own := [("turn", 1)]) (N := ["turns", "turn"]) (sc := defScope s_show_turns) (by decide +kernel)) (fun _ _ _ _ _ => (pg_name (i := 1) sc_show_turns.nd rfl (Or.inl rfl))) (fun _ _ _ _ _ => pts_nil) (fun _ _ _ _ _ => (pe_callTy call_str_int (by rfl) B.str (by decide +kernel) (pa_cons (pv 1) pa_nil)))))))), rd_show_turns h⟩), g, F.kp, b⟩
theorem sc_law_figures_in : FnScope ["word", "strange", "sign"] ["word"] (defScope s_law_figures_in) := ⟨rfl, rfl, rfl, by decide +kernel, rfl, by decide +kernel, by decide +kernel⟩
theorem ok_law_figures_in {f : Addr} {fd : FuncData} (F : L2.Fun K "_law_figures_in" "_law_figures_in" s_law_figures_in f fd) (g : mg "_law_figures_in" = some (.ref f)) (b : Binds K fd ["word"] []) (B : Bl mg) (X : Xf K mg c)  : Cal P w K mg base 1 "_law_figures_in" (lift K c psp_law_figures_in) :=
  ⟨f, fd, ["word"], F.ok sc_law_figures_in (fun vs H Q E h => ln_lift ln_law_figures_in h) (fun cdv A outer s H vs Q E hr h => have hu := hu_of hr; ⟨t_law_figures_in K c, (pss_cons (ps_if (pw_or (pt_cmpR op_lt (pe_callB call_len_str (by rfl) B.len (by decide +kernel) (pa_cons (pv 0) pa_nil)) pe_int (nomark _)) (pw_or (pt_cmpR op_gt (pe_callB call_len_str (by rfl) B.len (by decide +kernel) (pa_cons (pv 0) pa_nil)) pe_int (nomark _)) (pw_or1 (pw_and (pt_cmpR op_eq (pe_ix ix_str (pv 0) pe_int (fun _ _ => rfl)) pe_str (nomark _)) (pw_and1 (pt_cmpR op_ne (pv 0) pe_str (nomark _)))).pt))).pt (pss_one (ps_ret pe_non)) pss_nil)
      (pss_cons (ps_setLc (i := 1) (own := [("sign", 2)]) (g := (gName 2)) (tt := (tTest (tOp rNotInSign (tVar 2) (tC (.str "0123456789"))))) (by rfl) sc_law_figures_in.nd rfl rfl (sw_true rfl rfl rfl (by decide +kernel)) (pi_str (pv 0)) (blkOk_by (own := [("sign", 2)]) (N := ["word", "strange", "sign"]) (sc := defScope s_law_figures_in) (by decide +kernel)) (fun _ _ _ _ _ => (pg_name (i := 2) sc_law_figures_in.nd rfl (Or.inl rfl))) (fun _ _ _ _ _ => (pts_one (pt_cmpR op_notIn_sign (pv 2) pe_str rfl))) (fun _ _ _ _ _ => (pv 2)))
      (pss_one (ps_ret (pe_ifExp (pt_cmpR (op_neD hr.units) (pv 1) (pe_lst pa_nil) (nomark _)) pe_non (pe_callTy call_int_str (by rfl) B.int (by decide +kernel) (pa_cons (pv 0) pa_nil))))))), rd_law_figures_in h⟩), g, F.kp, b⟩
theorem sc_law_turns_in : FnScope ["text", "found", "word", "back", "number"] ["text"] (defScope s_law_turns_in) := ⟨rfl, rfl, rfl, by decide +kernel, rfl, by decide +kernel, by decide +kernel⟩
theorem ok_law_turns_in {f : Addr} {fd : FuncData} (F : L2.Fun K "_law_turns_in" "_law_turns_in" s_law_turns_in f fd) (g : mg "_law_turns_in" = some (.ref f)) (b : Binds K fd ["text"] []) (B : Bl mg) (X : Xf K mg c) (c_law_figures_in : Cal P w K mg base 1 "_law_figures_in" (lift K c psp_law_figures_in)) : Cal P w K mg base 2 "_law_turns_in" (lift K c psp_law_turns_in) :=
  ⟨f, fd, ["text"], F.ok sc_law_turns_in (fun vs H Q E h => ln_lift ln_law_turns_in h) (fun cdv A outer s H vs Q E hr h => have hu := hu_of hr; ⟨t_law_turns_in K c, (pss_cons (ps_if (pt_cmpR op_eq (pv 0) pe_str (nomark _)) (pss_one (ps_ret (pe_lst pa_nil))) pss_nil)
      (pss_cons (ps_set (i := 1) sc_law_turns_in.nd rfl (Or.inl rfl) (pe_lst pa_nil))
      (pss_cons (ps_for PassesOwn.never rfl (pi_list (pe_split (pv 0) pe_str)) (pg_name (i := 2) sc_law_turns_in.nd rfl (Or.inl rfl))
      (pss_cons (ps_set (i := 3) sc_law_turns_in.nd rfl (Or.inl rfl) (pe_cmpR op_eq (pe_slice sl_str (pv 2) po_none (po_some pe_int)) pe_str (nomark _)))
      (pss_cons (ps_set (i := 4) sc_law_turns_in.nd rfl (Or.inl rfl) (pe_cal c_law_figures_in hr (by decide) (by rfl) (pa_cons (pe_slice sl_str (pv 2) (po_some (pe_callTy call_int1 (by rfl) B.int (by decide +kernel) (pa_cons (pv 3) pa_nil))) po_none) pa_nil)))
      (pss_cons (ps_if (pw_or (pt_cmpR op_isN (pv 4) pe_non (nomark _)) (pw_or1 (pw_and (pt_val (pv 3)) (pw_and1 (pt_cmpR op_eq (pv 4) pe_int (nomark _)))).pt)).pt (pss_one (ps_ret pe_non)) pss_nil)
      (pss_one (ps_expr (pe_bm PySem.F.plainAttrs_list PySem.F.slot_list_append PySem.F.type_list_append mt_append (pv 1) (pa_cons (pe_op op_mulW (pv 4) (pe_ix ix_list (pe_lst (pa_cons pe_int (pa_cons (pe_un un_neg pe_int) pa_nil))) (pe_callTy call_int1 (by rfl) B.int (by decide +kernel) (pa_cons (pv 3) pa_nil)) (fun _ _ => rfl))) pa_nil))))))))
      (pss_one (ps_ret (pv 1)))))), rd_law_turns_in h⟩), g, F.kp, b⟩
theorem sc_law_kind : FnScope ["e", "some", "names", "k"] ["e"] (defScope s_law_kind) := ⟨rfl, rfl, rfl, by decide +kernel, rfl, by decide +kernel, by decide +kernel⟩
theorem okh_law_kind {f : Addr} {fd : FuncData} (F : L2.Fun K "_law_kind" "_law_kind" s_law_kind f fd) (g : mg "_law_kind" = some (.ref f)) (b : Binds K fd ["e"] []) (B : Bl mg) (X : Xf K mg c)  : CalE P w K mg base 1 "_law_kind" (sp_law_kind K c) := by
  refine calE F g b sc_law_kind fun cdv A outer s H Q q cls d hq hz hr hsp => ?_
  obtain ⟨rfl, D, j, rfl, cau, hj, hQ⟩ := hsp
  obtain ⟨a, oe⟩ := q
  have hf : ∃ vs, oe.data = .fields vs := let ⟨_, vs, e, _⟩ := hq; ⟨vs, e⟩
  have hot : L2H.HotC (L2H.cxH CX0 P w K mg base ["e", "some", "names", "k"] "_law_kind" (defScope s_law_kind) f cdv A outer s H E0 (a, oe)) := ⟨(a, oe), hq, List.mem_singleton.mpr rfl⟩
  have hm : (a, oe) ∈ (L2H.cxH CX0 P w K mg base ["e", "some", "names", "k"] "_law_kind" (defScope s_law_kind) f cdv A outer s H E0 (a, oe)).pn := List.mem_singleton.mpr rfl
  exact ⟨t_law_kind K c D a, (pss_cons (ps_set (i := 1) sc_law_kind.nd rfl (Or.inr rfl) (pe_lst (pa_cons (pe_callB (call_isP cau.ex hz hf hm) (by rfl) B.isinstance (by decide +kernel) (pa_cons (pv 0) (pa_cons (pe_gc (v := .ref c.Lacks) (by rfl) ⟨_, X.g_Lacks, rfl⟩) pa_nil))) (pa_cons (pe_callB (call_isP cau.ex hz hf hm) (by rfl) B.isinstance (by decide +kernel) (pa_cons (pv 0) (pa_cons (pe_gc (v := .ref c.NoBank) (by rfl) ⟨_, X.g_NoBank, rfl⟩) pa_nil))) (pa_cons (pe_callB (call_isP cau.ex hz hf hm) (by rfl) B.isinstance (by decide +kernel) (pa_cons (pv 0) (pa_cons (pe_gc (v := .ref c.NoBook) (by rfl) ⟨_, X.g_NoBook, rfl⟩) pa_nil))) (pa_cons (pe_callB (call_isP cau.ex hz hf hm) (by rfl) B.isinstance (by decide +kernel) (pa_cons (pv 0) (pa_cons (pe_gc (v := .ref c.NoDeed) (by rfl) ⟨_, X.g_NoDeed, rfl⟩) pa_nil))) pa_nil))))))
      (pss_cons (ps_set (i := 1) sc_law_kind.nd rfl (Or.inr rfl) (pe_op op_cat (pv 1) (pe_lst (pa_cons (pe_callB (call_isP cau.ex hz hf hm) (by rfl) B.isinstance (by decide +kernel) (pa_cons (pv 0) (pa_cons (pe_gc (v := .ref c.NoName) (by rfl) ⟨_, X.g_NoName, rfl⟩) pa_nil))) (pa_cons (pe_callB (call_isP cau.ex hz hf hm) (by rfl) B.isinstance (by decide +kernel) (pa_cons (pv 0) (pa_cons (pe_gc (v := .ref c.NoOrder) (by rfl) ⟨_, X.g_NoOrder, rfl⟩) pa_nil))) (pa_cons (pe_callB (call_isP cau.ex hz hf hm) (by rfl) B.isinstance (by decide +kernel) (pa_cons (pv 0) (pa_cons (pe_gc (v := .ref c.NoPlace) (by rfl) ⟨_, X.g_NoPlace, rfl⟩) pa_nil))) (pa_cons (pe_callB (call_isP cau.ex hz hf hm) (by rfl) B.isinstance (by decide +kernel) (pa_cons (pv 0) (pa_cons (pe_gc (v := .ref c.NoRow) (by rfl) ⟨_, X.g_NoRow, rfl⟩) pa_nil))) pa_nil)))))))
      (pss_cons (ps_set (i := 1) sc_law_kind.nd rfl (Or.inr rfl) (pe_op op_cat (pv 1) (pe_lst (pa_cons (pe_callB (call_isP cau.ex hz hf hm) (by rfl) B.isinstance (by decide +kernel) (pa_cons (pv 0) (pa_cons (pe_gc (v := .ref c.NoSlack) (by rfl) ⟨_, X.g_NoSlack, rfl⟩) pa_nil))) (pa_cons (pe_callB (call_isP cau.ex hz hf hm) (by rfl) B.isinstance (by decide +kernel) (pa_cons (pv 0) (pa_cons (pe_gc (v := .ref c.NoText) (by rfl) ⟨_, X.g_NoText, rfl⟩) pa_nil))) (pa_cons (pe_callB (call_isP cau.ex hz hf hm) (by rfl) B.isinstance (by decide +kernel) (pa_cons (pv 0) (pa_cons (pe_gc (v := .ref c.NoTurns) (by rfl) ⟨_, X.g_NoTurns, rfl⟩) pa_nil))) (pa_cons (pe_callB (call_isP cau.ex hz hf hm) (by rfl) B.isinstance (by decide +kernel) (pa_cons (pv 0) (pa_cons (pe_gc (v := .ref c.NoWheel) (by rfl) ⟨_, X.g_NoWheel, rfl⟩) pa_nil))) pa_nil)))))))
      (pss_cons (ps_set (i := 1) sc_law_kind.nd rfl (Or.inr rfl) (pe_op op_cat (pv 1) (pe_lst (pa_cons (pe_callB (call_isP cau.ex hz hf hm) (by rfl) B.isinstance (by decide +kernel) (pa_cons (pv 0) (pa_cons (pe_gc (v := .ref c.NoWord) (by rfl) ⟨_, X.g_NoWord, rfl⟩) pa_nil))) (pa_cons (pe_callB (call_isP cau.ex hz hf hm) (by rfl) B.isinstance (by decide +kernel) (pa_cons (pv 0) (pa_cons (pe_gc (v := .ref c.TooMany) (by rfl) ⟨_, X.g_TooMany, rfl⟩) pa_nil))) (pa_cons (pe_callB (call_isP cau.ex hz hf hm) (by rfl) B.isinstance (by decide +kernel) (pa_cons (pv 0) (pa_cons (pe_bltn (v := .ty "ValueError") (by rfl) B.ValueError (by decide +kernel) rfl) pa_nil))) pa_nil))))))
      (pss_cons (ps_set (i := 2) sc_law_kind.nd rfl (Or.inr rfl) (pe_lst (pa_cons pe_str (pa_cons pe_str (pa_cons pe_str (pa_cons pe_str (pa_cons pe_str (pa_cons pe_str (pa_cons pe_str (pa_cons pe_str (pa_cons pe_str (pa_cons pe_str pa_nil))))))))))))
      (pss_cons (ps_set (i := 2) sc_law_kind.nd rfl (Or.inr rfl) (pe_op op_cat (pv 2) (pe_lst (pa_cons pe_str (pa_cons pe_str (pa_cons pe_str (pa_cons pe_str (pa_cons pe_str pa_nil))))))))
      (pss_one (ps_ret (pe_join pe_str (pe_lcH (own := [("k", 3)]) (g := (gName 3)) (tt := (tB (tOp (rIxL K) (tVar 1) (tVar 3)))) hot sc_law_kind.nd (L2H.pi_range1H rfl B.range (pa_cons pe_int pa_nil)) (blkOk_by (own := [("k", 3)]) (N := ["e", "some", "names", "k"]) (sc := defScope s_law_kind) (by decide +kernel)) (fun _ _ _ _ _ _ => (pg_name (i := 3) sc_law_kind.nd rfl (Or.inl rfl))) (fun _ _ _ _ _ _ => (pts_one (pt_val (pe_ix ix_list (pv 1) (pv 3) (fun _ _ => rfl))))) (fun _ _ _ _ _ _ => (pe_ix ix_list (pv 2) (pv 3) (fun _ _ => rfl))))))))))))), rd_law_kind cau hj hQ⟩
theorem sc_number_in : FnScope ["word", "sign"] ["word"] (defScope s_number_in) := ⟨rfl, rfl, rfl, by decide +kernel, rfl, by decide +kernel, by decide +kernel⟩
theorem ok_number_in {f : Addr} {fd : FuncData} (F : L2.Fun K "number_in" "number_in" s_number_in f fd) (g : mg "number_in" = some (.ref f)) (b : Binds K fd ["word"] []) (B : Bl mg) (X : Xf K mg c)  : Cal P w K mg base 1 "number_in" (lift K c psp_number_in) :=
  ⟨f, fd, ["word"], F.ok sc_number_in (fun vs H Q E h => ln_lift ln_number_in h) (fun cdv A outer s H vs Q E hr h => have hu := hu_of hr; ⟨t_number_in K c, (pss_cons (ps_if (pw_or (pt_cmpR op_lt (pe_callB call_len_str (by rfl) B.len (by decide +kernel) (pa_cons (pv 0) pa_nil)) pe_int (nomark _)) (pw_or (pt_cmpR op_gt (pe_callB call_len_str (by rfl) B.len (by decide +kernel) (pa_cons (pv 0) pa_nil)) (pe_gc (by rfl) B.c_MOST_FIGURES) (nomark _)) (pw_or1 (pw_and (pt_cmpR op_eq (pe_ix ix_str (pv 0) pe_int (fun _ _ => rfl)) pe_str (nomark _)) (pw_and1 (pt_cmpR op_ne (pv 0) pe_str (nomark _)))).pt))).pt (pss_one (ps_ret pe_non)) pss_nil)
      (pss_cons (ps_for PassesOwn.never rfl (pi_str (pv 0)) (pg_name (i := 1) sc_number_in.nd rfl (Or.inl rfl))
      (pss_one (ps_if (pt_cmpR op_notIn_sign (pv 1) (pe_gc (by rfl) B.c_FIGURES) rfl) (pss_one (ps_ret pe_non)) pss_nil)))
      (pss_one (ps_ret (pe_callTy call_int_str (by rfl) B.int (by decide +kernel) (pa_cons (pv 0) pa_nil)))))), rd_number_in h⟩), g, F.kp, b⟩
theorem sc_turn_in : FnScope ["word", "number"] ["word"] (defScope s_turn_in) := ⟨rfl, rfl, rfl, by decide +kernel, rfl, by decide +kernel, by decide +kernel⟩
theorem ok_turn_in {f : Addr} {fd : FuncData} (F : L2.Fun K "turn_in" "turn_in" s_turn_in f fd) (g : mg "turn_in" = some (.ref f)) (b : Binds K fd ["word"] []) (B : Bl mg) (X : Xf K mg c) (c_number_in : Cal P w K mg base 1 "number_in" (lift K c psp_number_in)) : Cal P w K mg base 2 "turn_in" (lift K c psp_turn_in) :=
  ⟨f, fd, ["word"], F.ok sc_turn_in (fun vs H Q E h => ln_lift ln_turn_in h) (fun cdv A outer s H vs Q E hr h => have hu := hu_of hr; ⟨t_turn_in K c, (pss_cons (ps_if (pt_cmpR op_ne (pe_slice sl_str (pv 0) po_none (po_some pe_int)) pe_str (nomark _)) (pss_one (ps_ret (pe_cal c_number_in hr (by decide) (by rfl) (pa_cons (pv 0) pa_nil)))) pss_nil)
      (pss_cons (ps_set (i := 1) sc_turn_in.nd rfl (Or.inl rfl) (pe_cal c_number_in hr (by decide) (by rfl) (pa_cons (pe_slice sl_str (pv 0) (po_some pe_int) po_none) pa_nil)))
      (pss_cons (ps_if (pw_or (pt_cmpR op_isN (pv 1) pe_non (nomark _)) (pw_or1 (pt_cmpR op_eq (pv 1) pe_int (nomark _)))).pt (pss_one (ps_ret pe_non)) pss_nil)
      (pss_one (ps_ret (pe_op op_sub pe_int (pv 1))))))), rd_turn_in h⟩), g, F.kp, b⟩
theorem sc_read_turns : FnScope ["text", "turns", "word"] ["text"] (defScope s_read_turns) := ⟨rfl, rfl, rfl, by decide +kernel, rfl, by decide +kernel, by decide +kernel⟩
theorem okx_read_turns {f : Addr} {fd : FuncData} (F : L2.Fun K "read_turns" "read_turns" s_read_turns f fd) (g : mg "read_turns" = some (.ref f)) (b : Binds K fd ["text"] []) (B : Bl mg) (X : Xf K mg c) (c_turn_in : Cal P w K mg base 2 "turn_in" (lift K c psp_turn_in)) : CalX P w K mg base 3 "read_turns" (lift K c psp_read_turns) :=
  ⟨f, fd, ["text"], okN F sc_read_turns (fun vs H Q E h => ln_lift ln_read_turns h) (fun cdv A outer s H vs Q E hr h => have hu := hu_of hr; ⟨t_read_turns K c E, (pss_cons (ps_if (pt_not (pt_val (pe_callB call_isi (by rfl) B.isinstance (by decide +kernel) (pa_cons (pv 0) (pa_cons (pe_bltn (v := .ty "str") (by rfl) B.str (by decide +kernel) rfl) pa_nil))))) (pss_one (L2N.ps_raise rfl (L2N.takes_of rfl rfl rfl rfl) (L2N.pmk_own PySem.F.excBase_ValueError X.x_NoText X.g_NoText X.k_NoText (raises_own X.b_NoText X.t_NoText) (by exact rfl)))) pss_nil)
      (pss_cons (ps_if (pt_cmpR op_eq (pv 0) pe_str (nomark _)) (pss_one (ps_ret (pe_lst pa_nil))) pss_nil)
      (pss_cons (ps_setLc (i := 1) (own := [("word", 2)]) (g := (gName 2)) (tt := tYes) (by rfl) sc_read_turns.nd rfl rfl (sw_true rfl rfl rfl (by decide +kernel)) (pi_list (pe_split (pv 0) pe_str)) (blkOk_by (own := [("word", 2)]) (N := ["text", "turns", "word"]) (sc := defScope s_read_turns) (by decide +kernel)) (fun _ _ _ _ _ => (pg_name (i := 2) sc_read_turns.nd rfl (Or.inl rfl))) (fun _ _ _ _ _ => pts_nil) (fun _ _ _ _ _ => (pe_cal c_turn_in hr (by decide) (by rfl) (pa_cons (pv 2) pa_nil))))
      (pss_cons (ps_if (pt_cmpR op_in_seq pe_non (pv 1) rfl) (pss_one (L2N.ps_raise rfl (L2N.takes_of rfl rfl rfl rfl) (L2N.pmk_own PySem.F.excBase_ValueError X.x_NoText X.g_NoText X.k_NoText (raises_own X.b_NoText X.t_NoText) (by exact rfl)))) pss_nil)
      (pss_one (ps_ret (pv 1))))))), rd_read_turns h⟩), g, F.kp, b⟩
theorem sc_law_read : FnScope ["text", "found", "kind", "e"] ["text"] (defScope s_law_read) := ⟨rfl, rfl, rfl, by decide +kernel, rfl, by decide +kernel, by decide +kernel⟩
theorem ok_law_read {f : Addr} {fd : FuncData} (F : L2.Fun K "_law_read" "_law_read" s_law_read f fd) (g : mg "_law_read" = some (.ref f)) (b : Binds K fd ["text"] []) (B : Bl mg) (X : Xf K mg c) (ch_law_kind : CalE P w K mg base 1 "_law_kind" (sp_law_kind K c)) (cx_read_turns : CalX P w K mg base 3 "read_turns" (lift K c psp_read_turns)) : Cal P w K mg base 4 "_law_read" (lift K c psp_law_read) :=
  ⟨f, fd, ["text"], F.ok sc_law_read (fun vs H Q E h => ln_lift ln_law_read h) (fun cdv A outer s H vs Q E hr h => have hu := hu_of hr; ⟨t_law_read K c, (pss_cons (ps_set (i := 1) sc_law_read.nd rfl (Or.inl rfl) pe_non)
      (pss_cons (ps_set (i := 2) sc_law_read.nd rfl (Or.inl rfl) pe_str)
      (pss_cons (L2N.ps_try_as (i := 3) (tb := fun W => (tAsg (tCallS (lift K c psp_read_turns) (WE W) (tCons (tVar 0) tNil)) (gName 1))) (ts := fun a cls d => (tAsg (tCallE (sp_law_kind K c) a cls d (tVar 3)) (gName 2))) (Wout := fun _ _ _ _ => False) rfl rfl sc_law_read.nd rfl rfl ⟨rfl, by decide, Or.inl X.g_WheelError⟩ takesN0 (fun W pn xe tk _ => (pss_one (ps_set (i := 1) sc_law_read.nd rfl (Or.inl rfl) (pe_calS cx_read_turns hr (by decide) (by rfl) tk (pa_cons (pv 0) pa_nil))))) (fun a oe cls d pn hz hf => (pss_one (ps_set (i := 2) sc_law_read.nd rfl (Or.inl rfl) (pe_calE ch_law_kind hr (by decide) hz hf (by rfl) (pv 3))))))
      (pss_one (ps_ret (pe_tup (pa_cons (pv 1) (pa_cons (pv 2) pa_nil)))))))), rd_law_read X.s h⟩), g, F.kp, b⟩
theorem sc_law_whole : FnScope ["found"] ["found"] (defScope s_law_whole) := ⟨rfl, rfl, rfl, by decide +kernel, rfl, by decide +kernel, by decide +kernel⟩
theorem ok_law_whole {f : Addr} {fd : FuncData} (F : L2.Fun K "_law_whole" "_law_whole" s_law_whole f fd) (g : mg "_law_whole" = some (.ref f)) (b : Binds K fd ["found"] []) (B : Bl mg) (X : Xf K mg c)  : Cal P w K mg base 1 "_law_whole" (lift K c psp_law_whole) :=
  ⟨f, fd, ["found"], F.ok sc_law_whole (fun vs H Q E h => ln_lift ln_law_whole h) (fun cdv A outer s H vs Q E hr h => have hu := hu_of hr; ⟨t_law_whole K c, (pss_one (ps_ret (pe_and (pe_callB call_isi (by rfl) B.isinstance (by decide +kernel) (pa_cons (pv 0) (pa_cons (pe_bltn (v := .ty "int") (by rfl) B.int (by decide +kernel) rfl) pa_nil))) (pe_one (pe_not (pe_callB call_isi (by rfl) B.isinstance (by decide +kernel) (pa_cons (pv 0) (pa_cons (pe_bltn (v := .ty "bool") (by rfl) B.bool (by decide +kernel) rfl) pa_nil)))))))), rd_law_whole h⟩), g, F.kp, b⟩
theorem sc_law_right : FnScope ["text", "due", "found", "kind", "turn"] ["text"] (defScope s_law_right) := ⟨rfl, rfl, rfl, by decide +kernel, rfl, by decide +kernel, by decide +kernel⟩
theorem ok_law_right {f : Addr} {fd : FuncData} (F : L2.Fun K "_law_right" "_law_right" s_law_right f fd) (g : mg "_law_right" = some (.ref f)) (b : Binds K fd ["text"] []) (B : Bl mg) (X : Xf K mg c) (c_law_turns_in : Cal P w K mg base 2 "_law_turns_in" (lift K c psp_law_turns_in)) (c_law_read : Cal P w K mg base 4 "_law_read" (lift K c psp_law_read)) (c_law_whole : Cal P w K mg base 1 "_law_whole" (lift K c psp_law_whole)) (cx_read_turns : CalX P w K mg base 3 "read_turns" (lift K c psp_read_turns)) : Cal P w K mg base 5 "_law_right" (lift K c psp_law_right) :=
  ⟨f, fd, ["text"], F.ok sc_law_right (fun vs H Q E h => ln_lift ln_law_right h) (fun cdv A outer s H vs Q E hr h => have hu := hu_of hr; ⟨t_law_right K c, (pss_cons (ps_set (i := 1) sc_law_right.nd rfl (Or.inl rfl) (pe_ifExp (pt_val (pe_callB call_isi (by rfl) B.isinstance (by decide +kernel) (pa_cons (pv 0) (pa_cons (pe_bltn (v := .ty "str") (by rfl) B.str (by decide +kernel) rfl) pa_nil)))) (pe_cal c_law_turns_in hr (by decide) (by rfl) (pa_cons (pv 0) pa_nil)) pe_non))
      (pss_cons (ps_asg (pe_cal c_law_read hr (by decide) (by rfl) (pa_cons (pv 0) pa_nil)) (pg_tup rfl (pgs_cons (pg_name (i := 2) sc_law_right.nd rfl (Or.inl rfl)) (pgs_cons (pg_name (i := 3) sc_law_right.nd rfl (Or.inl rfl)) pgs_nil))))
      (pss_cons (ps_if (pt_cmpR op_isN (pv 1) pe_non (nomark _)) (pss_one (ps_ret (pe_and (pe_cmpR op_isN (pv 2) pe_non (nomark _)) (pe_one (pe_cmpR op_eq (pv 3) pe_str (nomark _)))))) pss_nil)
      (pss_cons (ps_if (pw_or (pt_cmpR op_ne (pv 3) pe_str (nomark _)) (pw_or (pt_not (pt_val (pe_callB call_isi (by rfl) B.isinstance (by decide +kernel) (pa_cons (pv 2) (pa_cons (pe_bltn (v := .ty "list") (by rfl) B.list (by decide +kernel) rfl) pa_nil))))) (pw_or (pt_cmpR (op_neD hr.units) (pv 2) (pv 1) (nomark _)) (pw_or1 (pt_cmpR op_in_seq pe_bl (pe_lc (own := [("turn", 4)]) (g := (gName 4)) (tt := tYes) (by rfl) sc_law_right.nd (pi_list (pv 2)) (blkOk_by (own := [("turn", 4)]) (N := ["text", "due", "found", "kind", "turn"]) (sc := defScope s_law_right) (by decide +kernel)) (fun _ _ _ _ _ => (pg_name (i := 4) sc_law_right.nd rfl (Or.inl rfl))) (fun _ _ _ _ _ => pts_nil) (fun _ _ _ _ _ => (pe_cal c_law_whole hr (by decide) (by rfl) (pa_cons (pv 4) pa_nil)))) rfl))))).pt (pss_one (ps_ret pe_bl)) pss_nil)
      (pss_cons (ps_expr (pe_bm PySem.F.plainAttrs_list PySem.F.slot_list_append PySem.F.type_list_append mt_append (pv 2) (pa_cons pe_int pa_nil)))
      (pss_one (ps_ret (pe_cmpR (op_eqD hr.units) (pe_calX cx_read_turns hr (by decide) (by rfl) passE0 (pa_cons (pv 0) pa_nil)) (pv 1) (nomark _))))))))), rd_law_right h⟩), g, F.kp, b⟩
theorem sc_law_bent : FnScope ["text", "draws", "signs", "way", "sign", "at"] ["text", "draws"] (defScope s_law_bent) := ⟨rfl, rfl, rfl, by decide +kernel, rfl, by decide +kernel, by decide +kernel⟩
theorem ok_law_bent {f : Addr} {fd : FuncData} (F : L2.Fun K "_law_bent" "_law_bent" s_law_bent f fd) (g : mg "_law_bent" = some (.ref f)) (b : Binds K fd ["text", "draws"] []) (B : Bl mg) (X : Xf K mg c) (c_law_draw : Cal P w K mg base 1 "_law_draw" (lift K c psp_law_draw)) : Cal P w K mg base 2 "_law_bent" (lift K c psp_law_bent) :=
  ⟨f, fd, ["text", "draws"], F.ok sc_law_bent (fun vs H Q E h => ln_lift ln_law_bent h) (fun cdv A outer s H vs Q E hr h => have hu := hu_of hr; ⟨t_law_bent K c, (pss_cons (ps_set (i := 2) sc_law_bent.nd rfl (Or.inl rfl) pe_str)
      (pss_cons (ps_set (i := 2) sc_law_bent.nd rfl (Or.inl rfl) (pe_op op_add_str (pv 2) pe_str))
      (pss_cons (ps_set (i := 3) sc_law_bent.nd rfl (Or.inl rfl) (pe_cal c_law_draw hr (by decide) (by rfl) (pa_cons (pv 1) (pa_cons pe_int pa_nil))))
      (pss_cons (ps_set (i := 4) sc_law_bent.nd rfl (Or.inl rfl) (pe_ix ix_list (pe_lst (pa_cons (pe_ix ix_str (pv 2) (pe_cal c_law_draw hr (by decide) (by rfl) (pa_cons (pv 1) (pa_cons (pe_callB call_len_str (by rfl) B.len (by decide +kernel) (pa_cons (pv 2) pa_nil)) pa_nil))) (fun _ _ => rfl)) (pa_cons (pe_ix ix_str pe_str (pe_cal c_law_draw hr (by decide) (by rfl) (pa_cons (pv 1) (pa_cons pe_int pa_nil))) (fun _ _ => rfl)) pa_nil))) (pe_cal c_law_draw hr (by decide) (by rfl) (pa_cons (pv 1) (pa_cons pe_int pa_nil))) (fun _ _ => rfl)))
      (pss_cons (ps_set (i := 5) sc_law_bent.nd rfl (Or.inl rfl) (pe_cal c_law_draw hr (by decide) (by rfl) (pa_cons (pv 1) (pa_cons (pe_op op_add (pe_callB call_len_str (by rfl) B.len (by decide +kernel) (pa_cons (pv 0) pa_nil)) pe_int) pa_nil))))
      (pss_cons (ps_if (pt_cmpR op_lt (pv 3) pe_int (nomark _)) (pss_one (ps_ret (pe_op op_add_str (pe_op op_add_str (pe_slice sl_str (pv 0) po_none (po_some (pv 5))) (pv 4)) (pe_slice sl_str (pv 0) (po_some (pe_op op_add (pv 5) (pv 3))) po_none)))) pss_nil)
      (pss_cons (ps_if (pt_cmpR op_eq (pv 3) pe_int (nomark _)) (pss_one (ps_ret (pe_op op_add_str (pe_slice sl_str (pv 0) po_none (po_some (pv 5))) (pe_slice sl_str (pv 0) (po_some (pe_op op_add (pv 5) pe_int)) po_none)))) pss_nil)
      (pss_one (ps_ret (pe_op op_add_str (pe_slice sl_str (pv 0) po_none (po_some (pe_op op_add (pv 5) pe_int))) (pe_slice sl_str (pv 0) (po_some (pv 5)) po_none))))))))))), rd_law_bent h⟩), g, F.kp, b⟩
theorem sc_law_spoilt : FnScope ["text", "draws", "words", "at", "some", "word"] ["text", "draws"] (defScope s_law_spoilt) := ⟨rfl, rfl, rfl, by decide +kernel, rfl, by decide +kernel, by decide +kernel⟩
theorem ok_law_spoilt {f : Addr} {fd : FuncData} (F : L2.Fun K "_law_spoilt" "_law_spoilt" s_law_spoilt f fd) (g : mg "_law_spoilt" = some (.ref f)) (b : Binds K fd ["text", "draws"] []) (B : Bl mg) (X : Xf K mg c) (c_law_draw : Cal P w K mg base 1 "_law_draw" (lift K c psp_law_draw)) (c_law_bent : Cal P w K mg base 2 "_law_bent" (lift K c psp_law_bent)) : Cal P w K mg base 3 "_law_spoilt" (lift K c psp_law_spoilt) :=
  ⟨f, fd, ["text", "draws"], F.ok sc_law_spoilt (fun vs H Q E h => ln_lift ln_law_spoilt h) (fun cdv A outer s H vs Q E hr h => have hu := hu_of hr; ⟨t_law_spoilt K c, (pss_cons (ps_if (pt_cmpR op_eq (pe_cal c_law_draw hr (by decide) (by rfl) (pa_cons (pv 1) (pa_cons pe_int pa_nil))) pe_int (nomark _)) (pss_one (ps_ret (pe_cal c_law_bent hr (by decide) (by rfl) (pa_cons (pv 0) (pa_cons (pv 1) pa_nil))))) pss_nil)
      (pss_cons (ps_set (i := 2) sc_law_spoilt.nd rfl (Or.inl rfl) (pe_split (pv 0) pe_str))
      (pss_cons (ps_set (i := 3) sc_law_spoilt.nd rfl (Or.inl rfl) (pe_cal c_law_draw hr (by decide) (by rfl) (pa_cons (pv 1) (pa_cons (pe_callB call_len_seq (by rfl) B.len (by decide +kernel) (pa_cons (pv 2) pa_nil)) pa_nil))))
      (pss_cons (ps_set (i := 4) sc_law_spoilt.nd rfl (Or.inl rfl) (pe_lst (pa_cons pe_str (pa_cons pe_str (pa_cons pe_str (pa_cons pe_str (pa_cons pe_str (pa_cons pe_str (pa_cons pe_str (pa_cons pe_str (pa_cons pe_str (pa_cons (pe_ix ix_list (pv 2) (pv 3) (fun _ _ => rfl)) pa_nil))))))))))))
      (pss_cons (ps_set (i := 5) sc_law_spoilt.nd rfl (Or.inl rfl) (pe_ix ix_list (pv 4) (pe_cal c_law_draw hr (by decide) (by rfl) (pa_cons (pv 1) (pa_cons pe_int pa_nil))) (fun _ _ => rfl)))
      (pss_one (ps_ret (pe_join pe_str (pe_op op_cat (pe_op op_cat (pe_slice sl_list (pv 2) po_none (po_some (pv 3))) (pe_slice sl_list (pe_lst (pa_cons (pv 5) pa_nil)) po_none (po_some (pe_cal c_law_draw hr (by decide) (by rfl) (pa_cons (pv 1) (pa_cons pe_int pa_nil)))))) (pe_slice sl_list (pv 2) (po_some (pe_op op_add (pv 3) (pe_cal c_law_draw hr (by decide) (by rfl) (pa_cons (pv 1) (pa_cons pe_int pa_nil))))) po_none)))))))))), rd_law_spoilt h⟩), g, F.kp, b⟩
theorem sc_law_letters : FnScope ["draws", "many", "kinds", "letters", "first", "k"] ["draws", "many", "kinds"] (defScope s_law_letters) := ⟨rfl, rfl, rfl, by decide +kernel, rfl, by decide +kernel, by decide +kernel⟩
theorem ok_law_letters {f : Addr} {fd : FuncData} (F : L2.Fun K "_law_letters" "_law_letters" s_law_letters f fd) (g : mg "_law_letters" = some (.ref f)) (b : Binds K fd ["draws", "many", "kinds"] []) (B : Bl mg) (X : Xf K mg c) (c_law_draw : Cal P w K mg base 1 "_law_draw" (lift K c psp_law_draw)) : Cal P w K mg base 2 "_law_letters" (lift K c psp_law_letters) :=
  ⟨f, fd, ["draws", "many", "kinds"], F.ok sc_law_letters (fun vs H Q E h => ln_lift ln_law_letters h) (fun cdv A outer s H vs Q E hr h => have hu := hu_of hr; ⟨t_law_letters K c, (pss_cons (ps_set (i := 3) sc_law_letters.nd rfl (Or.inr rfl) pe_str)
      (pss_cons (ps_set (i := 4) sc_law_letters.nd rfl (Or.inr rfl) (pe_cal c_law_draw hr (by decide) (by rfl) (pa_cons (pv 0) (pa_cons (pe_op op_sub pe_int (pv 2)) pa_nil))))
      (pss_one (ps_ret (pe_join pe_str (pe_lc (own := [("k", 5)]) (g := (gName 5)) (tt := tYes) (by rfl) sc_law_letters.nd (pi_range1 rfl B.range (pa_cons (pv 1) pa_nil)) (blkOk_by (own := [("k", 5)]) (N := ["draws", "many", "kinds", "letters", "first", "k"]) (sc := defScope s_law_letters) (by decide +kernel)) (fun _ _ _ _ _ => (pg_name (i := 5) sc_law_letters.nd rfl (Or.inl rfl))) (fun _ _ _ _ _ => pts_nil) (fun _ _ _ _ _ => (pe_ix ix_str (pv 3) (pe_op op_add (pv 4) (pe_cal c_law_draw hr (by decide) (by rfl) (pa_cons (pv 0) (pa_cons (pv 2) pa_nil)))) (fun _ _ => rfl))))))))), rd_law_letters h⟩), g, F.kp, b⟩
theorem sc_law_thing : FnScope ["draws", "deep", "kind", "some", "k"] ["draws", "deep"] (defScope s_law_thing) := ⟨rfl, rfl, rfl, by decide +kernel, rfl, by decide +kernel, by decide +kernel⟩
theorem ok_law_thing {n lv : Nat} (hlv : 2 ≤ lv) {f : Addr} {fd : FuncData} (F : L2.Fun K "_law_thing" "_law_thing" s_law_thing f fd) (g : mg "_law_thing" = some (.ref f)) (b : Binds K fd ["draws", "deep"] []) (B : Bl mg) (X : Xf K mg c) (c_law_draw : Cal P w K mg base 1 "_law_draw" (lift K c psp_law_draw)) (c_law_letters : Cal P w K mg base 2 "_law_letters" (lift K c psp_law_letters)) (c_law_thing : Cal P w K mg base lv "_law_thing" (lift K c (psp_law_thing n))) : Cal P w K mg base (lv + 1) "_law_thing" (lift K c (psp_law_thing (n + 1))) :=
  ⟨f, fd, ["draws", "deep"], F.ok sc_law_thing (fun vs H Q E h => ln_lift ln_law_thing h) (fun cdv A outer s H vs Q E hr h => have hu := hu_of hr; ⟨t_law_thing K c n, (pss_cons (ps_set (i := 2) sc_law_thing.nd rfl (Or.inl rfl) (pe_cal c_law_draw hr (by omega) (by rfl) (pa_cons (pv 0) (pa_cons pe_int pa_nil))))
      (pss_cons (ps_if (pt_cmpR op_lt (pv 2) pe_int (nomark _)) (pss_one (ps_ret (pe_ix ix_list (pe_lst (pa_cons (pe_op op_sub (pe_cal c_law_draw hr (by omega) (by rfl) (pa_cons (pv 0) (pa_cons pe_int pa_nil))) pe_int) (pa_cons (pe_op op_sub pe_int (pe_op op_pow pe_int pe_int)) (pa_cons (pe_cal c_law_draw hr (by omega) (by rfl) (pa_cons (pv 0) (pa_cons (pe_op op_pow pe_int pe_int) pa_nil))) pa_nil)))) (pv 2) (fun _ _ => rfl)))) pss_nil)
      (pss_cons (ps_if (pt_cmpR op_lt (pv 2) pe_int (nomark _)) (pss_one (ps_ret (pe_ix ix_list (pe_lst (pa_cons pe_bl (pa_cons pe_bl (pa_cons pe_non pa_nil)))) (pe_op op_sub (pv 2) pe_int) (fun _ _ => rfl)))) pss_nil)
      (pss_cons (ps_if (pt_cmpR op_lt (pv 2) pe_int (nomark _)) (pss_one (ps_ret (pe_cal c_law_letters hr (by omega) (by rfl) (pa_cons (pv 0) (pa_cons (pe_cal c_law_draw hr (by omega) (by rfl) (pa_cons (pv 0) (pa_cons pe_int pa_nil))) (pa_cons pe_int pa_nil)))))) pss_nil)
      (pss_cons (ps_setLc (i := 3) (own := [("k", 4)]) (g := (gName 4)) (tt := tYes) (by rfl) sc_law_thing.nd rfl rfl (sw_true rfl rfl rfl (by decide +kernel)) (pi_range1 rfl B.range (pa_cons (pe_op op_mulW (pe_cal c_law_draw hr (by omega) (by rfl) (pa_cons (pv 0) (pa_cons pe_int pa_nil))) (pe_callTy call_int1 (by rfl) B.int (by decide +kernel) (pa_cons (pe_cmpR op_gt (pv 1) pe_int (nomark _)) pa_nil))) pa_nil)) (blkOk_by (own := [("k", 4)]) (N := ["draws", "deep", "kind", "some", "k"]) (sc := defScope s_law_thing) (by decide +kernel)) (fun _ _ _ _ _ => (pg_name (i := 4) sc_law_thing.nd rfl (Or.inl rfl))) (fun _ _ _ _ _ => pts_nil) (fun _ _ _ _ _ => (pe_cal c_law_thing hr (by omega) (by rfl) (pa_cons (pv 0) (pa_cons (pe_op op_sub (pv 1) pe_int) pa_nil)))))
      (pss_one (ps_ret (pe_ifExp (pt_cmpR op_eq (pv 2) pe_int (nomark _)) (pv 3) (pe_callTy call_tuple_of (by rfl) B.tuple (by decide +kernel) (pa_cons (pv 3) pa_nil)))))))))), rd_law_thing h⟩), g, F.kp, b⟩
theorem sc_law : FnScope ["script", "k", "draws", "turns", "j", "great", "handed", "text", "turn", "due"] ["script"] (defScope s_law) := ⟨rfl, rfl, rfl, by decide +kernel, rfl, by decide +kernel, by decide +kernel⟩
theorem ok_law {f : Addr} {fd : FuncData} (F : L2.Fun K "law" "law" s_law f fd) (B : Bl mg) (X : Xf K mg c) (c_law_draws : Cal P w K mg base 1 "_law_draws" (lift K c psp_law_draws)) (c_law_draw : Cal P w K mg base 1 "_law_draw" (lift K c psp_law_draw)) (c_show_turns : Cal P w K mg base 1 "show_turns" (lift K c psp_show_turns)) (c_law_right : Cal P w K mg base 5 "_law_right" (lift K c psp_law_right)) (c_law_spoilt : Cal P w K mg base 3 "_law_spoilt" (lift K c psp_law_spoilt)) (c_law_thing : Cal P w K mg base 6 "_law_thing" (lift K c (psp_law_thing 4))) : FnOk P w K mg base CX0 7 f fd ["script"] (sp_law K) :=
  F.ok sc_law (fun vs H Q E h => ln_law h) (fun cdv A outer s H vs Q E hr h => have hu := hu_of hr; ⟨t_law K c, (pss_cons (ps_for PassesOwn.never rfl (pi_range1 rfl B.range (pa_cons (pe_callB (call_max2 rfl) (by rfl) B.max (by decide +kernel) (pa_cons pe_int (pa_cons (pe_callB (call_min2 rfl) (by rfl) B.min (by decide +kernel) (pa_cons pe_int (pa_cons (pe_callB call_len_seq (by rfl) B.len (by decide +kernel) (pa_cons (pv 0) pa_nil)) pa_nil))) pa_nil))) pa_nil)) (pg_name (i := 1) sc_law.nd rfl (Or.inl rfl))
      (pss_cons (ps_set (i := 2) sc_law.nd rfl (Or.inl rfl) (pe_cal c_law_draws hr (by decide) (by rfl) (pa_cons (pv 0) (pa_cons (pv 1) pa_nil))))
      (pss_cons (ps_set (i := 3) sc_law.nd rfl (Or.inl rfl) (pe_lst pa_nil))
      (pss_cons (ps_for PassesOwn.never rfl (pi_range1 rfl B.range (pa_cons (pe_ix ix_list (pe_lst (pa_cons (pe_cal c_law_draw hr (by decide) (by rfl) (pa_cons (pv 2) (pa_cons pe_int pa_nil))) (pa_cons (pe_cal c_law_draw hr (by decide) (by rfl) (pa_cons (pv 2) (pa_cons pe_int pa_nil))) pa_nil))) (pe_cal c_law_draw hr (by decide) (by rfl) (pa_cons (pv 2) (pa_cons pe_int pa_nil))) (fun _ _ => rfl)) pa_nil)) (pg_name (i := 4) sc_law.nd rfl (Or.inl rfl))
      (pss_cons (ps_set (i := 5) sc_law.nd rfl (Or.inl rfl) (pe_op op_add (pe_op op_sub (pe_cal c_law_draw hr (by decide) (by rfl) (pa_cons (pv 2) (pa_cons (pe_op op_sub (pe_op op_mulW pe_int (pe_op op_pow pe_int pe_int)) pe_int) pa_nil))) (pe_op op_pow pe_int pe_int)) pe_int))
      (pss_one (ps_expr (pe_bm PySem.F.plainAttrs_list PySem.F.slot_list_append PySem.F.type_list_append mt_append (pv 3) (pa_cons (pe_ix ix_list (pe_lst (pa_cons (pe_op op_sub (pe_cal c_law_draw hr (by decide) (by rfl) (pa_cons (pv 2) (pa_cons pe_int pa_nil))) pe_int) (pa_cons (pv 5) pa_nil))) (pe_op op_fdivW (pe_cal c_law_draw hr (by decide) (by rfl) (pa_cons (pv 2) (pa_cons pe_int pa_nil))) pe_int) (fun _ _ => rfl)) pa_nil))))))
      (pss_cons (ps_set (i := 6) sc_law.nd rfl (Or.inl rfl) (pe_callTy call_list_of (by rfl) B.list (by decide +kernel) (pa_cons (pv 3) pa_nil)))
      (pss_cons (ps_set (i := 7) sc_law.nd rfl (Or.inl rfl) (pe_cal c_show_turns hr (by decide) (by rfl) (pa_cons (pv 6) pa_nil)))
      (pss_cons (ps_set (i := 9) sc_law.nd rfl (Or.inl rfl) (pe_orT (pe_join pe_str (pe_lc (own := [("turn", 8)]) (g := (gName 8)) (tt := tYes) (by rfl) sc_law.nd (pi_list (pv 3)) (blkOk_by (own := [("turn", 8)]) (N := ["script", "k", "draws", "turns", "j", "great", "handed", "text", "turn", "due"]) (sc := defScope s_law) (by decide +kernel)) (fun _ _ _ _ _ => (pg_name (i := 8) sc_law.nd rfl (Or.inl rfl))) (fun _ _ _ _ _ => pts_nil) (fun _ _ _ _ _ => (pe_callTy call_str_int (by rfl) B.str (by decide +kernel) (pa_cons (pv 8) pa_nil))))) (pe_one pe_str)))
      (pss_cons (ps_if (pw_or (pt_not (pt_val (pe_callB call_isi (by rfl) B.isinstance (by decide +kernel) (pa_cons (pv 7) (pa_cons (pe_bltn (v := .ty "str") (by rfl) B.str (by decide +kernel) rfl) pa_nil))))) (pw_or (pt_cmpR op_ne (pv 7) (pv 9) (nomark _)) (pw_or (pt_cmpR (op_neD hr.units) (pv 6) (pv 3) (nomark _)) (pw_or1 (pt_not (pt_val (pe_cal c_law_right hr (by decide) (by rfl) (pa_cons (pv 7) pa_nil)))))))).pt (pss_one (ps_ret pe_bl)) pss_nil)
      (pss_cons (ps_for PassesOwn.never rfl (pi_range1 rfl B.range (pa_cons pe_int pa_nil)) (pg_name (i := 8) sc_law.nd rfl (Or.inl rfl))
      (pss_cons (ps_set (i := 7) sc_law.nd rfl (Or.inl rfl) (pe_cal c_law_spoilt hr (by decide) (by rfl) (pa_cons (pv 7) (pa_cons (pv 2) pa_nil))))
      (pss_one (ps_if (pt_not (pt_val (pe_cal c_law_right hr (by decide) (by rfl) (pa_cons (pv 7) pa_nil)))) (pss_one (ps_ret pe_bl)) pss_nil))))
      (pss_one (ps_if (pt_not (pt_val (pe_cal c_law_right hr (by decide) (by rfl) (pa_cons (pe_cal c_law_thing hr (by decide) (by rfl) (pa_cons (pv 2) (pa_cons pe_int pa_nil))) pa_nil)))) (pss_one (ps_ret pe_bl)) pss_nil)))))))))))
      (pss_one (ps_ret pe_bl))), rd_law h⟩)
end
theorem all_mk {l : PySem.W.OpenLaw} {w : World} {K : PySem.W.Frag} {h : Heap} {mg : Str → Option Value} {fa : Addr} (Xk : K.In h) (G : h.Ns mainGlobals mg) (hfa : mg "law" = some (.ref fa))
    {f0 : Addr} {od0 an0 : Option Addr} {sl0 : Array (Option Value)} {oc0 kV0 dc0 pm0 cd0 ct0 : Value}
    {f1 : Addr} {od1 an1 : Option Addr} {sl1 : Array (Option Value)} {oc1 kV1 dc1 pm1 cd1 ct1 : Value}
    {f2 : Addr} {od2 an2 : Option Addr} {sl2 : Array (Option Value)} {oc2 kV2 dc2 pm2 cd2 ct2 : Value}
    {f3 : Addr} {od3 an3 : Option Addr} {sl3 : Array (Option Value)} {oc3 kV3 dc3 pm3 cd3 ct3 : Value}
    {f4 : Addr} {od4 an4 : Option Addr} {sl4 : Array (Option Value)} {oc4 kV4 dc4 pm4 cd4 ct4 : Value}
    {f5 : Addr} {od5 an5 : Option Addr} {sl5 : Array (Option Value)} {oc5 kV5 dc5 pm5 cd5 ct5 : Value}
    {f6 : Addr} {od6 an6 : Option Addr} {sl6 : Array (Option Value)} {oc6 kV6 dc6 pm6 cd6 ct6 : Value}
    {f7 : Addr} {od7 an7 : Option Addr} {sl7 : Array (Option Value)} {oc7 kV7 dc7 pm7 cd7 ct7 : Value}
    {f8 : Addr} {od8 an8 : Option Addr} {sl8 : Array (Option Value)} {oc8 kV8 dc8 pm8 cd8 ct8 : Value}
    {f9 : Addr} {od9 an9 : Option Addr} {sl9 : Array (Option Value)} {oc9 kV9 dc9 pm9 cd9 ct9 : Value}
    {f10 : Addr} {od10 an10 : Option Addr} {sl10 : Array (Option Value)} {oc10 kV10 dc10 pm10 cd10 ct10 : Value}
    {f11 : Addr} {od11 an11 : Option Addr} {sl11 : Array (Option Value)} {oc11 kV11 dc11 pm11 cd11 ct11 : Value}
    {f12 : Addr} {od12 an12 : Option Addr} {sl12 : Array (Option Value)} {oc12 kV12 dc12 pm12 cd12 ct12 : Value}
    {f13 : Addr} {od13 an13 : Option Addr} {sl13 : Array (Option Value)} {oc13 kV13 dc13 pm13 cd13 ct13 : Value}
    {f14 : Addr} {od14 an14 : Option Addr} {sl14 : Array (Option Value)} {oc14 kV14 dc14 pm14 cd14 ct14 : Value}
    {f15 : Addr} {od15 an15 : Option Addr} {sl15 : Array (Option Value)} {oc15 kV15 dc15 pm15 cd15 ct15 : Value}
    {f16 : Addr} {od16 an16 : Option Addr} {sl16 : Array (Option Value)} {oc16 kV16 dc16 pm16 cd16 ct16 : Value}
    {t_FIGURES : Tok}
    {t_MOST_FIGURES : Tok}
    {C_Lacks C_NoBank C_NoBook C_NoDeed C_NoName C_NoOrder C_NoPlace C_NoRow C_NoSlack C_NoText C_NoTurns C_NoWheel C_NoWord C_TooMany C_WheelError : Addr}
    (a0 : PySem.W.nsIn K mainGlobals "_law_draws" = some (some (.ref f0))) (l0 : K.lookup f0 = some ⟨oc0, od0, .func (PySem.W.fnOf "_law_draws" "_law_draws" (defArgs s_law_draws) (defBody s_law_draws) (defScope s_law_draws) .none kV0 dc0 pm0 an0 cd0 ct0), sl0⟩) (c0 : PySem.W.codeIn K cd0 "_law_draws" = true) (k0 : PySem.W.keepIn K (.ref f0) = true)
    (a1 : PySem.W.nsIn K mainGlobals "_law_draw" = some (some (.ref f1))) (l1 : K.lookup f1 = some ⟨oc1, od1, .func (PySem.W.fnOf "_law_draw" "_law_draw" (defArgs s_law_draw) (defBody s_law_draw) (defScope s_law_draw) .none kV1 dc1 pm1 an1 cd1 ct1), sl1⟩) (c1 : PySem.W.codeIn K cd1 "_law_draw" = true) (k1 : PySem.W.keepIn K (.ref f1) = true)
    (a2 : PySem.W.nsIn K mainGlobals "show_turns" = some (some (.ref f2))) (l2 : K.lookup f2 = some ⟨oc2, od2, .func (PySem.W.fnOf "show_turns" "show_turns" (defArgs s_show_turns) (defBody s_show_turns) (defScope s_show_turns) .none kV2 dc2 pm2 an2 cd2 ct2), sl2⟩) (c2 : PySem.W.codeIn K cd2 "show_turns" = true) (k2 : PySem.W.keepIn K (.ref f2) = true)
    (a3 : PySem.W.nsIn K mainGlobals "_law_figures_in" = some (some (.ref f3))) (l3 : K.lookup f3 = some ⟨oc3, od3, .func (PySem.W.fnOf "_law_figures_in" "_law_figures_in" (defArgs s_law_figures_in) (defBody s_law_figures_in) (defScope s_law_figures_in) .none kV3 dc3 pm3 an3 cd3 ct3), sl3⟩) (c3 : PySem.W.codeIn K cd3 "_law_figures_in" = true) (k3 : PySem.W.keepIn K (.ref f3) = true)
    (a4 : PySem.W.nsIn K mainGlobals "_law_turns_in" = some (some (.ref f4))) (l4 : K.lookup f4 = some ⟨oc4, od4, .func (PySem.W.fnOf "_law_turns_in" "_law_turns_in" (defArgs s_law_turns_in) (defBody s_law_turns_in) (defScope s_law_turns_in) .none kV4 dc4 pm4 an4 cd4 ct4), sl4⟩) (c4 : PySem.W.codeIn K cd4 "_law_turns_in" = true) (k4 : PySem.W.keepIn K (.ref f4) = true)
    (a5 : PySem.W.nsIn K mainGlobals "_law_kind" = some (some (.ref f5))) (l5 : K.lookup f5 = some ⟨oc5, od5, .func (PySem.W.fnOf "_law_kind" "_law_kind" (defArgs s_law_kind) (defBody s_law_kind) (defScope s_law_kind) .none kV5 dc5 pm5 an5 cd5 ct5), sl5⟩) (c5 : PySem.W.codeIn K cd5 "_law_kind" = true) (k5 : PySem.W.keepIn K (.ref f5) = true)
    (a6 : PySem.W.nsIn K mainGlobals "number_in" = some (some (.ref f6))) (l6 : K.lookup f6 = some ⟨oc6, od6, .func (PySem.W.fnOf "number_in" "number_in" (defArgs s_number_in) (defBody s_number_in) (defScope s_number_in) .none kV6 dc6 pm6 an6 cd6 ct6), sl6⟩) (c6 : PySem.W.codeIn K cd6 "number_in" = true) (k6 : PySem.W.keepIn K (.ref f6) = true)
    (a7 : PySem.W.nsIn K mainGlobals "turn_in" = some (some (.ref f7))) (l7 : K.lookup f7 = some ⟨oc7, od7, .func (PySem.W.fnOf "turn_in" "turn_in" (defArgs s_turn_in) (defBody s_turn_in) (defScope s_turn_in) .none kV7 dc7 pm7 an7 cd7 ct7), sl7⟩) (c7 : PySem.W.codeIn K cd7 "turn_in" = true) (k7 : PySem.W.keepIn K (.ref f7) = true)
    (a8 : PySem.W.nsIn K mainGlobals "read_turns" = some (some (.ref f8))) (l8 : K.lookup f8 = some ⟨oc8, od8, .func (PySem.W.fnOf "read_turns" "read_turns" (defArgs s_read_turns) (defBody s_read_turns) (defScope s_read_turns) .none kV8 dc8 pm8 an8 cd8 ct8), sl8⟩) (c8 : PySem.W.codeIn K cd8 "read_turns" = true) (k8 : PySem.W.keepIn K (.ref f8) = true)
    (a9 : PySem.W.nsIn K mainGlobals "_law_read" = some (some (.ref f9))) (l9 : K.lookup f9 = some ⟨oc9, od9, .func (PySem.W.fnOf "_law_read" "_law_read" (defArgs s_law_read) (defBody s_law_read) (defScope s_law_read) .none kV9 dc9 pm9 an9 cd9 ct9), sl9⟩) (c9 : PySem.W.codeIn K cd9 "_law_read" = true) (k9 : PySem.W.keepIn K (.ref f9) = true)
    (a10 : PySem.W.nsIn K mainGlobals "_law_whole" = some (some (.ref f10))) (l10 : K.lookup f10 = some ⟨oc10, od10, .func (PySem.W.fnOf "_law_whole" "_law_whole" (defArgs s_law_whole) (defBody s_law_whole) (defScope s_law_whole) .none kV10 dc10 pm10 an10 cd10 ct10), sl10⟩) (c10 : PySem.W.codeIn K cd10 "_law_whole" = true) (k10 : PySem.W.keepIn K (.ref f10) = true)
    (a11 : PySem.W.nsIn K mainGlobals "_law_right" = some (some (.ref f11))) (l11 : K.lookup f11 = some ⟨oc11, od11, .func (PySem.W.fnOf "_law_right" "_law_right" (defArgs s_law_right) (defBody s_law_right) (defScope s_law_right) .none kV11 dc11 pm11 an11 cd11 ct11), sl11⟩) (c11 : PySem.W.codeIn K cd11 "_law_right" = true) (k11 : PySem.W.keepIn K (.ref f11) = true)
    (a12 : PySem.W.nsIn K mainGlobals "_law_bent" = some (some (.ref f12))) (l12 : K.lookup f12 = some ⟨oc12, od12, .func (PySem.W.fnOf "_law_bent" "_law_bent" (defArgs s_law_bent) (defBody s_law_bent) (defScope s_law_bent) .none kV12 dc12 pm12 an12 cd12 ct12), sl12⟩) (c12 : PySem.W.codeIn K cd12 "_law_bent" = true) (k12 : PySem.W.keepIn K (.ref f12) = true)
    (a13 : PySem.W.nsIn K mainGlobals "_law_spoilt" = some (some (.ref f13))) (l13 : K.lookup f13 = some ⟨oc13, od13, .func (PySem.W.fnOf "_law_spoilt" "_law_spoilt" (defArgs s_law_spoilt) (defBody s_law_spoilt) (defScope s_law_spoilt) .none kV13 dc13 pm13 an13 cd13 ct13), sl13⟩) (c13 : PySem.W.codeIn K cd13 "_law_spoilt" = true) (k13 : PySem.W.keepIn K (.ref f13) = true)
    (a14 : PySem.W.nsIn K mainGlobals "_law_letters" = some (some (.ref f14))) (l14 : K.lookup f14 = some ⟨oc14, od14, .func (PySem.W.fnOf "_law_letters" "_law_letters" (defArgs s_law_letters) (defBody s_law_letters) (defScope s_law_letters) .none kV14 dc14 pm14 an14 cd14 ct14), sl14⟩) (c14 : PySem.W.codeIn K cd14 "_law_letters" = true) (k14 : PySem.W.keepIn K (.ref f14) = true)
    (a15 : PySem.W.nsIn K mainGlobals "_law_thing" = some (some (.ref f15))) (l15 : K.lookup f15 = some ⟨oc15, od15, .func (PySem.W.fnOf "_law_thing" "_law_thing" (defArgs s_law_thing) (defBody s_law_thing) (defScope s_law_thing) .none kV15 dc15 pm15 an15 cd15 ct15), sl15⟩) (c15 : PySem.W.codeIn K cd15 "_law_thing" = true) (k15 : PySem.W.keepIn K (.ref f15) = true)
    (a16 : PySem.W.nsIn K mainGlobals "law" = some (some (.ref f16))) (l16 : K.lookup f16 = some ⟨oc16, od16, .func (PySem.W.fnOf "law" "law" (defArgs s_law) (defBody s_law) (defScope s_law) .none kV16 dc16 pm16 an16 cd16 ct16), sl16⟩) (c16 : PySem.W.codeIn K cd16 "law" = true) (k16 : PySem.W.keepIn K (.ref f16) = true)
    (z_ValueError : PySem.W.nsIn K mainGlobals "ValueError" = some none)
    (z_bool : PySem.W.nsIn K mainGlobals "bool" = some none)
    (z_int : PySem.W.nsIn K mainGlobals "int" = some none)
    (z_isinstance : PySem.W.nsIn K mainGlobals "isinstance" = some none)
    (z_len : PySem.W.nsIn K mainGlobals "len" = some none)
    (z_list : PySem.W.nsIn K mainGlobals "list" = some none)
    (z_max : PySem.W.nsIn K mainGlobals "max" = some none)
    (z_min : PySem.W.nsIn K mainGlobals "min" = some none)
    (z_range : PySem.W.nsIn K mainGlobals "range" = some none)
    (z_str : PySem.W.nsIn K mainGlobals "str" = some none)
    (z_tuple : PySem.W.nsIn K mainGlobals "tuple" = some none)
    (g_FIGURES : PySem.W.nsIn K mainGlobals "FIGURES" = some (some (Value.str "0123456789" t_FIGURES)))
    (g_MOST_FIGURES : PySem.W.nsIn K mainGlobals "MOST_FIGURES" = some (some (Value.int 9 t_MOST_FIGURES)))
    (gc_Lacks : PySem.W.nsIn K mainGlobals "Lacks" = some (some (.ref C_Lacks)))
    (gc_NoBank : PySem.W.nsIn K mainGlobals "NoBank" = some (some (.ref C_NoBank)))
    (gc_NoBook : PySem.W.nsIn K mainGlobals "NoBook" = some (some (.ref C_NoBook)))
    (gc_NoDeed : PySem.W.nsIn K mainGlobals "NoDeed" = some (some (.ref C_NoDeed)))
    (gc_NoName : PySem.W.nsIn K mainGlobals "NoName" = some (some (.ref C_NoName)))
    (gc_NoOrder : PySem.W.nsIn K mainGlobals "NoOrder" = some (some (.ref C_NoOrder)))
    (gc_NoPlace : PySem.W.nsIn K mainGlobals "NoPlace" = some (some (.ref C_NoPlace)))
    (gc_NoRow : PySem.W.nsIn K mainGlobals "NoRow" = some (some (.ref C_NoRow)))
    (gc_NoSlack : PySem.W.nsIn K mainGlobals "NoSlack" = some (some (.ref C_NoSlack)))
    (gc_NoText : PySem.W.nsIn K mainGlobals "NoText" = some (some (.ref C_NoText)))
    (gc_NoTurns : PySem.W.nsIn K mainGlobals "NoTurns" = some (some (.ref C_NoTurns)))
    (gc_NoWheel : PySem.W.nsIn K mainGlobals "NoWheel" = some (some (.ref C_NoWheel)))
    (gc_NoWord : PySem.W.nsIn K mainGlobals "NoWord" = some (some (.ref C_NoWord)))
    (gc_TooMany : PySem.W.nsIn K mainGlobals "TooMany" = some (some (.ref C_TooMany)))
    (gc_WheelError : PySem.W.nsIn K mainGlobals "WheelError" = some (some (.ref C_WheelError)))
    (bW : PySem.W.subIn K (.ref C_WheelError) (.type "BaseException") = some true) (dW : PySem.W.hasDictIn K C_WheelError = true) (tW : PySem.W.typeIn K (.ref C_WheelError) = some (.type "type"))
    (hn : PySem.W.specialIn K (.builtin "object.__class__") "__get__" = some (some (.builtin "getset_descriptor.__get__"))) (ht : PySem.W.takesIn K (.builtin "object.__class__") = some true)
    (x_NoText : PySem.W.excIn K C_NoText [.type "ValueError", .type "Exception", .type "BaseException", .type "object"] "ValueError.__new__" = true)
    (k_NoText : PySem.W.keepIn K (.ref C_NoText) = true)
    (b_NoText : PySem.W.subIn K (.ref C_NoText) (.type "BaseException") = some true)
    (t_NoText : PySem.W.typeIn K (.ref C_NoText) = some (.type "type"))
    (sw_NoText : PySem.W.subIn K (.ref C_NoText) (.ref C_WheelError) = some true)
    (ga_NoText : PySem.W.findIn K (.ref C_NoText) "__getattribute__" = some (some (.builtin "BaseException.__getattribute__")))
    (gg_NoText : PySem.W.findIn K (.ref C_NoText) "__getattr__" = some none)
    (hd_NoText : PySem.W.hasDictIn K C_NoText = true)
    (cl_NoText : PySem.W.findIn K (.ref C_NoText) "__class__" = some (some (.builtin "object.__class__")))
    (mo_NoText : PySem.W.mroIn K C_NoText (.type "object") = some true)
    (q0_NoText : PySem.W.kitOne K (.ref C_NoText) (.ref C_Lacks) = some false)
    (q1_NoText : PySem.W.kitOne K (.ref C_NoText) (.ref C_NoBank) = some false)
    (q2_NoText : PySem.W.kitOne K (.ref C_NoText) (.ref C_NoBook) = some false)
    (q3_NoText : PySem.W.kitOne K (.ref C_NoText) (.ref C_NoDeed) = some false)
    (q4_NoText : PySem.W.kitOne K (.ref C_NoText) (.ref C_NoName) = some false)
    (q5_NoText : PySem.W.kitOne K (.ref C_NoText) (.ref C_NoOrder) = some false)
    (q6_NoText : PySem.W.kitOne K (.ref C_NoText) (.ref C_NoPlace) = some false)
    (q7_NoText : PySem.W.kitOne K (.ref C_NoText) (.ref C_NoRow) = some false)
    (q8_NoText : PySem.W.kitOne K (.ref C_NoText) (.ref C_NoSlack) = some false)
    (q9_NoText : PySem.W.kitOne K (.ref C_NoText) (.ref C_NoText) = some true)
    (q10_NoText : PySem.W.kitOne K (.ref C_NoText) (.ref C_NoTurns) = some false)
    (q11_NoText : PySem.W.kitOne K (.ref C_NoText) (.ref C_NoWheel) = some false)
    (q12_NoText : PySem.W.kitOne K (.ref C_NoText) (.ref C_NoWord) = some false)
    (q13_NoText : PySem.W.kitOne K (.ref C_NoText) (.ref C_TooMany) = some false)
    (q14_NoText : PySem.W.kitOne K (.ref C_NoText) (.type "ValueError") = some true)
    : ∃ fd : FuncData, (∀ (s : Shared) (v : Value), BindsTo s fd ⟨[v], []⟩ [("script", v)]) ∧ ∀ base : Heap, K.In base → base.Ns mainGlobals mg → FnOk l.prog w K mg base CX0 7 fa fd ["script"] (sp_law K) := by
  have e := hfa.symm.trans (PySem.W.mg_of Xk G a16)
  cases e
  have B : Bl mg := ⟨PySem.W.mg_none_of Xk G z_ValueError, PySem.W.mg_none_of Xk G z_bool, PySem.W.mg_none_of Xk G z_int, PySem.W.mg_none_of Xk G z_isinstance, PySem.W.mg_none_of Xk G z_len, PySem.W.mg_none_of Xk G z_list, PySem.W.mg_none_of Xk G z_max, PySem.W.mg_none_of Xk G z_min, PySem.W.mg_none_of Xk G z_range, PySem.W.mg_none_of Xk G z_str, PySem.W.mg_none_of Xk G z_tuple, ⟨_, PySem.W.mg_of Xk G g_FIGURES, ⟨_, rfl⟩⟩, ⟨_, PySem.W.mg_of Xk G g_MOST_FIGURES, ⟨_, rfl⟩⟩⟩
  have xs : Rx K (⟨C_Lacks, C_NoBank, C_NoBook, C_NoDeed, C_NoName, C_NoOrder, C_NoPlace, C_NoRow, C_NoSlack, C_NoText, C_NoTurns, C_NoWheel, C_NoWord, C_TooMany, C_WheelError⟩ : Cl) := fun n hn => by
    simp only [Rz, List.mem_cons, List.not_mem_nil, or_false] at hn
    subst hn
    · exact ⟨by decide, ⟨⟨ga_NoText, gg_NoText, b_NoText, hd_NoText, cl_NoText, hn, ht, mo_NoText⟩, PySem.W.exm_ref bW dW tW sw_NoText, q0_NoText, q1_NoText, q2_NoText, q3_NoText, q4_NoText, q5_NoText, q6_NoText, q7_NoText, q8_NoText, q9_NoText, q10_NoText, q11_NoText, q12_NoText, q13_NoText, q14_NoText⟩⟩
  have X : Xf K mg (⟨C_Lacks, C_NoBank, C_NoBook, C_NoDeed, C_NoName, C_NoOrder, C_NoPlace, C_NoRow, C_NoSlack, C_NoText, C_NoTurns, C_NoWheel, C_NoWord, C_TooMany, C_WheelError⟩ : Cl) := ⟨xs, PySem.W.mg_of Xk G gc_Lacks, PySem.W.mg_of Xk G gc_NoBank, PySem.W.mg_of Xk G gc_NoBook, PySem.W.mg_of Xk G gc_NoDeed, PySem.W.mg_of Xk G gc_NoName, PySem.W.mg_of Xk G gc_NoOrder, PySem.W.mg_of Xk G gc_NoPlace, PySem.W.mg_of Xk G gc_NoRow, PySem.W.mg_of Xk G gc_NoSlack, PySem.W.mg_of Xk G gc_NoText, PySem.W.mg_of Xk G gc_NoTurns, PySem.W.mg_of Xk G gc_NoWheel, PySem.W.mg_of Xk G gc_NoWord, PySem.W.mg_of Xk G gc_TooMany, PySem.W.mg_of Xk G gc_WheelError, x_NoText, k_NoText, b_NoText, t_NoText⟩
  have F0 := fun_mk (st := s_law_draws) l0 c0 k0
  have b0 := F0.binds (ps := ["script", "k"]) fun _ _ _ _ _ _ us hl => match us, hl with | [_, _], _ => rfl
  have F1 := fun_mk (st := s_law_draw) l1 c1 k1
  have b1 := F1.binds (ps := ["draws", "many"]) fun _ _ _ _ _ _ us hl => match us, hl with | [_, _], _ => rfl
  have F2 := fun_mk (st := s_show_turns) l2 c2 k2
  have b2 := F2.binds (ps := ["turns"]) fun _ _ _ _ _ _ us hl => match us, hl with | [_], _ => rfl
  have F3 := fun_mk (st := s_law_figures_in) l3 c3 k3
  have b3 := F3.binds (ps := ["word"]) fun _ _ _ _ _ _ us hl => match us, hl with | [_], _ => rfl
  have F4 := fun_mk (st := s_law_turns_in) l4 c4 k4
  have b4 := F4.binds (ps := ["text"]) fun _ _ _ _ _ _ us hl => match us, hl with | [_], _ => rfl
  have F5 := fun_mk (st := s_law_kind) l5 c5 k5
  have b5 := F5.binds (ps := ["e"]) fun _ _ _ _ _ _ us hl => match us, hl with | [_], _ => rfl
  have F6 := fun_mk (st := s_number_in) l6 c6 k6
  have b6 := F6.binds (ps := ["word"]) fun _ _ _ _ _ _ us hl => match us, hl with | [_], _ => rfl
  have F7 := fun_mk (st := s_turn_in) l7 c7 k7
  have b7 := F7.binds (ps := ["word"]) fun _ _ _ _ _ _ us hl => match us, hl with | [_], _ => rfl
  have F8 := fun_mk (st := s_read_turns) l8 c8 k8
  have b8 := F8.binds (ps := ["text"]) fun _ _ _ _ _ _ us hl => match us, hl with | [_], _ => rfl
  have F9 := fun_mk (st := s_law_read) l9 c9 k9
  have b9 := F9.binds (ps := ["text"]) fun _ _ _ _ _ _ us hl => match us, hl with | [_], _ => rfl
  have F10 := fun_mk (st := s_law_whole) l10 c10 k10
  have b10 := F10.binds (ps := ["found"]) fun _ _ _ _ _ _ us hl => match us, hl with | [_], _ => rfl
  have F11 := fun_mk (st := s_law_right) l11 c11 k11
  have b11 := F11.binds (ps := ["text"]) fun _ _ _ _ _ _ us hl => match us, hl with | [_], _ => rfl
  have F12 := fun_mk (st := s_law_bent) l12 c12 k12
  have b12 := F12.binds (ps := ["text", "draws"]) fun _ _ _ _ _ _ us hl => match us, hl with | [_, _], _ => rfl
  have F13 := fun_mk (st := s_law_spoilt) l13 c13 k13
  have b13 := F13.binds (ps := ["text", "draws"]) fun _ _ _ _ _ _ us hl => match us, hl with | [_, _], _ => rfl
  have F14 := fun_mk (st := s_law_letters) l14 c14 k14
  have b14 := F14.binds (ps := ["draws", "many", "kinds"]) fun _ _ _ _ _ _ us hl => match us, hl with | [_, _, _], _ => rfl
  have F15 := fun_mk (st := s_law_thing) l15 c15 k15
  have b15 := F15.binds (ps := ["draws", "deep"]) fun _ _ _ _ _ _ us hl => match us, hl with | [_, _], _ => rfl
  have F16 := fun_mk (st := s_law) l16 c16 k16
  refine ⟨PySem.W.fnOf "law" "law" (defArgs s_law) (defBody s_law) (defScope s_law) .none kV16 dc16 pm16 an16 cd16 ct16, fun s v => .of_eq rfl, fun base _ _ => ?_⟩
  have C_law_draws := ok_law_draws (P := l.prog) (w := w) (base := base) F0 (PySem.W.mg_of Xk G a0) b0 B X 
  have C_law_draw := ok_law_draw (P := l.prog) (w := w) (base := base) F1 (PySem.W.mg_of Xk G a1) b1 B X 
  have C_show_turns := ok_show_turns (P := l.prog) (w := w) (base := base) F2 (PySem.W.mg_of Xk G a2) b2 B X 
  have C_law_figures_in := ok_law_figures_in (P := l.prog) (w := w) (base := base) F3 (PySem.W.mg_of Xk G a3) b3 B X 
  have C_law_turns_in := ok_law_turns_in (P := l.prog) (w := w) (base := base) F4 (PySem.W.mg_of Xk G a4) b4 B X C_law_figures_in
  have CH_law_kind := okh_law_kind (P := l.prog) (w := w) (base := base) F5 (PySem.W.mg_of Xk G a5) b5 B X 
  have C_number_in := ok_number_in (P := l.prog) (w := w) (base := base) F6 (PySem.W.mg_of Xk G a6) b6 B X 
  have C_turn_in := ok_turn_in (P := l.prog) (w := w) (base := base) F7 (PySem.W.mg_of Xk G a7) b7 B X C_number_in
  have CX_read_turns := okx_read_turns (P := l.prog) (w := w) (base := base) F8 (PySem.W.mg_of Xk G a8) b8 B X C_turn_in
  have C_law_read := ok_law_read (P := l.prog) (w := w) (base := base) F9 (PySem.W.mg_of Xk G a9) b9 B X CH_law_kind CX_read_turns
  have C_law_whole := ok_law_whole (P := l.prog) (w := w) (base := base) F10 (PySem.W.mg_of Xk G a10) b10 B X 
  have C_law_right := ok_law_right (P := l.prog) (w := w) (base := base) F11 (PySem.W.mg_of Xk G a11) b11 B X C_law_turns_in C_law_read C_law_whole CX_read_turns
  have C_law_bent := ok_law_bent (P := l.prog) (w := w) (base := base) F12 (PySem.W.mg_of Xk G a12) b12 B X C_law_draw
  have C_law_spoilt := ok_law_spoilt (P := l.prog) (w := w) (base := base) F13 (PySem.W.mg_of Xk G a13) b13 B X C_law_draw C_law_bent
  have C_law_letters := ok_law_letters (P := l.prog) (w := w) (base := base) F14 (PySem.W.mg_of Xk G a14) b14 B X C_law_draw
  have C_law_thing_0 : Cal l.prog w K mg base 2 "_law_thing" (lift K (⟨C_Lacks, C_NoBank, C_NoBook, C_NoDeed, C_NoName, C_NoOrder, C_NoPlace, C_NoRow, C_NoSlack, C_NoText, C_NoTurns, C_NoWheel, C_NoWord, C_TooMany, C_WheelError⟩ : Cl) (psp_law_thing 0)) := ⟨_, _, _, ⟨fun _ _ _ _ h => (lift0 psp0_law_thing h).elim, fun _ _ _ _ _ _ _ _ _ _ _ _ _ h => (lift0 psp0_law_thing h).elim⟩, PySem.W.mg_of Xk G a15, F15.kp, b15⟩
  have C_law_thing_1 := ok_law_thing (P := l.prog) (w := w) (base := base) (n := 0) (lv := 2) (by omega) F15 (PySem.W.mg_of Xk G a15) b15 B X C_law_draw C_law_letters C_law_thing_0
  have C_law_thing_2 := ok_law_thing (P := l.prog) (w := w) (base := base) (n := 1) (lv := 3) (by omega) F15 (PySem.W.mg_of Xk G a15) b15 B X C_law_draw C_law_letters C_law_thing_1
  have C_law_thing_3 := ok_law_thing (P := l.prog) (w := w) (base := base) (n := 2) (lv := 4) (by omega) F15 (PySem.W.mg_of Xk G a15) b15 B X C_law_draw C_law_letters C_law_thing_2
  have C_law_thing := ok_law_thing (P := l.prog) (w := w) (base := base) (n := 3) (lv := 5) (by omega) F15 (PySem.W.mg_of Xk G a15) b15 B X C_law_draw C_law_letters C_law_thing_3
  exact ok_law F16 B X C_law_draws C_law_draw C_show_turns C_law_right C_law_spoilt C_law_thing
end Sw
open PySem PySem.W PyProof.Rows
set_option maxHeartbeats 0 in
theorem PySem.Challenge.cw_strikewheel_k61_turns_written_holds : PySem.Challenge.rw_strikewheel_k61_turns_written.Holds := by
  w_on; o_law; k_head; (case hw => w_witness2)
  k_fill
  refine L2.walk_of (l := PySem.Challenge.rw_strikewheel_k61_turns_written) (n := 63) (k := 7) (x := "script") (CX := fun _ => L2.CX0) (sp := fun w => Sw.sp_law _) rfl (by decide) rfl ⟨rfl, by decide, by decide⟩ (fun w h Y => PySem.W.kIn_of Y) ?F (fun _ _ a ns hl _ hS => ⟨a, ns, rfl, hS, hl, fun _ => rfl⟩) (fun _ _ _ _ _ h => h)
  case F =>
    intro w mg fa h KX G hmg
    refine' Sw.all_mk KX G hmg ?a0 ?l0 ?c0 ?k0 ?a1 ?l1 ?c1 ?k1 ?a2 ?l2 ?c2 ?k2 ?a3 ?l3 ?c3 ?k3 ?a4 ?l4 ?c4 ?k4 ?a5 ?l5 ?c5 ?k5 ?a6 ?l6 ?c6 ?k6 ?a7 ?l7 ?c7 ?k7 ?a8 ?l8 ?c8 ?k8 ?a9 ?l9 ?c9 ?k9 ?a10 ?l10 ?c10 ?k10 ?a11 ?l11 ?c11 ?k11 ?a12 ?l12 ?c12 ?k12 ?a13 ?l13 ?c13 ?k13 ?a14 ?l14 ?c14 ?k14 ?a15 ?l15 ?c15 ?k15 ?a16 ?l16 ?c16 ?k16 ?z_ValueError ?z_bool ?z_int ?z_isinstance ?z_len ?z_list ?z_max ?z_min ?z_range ?z_str ?z_tuple ?g_FIGURES ?g_MOST_FIGURES ?gc_Lacks ?gc_NoBank ?gc_NoBook ?gc_NoDeed ?gc_NoName ?gc_NoOrder ?gc_NoPlace ?gc_NoRow ?gc_NoSlack ?gc_NoText ?gc_NoTurns ?gc_NoWheel ?gc_NoWord ?gc_TooMany ?gc_WheelError ?bW ?dW ?tW ?hn ?ht ?x_NoText ?k_NoText ?b_NoText ?t_NoText ?sw_NoText ?ga_NoText ?gg_NoText ?hd_NoText ?cl_NoText ?mo_NoText ?q0_NoText ?q1_NoText ?q2_NoText ?q3_NoText ?q4_NoText ?q5_NoText ?q6_NoText ?q7_NoText ?q8_NoText ?q9_NoText ?q10_NoText ?q11_NoText ?q12_NoText ?q13_NoText ?q14_NoText
    (case a0 => k_is); (case l0 => k_is); (case c0 => k_is); (case k0 => k_is); (case a1 => k_is); (case l1 => k_is)
    (case c1 => k_is); (case k1 => k_is); (case a2 => k_is); (case l2 => k_is); (case c2 => k_is); (case k2 => k_is)
    (case a3 => k_is); (case l3 => k_is); (case c3 => k_is); (case k3 => k_is); (case a4 => k_is); (case l4 => k_is)
    (case c4 => k_is); (case k4 => k_is); (case a5 => k_is); (case l5 => k_is); (case c5 => k_is); (case k5 => k_is)
    (case a6 => k_is); (case l6 => k_is); (case c6 => k_is); (case k6 => k_is); (case a7 => k_is); (case l7 => k_is)
    (case c7 => k_is); (case k7 => k_is); (case a8 => k_is); (case l8 => k_is); (case c8 => k_is); (case k8 => k_is)
    (case a9 => k_is); (case l9 => k_is); (case c9 => k_is); (case k9 => k_is); (case a10 => k_is); (case l10 => k_is)
    (case c10 => k_is); (case k10 => k_is); (case a11 => k_is); (case l11 => k_is); (case c11 => k_is); (case k11 => k_is)
    (case a12 => k_is); (case l12 => k_is); (case c12 => k_is); (case k12 => k_is); (case a13 => k_is); (case l13 => k_is)
    (case c13 => k_is); (case k13 => k_is); (case a14 => k_is); (case l14 => k_is); (case c14 => k_is); (case k14 => k_is)
    (case a15 => k_is); (case l15 => k_is); (case c15 => k_is); (case k15 => k_is); (case a16 => k_is); (case l16 => k_is)
    (case c16 => k_is); (case k16 => k_is); (case z_ValueError => k_is); (case z_bool => k_is); (case z_int => k_is); (case z_isinstance => k_is)
    (case z_len => k_is); (case z_list => k_is); (case z_max => k_is); (case z_min => k_is); (case z_range => k_is); (case z_str => k_is)
    (case z_tuple => k_is); (case g_FIGURES => k_is); (case g_MOST_FIGURES => k_is); (case gc_Lacks => k_is); (case gc_NoBank => k_is); (case gc_NoBook => k_is)
    (case gc_NoDeed => k_is); (case gc_NoName => k_is); (case gc_NoOrder => k_is); (case gc_NoPlace => k_is); (case gc_NoRow => k_is); (case gc_NoSlack => k_is)
    (case gc_NoText => k_is); (case gc_NoTurns => k_is); (case gc_NoWheel => k_is); (case gc_NoWord => k_is); (case gc_TooMany => k_is); (case gc_WheelError => k_is)
    (case bW => k_is); (case dW => k_is); (case tW => k_is); (case hn => k_is); (case ht => k_is); (case x_NoText => k_exc)
    (case k_NoText => k_is); (case b_NoText => k_is); (case t_NoText => k_is); (case sw_NoText => first | k_is | rfl); (case ga_NoText => k_is); (case gg_NoText => k_is)
    (case hd_NoText => k_is); (case cl_NoText => k_is); (case mo_NoText => k_is); (case q0_NoText => first | k_is | rfl); (case q1_NoText => first | k_is | rfl); (case q2_NoText => first | k_is | rfl)
    (case q3_NoText => first | k_is | rfl); (case q4_NoText => first | k_is | rfl); (case q5_NoText => first | k_is | rfl); (case q6_NoText => first | k_is | rfl); (case q7_NoText => first | k_is | rfl); (case q8_NoText => first | k_is | rfl)
    (case q9_NoText => first | k_is | rfl); (case q10_NoText => first | k_is | rfl); (case q11_NoText => first | k_is | rfl); (case q12_NoText => first | k_is | rfl); (case q13_NoText => first | k_is | rfl); (case q14_NoText => first | k_is | rfl)
