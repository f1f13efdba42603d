import PyProof.Rows.All
import Wide.All
import OpenK.AllK
import Wide.FinOn
import HandS.ForMost
import HandS.ForExc
import HandS.Codes
import HandS.Style
import HandS.Wide
import HandS.IsInst
import HandS.TupAny
import HandS.HotCalls
import HandS.ExcIs
import HandS.ExcCtx
import HandS.Hot
import HandS.Conv
import HandS.SortRule
import KE.KDictDisplayH
import KE.KDictWalk
import KE.DataMinMax
import KE.SortData
import HandS.SetFor
import KE.GoesEnum
import HandS.TupMul
import HandS.Flow
import PySem.Challenge.RW_strikewheel_k10_whole_turned_and_glass_c
set_option Elab.async false
set_option linter.all false
set_option maxRecDepth 100000
set_option maxHeartbeats 4000000
set_option exponentiation.threshold 2000
/-! The layer of all laws: names for readings, calls by their promises, texts, draws. -/
namespace Sw
open PySem PySem.Spec PyProof.Rows L2 SX

/-! ### names for what operators and built-ins read -/
abbrev rAdd : R2 := rI0 fun i j => .int (i + j)
abbrev rSub : R2 := rI0 fun i j => .int (i - j)
abbrev rMulW : R2 := rI CMulW fun i j => .int (i * j)
abbrev rDivW : R2 := rI CDivW fun i j => .int (i / j)
abbrev rMod : R2 := rI (fun _ j => 0 < j) fun i j => .int (i % j)
abbrev rPow : R2 := rI CPow fun i j => .int (i ^ j.toNat)
abbrev rNeg : V → Hp → VK → Prop := rU fun i => .int (-i)
abbrev rLt : R2 := rI0 fun i j => .bl (decide (i < j))
abbrev rLe : R2 := rI0 fun i j => .bl (decide (i ≤ j))
abbrev rGt : R2 := rI0 fun i j => .bl (decide (j < i))
abbrev rGe : R2 := rI0 fun i j => .bl (decide (j ≤ i))
abbrev rLtS : R2 := fun x y H Q => ∃ i j, x = .str i ∧ y = .str j ∧ Q (.bl (decide (i.cps.toList < j.cps.toList))) H
abbrev rLeS : R2 := fun x y H Q => ∃ i j, x = .str i ∧ y = .str j ∧ Q (.bl (!decide (j.cps.toList < i.cps.toList))) H
abbrev rGtS : R2 := fun x y H Q => ∃ i j, x = .str i ∧ y = .str j ∧ Q (.bl (decide (j.cps.toList < i.cps.toList))) H
abbrev rGeS : R2 := fun x y H Q => ∃ i j, x = .str i ∧ y = .str j ∧ Q (.bl (!decide (i.cps.toList < j.cps.toList))) H
abbrev rAddS : R2 := fun x y H Q => ∃ i j, x = .str i ∧ y = .str j ∧ i.length + j.length ≤ sizeLine ∧ Q (.str (i ++ j)) H
abbrev rInSign : R2 := fun x y H Q => ∃ (c : Nat) (z : Str), x = .str ⟨#[c]⟩ ∧ y = .str z ∧ Q (.bl (decide (c ∈ z.cps.toList))) H
abbrev rNotInSign : R2 := fun x y H Q => ∃ (c : Nat) (z : Str), x = .str ⟨#[c]⟩ ∧ y = .str z ∧ Q (.bl (!decide (c ∈ z.cps.toList))) H
abbrev rIsNn : R2 := fun x y H Q => y = .non ∧ Q (.bl (decide (x = .non))) H
abbrev rNotNn : R2 := fun x y H Q => y = .non ∧ Q (.bl (!decide (x = .non))) H
abbrev RC := List V → Hp → VK → Prop
abbrev rLenStr : RC := fun xs H Q => ∃ z, xs = [.str z] ∧ z.length ≤ sizeLine ∧ Q (.int z.length) H
abbrev rLenSq (K : PySem.W.Frag) : RC := fun xs H Q => ∃ p ys, xs = [.ref p] ∧ (SqL K H p ys ∨ SqT K H p ys) ∧ Q (.int ys.length) H
abbrev rAbs : RC := fun xs H Q => ∃ i, xs = [.int i] ∧ Q (.int (if i < 0 then -i else i)) H
abbrev rMax2 : RC := fun xs H Q => ∃ i j, xs = [.int i, .int j] ∧ Q (.int (if j > i then j else i)) H
abbrev rMin2 : RC := fun xs H Q => ∃ i j, xs = [.int i, .int j] ∧ Q (.int (if j < i then j else i)) H
abbrev rInt1 : RC := fun xs H Q => (∃ i, xs = [.int i] ∧ Q (.int i) H) ∨ ∃ k, xs = [.bl k] ∧ Q (.int (if k then 1 else 0)) H
abbrev rListOf (K : PySem.W.Frag) : RC := fun xs H Q => ∃ p ys, xs = [.ref p] ∧ (SqL K H p ys ∨ SqT K H p ys) ∧ ∀ l, H l = none → Q (.ref l) (upd H l (.lst ys))
abbrev rTupleOf (K : PySem.W.Frag) : RC := fun xs H Q => ∃ p ys, xs = [.ref p] ∧ ((SqL K H p ys ∧ ∀ l, H l = none → Q (.ref l) (upd H l (.tup ys))) ∨ (SqT K H p ys ∧ Q (.ref p) H))
abbrev rListT : RC := fun xs H Q => ∃ d kvs, xs = [V.ref d] ∧ Rd H d (.dT kvs) ∧ ∀ p bs, H p = none → IsKeys H kvs bs → Q (.ref p) (upd H p (.lst (bs.map V.ref)))
abbrev rCount : V → List V → Hp → VK → Prop := fun x xs H Q => ∃ a b, x = .str a ∧ xs = [.str b] ∧ Q (.int (Txt.count a b)) H
abbrev rStrInt : RC := fun xs H Q => ∃ i, xs = [.int i] ∧ i.natAbs.log2 < 1920 ∧ Q (.str (toString i)) H
abbrev rJoin (K : PySem.W.Frag) : V → List V → Hp → VK → Prop := fun x xs H Q => ∃ a p, ∃ ys : List Str, x = .str a ∧ xs = [.ref p] ∧ (SqL K H p (ys.map V.str) ∨ SqT K H p (ys.map V.str)) ∧ (ys.map (·.length)).sum + ys.length * a.length ≤ 16777216 ∧ Q (.str (Txt.join a ys)) H

/-! ### calls by promises -/
/-- the def under the name x keeps sp, by level k; nothing leaves it -/
structure Cal (P : Program) (w : World) (K : PySem.W.Frag) (mg : Str → Option Value) (base : Heap) (k : Nat) (x : Str) (sp : Sp) : Prop where
  ex : ∃ (f : Addr) (fd : FuncData) (ps : List Str), FnOk P w K mg base CX0 k f fd ps sp ∧ mg x = some (.ref f) ∧ PySem.W.keepIn K (.ref f) = true ∧ Binds K fd ps []
section
variable {X : Cx} {k j : Nat} {x : Str} {sp : Sp} {p pos : Pos} {e : Expr} {es : List Expr} {t : TA}
theorem pe_cal (c : Cal X.prog X.w X.K X.mg X.base k x sp) (hr : Room j X.A) (hk : k ≤ j) (hg : Gl X x) (ha : PA X (e :: es) t) (hdb : (x == ("__debug__" : Str)) = false := by decide)
    (he : starEach (e :: es) X.env = (false, eval e X.env) :: starEach es X.env := by rfl) (hpl : (backTo pos (starEach es X.env)).any (·.1) = false := by rfl) : PE X (.Call (.Name x p) (e :: es) [] pos) (tCall sp [] E0 t) := by
  obtain ⟨f, fd, ps, F, hm, kp, b⟩ := c.ex
  exact pe_call F (hr.mono hk) hg hm kp b .nil pass0 ha hdb he hpl
theorem pe_gc {v : V} (hg : Gl X x) (h : ∃ u, X.mg x = some u ∧ RelV v u) (hd : (x == ("__debug__" : Str)) = false := by decide) : PE X (.Name x pos) (tC v) := by
  obtain ⟨u, hm, r⟩ := h
  exact pe_glob hg hm r hd
end

/-! ### a text told from its end: s[::-1] -/
def tRevS (te : TE) : TE := fun σ H Q => te σ H fun x H1 => ∃ l : List Nat, x = .str (S l) ∧ l.length ≤ sizeLine ∧ Q (.str (S l.reverse)) H1
theorem rev_pick (l : List Nat) : (Builtin.Str.strSliceIndices none none (-1) (S l).length).filterMap ((S l).cps[·]?) = l.reverse := by
  rw [PyProof.Rows.picked_rev, PySem.W.krv_range, List.filterMap_reverse, S_len]
  have h := PySem.W.krv_all (S l).cps
  have e : (S l).cps.size = l.length := by simp
  rw [e] at h
  rw [h]
section
variable {X : Cx}
theorem pe_revS {e : Expr} {te : TE} {k : Nat} {p1 p2 p3 pos : Pos} (he : PE X e te) : PE X (.Subscript e (.Slice none none (some (.UnaryOp .USub (.Constant (.int 1) k p1) p2)) p3) pos) (tRevS te) := by
  refine ⟨fun pins s σ H Q I h => ?_⟩
  refine Subscript_ (thn (he.run pins s σ H _ I h) fun v s1 ⟨x, H1, I1, r1, q1⟩ => ?_)
  obtain ⟨l, ex, hz, q⟩ := q1
  subst ex
  obtain ⟨tk, rfl⟩ := r1
  have hst : PO X (some (.UnaryOp .USub (.Constant (.int 1) k p1) p2)) (tPart (tUn (rU fun i => .int (-i)) (tC (.int 1)))) := po_some (pe_un un_neg pe_int)
  refine wpAny_Slice (thn (po_none.run pins s1 σ H1 (fun o H2 => o = none ∧ H2 = H1) I1 ⟨rfl, rfl⟩) fun vl s2 ⟨lo, H2, I2, pl, el, e2⟩ => ?_)
  subst el e2
  refine thn (po_none.run pins s2 σ H2 (fun o H3 => o = none ∧ H3 = H2) I2 ⟨rfl, rfl⟩) fun vu s3 ⟨u, H3, I3, pu, eu, e3⟩ => ?_
  subst eu e3
  refine thn (hst.run pins s3 σ H3 (fun o H4 => o = some (-1) ∧ H4 = H3) I3 ⟨1, rfl, -1, rfl, rfl, rfl⟩) fun vs s4 ⟨o, H4, I4, ps, eo, e4⟩ => ?_
  subst eo e4
  have I5 : Inv X pins σ H4 { s4 with heap := s4.heap.push { cls := .type "slice", data := .fields #[vl, vu, vs] } } := I4.kept (t' := s4.toks) fun b ob q => Heap.get?_push_of_some _ q
  obtain ⟨pl', rfl, epl⟩ := IsPart.raw pl
  obtain ⟨pu', rfl, epu⟩ := IsPart.raw pu
  obtain ⟨ps', rfl, eps⟩ := IsPart.raw ps
  have hsl := Heap.IsSliceOf.new s4.heap (partValue pl') (partValue pu') (partValue ps')
  obtain ⟨os, hos, hcs, hds⟩ := hsl
  show wpAny (model X.prog X.w) X.A (subscriptTail e (.Slice none none (some (.UnaryOp .USub (.Constant (.int 1) k p1) p2)) p3) (.str (S l) tk) (.ref s4.heap.objs.size)) (EP X pins σ Q) X.xe _
  refine tail_any (ops := [.str (S l) tk, .ref s4.heap.objs.size]) (typeIs_str _ _ _) (F.slot_str_getitem.lookup) ?_ (by with_unfolding_all rfl)
  have h1 : ps'.map (·.1) = some (-1) := eps
  have h2 : pl'.map (·.1) = none := epl
  have h3 : pu'.map (·.1) = none := epu
  refine wpAny_getItem_str_slice (l := pl') (u := pu') (st := ps') ⟨os, hos, hcs, hds⟩ (by rw [h1]; rfl) ?_
  unfold sliceMade slicePicked
  rw [h1, h2, h3, if_neg (by simp)]
  show Made.post (Made.str ⟨((Builtin.Str.strSliceIndices none none (-1) (S l).length).filterMap ((S l).cps[·]?)).toArray⟩) _ _
  rw [rev_pick]
  exact ⟨by rw [S_len, List.length_reverse]; exact hz, .str (S l.reverse), H4, I5.tok _, ⟨_, rfl⟩, q⟩
end
/-! ### a text told again and again: s * n -/
abbrev rMulS : R2 := fun x y H Q => ∃ (l : List Nat) (n : Int), x = .str (S l) ∧ y = .int n ∧ 0 ≤ n ∧ n ≤ 1000 ∧ l.length ≤ 1000 ∧ Q (.str (S (List.replicate n.toNat l).flatten)) H
theorem fold_cat (a : Array Nat) : ∀ (n : Nat) (b : Array Nat), (List.replicate n a).foldl (· ++ ·) b = (b.toList ++ (List.replicate n a.toList).flatten).toArray
  | 0, b => by simp
  | n + 1, b => by
    rw [List.replicate_succ, List.foldl_cons, fold_cat a n, List.replicate_succ, List.flatten_cons]
    simp
theorem rep_len (l : List Nat) (n : Nat) : (List.replicate n l).flatten.length = n * l.length := by simp
section
variable {X : Cx}
theorem op_mulS : OpR X (binaryOp .Mult) rMulS := by
  intro pins s σ H x y v u Q I rx ry h
  obtain ⟨l, n, rfl, rfl, n0, n1, hl, q⟩ := h
  obtain ⟨t, rfl⟩ := rx
  obtain ⟨t', rfl⟩ := ry
  have hm : l.length * n.toNat ≤ 1000 * 1000 := Nat.mul_le_mul hl (by omega)
  refine PySem.P.mul_str (by
      have h1 : ¬ n < -(2 ^ 63 : Int) := by omega
      have h2 : ¬ n ≥ 2 ^ 63 := by omega
      rw [decide_eq_false h1, decide_eq_false h2]; rfl) (fun a _ => ?_) (fun _ _ => ?_) ?_
  · rw [S_len]
    have : (1000 : Int) ≤ (2 ^ 63 - 1) / n := (Int.le_ediv_iff_mul_le (by omega)).mpr (by omega)
    omega
  · rw [S_len]
    refine decide_eq_false ?_
    have : (1000 * 1000 : Nat) ≤ sizeLine := by decide
    omega
  · by_cases h1 : n < 1
    · rw [if_pos h1]
      have e : n.toNat = 0 := by omega
      rw [e] at q
      exact ⟨by decide, .str (S []), H, I.tok _, ⟨_, rfl⟩, q⟩
    · rw [if_neg h1]
      by_cases h2 : (n == 1 || (S l).length == 0) = true
      · rw [if_pos h2]
        have e : (List.replicate n.toNat l).flatten = l := by
          rcases (by simpa using h2 : n = 1 ∨ (S l).length = 0) with e | e
          · subst e
            show (List.replicate 1 l).flatten = l
            simp
          · rw [S_len] at e
            have : l = [] := List.length_eq_zero_iff.mp e
            subst this
            simp
        rw [e] at q
        exact ⟨.str (S l), H, I, ⟨_, rfl⟩, q⟩
      · rw [if_neg h2]
        rw [fold_cat]
        have e : (⟨((#[] : Array Nat).toList ++ (List.replicate n.toNat (S l).cps.toList).flatten).toArray⟩ : Str) = S (List.replicate n.toNat l).flatten := rfl
        rw [e]
        refine ⟨?_, .str _, H, I.tok _, ⟨_, rfl⟩, q⟩
        rw [S_len, rep_len]
        have : (1000 * 1000 : Nat) ≤ sizeLine := by decide
        rw [Nat.mul_comm]
        omega
end
end Sw
namespace Sw
open PySem PySem.Spec PyProof.Rows L2 SX
/-! ### reading, step by step -/
section
variable {K : PySem.W.Frag} {σ : L2.St} {H : Hp} {Q : VK} {QT : Bool → Hp → Prop} {QA : List V → Hp → Prop} {D : Ends} {te ta tb tc : TE} {tr : TA} {t u : TS} {tt tu : TT} {r r' : R2} {i : Nat} {v x y : V} {a b : Int}
theorem g_seqasg (h : te σ H fun x H1 => u D (σ.set i (some x)) H1) : tSeq (tAsg te (gName i)) u D σ H := h
theorem g_seqdrop (h : te σ H fun _ H1 => u D σ H1) : tSeq (tDrop te) u D σ H := h
theorem g_seqsub {to ti : TE} {rs : TSet} (h : te σ H fun x H1 => to σ H1 fun o H2 => ti σ H2 fun k H3 => rs o k x H3 fun H4 => u D σ H4) : tSeq (tAsg te (gSub to ti rs)) u D σ H := h
/-- what follows is shown once, for all states of I, then the ways to it -/
theorem g_join (I : L2.St → Hp → Prop) (hu : ∀ σ' H', I σ' H' → u D σ' H') (h : ∀ U : L2.St → Hp → Prop, (∀ σ' H', I σ' H' → U σ' H') → t { D with nx := U } σ H) : tSeq t u D σ H := h _ hu
theorem g_seqif (h : tt σ H fun b H1 => if b = true then t { D with nx := u D } σ H1 else u D σ H1) {w : TS} (e : w = tNext) : tSeq (tIfS tt t w) u D σ H := by subst e; exact h
theorem g_seq (h : t { D with nx := u D } σ H) : tSeq t u D σ H := h
theorem g_asg (h : te σ H fun x H1 => D.nx (σ.set i (some x)) H1) : tAsg te (gName i) D σ H := h
theorem g_asgsub {to ti : TE} {rs : TSet} (h : te σ H fun x H1 => to σ H1 fun o H2 => ti σ H2 fun k H3 => rs o k x H3 fun H4 => D.nx σ H4) : tAsg te (gSub to ti rs) D σ H := h
theorem g_ret (h : te σ H fun x H1 => D.rt x H1) : tRet te D σ H := h
theorem g_drop (h : te σ H fun _ H1 => D.nx σ H1) : tDrop te D σ H := h
theorem g_name {QS : L2.St → Hp → Prop} (h : QS (σ.set i (some v)) H) : gName i v σ H QS := h
theorem g_next (h : D.nx σ H) : tNext D σ H := h
theorem g_if (h : tt σ H fun b H1 => if b = true then t D σ H1 else u D σ H1) : tIfS tt t u D σ H := h
theorem g_test (h : te σ H fun x H1 => ∃ k, x = .bl k ∧ QT k H1) : tTest te σ H QT := h
theorem g_yes (h : QT true H) : tYes σ H QT := h
theorem g_B (h : te σ H fun x H1 => ∃ k, x = .bl k ∧ QT k H1) : tB te σ H QT := h
theorem g_not (h : tt σ H fun c H1 => QT (!c) H1) : tNot tt σ H QT := h
theorem g_and (h : tt σ H fun c H1 => if c = true then tu σ H1 QT else QT false H1) : tAnd tt tu σ H QT := h
theorem g_or (h : tt σ H fun c H1 => if c = true then QT true H1 else tu σ H1 QT) : tOr tt tu σ H QT := h
theorem g_andV (h : ta σ H fun x H1 => ∃ c, x = .bl c ∧ if c = true then tb σ H1 Q else Q (.bl false) H1) : tAndV ta tb σ H Q := h
theorem g_orV (h : ta σ H fun x H1 => ∃ c, x = .bl c ∧ if c = true then Q (.bl true) H1 else tb σ H1 Q) : tOrV ta tb σ H Q := h
theorem g_notV (h : ta σ H fun x H1 => ∃ c, x = .bl c ∧ Q (.bl (!c)) H1) : tNotV ta σ H Q := h
theorem g_ifE (h : tt σ H fun c H1 => if c = true then ta σ H1 Q else tb σ H1 Q) : tIf tt ta tb σ H Q := h
theorem g_chain (h : ta σ H fun x H1 => tb σ H1 fun y H2 => r x y H2 fun z H3 => ∃ k, z = .bl k ∧ (if k = true then tc σ H3 fun w' H4 => r' y w' H4 Q else Q (.bl false) H3)) : tChain r r' ta tb tc σ H Q := h
theorem g_op (h : ta σ H fun x H1 => tb σ H1 fun y H2 => r x y H2 Q) : tOp r ta tb σ H Q := h
theorem g_un {ru : V → Hp → VK → Prop} (h : ta σ H fun x H1 => ru x H1 Q) : tUn ru ta σ H Q := h
theorem g_cons (h : ta σ H fun x H1 => tr σ H1 fun xs H2 => QA (x :: xs) H2) : tCons ta tr σ H QA := h
theorem g_nil (h : QA [] H) : tNil σ H QA := h
theorem g_cb {rc : RC} (h : tr σ H fun vs H1 => rc vs H1 Q) : tCB rc tr σ H Q := h
theorem g_call {sp : Sp} {E : XK} (h : tr σ H fun vs H1 => sp vs H1 Q E) : tCall sp [] E tr σ H Q := by
  unfold tCall
  have e : (fun vs H1 => sp (vs ++ []) H1 Q E) = (fun vs H1 => sp vs H1 Q E) := by
    funext vs H1
    rw [List.append_nil]
  rw [e]
  exact h
theorem g_tup (h : tr σ H fun xs H1 => xs.length ≤ sizeLine ∧ ∀ p, H1 p = none → Q (.ref p) (upd H1 p (.tup xs))) : tTup tr σ H Q := h
theorem g_lst (h : tr σ H fun xs H1 => xs.length ≤ sizeLine ∧ ∀ p, H1 p = none → Q (.ref p) (upd H1 p (.lst xs))) : tLst tr σ H Q := h
theorem g_var (hv : σ[i]? = some (some v)) (h : Q v H) : tVar i σ H Q := ⟨v, hv, h⟩
theorem g_c (h : Q v H) : tC v σ H Q := h
theorem g_sl {rs : V → Option Int → Option Int → Hp → VK → Prop} {tl th : TO} (h : te σ H fun x H1 => tl σ H1 fun l H2 => th σ H2 fun u H3 => rs x l u H3 Q) : tSl rs te tl th σ H Q := h
theorem g_part {QO : Option Int → Hp → Prop} (h : te σ H fun x H1 => ∃ i, x = .int i ∧ QO (some i) H1) : tPart te σ H QO := h
theorem g_m1 {rm : V → List V → Hp → VK → Prop} (h : ta σ H fun x H1 => (∃ a, x = .str a) ∧ tb σ H1 fun y H2 => rm x [y] H2 Q) : tM1 rm ta tb σ H Q := h
theorem g_nopart {QO : Option Int → Hp → Prop} (h : QO none H) : tNoPart σ H QO := h
/-! by values -/
theorem g_I0 {g : Int → Int → V} (h : Q (g a b) H) : rI0 g (.int a) (.int b) H Q := ⟨a, b, rfl, rfl, h⟩
theorem g_I {C : Int → Int → Prop} {g : Int → Int → V} (hc : C a b) (h : Q (g a b) H) : rI C g (.int a) (.int b) H Q := ⟨a, b, rfl, rfl, hc, h⟩
theorem g_U {g : Int → V} (h : Q (g a) H) : rU g (.int a) H Q := ⟨a, rfl, h⟩
theorem g_eq (hs : scal x y = true) (h : Q (.bl (decide (x = y))) H) : rEq x y H Q := ⟨hs, h⟩
theorem g_ne (hs : scal x y = true) (h : Q (.bl (!decide (x = y))) H) : rNe x y H Q := ⟨hs, h⟩
theorem g_ixL {p : Addr} {xs : List V} (h : H p = some (.lst xs)) (ha : atI xs a = some v) (q : Q v H) : rIxL K (.ref p) (.int a) H Q := ⟨p, xs, a, v, rfl, rfl, .inl (.inl h), ha, q⟩
theorem g_ixT {p : Addr} {xs : List V} (h : H p = some (.tup xs)) (ha : atI xs a = some v) (q : Q v H) : rIxT K (.ref p) (.int a) H Q := ⟨p, xs, a, v, rfl, rfl, .inl (.inl h), ha, q⟩
theorem g_setL {p : Addr} {xs ys : List V} {j : Nat} {QS : Hp → Prop} (h : H p = some (.lst xs)) (ha : ixN xs.length a = some j) (hy : xs.set j v = ys) (q : ∀ H', H' p = some (.lst ys) → (∀ b, b ≠ p → H' b = H b) → QS H') : rSetL (.ref p) (.int a) v H QS :=
  ⟨p, xs, a, j, rfl, rfl, h, ha, by rw [hy]; exact q _ upd_same fun b hb => upd_ne hb⟩
theorem cm {i j : Int} (h1 : -(2 ^ 500) < i) (h2 : i < 2 ^ 500) (h3 : -(2 ^ 500) < j) (h4 : j < 2 ^ 500) : CMulW i j := wide_mul (a := 500) (b := 500) (by omega) (by omega) (by decide) (by decide) (by decide)
theorem cd {i j : Int} (h1 : 0 < j) (h4 : j < 2 ^ 500) : CDivW i j := wide_div (b := 500) h1 (by omega) (by decide) (by decide)
theorem g_bl {c : Bool} {F : Bool → Prop} (h : F c) : ∃ k, V.bl c = .bl k ∧ F k := ⟨c, rfl, h⟩
theorem g_int {F : Int → Prop} (h : F a) : ∃ k, V.int a = .int k ∧ F k := ⟨a, rfl, h⟩
theorem ite_d {c A B : Prop} [Decidable c] (h1 : c → A) (h2 : ¬ c → B) : if decide c = true then A else B := by
  by_cases h : c
  · rw [if_pos (decide_eq_true h)]; exact h1 h
  · rw [if_neg (by rw [decide_eq_false h]; exact Bool.false_ne_true)]; exact h2 h
theorem ite_n {c A B : Prop} [Decidable c] (h1 : ¬ c → A) (h2 : c → B) : if (!decide c) = true then A else B := by
  by_cases h : c
  · rw [if_neg (by rw [decide_eq_true h]; exact Bool.false_ne_true)]; exact h2 h
  · rw [if_pos (by rw [decide_eq_false h]; rfl)]; exact h1 h
theorem ite_b {c : Bool} {A B : Prop} (h1 : c = true → A) (h2 : c = false → B) : if c = true then A else B := by
  cases c with
  | true => exact h1 rfl
  | false => exact h2 rfl
end

theorem iteNT {A B : Prop} (h : B) : if (!true) = true then A else B := h
theorem iteNF {A B : Prop} (h : A) : if (!false) = true then A else B := h
/-! ### loops -/
section
variable {K : PySem.W.Frag} {σ : L2.St} {H : Hp} {Q : VK} {D : Ends} {te ta : TE} {tr : TA} {tb : TS} {tt : TT} {g : TG} {j : Nat} {vs : List Nat}
/-- for i in range(e): C: what e comes to; Pv: the invariant -/
theorem for1 (C : Int → Hp → Prop) (hn : ∀ QA : List V → Hp → Prop, (∀ n H1, C n H1 → QA [.int n] H1) → tr σ H QA) (Pv : Int → Nat → L2.St → Hp → Prop) (p0 : ∀ n H1, C n H1 → n < 2 ^ 62 ∧ -(2 ^ 62) ≤ n ∧ Pv n 0 σ H1)
    (ps : ∀ (n : Int) (i : Nat) σ' H', (i : Int) < n → Pv n i σ' H' → tb { D with nx := Pv n (i + 1), ct := Pv n (i + 1), bk := D.nx } (σ'.set j (some (.int (i : Int)))) H') (pd : ∀ n σ' H', Pv n n.toNat σ' H' → D.nx σ' H') : tFor (iRng1 tr) (gName j) tb D σ H := by
  refine hn _ fun n H1 c => ?_
  obtain ⟨h1, h2, h0⟩ := p0 n H1 c
  refine ⟨n, rfl, h2, h1, for_range (lo := 0) (n := n.toNat) (Pv n) h0 (fun i σ' H' hi p => ?_) (pd n)⟩
  show tb _ (σ'.set j (some (.int ((0 : Int) + (i : Int))))) H'
  rw [Int.zero_add]
  exact ps n i σ' H' (by omega) p
/-- for i in range(lo, e) -/
theorem for2 (C : Int → Int → Hp → Prop) (hn : ∀ QA : List V → Hp → Prop, (∀ m n H1, C m n H1 → QA [.int m, .int n] H1) → tr σ H QA) (Pv : Int → Int → Nat → L2.St → Hp → Prop) (p0 : ∀ m n H1, C m n H1 → m < 2 ^ 62 ∧ -(2 ^ 62) ≤ m ∧ n < 2 ^ 62 ∧ -(2 ^ 62) ≤ n ∧ Pv m n 0 σ H1)
    (ps : ∀ (m n : Int) (i : Nat) σ' H', m + (i : Int) < n → Pv m n i σ' H' → tb { D with nx := Pv m n (i + 1), ct := Pv m n (i + 1), bk := D.nx } (σ'.set j (some (.int (m + (i : Int))))) H') (pd : ∀ m n σ' H', Pv m n (n - m).toNat σ' H' → D.nx σ' H') : tFor (iRng2 tr) (gName j) tb D σ H := by
  refine hn _ fun m n H1 c => ?_
  obtain ⟨h1, h2, h3, h4, h0⟩ := p0 m n H1 c
  exact ⟨m, n, rfl, ⟨h2, h1, h4, h3⟩, for_range (lo := m) (n := (n - m).toNat) (Pv m n) h0 (fun i σ' H' hi p => ps m n i σ' H' (by omega) p) (pd m n)⟩
/-- [.. for i in range(e) if ..] -/
theorem lc1 (C : Int → Hp → Prop) (hn : ∀ QA : List V → Hp → Prop, (∀ n H1, C n H1 → QA [.int n] H1) → tr σ H QA) (hC : ∀ n H1, C n H1 → n < 2 ^ 62 ∧ -(2 ^ 62) ≤ n) (Pv : Addr → Int → Nat → Hp → Prop) (p0 : ∀ Dl n H1, C n H1 → H1 Dl = none → Pv Dl n 0 (upd H1 Dl (.lst [])))
    (hw : ∀ x : V, wipe ((wipe σ vs).set j (some x)) vs = wipe σ vs)
    (ps : ∀ Dl (n : Int) (i : Nat) H', (i : Int) < n → Pv Dl n i H' → tt ((wipe σ vs).set j (some (.int (i : Int)))) H' fun b H3 => if b = true then te ((wipe σ vs).set j (some (.int (i : Int)))) H3 fun y H4 => ∃ acc, H4 Dl = some (.lst acc) ∧ acc.length < sizeLine ∧ Pv Dl n (i + 1) (upd H4 Dl (.lst (acc ++ [y]))) else Pv Dl n (i + 1) H3)
    (pd : ∀ Dl n H', Pv Dl n n.toNat H' → Q (.ref Dl) H') : tLc (iRng1 tr) (gName j) tt te vs σ H Q := by
  refine hn _ fun n H1 c => ?_
  obtain ⟨h1, h2⟩ := hC n H1 c
  refine ⟨n, rfl, h2, h1, fun Dl hD => lc_range (lo := 0) (n := n.toNat) (Pv Dl n) (p0 Dl n H1 c hD) (fun i H' hi p => ?_) (fun H' q => pd Dl n H' q)⟩
  have e : (0 : Int) + (i : Int) = (i : Int) := Int.zero_add _
  show wipe ((wipe σ vs).set j (some (.int ((0 : Int) + (i : Int))))) vs = wipe σ vs ∧ tt ((wipe σ vs).set j (some (.int ((0 : Int) + (i : Int))))) H' _
  rw [e]
  exact ⟨hw _, ps Dl n i H' (by omega) p⟩
/-- for c in text -/
theorem forS {l : List Nat} (hn : ∀ Q : VK, Q (.str (S l)) H → te σ H Q) (Pv : Nat → L2.St → Hp → Prop) (p0 : Pv 0 σ H)
    (ps : ∀ (i : Nat) (c : Nat) σ' H', l[i]? = some c → Pv i σ' H' → tb { D with nx := Pv (i + 1), ct := Pv (i + 1), bk := D.nx } (σ'.set j (some (.str (S [c])))) H') (pd : ∀ σ' H', Pv l.length σ' H' → D.nx σ' H') : tFor (iStr te) (gName j) tb D σ H := by
  refine hn _ ⟨S l, rfl, fun i m σ H => m = l.length - i ∧ i ≤ l.length ∧ Pv i σ H, ⟨l.length, by omega, by omega, p0⟩, ?_⟩
  rintro i m σ' H' ⟨rfl, hi, p⟩
  have es : (S l).cps.size = l.length := by simp
  by_cases hlt : i < l.length
  · refine .inr ⟨by show i < (S l).cps.size; omega, Pv (i + 1), fun σ2 H2 p' => ⟨l.length - (i + 1), by omega, rfl, by omega, p'⟩, fun v H2 y => ?_⟩
    obtain ⟨e, c, hc, ev⟩ := y
    subst e ev
    exact ps i c σ' _ (by simpa using hc) p
  · have e : i = l.length := by omega
    subst e
    exact .inl ⟨by show (S l).cps.size ≤ l.length; omega, pd σ' H' p⟩
/-- for x in a list that stays -/
theorem forL {a : Addr} {xs : List V} (hn : ∀ Q : VK, Q (.ref a) H → te σ H Q) (Pv : Nat → L2.St → Hp → Prop) (p0 : Pv 0 σ H) (hl : ∀ i σ' H', i ≤ xs.length → Pv i σ' H' → SqL K H' a xs)
    (ps : ∀ (i : Nat) (x : V) σ' H', xs[i]? = some x → Pv i σ' H' → g x σ' H' fun σ2 H2 => tb { D with nx := Pv (i + 1), ct := Pv (i + 1), bk := D.nx } σ2 H2) (pd : ∀ σ' H', Pv xs.length σ' H' → D.nx σ' H') : tFor (iList K te) g tb D σ H := by
  have h0 := hl 0 σ H (Nat.zero_le _) p0
  exact hn _ ⟨a, rfl, ⟨xs, h0⟩, for_list Pv p0 hl ps pd⟩
/-! ### comprehensions whose tests and items leave the heap as it is -/
/-- the items of the turns that are taken -/
def given (n : Nat) (f : Nat → Bool) (v : Nat → V) : List V := ((List.range n).filter f).map v
theorem given_yes {n : Nat} {f : Nat → Bool} {v : Nat → V} (h : f n = true) : given (n + 1) f v = given n f v ++ [v n] := by
  unfold given
  rw [List.range_succ, List.filter_append, List.map_append]
  simp [h]
theorem given_no {n : Nat} {f : Nat → Bool} {v : Nat → V} (h : f n = false) : given (n + 1) f v = given n f v := by
  unfold given
  rw [List.range_succ, List.filter_append, List.map_append]
  simp [h]
theorem given_len (n : Nat) (f : Nat → Bool) (v : Nat → V) : (given n f v).length ≤ n := by
  unfold given
  rw [List.length_map]
  have h := List.length_filter_le f (List.range n)
  rw [List.length_range] at h
  exact h
/-- between two turns: the new list at Dl -/
def Lw (H : Hp) (f : Nat → Bool) (v : Nat → V) (Dl : Addr) (i : Nat) (H' : Hp) : Prop := H Dl = none ∧ Same H H' ∧ H' Dl = some (.lst (given i f v))
theorem lw_start {f : Nat → Bool} {v : Nat → V} {Dl : Addr} (h : H Dl = none) : Lw H f v Dl 0 (upd H Dl (.lst [])) := ⟨h, fun b o e => by rw [upd_ne (ne_of_none e h)]; exact e, upd_same⟩
theorem lw_turn {H' : Hp} {f : Nat → Bool} {v : Nat → V} {Dl : Addr} {i : Nat} {τ : L2.St} (p : Lw H f v Dl i H') (hi : i < 1000000) (ht : ∀ QT : Bool → Hp → Prop, QT (f i) H' → tt τ H' QT) (he : f i = true → ∀ Q : VK, Q (v i) H' → te τ H' Q) :
    tt τ H' fun b H3 => if b = true then te τ H3 fun y H4 => ∃ acc, H4 Dl = some (.lst acc) ∧ acc.length < sizeLine ∧ Lw H f v Dl (i + 1) (upd H4 Dl (.lst (acc ++ [y]))) else Lw H f v Dl (i + 1) H3 := by
  obtain ⟨p1, p2, p3⟩ := p
  refine ht _ ?_
  cases hf : f i with
  | true =>
    refine iteT (he hf _ ⟨_, p3, ?_, p1, fun b o e => ?_, ?_⟩)
    · exact Nat.lt_of_le_of_lt (given_len i f v) (Nat.lt_trans hi (by decide))
    · rw [upd_ne (ne_of_none e p1)]; exact p2 b o e
    · rw [given_yes hf]; exact upd_same
  | false =>
    refine iteF ⟨p1, p2, ?_⟩
    rw [given_no hf]; exact p3
theorem lcP1 {n : Int} (f : Nat → Bool) (v : Nat → V) (hn : ∀ QA : List V → Hp → Prop, QA [.int n] H → tr σ H QA) (h1 : n ≤ 100000) (h2 : -100000 ≤ n) (hw : ∀ x : V, wipe ((wipe σ vs).set j (some x)) vs = wipe σ vs)
    (ht : ∀ (i : Nat) H' (QT : Bool → Hp → Prop), (i : Int) < n → Same H H' → QT (f i) H' → tt ((wipe σ vs).set j (some (.int (i : Int)))) H' QT)
    (he : ∀ (i : Nat) H' (Q : VK), (i : Int) < n → Same H H' → f i = true → Q (v i) H' → te ((wipe σ vs).set j (some (.int (i : Int)))) H' Q)
    (pd : ∀ Dl H', H Dl = none → Same H H' → H' Dl = some (.lst (given n.toNat f v)) → Q (.ref Dl) H') : tLc (iRng1 tr) (gName j) tt te vs σ H Q := by
  refine lc1 (fun m H1 => m = n ∧ H1 = H) (fun QA h => hn QA (h _ _ ⟨rfl, rfl⟩)) (fun m H1 e => by omega) (fun Dl m i H' => m = n ∧ Lw H f v Dl i H') (fun Dl m H1 e nD => ?_) hw (fun Dl m i H' hi p => ?_) (fun Dl m H' p => ?_)
  · obtain ⟨rfl, rfl⟩ := e
    exact ⟨rfl, lw_start nD⟩
  · obtain ⟨rfl, p⟩ := p
    have z := lw_turn (tt := tt) (te := te) (τ := (wipe σ vs).set j (some (.int (i : Int)))) p (by omega) (fun QT q => ht i H' QT hi p.2.1 q) (fun hf Q q => he i H' Q hi p.2.1 hf q)
    simp only [eq_self, true_and]
    exact z
  · obtain ⟨rfl, p⟩ := p
    exact pd Dl H' p.1 p.2.1 p.2.2
theorem lc2 (C : Int → Int → Hp → Prop) (hn : ∀ QA : List V → Hp → Prop, (∀ m n H1, C m n H1 → QA [.int m, .int n] H1) → tr σ H QA) (hC : ∀ m n H1, C m n H1 → m < 2 ^ 62 ∧ -(2 ^ 62) ≤ m ∧ n < 2 ^ 62 ∧ -(2 ^ 62) ≤ n) (Pv : Addr → Int → Int → Nat → Hp → Prop)
    (p0 : ∀ Dl m n H1, C m n H1 → H1 Dl = none → Pv Dl m n 0 (upd H1 Dl (.lst []))) (hw : ∀ x : V, wipe ((wipe σ vs).set j (some x)) vs = wipe σ vs)
    (ps : ∀ Dl (m n : Int) (i : Nat) H', m + (i : Int) < n → Pv Dl m n i H' → tt ((wipe σ vs).set j (some (.int (m + (i : Int))))) H' fun b H3 => if b = true then te ((wipe σ vs).set j (some (.int (m + (i : Int))))) H3 fun y H4 => ∃ acc, H4 Dl = some (.lst acc) ∧ acc.length < sizeLine ∧ Pv Dl m n (i + 1) (upd H4 Dl (.lst (acc ++ [y]))) else Pv Dl m n (i + 1) H3)
    (pd : ∀ Dl m n H', Pv Dl m n (n - m).toNat H' → Q (.ref Dl) H') : tLc (iRng2 tr) (gName j) tt te vs σ H Q := by
  refine hn _ fun m n H1 c => ?_
  obtain ⟨h1, h2, h3, h4⟩ := hC m n H1 c
  exact ⟨m, n, rfl, ⟨h2, h1, h4, h3⟩, fun Dl hD => lc_range (lo := m) (n := (n - m).toNat) (Pv Dl m n) (p0 Dl m n H1 c hD) (fun i H' hi p => ⟨hw _, ps Dl m n i H' (by omega) p⟩) (fun H' q => pd Dl m n H' q)⟩
theorem lcP2 {m n : Int} (f : Nat → Bool) (v : Nat → V) (hn : ∀ QA : List V → Hp → Prop, QA [.int m, .int n] H → tr σ H QA) (h1 : n ≤ 100000) (h2 : -100000 ≤ n) (h3 : m ≤ 100000) (h4 : -100000 ≤ m) (hw : ∀ x : V, wipe ((wipe σ vs).set j (some x)) vs = wipe σ vs)
    (ht : ∀ (i : Nat) H' (QT : Bool → Hp → Prop), m + (i : Int) < n → Same H H' → QT (f i) H' → tt ((wipe σ vs).set j (some (.int (m + (i : Int))))) H' QT)
    (he : ∀ (i : Nat) H' (Q : VK), m + (i : Int) < n → Same H H' → f i = true → Q (v i) H' → te ((wipe σ vs).set j (some (.int (m + (i : Int))))) H' Q)
    (pd : ∀ Dl H', H Dl = none → Same H H' → H' Dl = some (.lst (given (n - m).toNat f v)) → Q (.ref Dl) H') : tLc (iRng2 tr) (gName j) tt te vs σ H Q := by
  refine lc2 (fun a b H1 => a = m ∧ b = n ∧ H1 = H) (fun QA h => hn QA (h _ _ _ ⟨rfl, rfl, rfl⟩)) (fun a b H1 e => by omega) (fun Dl a b i H' => a = m ∧ b = n ∧ Lw H f v Dl i H') (fun Dl a b H1 e nD => ?_) hw (fun Dl a b i H' hi p => ?_) (fun Dl a b H' p => ?_)
  · obtain ⟨rfl, rfl, rfl⟩ := e
    exact ⟨rfl, rfl, lw_start nD⟩
  · obtain ⟨rfl, rfl, p⟩ := p
    have z := lw_turn (tt := tt) (te := te) (τ := (wipe σ vs).set j (some (.int (a + (i : Int))))) p (by omega) (fun QT q => ht i H' QT hi p.2.1 q) (fun hf Q q => he i H' Q hi p.2.1 hf q)
    simp only [eq_self, true_and]
    exact z
  · obtain ⟨rfl, rfl, p⟩ := p
    exact pd Dl H' p.1 p.2.1 p.2.2
/-- over a list -/
theorem lcPL {a : Addr} {xs : List V} (f : Nat → Bool) (v : Nat → V) (hn : ∀ Q : VK, Q (.ref a) H → ta σ H Q) (hx : SqL K H a xs) (hz : xs.length ≤ 100000) (hw : ∀ x : V, wipe ((wipe σ vs).set j (some x)) vs = wipe σ vs)
    (ht : ∀ (i : Nat) x H' (QT : Bool → Hp → Prop), xs[i]? = some x → Same H H' → QT (f i) H' → tt ((wipe σ vs).set j (some x)) H' QT)
    (he : ∀ (i : Nat) x H' (Q : VK), xs[i]? = some x → Same H H' → f i = true → Q (v i) H' → te ((wipe σ vs).set j (some x)) H' Q)
    (pd : ∀ Dl H', H Dl = none → Same H H' → H' Dl = some (.lst (given xs.length f v)) → Q (.ref Dl) H') : tLc (iList K ta) (gName j) tt te vs σ H Q := by
  refine hn _ ⟨a, rfl, ⟨xs, hx⟩, fun Dl hD => lc_list (xs := xs) (Lw H f v Dl) (lw_start hD) (fun i H' _ p => p.2.1.seq hx) (fun i x H' hi p => ⟨hw x, ?_⟩) (fun H' p => pd Dl H' p.1 p.2.1 p.2.2)⟩
  have := (List.getElem?_eq_some_iff.mp hi).1
  exact lw_turn (tt := tt) (te := te) p (by omega) (fun QT q => ht i x H' QT hi p.2.1 q) (fun hf Q q => he i x H' Q hi p.2.1 hf q)
/-- over a text -/
theorem lcPS {l : List Nat} (f : Nat → Bool) (v : Nat → V) (hn : ∀ Q : VK, Q (.str (S l)) H → ta σ H Q) (hz : l.length ≤ 100000) (hw : ∀ x : V, wipe ((wipe σ vs).set j (some x)) vs = wipe σ vs)
    (ht : ∀ (i : Nat) c H' (QT : Bool → Hp → Prop), l[i]? = some c → Same H H' → QT (f i) H' → tt ((wipe σ vs).set j (some (.str (S [c])))) H' QT)
    (he : ∀ (i : Nat) c H' (Q : VK), l[i]? = some c → Same H H' → f i = true → Q (v i) H' → te ((wipe σ vs).set j (some (.str (S [c])))) H' Q)
    (pd : ∀ Dl H', H Dl = none → Same H H' → H' Dl = some (.lst (given l.length f v)) → Q (.ref Dl) H') : tLc (iStr ta) (gName j) tt te vs σ H Q := by
  have es : (S l).cps.size = l.length := by simp
  refine hn _ ⟨S l, rfl, fun Dl hD => ⟨fun i m H' => m = l.length - i ∧ i ≤ l.length ∧ Lw H f v Dl i H', ⟨l.length, by omega, by omega, lw_start hD⟩, ?_⟩⟩
  rintro i m H' ⟨rfl, hi, p⟩
  by_cases hlt : i < l.length
  · refine .inr ⟨by show i < (S l).cps.size; omega, fun H2 => Lw H f v Dl (i + 1) H2, fun H2 p' => ⟨l.length - (i + 1), by omega, rfl, by omega, p'⟩, fun x H2 y => ?_⟩
    obtain ⟨e, c, hc, ev⟩ := y
    subst e ev
    have hc' : l[i]? = some c := by simpa using hc
    exact ⟨hw _, lw_turn (tt := tt) (te := te) p (by omega) (fun QT q => ht i c _ QT hc' p.2.1 q) (fun hf Q q => he i c _ Q hc' p.2.1 hf q)⟩
  · have e : i = l.length := by omega
    subst e
    exact .inl ⟨by show (S l).cps.size ≤ l.length; omega, pd Dl H' p.1 p.2.1 p.2.2⟩
end
section
variable {K : PySem.W.Frag} {σ : L2.St} {H H' : Hp} {Q : VK} {D : Ends} {te ta : TE} {tr : TA} {T : String}
theorem g_bm {rm : V → List V → Hp → VK → Prop} (h : ta σ H fun x H1 => tyV K T x H1 ∧ tr σ H1 fun ys H2 => rm x ys H2 Q) : tBM K T rm ta tr σ H Q := h
theorem ty_lst {l : Addr} {xs : List V} (h : H l = some (.lst xs)) : tyV K "list" (.ref l) H := .inl ⟨rfl, _, .inl (.inl h)⟩
theorem g_sput {td ty tv : TE} {u : TS} (h : tv σ H fun v H1 => td σ H1 fun x H2 => ty σ H2 fun y H3 => ∃ a H4, x = .ref a ∧ DPut H3 a y v H4 ∧ u D σ H4) : tSeq (sDPut td ty tv) u D σ H := h
theorem g_put {td ty tv : TE} (h : tv σ H fun v H1 => td σ H1 fun x H2 => ty σ H2 fun y H3 => ∃ a H4, x = .ref a ∧ DPut H3 a y v H4 ∧ D.nx σ H4) : sDPut td ty tv D σ H := h
theorem g_dget2 {td ty tx : TE} (h : td σ H fun x H1 => ∃ a, x = .ref a ∧ IsD H1 a ∧ ty σ H1 fun y H2 => tx σ H2 fun z H3 => ∃ o, DGet H3 a y o ∧ Q (o.getD z) H3) : tDGet2 td ty tx σ H Q := h
theorem g_dget {td ty : TE} (h : td σ H fun x H1 => ty σ H1 fun y H2 => ∃ a v, x = .ref a ∧ DGet H2 a y (some v) ∧ Q v H2) : tDGet td ty σ H Q := h
theorem g_dnotin {td ty : TE} (h : ty σ H fun y H1 => td σ H1 fun x H2 => ∃ a o, x = .ref a ∧ DGet H2 a y o ∧ Q (.bl (!o.isSome)) H2) : tDNotIn ty td σ H Q := h
theorem g_din {td ty : TE} (h : ty σ H fun y H1 => td σ H1 fun x H2 => ∃ a o, x = .ref a ∧ DGet H2 a y o ∧ Q (.bl o.isSome) H2) : tDIn ty td σ H Q := h
theorem g_dT (h : ∀ p, H p = none → Q (.ref p) (upd H p (.dT []))) : tDNewT σ H Q := h
theorem g_bm0 {rm : V → List V → Hp → VK → Prop} (h : ta σ H fun x H1 => tyV K T x H1 ∧ rm x [] H1 Q) : tBM0 K T rm ta σ H Q := h
theorem g_dK (h : ∀ p, H p = none → Q (.ref p) (upd H p (.dK []))) : tDNewK σ H Q := h
end
end Sw
local macro_rules | `(tactic| walk_at "go1") => `(tactic| first
  | with_reducible refine Sw.g_seqasg ?_ | with_reducible refine Sw.g_op ?_ | with_reducible refine Sw.g_var rfl ?_ | with_reducible refine Sw.g_c ?_ | with_reducible refine Sw.g_I0 ?_
  | with_reducible refine Sw.g_cons ?_ | with_reducible refine Sw.g_nil ?_ | with_reducible refine Sw.g_call ?_ | with_reducible refine Sw.g_cb ?_ | with_reducible refine Sw.g_test ?_ | with_reducible refine Sw.g_bl ?_
  | with_reducible refine Sw.g_seqdrop ?_ | with_reducible refine Sw.g_seqsub ?_ | with_reducible refine Sw.g_asg ?_ | with_reducible refine Sw.g_asgsub ?_ | with_reducible refine Sw.g_ret ?_ | with_reducible refine Sw.g_drop ?_ | with_reducible refine Sw.g_if ?_ | with_reducible refine Sw.g_next ?_ | with_reducible refine Sw.g_name ?_
  | with_reducible refine Sw.g_B ?_ | with_reducible refine Sw.g_not ?_ | with_reducible refine Sw.g_and ?_ | with_reducible refine Sw.g_or ?_ | with_reducible refine Sw.g_andV ?_ | with_reducible refine Sw.g_orV ?_ | with_reducible refine Sw.g_notV ?_
  | with_reducible refine Sw.g_ifE ?_ | with_reducible refine Sw.g_chain ?_ | with_reducible refine Sw.g_un ?_ | with_reducible refine Sw.g_tup ?_ | with_reducible refine Sw.g_lst ?_ | with_reducible refine Sw.g_sl ?_ | with_reducible refine Sw.g_part ?_ | with_reducible refine Sw.g_nopart ?_
  | with_reducible refine Sw.g_U ?_ | with_reducible refine Sw.g_eq rfl ?_ | with_reducible refine Sw.g_ne rfl ?_ | with_reducible refine Sw.g_int ?_ | with_reducible refine Sw.g_yes ?_ | with_reducible refine L2.iteT ?_ | with_reducible refine L2.iteF ?_ | with_reducible refine Sw.iteNT ?_ | with_reducible refine Sw.iteNF ?_ | with_reducible refine Sw.g_m1 ?_ | with_reducible refine Sw.g_bm ?_ | with_reducible refine ⟨Sw.ty_lst (by assumption), ?_⟩ | with_reducible refine Sw.g_sput ?_ | with_reducible refine Sw.g_put ?_ | with_reducible refine Sw.g_dget2 ?_ | with_reducible refine Sw.g_dget ?_ | with_reducible refine Sw.g_dK ?_ | with_reducible refine Sw.g_dT ?_ | with_reducible refine Sw.g_dnotin ?_ | with_reducible refine Sw.g_din ?_ | with_reducible refine Sw.g_bm0 ?_
  | with_reducible refine Sw.g_ixL (by assumption) rfl ?_ | with_reducible refine Sw.g_ixT (by assumption) rfl ?_)
local macro_rules | `(tactic| walk_at "go") => `(tactic| repeat walk_at "go1")
local macro_rules | `(tactic| walk_at "bd") => `(tactic| repeat (first | with_reducible exact Sw.all_nil | refine Sw.all_cons ⟨_, rfl, by omega, by omega⟩ ?_))
local macro_rules | `(tactic| walk_at "new") => `(tactic| (refine ⟨Nat.le_of_ble_eq_true rfl, fun p np => ?_⟩; generalize hX : L2.upd _ p _ = H'; have sm : L2.Same _ H' := hX ▸ Sw.same_upd np; have hp : H' p = some _ := hX ▸ L2.upd_same; clear hX))
namespace Sw
open PySem PySem.Spec PyProof.Rows L2 SX
/-! ### draws -/
def Dr (H : Hp) (d : Addr) : Prop := ∃ c s p : Int, H d = some (.lst [.int c, .int s, .int p]) ∧ 0 ≤ s ∧ s ≤ 2147500000 ∧ 0 < p ∧ p ≤ 2147483647
/-- all but d stays -/
def Fr (d : Addr) (H H' : Hp) : Prop := ∀ b o, b ≠ d → H b = some o → H' b = some o
theorem Fr.refl (d : Addr) (H : Hp) : Fr d H H := fun _ _ _ h => h
theorem Fr.trans {d : Addr} {H H1 H2 : Hp} (a : Fr d H H1) (b : Fr d H1 H2) : Fr d H H2 := fun x o n h => b x o n (a x o n h)
theorem Fr.of {d : Addr} {H H' : Hp} (a : Same H H') : Fr d H H' := fun x o _ h => a x o h
theorem same_upd {H : Hp} {p : Addr} {o : HO} (h : H p = none) : Same H (upd H p o) := fun b x e => by
  rw [upd_ne (ne_of_none e h)]
  exact e
theorem Same.tup {K : PySem.W.Frag} {H H' : Hp} {a : Addr} {xs : List V} (e : Same H H') (h : SqT K H a xs) : SqT K H' a xs := by
  rcases h with (h | ⟨o, h⟩) | h
  · exact .inl (.inl (e _ _ h))
  · exact .inl (.inr ⟨o, e _ _ h⟩)
  · exact .inr h
/-- the law's state: draws stand at d; G: what stays -/
structure LS (G : Hp) (d : Addr) (H : Hp) : Prop where
  dr : Dr H d
  ex : Same G H
  no : G d = none
section
variable {G H H' : Hp} {d p : Addr} {o : HO}
theorem LS.to (hs : LS G d H) (dr : Dr H' d) (fr : Fr d H H') : LS G d H' := ⟨dr, fun b x e => fr b x (ne_of_none e hs.no) (hs.ex b x e), hs.no⟩
theorem Dr.same (h : Dr H d) (e : Same H H') : Dr H' d := by
  obtain ⟨c, s, p, h1, h2⟩ := h
  exact ⟨c, s, p, e _ _ h1, h2⟩
theorem Dr.ne (h : Dr H d) (np : H p = none) : p ≠ d := fun e => by
  obtain ⟨c, s, q, h1, _⟩ := h
  rw [← e, np] at h1
  cases h1
/-- all but d stays -/
def but (H : Hp) (d : Addr) : Hp := fun b => if b = d then none else H b
theorem LS.of (dr : Dr H d) : LS (but H d) d H := ⟨dr, fun b o e => by
  unfold but at e
  by_cases hb : b = d
  · rw [if_pos hb] at e; cases e
  · rw [if_neg hb] at e; exact e, if_pos rfl⟩
theorem LS.fr (hs : LS (but H d) d H') : Fr d H H' := fun b o n e => hs.ex b o (by unfold but; rw [if_neg n]; exact e)
theorem LS.nog (hs : LS G d H) (np : H p = none) : G p = none := hs.ex.free np
/-- a new object that stays -/
theorem LS.new (hs : LS G d H) (np : H p = none) : LS (upd G p o) d (upd H p o) :=
  ⟨hs.dr.same (same_upd np), fun b x e => by
    by_cases hb : b = p
    · subst hb
      rw [upd_same] at e ⊢
      exact e
    · rw [upd_ne hb] at e ⊢
      exact hs.ex b x e, by rw [upd_ne (hs.dr.ne np).symm]; exact hs.no⟩
/-- a new object that doesn't matter -/
theorem LS.old (hs : LS G d H) (np : H p = none) : LS G d (upd H p o) := ⟨hs.dr.same (same_upd np), fun b x e => same_upd np b x (hs.ex b x e), hs.no⟩
/-- another object than d, of which G knows nothing, is changed -/
theorem LS.put (hs : LS G d H) (np : G p = none) (hp : p ≠ d) : LS G d (upd H p o) := by
  obtain ⟨c, s, q, h1, h2⟩ := hs.dr
  exact ⟨⟨c, s, q, by rw [upd_ne hp.symm]; exact h1, h2⟩, fun b x e => by rw [upd_ne (ne_of_none e np)]; exact hs.ex b x e, hs.no⟩
theorem LS.less {G' : Hp} (hs : LS G' d H) (e : Same G G') : LS G d H := ⟨hs.dr, fun b x q => hs.ex b x (e b x q), e.free hs.no⟩
theorem LS.same (hs : LS G d H) (e : Same H H') : LS G d H' := ⟨hs.dr.same e, fun b x q => e b x (hs.ex b x q), hs.no⟩
theorem LS.drop (hs : LS (upd G p o) d H) (np : G p = none) : LS G d H := hs.less (same_upd np)
end
theorem all_nil {P : V → Prop} : ∀ x ∈ ([] : List V), P x := fun _ h => nomatch h
theorem all_cons {P : V → Prop} {y : V} {l : List V} (h : P y) (hl : ∀ x ∈ l, P x) : ∀ x ∈ y :: l, P x := fun x hx => by
  rcases List.mem_cons.mp hx with e | e
  · rw [e]; exact h
  · exact hl x e
theorem atI_of {α : Type} {xs : List α} {r : Int} (h0 : 0 ≤ r) (h1 : r < (xs.length : Int)) : ∃ v, atI xs r = some v ∧ v ∈ xs ∧ xs[r.toNat]? = some v := by
  have hl : r.toNat < xs.length := by omega
  have e : ((r.toNat : Nat) : Int) = r := by omega
  have z := atI_nat (xs := xs) (j := r.toNat) (List.getElem?_eq_getElem hl)
  rw [e] at z
  exact ⟨xs[r.toNat], z, List.getElem_mem hl, List.getElem?_eq_getElem hl⟩
/-- a drawn item of a list that was just made -/
theorem LS.at {K : PySem.W.Frag} {G H : Hp} {d p : Addr} {xs : List V} {r : Int} {Q : VK} (hs : LS (upd G p (.lst xs)) d H) (np : G p = none) (P : V → Prop) (hP : ∀ x ∈ xs, P x) (h0 : 0 ≤ r) (h1 : r < (xs.length : Int)) (q : ∀ v, P v → LS G d H → Q v H) : rIxL K (.ref p) (.int r) H Q := by
  obtain ⟨v, e, hv, _⟩ := atI_of h0 h1
  exact ⟨p, xs, r, v, rfl, rfl, .inl (.inl (hs.ex p _ upd_same)), e, q v (hP v hv) (hs.drop np)⟩
def sp_law_draw (K : PySem.W.Frag) : Sp := fun vs H Q _ => ∃ (d : Addr) (m : Int), vs = [.ref d, .int m] ∧ Dr H d ∧ 0 < m ∧ m < 2 ^ 300 ∧ ∀ r H', 0 ≤ r → r < m → Dr H' d → (∀ b, b ≠ d → H' b = H b) → Q (.int r) H'
def t_law_draw (K : PySem.W.Frag) : TS :=
  (tSeq (tIfS (tTest (tOp rGt (tOp (rIxL K) (tVar 0) (tC (.int 0))) (tC (.int 0)))) (tSeq (tAsg (tOp rMod (tOp (rIxL K) (tVar 0) (tC (.int 0))) (tVar 1)) (gName 2))
  (tSeq (tAsg (tOp rDivW (tOp (rIxL K) (tVar 0) (tC (.int 0))) (tVar 1)) (gSub (tVar 0) (tC (.int 0)) rSetL))
  (tRet (tVar 2)))) tNext)
  (tSeq (tAsg (tOp rAdd (tOp rMod (tOp rMulW (tOp (rIxL K) (tVar 0) (tC (.int 1))) (tC (.int 69621))) (tOp (rIxL K) (tVar 0) (tC (.int 2)))) (tC (.int 1))) (gSub (tVar 0) (tC (.int 1)) rSetL))
  (tRet (tOp rMod (tOp rDivW (tOp rMod (tOp rMulW (tOp (rIxL K) (tVar 0) (tC (.int 1))) (tOp rAdd (tOp rDivW (tOp (rIxL K) (tVar 0) (tC (.int 1))) (tC (.int 128))) (tC (.int 3)))) (tC (.int 2147483423))) (tC (.int 8))) (tVar 1)))))

theorem LS.draw {K : PySem.W.Frag} {G H : Hp} {d : Addr} {m : Int} {Q : VK} {E : XK} (hs : LS G d H) (m0 : 0 < m) (m1 : m < 2 ^ 300) (k : ∀ r H', 0 ≤ r → r < m → LS G d H' → Q (.int r) H') : sp_law_draw K [.ref d, .int m] H Q E :=
  ⟨d, m, rfl, hs.dr, m0, m1, fun r H' h0 h1 dr kp => k r H' h0 h1 (hs.to dr fun b o n e => (kp b n).trans e)⟩
/-- .. and another object stays -/
theorem LS.drawP {K : PySem.W.Frag} {G H : Hp} {d p : Addr} {o : HO} {m : Int} {Q : VK} {E : XK} (hs : LS G d H) (m0 : 0 < m) (m1 : m < 2 ^ 300) (hp : p ≠ d) (ho : H p = some o) (k : ∀ r H', 0 ≤ r → r < m → LS G d H' → H' p = some o → Q (.int r) H') : sp_law_draw K [.ref d, .int m] H Q E :=
  ⟨d, m, rfl, hs.dr, m0, m1, fun r H' h0 h1 dr kp => k r H' h0 h1 (hs.to dr fun b o n e => (kp b n).trans e) ((kp p hp).trans ho)⟩
theorem ln_law_draw {K : PySem.W.Frag} {vs : List V} {H : Hp} {Q : VK} {E : XK} (h : sp_law_draw K vs H Q E) : vs.length = 2 := by
  obtain ⟨_, _, rfl, _⟩ := h
  rfl
theorem rd_law_draw {K : PySem.W.Frag} {vs : List V} {H : Hp} {Q : VK} {E : XK} (h : sp_law_draw K vs H Q E) : t_law_draw K { nx := fun _ H' => Q .non H', rt := Q } (start ["draws", "many", "found"] vs) H := by
  obtain ⟨d, m, rfl, ⟨c, s, p, hd, s0, s1, p0, p1⟩, m0, m1, k⟩ := h
  show t_law_draw K _ [some (.ref d), some (.int m), none] H
  unfold t_law_draw
  refine g_seq ?_
  walk_at "go"
  refine ite_d (fun hc => ?_) (fun hc => ?_)
  · walk_at "go"
    refine g_I m0 ?_
    walk_at "go"
    refine g_I (cd m0 (by omega)) ?_
    walk_at "go"
    refine g_setL hd rfl rfl fun H1 h1 kp => ?_
    walk_at "go"
    exact k _ _ (Int.emod_nonneg _ (by omega)) (Int.emod_lt_of_pos _ m0) ⟨c / m, s, p, h1, s0, s1, p0, p1⟩ kp
  · walk_at "go"
    refine g_I (cm (by omega) (by omega) (by omega) (by omega)) ?_
    walk_at "go"
    refine g_I p0 ?_
    have e0 : 0 ≤ s * 69621 % p := Int.emod_nonneg _ (by omega)
    have e1 : s * 69621 % p < p := Int.emod_lt_of_pos _ p0
    generalize s * 69621 % p = z at e0 e1
    walk_at "go"
    refine g_setL hd rfl rfl fun H1 h1 kp => ?_
    walk_at "go"
    refine g_I (cd (by decide) (by decide)) ?_
    walk_at "go"
    refine g_I (cm (by omega) (by omega) (by omega) (by omega)) ?_
    walk_at "go"
    refine g_I (by decide) ?_
    walk_at "go"
    refine g_I (cd (by decide) (by decide)) ?_
    walk_at "go"
    refine g_I m0 ?_
    exact k _ _ (Int.emod_nonneg _ (by omega)) (Int.emod_lt_of_pos _ m0) ⟨c, z + 1, p, h1, by omega, by omega, p0, p1⟩ kp
/-! ### the draws of a cell -/
def sp_law_draws (K : PySem.W.Frag) : Sp := fun vs H Q _ => ∃ (a : Addr) (ns : List Int) (k : Int), vs = [.ref a, .int k] ∧ SqL K H a (ns.map V.int) ∧ ns.length ≤ 63 ∧ 0 ≤ k ∧ k ≤ 1000 ∧ ∀ d H', H d = none → Same H H' → Dr H' d → Q (.ref d) H'
theorem ln_law_draws {K : PySem.W.Frag} {vs : List V} {H : Hp} {Q : VK} {E : XK} (h : sp_law_draws K vs H Q E) : vs.length = 2 := by
  obtain ⟨_, _, _, rfl, _⟩ := h
  rfl
def t_law_draws (K : PySem.W.Frag) : TS :=
  (tSeq (tAsg (tTup (tCons (tC (.int 2147483647)) (tCons (tC (.int 2147483629)) (tCons (tC (.int 2147483587)) (tCons (tC (.int 2147483579)) (tCons (tC (.int 2147483563)) (tCons (tC (.int 2147483549)) (tCons (tC (.int 2147483543)) (tCons (tC (.int 2147483497)) tNil))))))))) (gName 2))
  (tSeq (tAsg (tOp rAdd (tOp rMulW (tC (.int 15485863)) (tVar 1)) (tC (.int 7))) (gName 3))
  (tSeq (tIfS (tTest (tOp rLt (tVar 1) (tCB (rLenSq K) (tCons (tVar 0) tNil)))) (tAsg (tOp rMod (tOp (rIxL K) (tVar 0) (tVar 1)) (tOp rMulW (tOp rPow (tC (.int 10)) (tC (.int 60))) (tOp rPow (tC (.int 10)) (tC (.int 60))))) (gName 3)) (tIfS (tTest (tOp rGt (tCB (rLenSq K) (tCons (tVar 0) tNil)) (tC (.int 0)))) (tAsg (tOp rAdd (tOp rMod (tOp (rIxL K) (tVar 0) (tOp rMod (tVar 1) (tCB (rLenSq K) (tCons (tVar 0) tNil)))) (tOp rPow (tC (.int 10)) (tC (.int 15)))) (tOp rMulW (tC (.int 15485863)) (tVar 1))) (gName 3)) tNext))
  (tSeq (tAsg (tOp rMod (tOp rMulW (tOp rAdd (tOp rAdd (tOp rMod (tVar 3) (tC (.int 2147483423))) (tOp rMulW (tC (.int 3)) (tVar 1))) (tC (.int 1))) (tOp rAdd (tC (.int 48271)) (tOp rMulW (tOp rMulW (tC (.int 2)) (tVar 1)) (tVar 1)))) (tC (.int 2147483423))) (gName 4))
  (tSeq (tAsg (tOp rAdd (tOp rAdd (tOp rMod (tOp rMulW (tOp rMulW (tVar 4) (tVar 4)) (tVar 4)) (tC (.int 2147483399))) (tVar 1)) (tC (.int 1))) (gName 4))
  (tRet (tLst (tCons (tOp rMulW (tVar 3) (tCB rInt1 (tCons (tOp rGe (tVar 3) (tOp rPow (tC (.int 10)) (tC (.int 18)))) tNil))) (tCons (tVar 4) (tCons (tOp (rIxT K) (tVar 2) (tOp rMod (tVar 1) (tC (.int 8)))) tNil))))))))))

theorem emod_bd {z m : Int} (h : 0 < m) : 0 ≤ z % m ∧ z % m < m := ⟨Int.emod_nonneg _ (by omega), Int.emod_lt_of_pos _ h⟩
theorem at_map {ns : List Int} {z : Int} (h0 : 0 ≤ z) (h1 : z < (ns.length : Int)) : ∃ n, atI (ns.map V.int) z = some (.int n) := by
  obtain ⟨v, e, hv, _⟩ := atI_of (xs := ns.map V.int) h0 (by rw [List.length_map]; exact h1)
  obtain ⟨n, _, rfl⟩ := List.mem_map.mp hv
  exact ⟨n, e⟩
theorem mul_bd {a b A B : Int} (a0 : 0 ≤ a) (a1 : a ≤ A) (b0 : 0 ≤ b) (b1 : b ≤ B) : 0 ≤ a * b ∧ a * b ≤ A * B :=
  ⟨Int.mul_nonneg a0 b0, Int.mul_le_mul a1 b1 b0 (Int.le_trans a0 a1)⟩
set_option maxHeartbeats 8000000 in
theorem rd_law_draws {K : PySem.W.Frag} {vs : List V} {H : Hp} {Q : VK} {E : XK} (h : sp_law_draws K vs H Q E) : t_law_draws K { nx := fun _ H' => Q .non H', rt := Q } (start ["script", "k", "primes", "cell", "seed"] vs) H := by
  obtain ⟨a, ns, k, rfl, hS, hn, k0, k1, q⟩ := h
  show t_law_draws K _ [some (.ref a), some (.int k), none, none, none] H
  unfold t_law_draws
  walk_at "go"
  refine ⟨by decide, fun p np => ?_⟩
  have s1 := same_upd (o := .tup [.int 2147483647, .int 2147483629, .int 2147483587, .int 2147483579, .int 2147483563, .int 2147483549, .int 2147483543, .int 2147483497]) np
  have hp : upd H p (.tup [.int 2147483647, .int 2147483629, .int 2147483587, .int 2147483579, .int 2147483563, .int 2147483549, .int 2147483543, .int 2147483497]) p = _ := upd_same
  generalize upd H p (.tup [.int 2147483647, .int 2147483629, .int 2147483587, .int 2147483579, .int 2147483563, .int 2147483549, .int 2147483543, .int 2147483497]) = H1 at s1 hp
  have hS1 := s1.seq hS
  have e60 : (10 : Int) ^ (60 : Int).toNat = 10 ^ 60 := rfl
  have e15 : (10 : Int) ^ (15 : Int).toNat = 10 ^ 15 := rfl
  have e18 : (10 : Int) ^ (18 : Int).toNat = 10 ^ 18 := rfl
  walk_at "go"
  refine g_I (cm (by omega) (by omega) (by omega) (by omega)) ?_
  walk_at "go"
  refine g_join (fun σ' H' => ∃ c : Int, σ' = [some (.ref a), some (.int k), some (.ref p), some (.int c), none] ∧ 0 ≤ c ∧ c < 10 ^ 121 ∧ H' = H1) ?_ fun U hu => ?_
  · rintro σ' H' ⟨c, rfl, c0, c1, rfl⟩
    walk_at "go"
    refine g_I (by decide) ?_
    obtain ⟨x0, x1⟩ := emod_bd (z := c) (m := 2147483423) (by decide)
    generalize c % 2147483423 = x at x0 x1
    walk_at "go"
    refine g_I (cm (by omega) (by omega) (by omega) (by omega)) ?_
    walk_at "go"
    refine g_I (cm (by omega) (by omega) (by omega) (by omega)) ?_
    walk_at "go"
    refine g_I (cm (by omega) (by omega) (by omega) (by omega)) ?_
    walk_at "go"
    obtain ⟨y0, y1⟩ := mul_bd (a := 2 * k) (b := k) (A := 2000) (B := 1000) (by omega) (by omega) (by omega) (by omega)
    generalize 2 * k * k = y at y0 y1
    refine g_I (cm (by omega) (by omega) (by omega) (by omega)) ?_
    walk_at "go"
    refine g_I (by decide) ?_
    generalize (x + 3 * k + 1) * (48271 + y) = z
    obtain ⟨z0, z1⟩ := emod_bd (z := z) (m := 2147483423) (by decide)
    generalize z % 2147483423 = s at z0 z1
    walk_at "go"
    refine g_I (cm (by omega) (by omega) (by omega) (by omega)) ?_
    obtain ⟨u0, u1⟩ := mul_bd (a := s) (b := s) (A := 2147483423) (B := 2147483423) (by omega) (by omega) (by omega) (by omega)
    generalize s * s = u at u0 u1
    walk_at "go"
    refine g_I (cm (by omega) (by omega) (by omega) (by omega)) ?_
    walk_at "go"
    refine g_I (by decide) ?_
    obtain ⟨v0, v1⟩ := emod_bd (z := u * s) (m := 2147483399) (by decide)
    generalize u * s % 2147483399 = v at v0 v1
    walk_at "go"
    refine g_I ⟨by decide, by decide, by decide⟩ ?_
    walk_at "go"
    refine .inr ⟨_, rfl, ?_⟩
    have ci : ∀ b : Bool, 0 ≤ (if b = true then (1 : Int) else 0) ∧ (if b = true then (1 : Int) else 0) ≤ 1 := fun b => by cases b <;> decide
    obtain ⟨w0, w1⟩ := ci (decide (10 ^ (18 : Int).toNat ≤ c))
    generalize (if decide (10 ^ (18 : Int).toNat ≤ c) = true then (1 : Int) else 0) = w at w0 w1
    refine g_I (cm (by omega) (by omega) (by omega) (by omega)) ?_
    walk_at "go"
    refine g_I (by decide) ?_
    obtain ⟨i0, i1⟩ := emod_bd (z := k) (m := 8) (by decide)
    obtain ⟨pv, ea, hv, _⟩ := atI_of (xs := [V.int 2147483647, .int 2147483629, .int 2147483587, .int 2147483579, .int 2147483563, .int 2147483549, .int 2147483543, .int 2147483497]) i0 i1
    have hP : ∃ pr : Int, pv = .int pr ∧ 0 < pr ∧ pr ≤ 2147483647 := all_cons (P := fun v => ∃ pr : Int, v = .int pr ∧ 0 < pr ∧ pr ≤ 2147483647) ⟨_, rfl, by decide, by decide⟩ (all_cons ⟨_, rfl, by decide, by decide⟩ (all_cons ⟨_, rfl, by decide, by decide⟩ (all_cons ⟨_, rfl, by decide, by decide⟩
      (all_cons ⟨_, rfl, by decide, by decide⟩ (all_cons ⟨_, rfl, by decide, by decide⟩ (all_cons ⟨_, rfl, by decide, by decide⟩ (all_cons ⟨_, rfl, by decide, by decide⟩ all_nil))))))) pv hv
    obtain ⟨pr, rfl, r0, r1⟩ := hP
    refine g_ixT hp ea ?_
    walk_at "go"
    refine ⟨by show 3 ≤ sizeLine; decide, fun d nd => ?_⟩
    refine q d _ (s1.free nd) (s1.trans (same_upd nd)) ⟨_, _, _, upd_same, by omega, by omega, r0, r1⟩
  · walk_at "go"
    refine ⟨a, _, rfl, .inl hS1, ?_⟩
    walk_at "go"
    rw [List.length_map]
    refine ite_d (fun hc => ?_) (fun hc => ?_)
    · walk_at "go"
      obtain ⟨n, en⟩ := at_map (ns := ns) k0 hc
      refine ⟨a, _, k, _, rfl, rfl, hS1, en, ?_⟩
      walk_at "go"
      refine g_I ⟨by decide, by decide, by decide⟩ ?_
      walk_at "go"
      refine g_I ⟨by decide, by decide, by decide⟩ ?_
      refine g_I (cm (by rw [e60]; decide) (by rw [e60]; decide) (by rw [e60]; decide) (by rw [e60]; decide)) ?_
      refine g_I (by rw [e60]; decide) ?_
      obtain ⟨b0, b1⟩ := emod_bd (z := n) (m := 10 ^ (60 : Int).toNat * 10 ^ (60 : Int).toNat) (by rw [e60]; decide)
      refine hu _ _ ⟨_, rfl, b0, Int.lt_trans b1 (by rw [e60]; decide), rfl⟩
    · walk_at "go"
      refine ⟨a, _, rfl, .inl hS1, ?_⟩
      walk_at "go"
      rw [List.length_map]
      refine ite_d (fun hc2 => ?_) (fun hc2 => ?_)
      · walk_at "go"
        refine ⟨a, _, rfl, .inl hS1, ?_⟩
        rw [List.length_map]
        refine g_I hc2 ?_
        obtain ⟨j0, j1⟩ := emod_bd (z := k) hc2
        obtain ⟨n, en⟩ := at_map (ns := ns) j0 j1
        refine ⟨a, _, _, _, rfl, rfl, hS1, en, ?_⟩
        walk_at "go"
        refine g_I ⟨by decide, by decide, by decide⟩ ?_
        refine g_I (by rw [e15]; decide) ?_
        obtain ⟨b0, b1⟩ := emod_bd (z := n) (m := 10 ^ (15 : Int).toNat) (by rw [e15]; decide)
        rw [e15] at b0 b1 ⊢
        walk_at "go"
        refine g_I (cm (by omega) (by omega) (by omega) (by omega)) ?_
        walk_at "go"
        exact hu _ _ ⟨_, rfl, by omega, by omega, rfl⟩
      · walk_at "go"
        exact hu _ _ ⟨_, rfl, by omega, by omega, rfl⟩
end Sw
local macro_rules | `(tactic| walk_at "go1") => `(tactic| first
  | with_reducible refine Sw.g_seqasg ?_ | with_reducible refine Sw.g_op ?_ | with_reducible refine Sw.g_var rfl ?_ | with_reducible refine Sw.g_c ?_ | with_reducible refine Sw.g_I0 ?_
  | with_reducible refine Sw.g_cons ?_ | with_reducible refine Sw.g_nil ?_ | with_reducible refine Sw.g_call ?_ | with_reducible refine Sw.g_cb ?_ | with_reducible refine Sw.g_test ?_ | with_reducible refine Sw.g_bl ?_
  | with_reducible refine Sw.g_seqdrop ?_ | with_reducible refine Sw.g_seqsub ?_ | with_reducible refine Sw.g_asg ?_ | with_reducible refine Sw.g_asgsub ?_ | with_reducible refine Sw.g_ret ?_ | with_reducible refine Sw.g_drop ?_ | with_reducible refine Sw.g_if ?_ | with_reducible refine Sw.g_next ?_ | with_reducible refine Sw.g_name ?_
  | with_reducible refine Sw.g_B ?_ | with_reducible refine Sw.g_not ?_ | with_reducible refine Sw.g_and ?_ | with_reducible refine Sw.g_or ?_ | with_reducible refine Sw.g_andV ?_ | with_reducible refine Sw.g_orV ?_ | with_reducible refine Sw.g_notV ?_
  | with_reducible refine Sw.g_ifE ?_ | with_reducible refine Sw.g_chain ?_ | with_reducible refine Sw.g_un ?_ | with_reducible refine Sw.g_tup ?_ | with_reducible refine Sw.g_lst ?_ | with_reducible refine Sw.g_sl ?_ | with_reducible refine Sw.g_part ?_ | with_reducible refine Sw.g_nopart ?_
  | with_reducible refine Sw.g_U ?_ | with_reducible refine Sw.g_eq rfl ?_ | with_reducible refine Sw.g_ne rfl ?_ | with_reducible refine Sw.g_int ?_ | with_reducible refine Sw.g_yes ?_ | with_reducible refine L2.iteT ?_ | with_reducible refine L2.iteF ?_ | with_reducible refine Sw.iteNT ?_ | with_reducible refine Sw.iteNF ?_ | with_reducible refine Sw.g_m1 ?_ | with_reducible refine Sw.g_bm ?_ | with_reducible refine ⟨Sw.ty_lst (by assumption), ?_⟩ | with_reducible refine Sw.g_sput ?_ | with_reducible refine Sw.g_put ?_ | with_reducible refine Sw.g_dget2 ?_ | with_reducible refine Sw.g_dget ?_ | with_reducible refine Sw.g_dK ?_ | with_reducible refine Sw.g_dT ?_ | with_reducible refine Sw.g_dnotin ?_ | with_reducible refine Sw.g_din ?_ | with_reducible refine Sw.g_bm0 ?_
  | with_reducible refine Sw.g_ixL (by assumption) rfl ?_ | with_reducible refine Sw.g_ixT (by assumption) rfl ?_)
local macro_rules | `(tactic| walk_at "go") => `(tactic| repeat walk_at "go1")
local macro_rules | `(tactic| walk_at "bd") => `(tactic| repeat (first | with_reducible exact Sw.all_nil | refine Sw.all_cons ⟨_, rfl, by omega, by omega⟩ ?_))
local macro_rules | `(tactic| walk_at "new") => `(tactic| (refine ⟨Nat.le_of_ble_eq_true rfl, fun p np => ?_⟩; generalize hX : L2.upd _ p _ = H'; have sm : L2.Same _ H' := hX ▸ Sw.same_upd np; have hp : H' p = some _ := hX ▸ L2.upd_same; clear hX))
namespace Sw
open PySem PySem.Spec PyProof.Rows L2 SX
/-! ### the law's own promise; what laws share -/
def sp_law (K : PySem.W.Frag) : Sp := fun vs H Q _ => ∃ (a : Addr) (ns : List Int), vs = [.ref a] ∧ SqL K H a (ns.map V.int) ∧ ns.length ≤ 63 ∧ ∀ H', Q (.bl true) H'
theorem ln_law {K : PySem.W.Frag} {vs : List V} {H : Hp} {Q : VK} {E : XK} (h : sp_law K vs H Q E) : vs.length = 1 := by
  obtain ⟨_, _, rfl, _⟩ := h
  rfl
theorem LS.start {G H H' : Hp} {d : Addr} (e : Same G H) (nd : H d = none) (s : Same H H') (dr : Dr H' d) : LS G d H' := ⟨dr, e.trans s, e.free nd⟩
/-- an object that stands, kept from now on -/
theorem LS.add {G H : Hp} {d p : Addr} {o : HO} (hs : LS G d H) (ho : H p = some o) (hp : p ≠ d) : LS (upd G p o) d H :=
  ⟨hs.dr, fun b x e => by
    by_cases hb : b = p
    · subst hb
      rw [upd_same] at e
      rw [ho]; exact e
    · rw [upd_ne hb] at e
      exact hs.ex b x e, by rw [upd_ne hp.symm]; exact hs.no⟩
theorem g_lenL {K : PySem.W.Frag} {a : Addr} {xs : List V} {H : Hp} {Q : VK} (h : SqL K H a xs) (q : Q (.int (xs.length : Int)) H) : rLenSq K [.ref a] H Q := ⟨a, xs, rfl, .inl h, q⟩
theorem g_max {i j : Int} {H : Hp} {Q : VK} (q : Q (.int (if j > i then j else i)) H) : rMax2 [.int i, .int j] H Q := ⟨i, j, rfl, q⟩
theorem g_min {i j : Int} {H : Hp} {Q : VK} (q : Q (.int (if j < i then j else i)) H) : rMin2 [.int i, .int j] H Q := ⟨i, j, rfl, q⟩
theorem S_inj' {a b : List Nat} : (V.str (S a) = V.str (S b)) ↔ a = b := ⟨fun h => S_inj (V.str.inj h), fun h => by rw [h]⟩
theorem g_append {K : PySem.W.Frag} {l : Addr} {xs : List V} {y : V} {H : Hp} {Q : VK} (h : H l = some (.lst xs)) (hz : xs.length ≤ 100000) (q : Q .non (upd H l (.lst (xs ++ [y])))) : tyV K "list" (.ref l) H ∧ rAppend (.ref l) [y] H Q :=
  ⟨.inl ⟨rfl, _, .inl (.inl h)⟩, l, xs, y, rfl, rfl, h, Nat.lt_of_le_of_lt hz (by decide), q⟩
/-- for k in range(max(1, min(m, len(script)))): each turn by itself. R: what the body needs not to care of -/
theorem cells {K : PySem.W.Frag} {a : Addr} {ns : List Int} {m : Int} {H : Hp} {σ : L2.St} (hS : SqL K H a (ns.map V.int)) (m0 : 0 ≤ m) (m1 : m ≤ 1000) (hσ : σ[0]? = some (some (.ref a)))
    (QA : List V → Hp → Prop) (h : ∀ n : Int, 0 ≤ n ∧ (n ≤ m ∨ n = 1) → QA [.int n] H) :
    tCons (tCB rMax2 (tCons (tC (.int 1)) (tCons (tCB rMin2 (tCons (tC (.int m)) (tCons (tCB (rLenSq K) (tCons (tVar 0) tNil)) tNil))) tNil))) tNil σ H QA := by
  refine ⟨.ref a, hσ, a, ns.map V.int, rfl, .inl hS, _, _, rfl, _, _, rfl, h _ ?_⟩
  split <;> split <;> omega
end Sw
local macro_rules | `(tactic| walk_at "go1") => `(tactic| first
  | with_reducible refine Sw.g_seqasg ?_ | with_reducible refine Sw.g_op ?_ | with_reducible refine Sw.g_var rfl ?_ | with_reducible refine Sw.g_c ?_ | with_reducible refine Sw.g_I0 ?_
  | with_reducible refine Sw.g_cons ?_ | with_reducible refine Sw.g_nil ?_ | with_reducible refine Sw.g_call ?_ | with_reducible refine Sw.g_cb ?_ | with_reducible refine Sw.g_test ?_ | with_reducible refine Sw.g_bl ?_
  | with_reducible refine Sw.g_seqdrop ?_ | with_reducible refine Sw.g_seqsub ?_ | with_reducible refine Sw.g_asg ?_ | with_reducible refine Sw.g_asgsub ?_ | with_reducible refine Sw.g_ret ?_ | with_reducible refine Sw.g_drop ?_ | with_reducible refine Sw.g_if ?_ | with_reducible refine Sw.g_next ?_ | with_reducible refine Sw.g_name ?_
  | with_reducible refine Sw.g_B ?_ | with_reducible refine Sw.g_not ?_ | with_reducible refine Sw.g_and ?_ | with_reducible refine Sw.g_or ?_ | with_reducible refine Sw.g_andV ?_ | with_reducible refine Sw.g_orV ?_ | with_reducible refine Sw.g_notV ?_
  | with_reducible refine Sw.g_ifE ?_ | with_reducible refine Sw.g_chain ?_ | with_reducible refine Sw.g_un ?_ | with_reducible refine Sw.g_tup ?_ | with_reducible refine Sw.g_lst ?_ | with_reducible refine Sw.g_sl ?_ | with_reducible refine Sw.g_part ?_ | with_reducible refine Sw.g_nopart ?_
  | with_reducible refine Sw.g_U ?_ | with_reducible refine Sw.g_eq rfl ?_ | with_reducible refine Sw.g_ne rfl ?_ | with_reducible refine Sw.g_int ?_ | with_reducible refine Sw.g_yes ?_ | with_reducible refine L2.iteT ?_ | with_reducible refine L2.iteF ?_ | with_reducible refine Sw.iteNT ?_ | with_reducible refine Sw.iteNF ?_ | with_reducible refine Sw.g_m1 ?_ | with_reducible refine Sw.g_bm ?_ | with_reducible refine ⟨Sw.ty_lst (by assumption), ?_⟩ | with_reducible refine Sw.g_sput ?_ | with_reducible refine Sw.g_put ?_ | with_reducible refine Sw.g_dget2 ?_ | with_reducible refine Sw.g_dget ?_ | with_reducible refine Sw.g_dK ?_ | with_reducible refine Sw.g_dT ?_ | with_reducible refine Sw.g_dnotin ?_ | with_reducible refine Sw.g_din ?_ | with_reducible refine Sw.g_bm0 ?_
  | with_reducible refine Sw.g_ixL (by assumption) rfl ?_ | with_reducible refine Sw.g_ixT (by assumption) rfl ?_)
local macro_rules | `(tactic| walk_at "go") => `(tactic| repeat walk_at "go1")
local macro_rules | `(tactic| walk_at "bd") => `(tactic| repeat (first | with_reducible exact Sw.all_nil | refine Sw.all_cons ⟨_, rfl, by omega, by omega⟩ ?_))
local macro_rules | `(tactic| walk_at "new") => `(tactic| (refine ⟨Nat.le_of_ble_eq_true rfl, fun p np => ?_⟩; generalize hX : L2.upd _ p _ = H'; have sm : L2.Same _ H' := hX ▸ Sw.same_upd np; have hp : H' p = some _ := hX ▸ L2.upd_same; clear hX))
namespace Sw
open PySem PySem.Spec PyProof.Rows L2 SX
/-! ### a comprehension, a def called with the error itself, where an error is handled -/
section
variable {X : Cx} {pins : List (Addr × Obj)} {σ : L2.St} {H : Hp} {s : Shared}
theorem repin (I : Inv X pins σ H s) (pl : List (Addr × Obj)) (hp : ∀ q ∈ pl, s.heap.get? q.1 = some q.2 ∧ H q.1 = none ∧ q.1 ≠ X.env.locals ∧ q.1 ∉ X.fs ∧ ∀ v, q.2.data ≠ .cell v) : Inv { X with pn := pl } [] σ H s := by
  have o := I.ok
  exact ⟨⟨o.mod, o.kind, o.glob, o.blt, o.above, o.inj, o.has, o.cab, o.hd, o.frames, o.stk, o.exf, o.bs, o.bsz, o.noex, o.exfs, o.funs, o.frf⟩,
    I.os, I.bare, I.base, I.loc, I.cell, I.free, I.freeC, fun q hq => hp q (by simpa using hq), I.hok, I.len⟩
/-- a block's context, the handled error q pinned in it -/
abbrev blkP (X : Cx) (q : Addr × Obj) (s : Shared) (H : Hp) (scope : Scope) (ce : Env) (fp : List Addr) : Cx := { X.blk s H scope ce fp with pn := [q] }
theorem pe_lcH {elt tg iter : Expr} {ifs : List Expr} {scope : Scope} {own : List (Str × Nat)} {pos : Pos} {wi : TI} {g : TG} {tt : TT} {te : TE} (hot : L2H.HotC X) (nd : X.N.Nodup) (hi : L2H.PIH X tg iter wi) (ok : BlkOk X.N X.env.scope scope own)
    (hg : ∀ (q : Addr × Obj) (s : Shared) (H : Hp) (C : Addr) (cl : List (Str × Addr)) (fp : List Addr), PG (blkP X q s H scope (compEnvC scope cl C X.env) fp) tg g)
    (ht : ∀ (q : Addr × Obj) (s : Shared) (H : Hp) (C : Addr) (cl : List (Str × Addr)) (fp : List Addr), PTs (blkP X q s H scope (compEnvC scope cl C X.env) fp) ifs tt)
    (he : ∀ (q : Addr × Obj) (s : Shared) (H : Hp) (C : Addr) (cl : List (Str × Addr)) (fp : List Addr), PE (blkP X q s H scope (compEnvC scope cl C X.env) fp) elt te)
    (hfold : ∀ x, foldedSetIterable iter X.env x = pure x := by intro _; rfl) : PE X (.ListComp elt [⟨tg, iter, ifs, 0⟩] scope pos) (tLc wi g tt te (own.map (·.2))) := by
  refine ⟨fun pins s σ H Q I h => ?_⟩
  rw [eval_ListComp]
  obtain ⟨q, hq1, hqm⟩ := id hot
  have fr : ∀ y ∈ scope.names, y.2 = .free → ∃ c, X.env.cells.lookup y.1 = some c := fun y hy e => (ok.free y hy e).elim (fun k => I.ok.has _ (.inl k)) fun k => I.ok.has _ (.inr k)
  refine wpAny_comprehension_free (use := none) rfl hfold (closure_ok fr) ok.kind (fun y hy e => by rw [ok.uniq y hy, e]) (thn (hi.run pins s σ H _ I h) fun vv sa ha => thn ha fun iv sb hb => ?_)
  obtain ⟨it, fp, tn, J, Hb, rfl, Ib, T, stb, fb, qq⟩ := hb
  refine wpAny_newObj_type (newEnv_comp ?_) (by show 0 ≤ sizeLine; decide)
  generalize hD : sb.heap.objs.size = L
  have hLn : Hb L = none := Ib.hok.fresh (Nat.le_of_eq hD)
  obtain ⟨W, ⟨m0, w0⟩, turn⟩ := qq L hLn
  generalize hsc : ({ sb with heap := sb.heap.push { cls := .type "list", data := .seq ([] : List Value).toArray } } : Shared) = sc
  have hheap : sc.heap = sb.heap.push { cls := .type "list", data := .seq ([] : List Value).toArray } := by rw [← hsc]
  have Ic : Inv X pins σ (upd Hb L (.lst [])) sc := by
    rw [← hsc]
    refine Ib.laid (t' := sb.toks) (fun b o e => Heap.get?_push_of_some _ e) (Nat.le_of_eq hD) ⟨Nat.zero_le _, [], 0, .nil, ?_⟩
    rw [← hD]; exact Heap.get?_push_size _ rfl
  have lt : ∀ b ∈ fp, b < sb.heap.objs.size := fun b hb => by obtain ⟨o, e, _⟩ := T.obj _ _ stb b hb; exact Heap.lt_size e
  have fc : ∀ b ∈ fp, FpOk X pins (upd Hb L (.lst [])) b ∧ b < sc.heap.objs.size := fun b hb => ⟨⟨by rw [upd_ne (by rw [← hD]; exact Nat.ne_of_lt (lt b hb))]; exact (fb b hb).1, (fb b hb).2⟩, by rw [hheap, Heap.size_push]; exact Nat.lt_succ_of_lt (lt b hb)⟩
  have stc : tn 0 sc.heap := T.keep _ _ _ stb fun b _ o e => by rw [hheap]; exact Heap.get?_push_of_some _ e
  have Id := block_start Ic ok nd fc
  have pg := hg q sc (upd Hb L (.lst [])) sc.heap.objs.size (cellsFrom (sc.heap.objs.size + 1) scope.names (cloFrom X.env.cells scope.names [])) fp
  have pt := ht q sc (upd Hb L (.lst [])) sc.heap.objs.size (cellsFrom (sc.heap.objs.size + 1) scope.names (cloFrom X.env.cells scope.names [])) fp
  have pe := he q sc (upd Hb L (.lst [])) sc.heap.objs.size (cellsFrom (sc.heap.objs.size + 1) scope.names (cloFrom X.env.cells scope.names [])) fp
  have P0 := Ic.pin q (List.mem_append_left _ hqm)
  show codeAny _ _ (.compStart (.ListComp elt [⟨tg, iter, ifs, 0⟩] scope pos) 0 (.ref it) (.ref L) (compEnvC scope (cellsFrom (sc.heap.objs.size + 1) scope.names (cloFrom X.env.cells scope.names [])) sc.heap.objs.size X.env)) (compPost (model X.prog X.w) X.A X.xe none (EP X pins σ Q) (.ref L) sc.heap.objs.size) { sc with heap := pushCells (sc.heap.push { cls := .type "dict", data := .dict #[] }) scope.names }
  generalize hce : compEnvC scope (cellsFrom (sc.heap.objs.size + 1) scope.names (cloFrom X.env.cells scope.names [])) sc.heap.objs.size X.env = ce at Id pg pt pe ⊢
  have ceL : ce.locals = sc.heap.objs.size := by subst hce; rfl
  generalize hHc : upd Hb L (.lst []) = Hc at Ic Id pg pt pe w0 fc P0
  generalize hsd : ({ sc with heap := pushCells (sc.heap.push { cls := .type "dict", data := .dict #[] }) scope.names } : Shared) = sd at Id ⊢
  have kd : ∀ b o, sc.heap.get? b = some o → sd.heap.get? b = some o := fun b o e => by rw [← hsd]; exact pushCells_keeps _ _ _ _ (Heap.get?_push_of_some _ e)
  have std : tn 0 sd.heap := T.keep _ _ _ stc fun b _ o e => kd b o e
  have Ie : Inv (blkP X q sc Hc scope ce fp) [] (wipe σ (own.map (·.2))) Hc sd := repin Id [q] fun z hz => by
    have ez : z = q := by simpa using hz
    subst ez
    exact ⟨kd _ _ P0.1, P0.2.1, by show z.1 ≠ ce.locals; rw [ceL]; exact Nat.ne_of_lt (Heap.lt_size P0.1), fun hm => (List.mem_cons.mp (Ic.stkSub z.1 hm)).elim P0.2.2.1 P0.2.2.2.1, P0.2.2.2.2⟩
  have hotB : L2H.HotC (blkP X q sc Hc scope ce fp) := ⟨q, hq1, List.mem_singleton.mpr rfl⟩
  have steady : ∀ {τ : L2.St} {H' : Hp} {s' : Shared}, Inv (blkP X q sc Hc scope ce fp) [] τ H' s' → (∀ b ∈ fp, H' b = none) → ∀ b ∈ fp, FpOk (blkP X q sc Hc scope ce fp) [] H' b := fun {τ H' s'} J hn b hb =>
    ⟨hn b hb, (J.ok.exf b hb).1, J.ok.exfs b hb, .inl hb, fun x c e => (J.ok.exf b hb).2 x c e, fun z hz => by
      have ez : z = q := by simpa using hz
      subst ez
      exact (fc b hb).1.2.2.2.2.2 z (List.mem_append_left _ hqm)⟩
  have loop : codeAny (model X.prog X.w) X.A (.compLoop (.ListComp elt [⟨tg, iter, ifs, 0⟩] scope pos) 0 (.ref it) (.ref L) ce) (compPost (model X.prog X.w) X.A X.xe none (EP X pins σ Q) (.ref L) sc.heap.objs.size) sd := by
    refine compLoop_any (fun n s' => ∃ i H', Inv (blkP X q sc Hc scope ce fp) [] (wipe σ (own.map (·.2))) H' s' ∧ tn i s'.heap ∧ (∀ b ∈ fp, H' b = none) ∧ W i n H') ?_ m0 ⟨0, Hc, Ie, std, fun b hb => (fc b hb).1.1, w0⟩
    rintro n s5 ⟨i, H5, I5, st5, n5, w5⟩
    rcases turn i n H5 w5 with ⟨stop, done⟩ | ⟨go, Nx, hNx, step⟩
    · refine thnF (T.done (blkP X q sc Hc scope ce fp) rfl rfl rfl hotB i [] s5 _ H5 (fun _ _ => False) I5 (steady I5 n5) st5 stop) fun r s6 ⟨hr, I6⟩ => ?_
      subst hr
      have I7 : Inv X pins σ H5 s6 := Ic.call' (ch := fp) I6.os I6.base I6.hok I6.bare fun b hb => ⟨(fc b hb).1.2.2.2.1, (fc b hb).1.2.1, (fc b hb).1.2.2.2.2.1, (fc b hb).1.2.2.2.2.2⟩
      have nC : H5 sc.heap.objs.size = none := by have z : H5 ce.locals = none := I6.free; rw [ceL] at z; exact z
      obtain ⟨m, hn, _⟩ := I6.loc
      have hn : s6.heap.Ns ce.locals m := hn
      rw [ceL] at hn
      obtain ⟨f0, f1, f2, f3, f4, f5⟩ := Ic.fpOk (Nat.le_refl _) nC
      exact ⟨m, hn, fun h'' same => ⟨.ref L, H5, I7.turned (t' := s6.toks) (fun b o hb e => (same.2 b hb).trans e) f0 f1 f3 f4 f5, rfl, done⟩⟩
    · refine thnF (T.item (blkP X q sc Hc scope ce fp) rfl rfl rfl hotB i [] s5 _ H5 (fun _ _ => False) I5 (steady I5 n5) st5 go) fun r s6 ⟨u, hr, h6⟩ => ?_
      subst hr
      refine thnF h6 fun _ s7 ⟨x, H7, I7, r7, y7, st7, n7⟩ => ?_
      have J7 := I7.pinned (steady I7 n7) (T.obj _ _ st7)
      refine thnF (pg.run _ s7 _ H7 x u _ J7 r7 (step x H7 y7)) fun _ s8 ⟨τ, H8, I8, hw8, q8⟩ => ?_
      refine thnF (pt.run _ s8 τ H8 _ I8 q8) fun b s9 ⟨H9, I9, q9⟩ => ?_
      have fin : ∀ {s' : Shared} {H' : Hp}, Inv (blkP X q sc Hc scope ce fp) ([] ++ pinsAt fp s7.heap) τ H' s' → Nx H' → ∃ m, m < n ∧ ∃ i H', Inv (blkP X q sc Hc scope ce fp) [] (wipe σ (own.map (·.2))) H' s' ∧ tn i s'.heap ∧ (∀ b ∈ fp, H' b = none) ∧ W i m H' := fun {s' H'} J nx => by
        obtain ⟨m', hm, w'⟩ := hNx H' nx
        have pk : ∀ b ∈ fp, ∀ o, s7.heap.get? b = some o → s'.heap.get? b = some o ∧ H' b = none := fun b hb o e => let z := J.pin (b, o) (List.mem_append_right _ (List.mem_append_right _ (mem_pinsAt hb e))); ⟨z.1, z.2.1⟩
        refine ⟨m', hm, i + 1, H', (J.unpinned (pins := [])).weak (by rw [← hw8, wipe_length]) (fun j v e => ?_), T.keep _ _ _ st7 fun b hb o e => (pk b hb o e).1, fun b hb => ?_, w'⟩
        · rw [← hw8] at e; exact (wipe_some e).1
        · obtain ⟨o, e, _⟩ := T.obj _ _ st7 b hb; exact (pk b hb o e).2
      cases b with
      | false => simp only [Bool.false_eq_true, if_false] at q9 ⊢; exact fin I9 q9
      | true =>
        simp only [if_true] at q9 ⊢
        refine thnF (pe.run _ s9 τ H9 _ I9 q9) fun z s10 ⟨yv, H10, I10, r10, acc, hA, hz10, nx⟩ => ?_
        exact app_ok (X := blkP X q sc Hc scope ce fp) I10 hA hz10 r10 fun s11 I11 => fin I11 nx
  exact codeAny_compStart_list loop (T.self X.A 0 _ _ _ std loop)
end
/-- what a def promises of the handled error: its class, its dict, the heap, what is wanted -/
abbrev SpE := Value → Option Addr → Hp → VK → Prop
/-- the def under the name x, called with the handled error alone, keeps sp; nothing leaves it -/
structure CalE (P : Program) (w : World) (K : PySem.W.Frag) (mg : Str → Option Value) (base : Heap) (k : Nat) (x : Str) (sp : SpE) : Prop where
  ex : ∃ (f : Addr) (fd : FuncData) (par : Str), mg x = some (.ref f) ∧ PySem.W.keepIn K (.ref f) = true ∧ Binds K fd [par] [] ∧
    ∀ (A : Around) (outer : List Env) (s : Shared) (H : Hp) (args : Args) (q : Addr × Obj) (cls : Value) (d : Option Addr) (Q : VK), L2H.RoomH k A → L2H.Hot1 A q → L2H.PinOk outer H s q → Zc cls d q.2 → Env0 P w K mg base A outer s H →
      BindsTo s fd args [(par, .ref q.1)] → sp cls d H Q → codeAny (model P w) A (.call (.ref f) args) (CR CX0 outer P w H s Q E0) s
section
variable {P : Program} {w : World} {K : PySem.W.Frag} {mg : Str → Option Value} {base : Heap}
theorem calE {k : Nat} {x par : Str} {st : Stmt} {f : Addr} {fd : FuncData} {N : List Str} {sp : SpE} (F : L2.Fun K x x st f fd) (g : mg x = some (.ref f)) (b : Binds K fd [par] []) (S : FnScope N [par] (defScope st))
    (hbody : ∀ (cdv : Value) (A : Around) (outer : List Env) (s : Shared) (H : Hp) (Q : VK) (q : Addr × Obj) (cls : Value) (d : Option Addr), L2H.Hot1 A q → Zc cls d q.2 → L2H.RoomH k (A.deeper (envOfC x (defScope st) s.heap.objs.size f cdv)) → sp cls d H Q →
      ∃ t, PSs (L2H.cxH CX0 P w K mg base N x (defScope st) f cdv A outer s H E0 q) (defBody st) t ∧ t { nx := fun _ H' => Q .non H', rt := Q } (start N [.ref q.1]) H) : CalE P w K mg base (k + 1) x sp := by
  refine ⟨f, fd, par, g, F.kp, b, fun A outer s H args q cls d Q hr hot hpin hz e0 hb hsp => ?_⟩
  obtain ⟨oc, od, kV, doc, pm, an, cdv, ct, osl, rfl, lk, hcd⟩ := F.ex
  have KX : K.In s.heap := e0.mod.kin.keeps fun b o e => (e0.bs b o e).1
  have kinds : ∀ y ∈ [(par, Value.ref q.1)], (defScope st).names.lookup y.1 = some .local ∨ ((defScope st).names.lookup y.1 = some .cell ∧ ((cellsFrom (s.heap.objs.size + 1) (defScope st).names []).lookup y.1).isSome = true) := fun y hy => by
    have ey : y = (par, Value.ref q.1) := by simpa using hy
    subst ey
    exact (S.par par (List.mem_singleton.mpr rfl)).elim .inl fun z => .inr ⟨z, PySem.W.cellsFrom_some _ _ _ (.inl z)⟩
  refine codeAny_call_function hr.depth (KX _ _ lk) rfl S.co S.gen rfl (PySem.W.codeRec_of KX hcd) (hb _ _ _ _ ?_)
  refine wpAny_newFunctionEnv_cells S.kind kinds fun env he s1 xx => ?_
  subst he
  refine ⟨(e0.mod.nolimit.keeps fun b o e => (e0.bs b o e).1).keeps xx.toInCall.keep, codeAny_func ?_⟩
  obtain ⟨t, ht, hq⟩ := hbody cdv A outer s H Q q cls d hot hz (hr.deeper _) hsp
  have I : Inv (L2H.cxH CX0 P w K mg base N x (defScope st) f cdv A outer s H E0 q) [] (start N [.ref q.1]) H s1 := L2H.inv_startH (us := [.ref q.1]) S hpin e0 rfl (.cons rfl .nil) xx
  refine wpAny_mono (ht.run [] s1 _ H _ I hq) (fun fl s' hs => ?_) fun e s' hs => hs
  cases fl with
  | ret u => obtain ⟨v, τ, H', J, rv, z⟩ := hs; exact ⟨v, H', J.os, J.bare, J.base, J.hok, rv, z⟩
  | next => obtain ⟨τ, H', J, z⟩ := hs; exact ⟨.non, H', J.os, J.bare, J.base, J.hok, rfl, z⟩
  | brk => obtain ⟨_, _, _, z⟩ := hs; exact z.elim
  | cont => obtain ⟨_, _, _, z⟩ := hs; exact z.elim
end
/-- f(e) in the suite of «except .. as e» -/
def tCallE (sp : SpE) (a : Addr) (cls : Value) (d : Option Addr) (te : TE) : TE := fun σ H Q => te σ H fun v H1 => v = .ref a ∧ sp cls d H1 Q
section
variable {X : Cx} {k j : Nat} {x : Str} {sp : SpE} {a : Addr} {oe : Obj} {cls : Value} {d : Option Addr} {pn : List (Addr × Obj)} {p pos : Pos} {e : Expr} {te : TE}
theorem pe_calE (c : CalE X.prog X.w X.K X.mg X.base k x sp) (hr : Room j X.A) (hk : k ≤ j) (hz : L2N.Zn cls d oe) (hf : ∃ vs, oe.data = .fields vs) (hg : Gl X x) (he : PE (X.suite a ((a, oe) :: pn)) e te) (hdb : (x == ("__debug__" : Str)) = false := by decide)
    (hst : starEach [e] X.env = (false, eval e X.env) :: starEach [] X.env := by rfl) : PE (X.suite a ((a, oe) :: pn)) (.Call (.Name x p) [e] [] pos) (tCallE sp a cls d te) := by
  obtain ⟨f, fd, par, hm, kp, b, run⟩ := c.ex
  obtain ⟨vs, hvs⟩ := hf
  have hot : L2H.Hot1 (X.suite a ((a, oe) :: pn)).A (a, oe) := ⟨rfl, vs, hvs, hz.2.2 vs hvs⟩
  have ha : PA (X.suite a ((a, oe) :: pn)) [e] (tCons te tNil) := pa_cons he pa_nil hst
  refine ⟨fun pins s σ H Q I h => ?_⟩
  refine wpAny_Call_Name_kw (ld_glob I hg hm ?_ hdb)
  have h2 : tCons te tNil σ H fun vs H1 => vs = [V.ref a] ∧ sp cls d H1 Q := by
    have h' : te σ H fun v H1 => v = .ref a ∧ sp cls d H1 Q := h
    show te σ H fun v H1 => [v] = [V.ref a] ∧ sp cls d H1 Q
    have e : (fun (v : V) (H1 : Hp) => [v] = [V.ref a] ∧ sp cls d H1 Q) = fun v H1 => v = .ref a ∧ sp cls d H1 Q := by
      funext v H1
      exact propext ⟨fun z => ⟨(List.cons.inj z.1).1, z.2⟩, fun z => ⟨by rw [z.1], z.2⟩⟩
    rw [e]
    exact h'
  refine PySem.W.callWith_K (h₀ := X.base) I.ok.mod.kin kp (thn (ha.run pos pins s σ H _ I h2) fun us s1 ⟨vs1, H1, I1, r, ev, q⟩ => ⟨I1.kIn, ?_⟩) hst rfl
  subst ev
  have P1 := I1.pin (a, oe) (List.mem_append_left _ List.mem_cons_self)
  have eu : us = [Value.ref a] := by
    cases r with
    | cons r1 r2 => cases r2; rw [show _ = Value.ref a from r1]
  subst eu
  have bb := b s1 [Value.ref a] I1.kIn rfl
  have rm : L2H.RoomH k (X.suite a ((a, oe) :: pn)).A := ⟨(hr.mono hk).dp, (hr.mono hk).un⟩
  refine wpAny_call (codeAny_mono (run _ _ s1 H1 _ (a, oe) cls d Q rm hot ⟨P1.1, P1.2.1, fun hmm => (List.mem_cons.mp (I1.stkSub a hmm)).elim P1.2.2.1 P1.2.2.2.1, P1.2.2.2.2⟩ hz.zc I1.env0 bb q) fun rr s' hq => ?_)
  cases rr with
  | error z => exact False.elim hq
  | ok fl =>
    cases fl with
    | ret u => exact I1.after hq
    | next => exact False.elim hq
    | brk => exact False.elim hq
    | cont => exact False.elim hq
/-- isinstance(e, c), e an error that is pinned -/
theorem call_isP {Y : Cx} {D : Addr} (C : ExcC Y.K D) (hz : Zc (.ref D) none oe) (hf : ∃ vs, oe.data = .fields vs) (hm : (a, oe) ∈ Y.pn) : CallR Y (.builtin "isinstance") (rIsE Y.K D a) := by
  intro pins s σ H xs us Q I r h
  obtain ⟨c, cv, b, rfl, hcv, e, q⟩ := h
  obtain ⟨u1, u2, rfl, r1, r2⟩ := vals2 r
  obtain rfl : u1 = Value.ref a := r1
  obtain rfl := hcv _ r2
  obtain ⟨vs, hv⟩ := hf
  have hget := (I.pin (a, oe) (List.mem_append_left _ hm)).1
  have J : PySem.W.InstAt s.heap a oe D none := by
    obtain ⟨oc, od, oda, osl⟩ := oe
    obtain ⟨h1, h2⟩ := hz
    dsimp only at h1 h2 hv
    subst h1 h2 hv
    exact ⟨hget, rfl, rfl, trivial⟩
  exact PySem.W.kia_one (PySem.W.handS_kitx_exc C.hg C.hk C.hs C.hd C.ha C.hn C.ht C.hm) I.kIn J e (fun z => nomatch z) fun tk => ⟨.bl b, H, I.kept (t' := tk) fun _ _ z => z, rfl, q⟩
end
end Sw
local macro_rules | `(tactic| walk_at "go1") => `(tactic| first
  | with_reducible refine Sw.g_seqasg ?_ | with_reducible refine Sw.g_op ?_ | with_reducible refine Sw.g_var rfl ?_ | with_reducible refine Sw.g_c ?_ | with_reducible refine Sw.g_I0 ?_
  | with_reducible refine Sw.g_cons ?_ | with_reducible refine Sw.g_nil ?_ | with_reducible refine Sw.g_call ?_ | with_reducible refine Sw.g_cb ?_ | with_reducible refine Sw.g_test ?_ | with_reducible refine Sw.g_bl ?_
  | with_reducible refine Sw.g_seqdrop ?_ | with_reducible refine Sw.g_seqsub ?_ | with_reducible refine Sw.g_asg ?_ | with_reducible refine Sw.g_asgsub ?_ | with_reducible refine Sw.g_ret ?_ | with_reducible refine Sw.g_drop ?_ | with_reducible refine Sw.g_if ?_ | with_reducible refine Sw.g_next ?_ | with_reducible refine Sw.g_name ?_
  | with_reducible refine Sw.g_B ?_ | with_reducible refine Sw.g_not ?_ | with_reducible refine Sw.g_and ?_ | with_reducible refine Sw.g_or ?_ | with_reducible refine Sw.g_andV ?_ | with_reducible refine Sw.g_orV ?_ | with_reducible refine Sw.g_notV ?_
  | with_reducible refine Sw.g_ifE ?_ | with_reducible refine Sw.g_chain ?_ | with_reducible refine Sw.g_un ?_ | with_reducible refine Sw.g_tup ?_ | with_reducible refine Sw.g_lst ?_ | with_reducible refine Sw.g_sl ?_ | with_reducible refine Sw.g_part ?_ | with_reducible refine Sw.g_nopart ?_
  | with_reducible refine Sw.g_U ?_ | with_reducible refine Sw.g_eq rfl ?_ | with_reducible refine Sw.g_ne rfl ?_ | with_reducible refine Sw.g_int ?_ | with_reducible refine Sw.g_yes ?_ | with_reducible refine L2.iteT ?_ | with_reducible refine L2.iteF ?_ | with_reducible refine Sw.iteNT ?_ | with_reducible refine Sw.iteNF ?_ | with_reducible refine Sw.g_m1 ?_ | with_reducible refine Sw.g_bm ?_ | with_reducible refine ⟨Sw.ty_lst (by assumption), ?_⟩ | with_reducible refine Sw.g_sput ?_ | with_reducible refine Sw.g_put ?_ | with_reducible refine Sw.g_dget2 ?_ | with_reducible refine Sw.g_dget ?_ | with_reducible refine Sw.g_dK ?_ | with_reducible refine Sw.g_dT ?_ | with_reducible refine Sw.g_dnotin ?_ | with_reducible refine Sw.g_din ?_ | with_reducible refine Sw.g_bm0 ?_
  | with_reducible refine Sw.g_ixL (by assumption) rfl ?_ | with_reducible refine Sw.g_ixT (by assumption) rfl ?_)
local macro_rules | `(tactic| walk_at "go") => `(tactic| repeat walk_at "go1")
local macro_rules | `(tactic| walk_at "bd") => `(tactic| repeat (first | with_reducible exact Sw.all_nil | refine Sw.all_cons ⟨_, rfl, by omega, by omega⟩ ?_))
local macro_rules | `(tactic| walk_at "new") => `(tactic| (refine ⟨Nat.le_of_ble_eq_true rfl, fun p np => ?_⟩; generalize hX : L2.upd _ p _ = H'; have sm : L2.Same _ H' := hX ▸ Sw.same_upd np; have hp : H' p = some _ := hX ▸ L2.upd_same; clear hX))
namespace Sw
open PySem PySem.Spec PyProof.Rows L2 SX
/-! ### refusals -/
/-- where the classes of refusals stand -/
structure Cl where
  (Lacks NoBank NoBook NoDeed NoName NoOrder NoPlace NoRow NoSlack NoText NoTurns NoWheel NoWord TooMany WheelError : Addr)
/-- the def under the name x keeps sp; errors may leave it -/
structure CalX (P : Program) (w : World) (K : PySem.W.Frag) (mg : Str → Option Value) (base : Heap) (k : Nat) (x : Str) (sp : Sp) : Prop where
  ex : ∃ (f : Addr) (fd : FuncData) (ps : List Str), FnOk P w K mg base (L2N.CX P w) k f fd ps sp ∧ mg x = some (.ref f) ∧ PySem.W.keepIn K (.ref f) = true ∧ Binds K fd ps []
theorem okN {P : Program} {w : World} {K : PySem.W.Frag} {mg : Str → Option Value} {base : Heap} {x qual : Str} {st : Stmt} {f : Addr} {fd : FuncData} {N ps : List Str} {k : Nat} {sp : Sp} (F : L2.Fun K x qual st f fd) (S : FnScope N ps (defScope st))
    (len : ∀ vs H Q E, sp vs H Q E → vs.length = ps.length) (hbody : ∀ (cdv : Value) (A : Around) (outer : List Env) (s : Shared) (H : Hp) (vs : List V) (Q : VK) (E : XK), Room k (A.deeper (envOfC qual (defScope st) s.heap.objs.size f cdv)) → sp vs H Q E →
      ∃ t, PSs (cxOf (L2N.CX P w) P w K mg base N qual (defScope st) f cdv A outer s H E) (defBody st) t ∧ t { nx := fun _ H' => Q .non H', rt := Q } (start N vs) H) : FnOk P w K mg base (L2N.CX P w) (k + 1) f fd ps sp := by
  obtain ⟨oc, od, kV, doc, pm, an, cdv, ct, osl, rfl, lk, hcd⟩ := F.ex
  exact fn_of lk hcd S len fun A outer s H vs Q E hr h => hbody cdv A outer s H vs Q E hr h
theorem takesN0 {X : Cx} : L2N.Takes X (fun _ _ _ _ => False) := fun _ _ x => by
  obtain ⟨_, _, _, _, _, _, _, _, _, _, _, _, _, _, _, _, z⟩ := x
  exact z.elim
section
variable {X : Cx} {k j : Nat} {x : Str} {sp : Sp} {E : XK} {W : WX} {p pos : Pos} {e : Expr} {es : List Expr} {t : TA}
theorem pe_calX (c : CalX X.prog X.w X.K X.mg X.base k x sp) (hr : Room j X.A) (hk : k ≤ j) (hg : Gl X x) (hp : Passes (L2N.CX X.prog X.w) X E) (ha : PA X (e :: es) t) (hdb : (x == ("__debug__" : Str)) = false := by decide)
    (he : starEach (e :: es) X.env = (false, eval e X.env) :: starEach es X.env := by rfl) (hpl : (backTo pos (starEach es X.env)).any (·.1) = false := by rfl) : PE X (.Call (.Name x p) (e :: es) [] pos) (tCall sp [] E t) := by
  obtain ⟨f, fd, ps, F, hm, kp, b⟩ := c.ex
  exact pe_call F (hr.mono hk) hg hm kp b .nil hp ha hdb he hpl
theorem pe_calS (c : CalX X.prog X.w X.K X.mg X.base k x sp) (hr : Room j X.A) (hk : k ≤ j) (hg : Gl X x) (tk : L2N.Takes X W) (ha : PA X (e :: es) t) (hdb : (x == ("__debug__" : Str)) = false := by decide)
    (he : starEach (e :: es) X.env = (false, eval e X.env) :: starEach es X.env := by rfl) (hpl : (backTo pos (starEach es X.env)).any (·.1) = false := by rfl) : PE X (.Call (.Name x p) (e :: es) [] pos) (tCallS sp (WE W) t) := by
  obtain ⟨f, fd, ps, F, hm, kp, b⟩ := c.ex
  exact pe_callS F (hr.mono hk) hg hm kp b (fun σ => L2N.passAt tk σ) ha hdb he hpl
end
/-- what a callee raises leaves this def too -/
theorem passX {P : Program} {w : World} {K : PySem.W.Frag} {mg : Str → Option Value} {base : Heap} {N : List Str} {qual : Str} {scope : Scope} {f : Addr} {cd : Value} {A : Around} {outer : List Env} {s : Shared} {H : Hp} {E : XK} :
    Passes (L2N.CX P w) (cxOf (L2N.CX P w) P w K mg base N qual scope f cd A outer s H E) E := L2N.passes_call (X := cxOf (L2N.CX P w) P w K mg base N qual scope f cd A outer s H E) (L2N.takes_of rfl rfl rfl rfl) (fun _ _ _ _ h => h)
/-- nothing is raised there -/
theorem passE0 {X : Cx} : Passes (L2N.CX X.prog X.w) X E0 := fun _ _ _ _ _ _ _ h => by
  obtain ⟨_, _, _, _, _, _, _, _, _, _, _, _, z⟩ := h
  exact z.elim
def tRaise (E : XK) (C : Addr) : TS := fun _ _ H => E (.ref C) none H
/-- try: .. except (the class at W) as (slot i): .. -/
def tTry (K : PySem.W.Frag) (Wh : Addr) (i : Nat) (tb : WX → TS) (ts : Addr → Value → Option Addr → TS) : TS := fun D σ H => tb (wAs K (.ref Wh) i ts (fun _ _ _ _ => False) D) D σ H
/-! ### what kind a refusal is of: _law_kind -/
def knames : List Str := ["Lacks", "NoBank", "NoBook", "NoDeed", "NoName", "NoOrder", "NoPlace", "NoRow", "NoSlack", "NoText", "NoTurns", "NoWheel", "NoWord", "TooMany", "+"]
def kstr (j : Nat) : Str := Txt.join (PySem.Str.ofString "") [knames.getD j "", "+"]
theorem kstr0 : kstr 0 = PySem.Str.ofString "Lacks+" := by decide +kernel
theorem kstr1 : kstr 1 = PySem.Str.ofString "NoBank+" := by decide +kernel
theorem kstr2 : kstr 2 = PySem.Str.ofString "NoBook+" := by decide +kernel
theorem kstr3 : kstr 3 = PySem.Str.ofString "NoDeed+" := by decide +kernel
theorem kstr4 : kstr 4 = PySem.Str.ofString "NoName+" := by decide +kernel
theorem kstr5 : kstr 5 = PySem.Str.ofString "NoOrder+" := by decide +kernel
theorem kstr6 : kstr 6 = PySem.Str.ofString "NoPlace+" := by decide +kernel
theorem kstr7 : kstr 7 = PySem.Str.ofString "NoRow+" := by decide +kernel
theorem kstr8 : kstr 8 = PySem.Str.ofString "NoSlack+" := by decide +kernel
theorem kstr9 : kstr 9 = PySem.Str.ofString "NoText+" := by decide +kernel
theorem kstr10 : kstr 10 = PySem.Str.ofString "NoTurns+" := by decide +kernel
theorem kstr11 : kstr 11 = PySem.Str.ofString "NoWheel+" := by decide +kernel
theorem kstr12 : kstr 12 = PySem.Str.ofString "NoWord+" := by decide +kernel
theorem kstr13 : kstr 13 = PySem.Str.ofString "TooMany+" := by decide +kernel
/-- the class at D is the j-th of these; errors of it are told so -/
structure Caught (K : PySem.W.Frag) (c : Cl) (D : Addr) (j : Nat) : Prop where
  ex : ExcC K D
  exm : PySem.W.exmOne K (.ref D) (.ref c.WheelError) = some true
  q0 : PySem.W.kitOne K (.ref D) (.ref c.Lacks) = some (decide (0 = j))
  q1 : PySem.W.kitOne K (.ref D) (.ref c.NoBank) = some (decide (1 = j))
  q2 : PySem.W.kitOne K (.ref D) (.ref c.NoBook) = some (decide (2 = j))
  q3 : PySem.W.kitOne K (.ref D) (.ref c.NoDeed) = some (decide (3 = j))
  q4 : PySem.W.kitOne K (.ref D) (.ref c.NoName) = some (decide (4 = j))
  q5 : PySem.W.kitOne K (.ref D) (.ref c.NoOrder) = some (decide (5 = j))
  q6 : PySem.W.kitOne K (.ref D) (.ref c.NoPlace) = some (decide (6 = j))
  q7 : PySem.W.kitOne K (.ref D) (.ref c.NoRow) = some (decide (7 = j))
  q8 : PySem.W.kitOne K (.ref D) (.ref c.NoSlack) = some (decide (8 = j))
  q9 : PySem.W.kitOne K (.ref D) (.ref c.NoText) = some (decide (9 = j))
  q10 : PySem.W.kitOne K (.ref D) (.ref c.NoTurns) = some (decide (10 = j))
  q11 : PySem.W.kitOne K (.ref D) (.ref c.NoWheel) = some (decide (11 = j))
  q12 : PySem.W.kitOne K (.ref D) (.ref c.NoWord) = some (decide (12 = j))
  q13 : PySem.W.kitOne K (.ref D) (.ref c.TooMany) = some (decide (13 = j))
  q14 : PySem.W.kitOne K (.ref D) (.type "ValueError") = some true
def sp_law_kind (K : PySem.W.Frag) (c : Cl) : SpE := fun cls d H Q => d = none ∧ ∃ D j, cls = .ref D ∧ Caught K c D j ∧ j < 14 ∧ ∀ H', Same H H' → Q (.str (kstr j)) H'
theorem g_isE {K : PySem.W.Frag} {D a C : Addr} {b : Bool} {H : Hp} {Q : VK} (h : PySem.W.kitOne K (.ref D) (.ref C) = some b) (q : Q (.bl b) H) : rIsE K D a [.ref a, .ref C] H Q := ⟨.ref C, .ref C, b, rfl, fun _ r => r, h, q⟩
theorem g_isEt {K : PySem.W.Frag} {D a : Addr} {n : String} {b : Bool} {H : Hp} {Q : VK} (h : PySem.W.kitOne K (.ref D) (.type n) = some b) (q : Q (.bl b) H) : rIsE K D a [.ref a, .ty n] H Q := ⟨.ty n, .type n, b, rfl, fun _ r => r, h, q⟩
theorem g_catL {l b : Addr} {xs zs : List V} {H : Hp} {Q : VK} (hl : H l = some (.lst xs)) (hb : H b = some (.lst zs)) (hz : xs.length + zs.length ≤ 1000) (q : ∀ p H', H p = none → Same H H' → H' p = some (.lst (xs ++ zs)) → Q (.ref p) H') : rCat (.ref l) (.ref b) H Q :=
  ⟨l, b, xs, zs, rfl, rfl, hl, hb, Nat.le_trans hz (by decide), fun p hp => q p _ hp (fun b o e => by rw [upd_ne (ne_of_none e hp)]; exact e) upd_same⟩
theorem g_new {xs : List V} {F : Addr → Hp → Prop} {H : Hp} (hz : xs.length ≤ 1000) (q : ∀ p H', H p = none → Same H H' → H' p = some (.lst xs) → F p H') : xs.length ≤ sizeLine ∧ ∀ p, H p = none → F p (upd H p (.lst xs)) :=
  ⟨Nat.le_trans hz (by decide), fun p hp => q p _ hp (fun b o e => by rw [upd_ne (ne_of_none e hp)]; exact e) upd_same⟩
end Sw
local macro_rules | `(tactic| walk_at "isE") => `(tactic| first
  | with_reducible refine Sw.g_isE (Sw.Caught.q0 (by assumption)) ?_ | with_reducible refine Sw.g_isE (Sw.Caught.q1 (by assumption)) ?_ | with_reducible refine Sw.g_isE (Sw.Caught.q2 (by assumption)) ?_ | with_reducible refine Sw.g_isE (Sw.Caught.q3 (by assumption)) ?_
  | with_reducible refine Sw.g_isE (Sw.Caught.q4 (by assumption)) ?_ | with_reducible refine Sw.g_isE (Sw.Caught.q5 (by assumption)) ?_ | with_reducible refine Sw.g_isE (Sw.Caught.q6 (by assumption)) ?_ | with_reducible refine Sw.g_isE (Sw.Caught.q7 (by assumption)) ?_
  | with_reducible refine Sw.g_isE (Sw.Caught.q8 (by assumption)) ?_ | with_reducible refine Sw.g_isE (Sw.Caught.q9 (by assumption)) ?_ | with_reducible refine Sw.g_isE (Sw.Caught.q10 (by assumption)) ?_ | with_reducible refine Sw.g_isE (Sw.Caught.q11 (by assumption)) ?_
  | with_reducible refine Sw.g_isE (Sw.Caught.q12 (by assumption)) ?_ | with_reducible refine Sw.g_isE (Sw.Caught.q13 (by assumption)) ?_ | with_reducible refine Sw.g_isEt (Sw.Caught.q14 (by assumption)) ?_)
namespace Sw
open PySem PySem.Spec PyProof.Rows L2 SX
/-! ### data compared -/
mutual
theorem dp_same {K : PySem.W.Frag} {H H' : Hp} (e : Same H H') : ∀ {v : V} {d : PyData}, Dp K H v d → Dp K H' v d
  | _, _, .non => .non
  | _, _, .bl b => .bl b
  | _, _, .int i => .int i
  | _, _, .str x => .str x
  | _, _, .lst h a => .lst (e.seq h) (dpA_same e a)
  | _, _, .tup h a => .tup (Sw.Same.tup e h) (dpA_same e a)
theorem dpA_same {K : PySem.W.Frag} {H H' : Hp} (e : Same H H') : ∀ {v : List V} {d : List PyData}, DpAll K H v d → DpAll K H' v d
  | _, _, .nil => .nil
  | _, _, .cons a b => .cons (dp_same e a) (dpA_same e b)
end
/-- data of little depth, of texts within bounds -/
def Ok (n : Nat) (d : PyData) : Prop := d.canLay0 = true ∧ d.depth ≤ n
theorem ok_int {n : Nat} (i : Int) : Ok n (.int i) := ⟨rfl, Nat.zero_le _⟩
theorem ok_bl {n : Nat} (b : Bool) : Ok n (.bool b) := ⟨rfl, Nat.zero_le _⟩
theorem ok_non {n : Nat} : Ok n .none := ⟨rfl, Nat.zero_le _⟩
theorem ok_str {n : Nat} {x : Str} (h : PyData.strOk x = true) : Ok n (.str x) := ⟨h, Nat.zero_le _⟩
theorem okA {n : Nat} : ∀ {xs : List PyData}, (∀ x ∈ xs, Ok n x) → PyData.canLayAll0 xs = true ∧ PyData.depthAll xs ≤ n
  | [], _ => ⟨rfl, Nat.zero_le _⟩
  | x :: xs, h => by
    have h1 := h x List.mem_cons_self
    have h2 := okA (xs := xs) fun y hy => h y (List.mem_cons_of_mem _ hy)
    refine ⟨?_, ?_⟩
    · show (x.canLay0 && PyData.canLayAll0 xs) = true
      rw [h1.1, h2.1]; rfl
    · show max x.depth (PyData.depthAll xs) ≤ n
      exact Nat.max_le.mpr ⟨h1.2, h2.2⟩
theorem ok_lst {n : Nat} {xs : List PyData} (h : ∀ x ∈ xs, Ok n x) : Ok (n + 1) (.list xs) := ⟨(okA h).1, Nat.succ_le_succ (okA h).2⟩
theorem ok_tup {n : Nat} {xs : List PyData} (h : ∀ x ∈ xs, Ok n x) : Ok (n + 1) (.tuple xs) := ⟨(okA h).1, Nat.succ_le_succ (okA h).2⟩
theorem ok_nil {n : Nat} : ∀ x ∈ ([] : List PyData), Ok n x := fun _ h => nomatch h
theorem ok_cons {n : Nat} {x : PyData} {xs : List PyData} (h : Ok n x) (hs : ∀ y ∈ xs, Ok n y) : ∀ y ∈ x :: xs, Ok n y := fun y hy => by
  rcases List.mem_cons.mp hy with e | e
  · rw [e]; exact h
  · exact hs y e
theorem Ok.shaped {n : Nat} {d : PyData} (h : Ok n d) (hn : n ≤ 64) : SeqAt.shaped d = true := by
  unfold SeqAt.shaped
  rw [h.1]
  simpa using Nat.le_trans h.2 hn
/-- two things that are the same data -/
theorem g_neD {K : PySem.W.Frag} {H : Hp} {x y : V} {d : PyData} {n : Nat} {Q : VK} (hx : Dp K H x d) (hy : Dp K H y d) (ok : Ok n d) (hn : n ≤ 64) (q : Q (.bl false) H) : rNeD K x y H Q :=
  ⟨d, d, hx, hy, ok.shaped hn, ok.shaped hn, by rw [SeqAt.eqv_refl d ok.1]; exact q⟩
theorem g_eqD {K : PySem.W.Frag} {H : Hp} {x y : V} {d : PyData} {n : Nat} {Q : VK} (hx : Dp K H x d) (hy : Dp K H y d) (ok : Ok n d) (hn : n ≤ 64) (q : Q (.bl true) H) : rEqD K x y H Q :=
  ⟨d, d, hx, hy, ok.shaped hn, ok.shaped hn, by rw [SeqAt.eqv_refl d ok.1]; exact q⟩
def dI (ns : List Int) : List PyData := ns.map .int
theorem dpI {K : PySem.W.Frag} {H : Hp} : ∀ ns : List Int, DpAll K H (ns.map V.int) (dI ns)
  | [] => .nil
  | n :: ns => .cons (.int n) (dpI ns)
theorem ok_dI {n : Nat} (ns : List Int) : ∀ x ∈ dI ns, Ok n x := fun x hx => by
  obtain ⟨i, _, rfl⟩ := List.mem_map.mp hx
  exact ok_int i
end Sw
local macro_rules | `(tactic| walk_at "go1") => `(tactic| first
  | with_reducible refine Sw.g_seqasg ?_ | with_reducible refine Sw.g_op ?_ | with_reducible refine Sw.g_var rfl ?_ | with_reducible refine Sw.g_c ?_ | with_reducible refine Sw.g_I0 ?_
  | with_reducible refine Sw.g_cons ?_ | with_reducible refine Sw.g_nil ?_ | with_reducible refine Sw.g_call ?_ | with_reducible refine Sw.g_cb ?_ | with_reducible refine Sw.g_test ?_ | with_reducible refine Sw.g_bl ?_
  | with_reducible refine Sw.g_seqdrop ?_ | with_reducible refine Sw.g_seqsub ?_ | with_reducible refine Sw.g_asg ?_ | with_reducible refine Sw.g_asgsub ?_ | with_reducible refine Sw.g_ret ?_ | with_reducible refine Sw.g_drop ?_ | with_reducible refine Sw.g_if ?_ | with_reducible refine Sw.g_next ?_ | with_reducible refine Sw.g_name ?_
  | with_reducible refine Sw.g_B ?_ | with_reducible refine Sw.g_not ?_ | with_reducible refine Sw.g_and ?_ | with_reducible refine Sw.g_or ?_ | with_reducible refine Sw.g_andV ?_ | with_reducible refine Sw.g_orV ?_ | with_reducible refine Sw.g_notV ?_
  | with_reducible refine Sw.g_ifE ?_ | with_reducible refine Sw.g_chain ?_ | with_reducible refine Sw.g_un ?_ | with_reducible refine Sw.g_tup ?_ | with_reducible refine Sw.g_lst ?_ | with_reducible refine Sw.g_sl ?_ | with_reducible refine Sw.g_part ?_ | with_reducible refine Sw.g_nopart ?_
  | with_reducible refine Sw.g_U ?_ | with_reducible refine Sw.g_eq rfl ?_ | with_reducible refine Sw.g_ne rfl ?_ | with_reducible refine Sw.g_int ?_ | with_reducible refine Sw.g_yes ?_ | with_reducible refine L2.iteT ?_ | with_reducible refine L2.iteF ?_ | with_reducible refine Sw.iteNT ?_ | with_reducible refine Sw.iteNF ?_ | with_reducible refine Sw.g_m1 ?_ | with_reducible refine Sw.g_bm ?_ | with_reducible refine ⟨Sw.ty_lst (by assumption), ?_⟩ | with_reducible refine Sw.g_sput ?_ | with_reducible refine Sw.g_put ?_ | with_reducible refine Sw.g_dget2 ?_ | with_reducible refine Sw.g_dget ?_ | with_reducible refine Sw.g_dK ?_ | with_reducible refine Sw.g_dT ?_ | with_reducible refine Sw.g_dnotin ?_ | with_reducible refine Sw.g_din ?_ | with_reducible refine Sw.g_bm0 ?_
  | with_reducible refine Sw.g_ixL (by assumption) rfl ?_ | with_reducible refine Sw.g_ixT (by assumption) rfl ?_)
local macro_rules | `(tactic| walk_at "go") => `(tactic| repeat walk_at "go1")
local macro_rules | `(tactic| walk_at "bd") => `(tactic| repeat (first | with_reducible exact Sw.all_nil | refine Sw.all_cons ⟨_, rfl, by omega, by omega⟩ ?_))
local macro_rules | `(tactic| walk_at "new") => `(tactic| (refine ⟨Nat.le_of_ble_eq_true rfl, fun p np => ?_⟩; generalize hX : L2.upd _ p _ = H'; have sm : L2.Same _ H' := hX ▸ Sw.same_upd np; have hp : H' p = some _ := hX ▸ L2.upd_same; clear hX))
namespace Sw
open PySem PySem.Spec PyProof.Rows L2 SX
/-! ### tables: dicts with pairs as keys -/
/-- {k: v}, k a tuple -/
def tDispT (tk tv : TE) : TE := fun σ H Q => ∀ p, H p = none → tk σ (upd H p (.dT [])) fun x H1 => tv σ H1 fun y H2 => H2 p = some (.dT []) ∧ ∃ b k, x = .ref b ∧ H2 b = some (.tup (k.map kV)) ∧ Q (.ref p) (upd H2 p (.dT [(k, y)]))
section
variable {X : Cx} {pos : Pos}
theorem pe_dispT {kx vx : Expr} {tk tv : TE} (hu : X.A.units + 1 < cLine) (hk : PE X kx tk) (hv : PE X vx tv) : PE X (.Dict [some kx] [vx] pos) (tDispT tk tv) := by
  refine ⟨fun pins s σ H Q I q => ?_⟩
  have hn := I.hok.fresh (Nat.le_refl s.heap.objs.size)
  have I1 := I.laid (a := s.heap.objs.size) (o := .dT []) (h' := s.heap.push { cls := .type "dict", data := .dict #[] }) (t' := s.toks) (fun _ _ q => Heap.get?_push_of_some _ q) (Nat.le_refl _) (dt_empty s.heap I.big)
  rw [PySem.arm_eval_Dict, PySem.zip_pairTrees [some kx] [vx] X.env pos rfl rfl, PySem.dictDisplay_pairs _ (by intro z; have := congrArg List.length z; simp [pairTrees] at this) (by simp [pairTrees])]
  refine wpAny_bind (wpAny_standAt (wpAny_bind (wpAny_subDictH (knd := tupleKind (mixKind X.prog X.w)) (Q := fun d s' => wpAny (model X.prog X.w) X.A (pure (Value.ref d)) (EP X pins σ Q) X.xe s') (show X.A.units < cLine by omega) (by simp [pairTrees]) ?_)))
  refine pairTrees_cons_walk (thn (hk.run pins _ σ _ _ I1 (q _ hn)) fun kv s1 ⟨x, H1, J1, r1, q1⟩ => thn (hv.run pins s1 σ H1 _ J1 q1) fun vv s2 ⟨y, H2, J2, r2, q2⟩ => pairTrees_nil_walk ?_)
  obtain ⟨e, b, k, rfl, hb, q2⟩ := q2
  cases (show kv = Value.ref b from r1)
  obtain ⟨z, hd, xs, rel, dd⟩ := dt_of J2.hok e
  cases rel
  have key := key_of J2.hok hb
  refine ⟨[(k, b, vv)], ⟨rfl, rfl, key, trivial⟩, dd, fun h' tk dd' hs => wpAny_pure ⟨.ref s.heap.objs.size, _, ?_, rfl, q2⟩⟩
  obtain ⟨o, es, ep, ho, h2, h3, h4, _, h5⟩ := dd'
  refine d_write J2 (by rw [e]; exact True.intro) hs ⟨o, ho⟩ ⟨by show 1 ≤ sizeLine; decide, hd, [(k, b, vv)], .cons ⟨rfl, ?_, r2⟩ .nil, o, es, ep, ho, h2, h3, h4, h5⟩
  rw [upd_ne (ne_of hb e (fun z => nomatch z))]
  exact hb
end
/-! ### min(d.values()) of such a dict -/
def tMinValsT (td : TE) : TE := fun σ H Q => td σ H fun x H1 => ∃ a kvs is, x = V.ref a ∧ Rd H1 a (.dT kvs) ∧ kvs.map (·.2) = is.map V.int ∧ is ≠ [] ∧ ∀ m, m ∈ is → (∀ j ∈ is, m ≤ j) → Q (.int m) H1
theorem KT.at' {H : Hp} {kvs : List (List Key × V)} {xs : List (List Key × Addr × Value)} (r : KT H kvs xs) : ∀ {i : Nat} {y : List Key × Addr × Value}, xs[i]? = some y → ∃ x, (kvs.map (·.2))[i]? = some x ∧ RelV x y.2.2 := by
  unfold KT at r
  induction r with
  | nil => intro i y e; simp at e
  | cons r t ih =>
    intro i y e
    cases i with
    | zero =>
      have e' := Option.some.inj (show some _ = some y from e)
      subst e'
      exact ⟨_, rfl, r.2.2⟩
    | succ i =>
      obtain ⟨x, h1, h2⟩ := ih (i := i) (y := y) (by simpa using e)
      exact ⟨x, by simpa using h1, h2⟩
section
variable {X : Cx} {o : Expr} {p pos apos mpos : Pos} {td : TE}
theorem pe_minValsT (hc : X.calm = true) (hg : Gl X "min") (hm : X.mg "min" = none) (hd : PE X o td) (hbase : attributeBase o "values" X.env (eval o X.env) = eval o X.env := by rfl) (hline : (apos.endLine == mpos.line) = true := by rfl)
    (hse : starEach [Expr.Call (.Attribute o "values" apos) [] [] mpos] X.env = [(false, eval (Expr.Call (.Attribute o "values" apos) [] [] mpos) X.env)] := by rfl) :
    PE X (.Call (.Name "min" p) [.Call (.Attribute o "values" apos) [] [] mpos] [] pos) (tMinValsT td) := by
  refine ⟨fun pins s σ H Q I h => ?_⟩
  refine wpAny_Call_Name_kw (ld_blt I hg hm (u := .builtin "min") (by first | rfl | decide +kernel) ?_ (by first | decide +kernel | decide) (by first | decide +kernel | decide))
  rw [hse]
  refine PySem.callWith_builtin1 (wpAny_Call_method0_late hbase hline (thn (hd.run pins s σ H _ I h) fun v s1 ⟨x, H1, I1, r1, a, kvs, is, ex, ha, hv, hne, q⟩ => ?_))
  subst ex
  obtain rfl : v = Value.ref a := r1
  obtain ⟨_, hsys, xs, rel, dof⟩ := dt_rd I1.hok ha
  obtain ⟨es, ep, raw, hsz0, hx⟩ := dof.raw
  obtain ⟨ob, ho, ex, hdat⟩ := id raw
  refine ⟨"dict", "dict.values", F.plainAttrs_dict, F.slot_dict_values, F.type_dict_values, ⟨ob, ho, ex.1⟩, fun b e => ?_, Calls.callWith_builtin rfl (PySem.evalArgs_none ?_)⟩
  · cases e
    exact ⟨ob, ho, ex.2.1⟩
  refine call_meetsIn F.slot_dict_values ⟨ob, ho, ex.1⟩ F.entry_dict_values (F.args_dict_values_1 _) (meets_dict_values_raw a hsys) ⟨⟨es, ep, raw⟩, ?_⟩
  have k1 : ∀ b u, s1.heap.get? b = some u → (s1.heap.push { cls := .type "dict_values", data := .fields #[.ref a] }).get? b = some u := fun b u e => Heap.get?_push_of_some _ e
  have raw1 : (s1.heap.push { cls := .type "dict_values", data := .fields #[.ref a] }).DictRaw a es ep := raw.at fun o e => k1 a o e
  have hlx : xs.length = is.length := by
    have e1 := congrArg List.length hv
    rw [List.length_map, List.length_map] at e1
    rw [← e1]
    exact (Paired.length rel).symm
  have hlen : 0 < es.size := by
    rw [hsz0, hlx]
    exact List.length_pos_iff.mpr hne
  have hval : ∀ (i : Nat) (v : Value), (∃ y, xs[i]? = some y ∧ v = y.2.2) → ∃ t, v = Value.int (is.getD i 0) t := fun i v ⟨y, hy, ev⟩ => by
    obtain ⟨x, h1, h2⟩ := KT.at' rel hy
    rw [hv, List.getElem?_map] at h1
    obtain ⟨j, hj, e2⟩ := Option.map_eq_some_iff.mp h1
    subst e2
    obtain ⟨t, e3⟩ := h2
    refine ⟨t, ?_⟩
    rw [ev, e3, List.getD_eq_getElem?_getD, hj]
    rfl
  refine call_min_walk (wpAny_pyIter_values_raw (v := s1.heap.objs.size) (d := a) ⟨_, Heap.get?_push_size _ rfl, rfl, rfl⟩ raw1 ?_)
  have hlt : a < s1.heap.objs.size := Heap.lt_size ho
  have hsz : (s1.heap.push { cls := .type "dict_values", data := .fields #[.ref a] }).objs.size = s1.heap.objs.size + 1 := Heap.size_push _ _
  refine ⟨_, _, _, _, _, _, _, rfl, Walks.valuesH (xs := xs) (A := X.A.in1) (I.ok.hd hc) (s1.heap.push { cls := .type "dict_values", data := .fields #[.ref a] }).objs.size a (by rw [hsz]; exact Nat.ne_of_lt (Nat.lt_succ_of_lt hlt)) es ep (fun i hi => let ⟨y, h1, h2, h3, _⟩ := hx i hi; ⟨y, h1, h2, h3⟩),
    ⟨⟨_, Heap.get?_push_size _ rfl, rfl, rfl⟩, raw1.at fun o e => Heap.get?_push_of_some _ e⟩, fun b hb => ?_, hlen, CmpOf.ints_lt (fun i => is.getD i 0) hval, fun v h' tk hP hk => ?_⟩
  · show b < ((s1.heap.push _).push _).objs.size
    rw [Heap.size_push, Heap.size_push]
    rw [hsz] at hb
    rcases List.mem_cons.mp hb with e | hb
    · rw [e]
      exact Nat.lt_succ_self _
    · have e : b = a := List.mem_singleton.mp hb
      rw [e]
      exact Nat.lt_succ_of_lt (Nat.lt_succ_of_lt hlt)
  · obtain ⟨t, rfl⟩ := hval _ v hP
    obtain ⟨b1, b2⟩ := argBest_lt (fun i => is.getD i 0) (es.size - 1)
    refine ⟨.int _, H1, I1.kept (t' := tk) fun b u e => hk b u (fun hmem => ?_) (Heap.get?_push_of_some _ (k1 b u e)), ⟨t, rfl⟩, q _ ?_ fun j hj => ?_⟩
    · have e1 : b = (s1.heap.push { cls := .type "dict_values", data := .fields #[.ref a] }).objs.size := List.mem_singleton.mp hmem
      have e2 := Heap.lt_size e
      rw [hsz] at e1
      rw [e1] at e2
      exact absurd e2 (Nat.not_lt.mpr (Nat.le_succ _))
    · have hb : argBest (fun i j => decide (is.getD i 0 < is.getD j 0)) (es.size - 1) < is.length := by omega
      rw [List.getD_eq_getElem?_getD, List.getElem?_eq_getElem hb]
      exact List.getElem_mem hb
    · obtain ⟨i, hi, e⟩ := List.mem_iff_getElem.mp hj
      have e2 : is.getD i 0 = j := by rw [List.getD_eq_getElem?_getD, List.getElem?_eq_getElem hi, ← e]; rfl
      rw [← e2]
      exact b2 i (by omega)
end
end Sw
local macro_rules | `(tactic| walk_at "go1") => `(tactic| first
  | with_reducible refine Sw.g_seqasg ?_ | with_reducible refine Sw.g_op ?_ | with_reducible refine Sw.g_var rfl ?_ | with_reducible refine Sw.g_c ?_ | with_reducible refine Sw.g_I0 ?_
  | with_reducible refine Sw.g_cons ?_ | with_reducible refine Sw.g_nil ?_ | with_reducible refine Sw.g_call ?_ | with_reducible refine Sw.g_cb ?_ | with_reducible refine Sw.g_test ?_ | with_reducible refine Sw.g_bl ?_
  | with_reducible refine Sw.g_seqdrop ?_ | with_reducible refine Sw.g_seqsub ?_ | with_reducible refine Sw.g_asg ?_ | with_reducible refine Sw.g_asgsub ?_ | with_reducible refine Sw.g_ret ?_ | with_reducible refine Sw.g_drop ?_ | with_reducible refine Sw.g_if ?_ | with_reducible refine Sw.g_next ?_ | with_reducible refine Sw.g_name ?_
  | with_reducible refine Sw.g_B ?_ | with_reducible refine Sw.g_not ?_ | with_reducible refine Sw.g_and ?_ | with_reducible refine Sw.g_or ?_ | with_reducible refine Sw.g_andV ?_ | with_reducible refine Sw.g_orV ?_ | with_reducible refine Sw.g_notV ?_
  | with_reducible refine Sw.g_ifE ?_ | with_reducible refine Sw.g_chain ?_ | with_reducible refine Sw.g_un ?_ | with_reducible refine Sw.g_tup ?_ | with_reducible refine Sw.g_lst ?_ | with_reducible refine Sw.g_sl ?_ | with_reducible refine Sw.g_part ?_ | with_reducible refine Sw.g_nopart ?_
  | with_reducible refine Sw.g_U ?_ | with_reducible refine Sw.g_eq rfl ?_ | with_reducible refine Sw.g_ne rfl ?_ | with_reducible refine Sw.g_int ?_ | with_reducible refine Sw.g_yes ?_ | with_reducible refine L2.iteT ?_ | with_reducible refine L2.iteF ?_ | with_reducible refine Sw.iteNT ?_ | with_reducible refine Sw.iteNF ?_ | with_reducible refine Sw.g_m1 ?_ | with_reducible refine Sw.g_bm ?_ | with_reducible refine ⟨Sw.ty_lst (by assumption), ?_⟩ | with_reducible refine Sw.g_sput ?_ | with_reducible refine Sw.g_put ?_ | with_reducible refine Sw.g_dget2 ?_ | with_reducible refine Sw.g_dget ?_ | with_reducible refine Sw.g_dK ?_ | with_reducible refine Sw.g_dT ?_ | with_reducible refine Sw.g_dnotin ?_ | with_reducible refine Sw.g_din ?_ | with_reducible refine Sw.g_bm0 ?_
  | with_reducible refine Sw.g_ixL (by assumption) rfl ?_ | with_reducible refine Sw.g_ixT (by assumption) rfl ?_)
local macro_rules | `(tactic| walk_at "go") => `(tactic| repeat walk_at "go1")
local macro_rules | `(tactic| walk_at "bd") => `(tactic| repeat (first | with_reducible exact Sw.all_nil | refine Sw.all_cons ⟨_, rfl, by omega, by omega⟩ ?_))
local macro_rules | `(tactic| walk_at "new") => `(tactic| (refine ⟨Nat.le_of_ble_eq_true rfl, fun p np => ?_⟩; generalize hX : L2.upd _ p _ = H'; have sm : L2.Same _ H' := hX ▸ Sw.same_upd np; have hp : H' p = some _ := hX ▸ L2.upd_same; clear hX))
namespace Sw
open PySem PySem.Spec PyProof.Rows L2 SX
/-! ### data without a heap -/
inductive D where
  | non | bl (b : Bool) | int (i : Int) | str (l : List Nat) | lst (xs : List D) | tup (xs : List D) | dK (kvs : List (Key × D)) | dT (kvs : List (List Key × D)) | tape
mutual
/-- d stands at v, in what is frozen -/
def Rp (F : Hp) : D → V → Prop
  | .non, v => v = .non
  | .bl b, v => v = .bl b
  | .int i, v => v = .int i
  | .str l, v => v = .str (S l)
  | .lst ds, v => ∃ a xs, v = .ref a ∧ F a = some (.lst xs) ∧ RpL F ds xs
  | .tup ds, v => ∃ a xs, v = .ref a ∧ F a = some (.tup xs) ∧ RpL F ds xs
  | .dK ds, v => ∃ a xs, v = .ref a ∧ Rd F a (.dK xs) ∧ RpK F ds xs
  | .dT ds, v => ∃ a xs, v = .ref a ∧ Rd F a (.dT xs) ∧ RpT F ds xs
  | .tape, v => ∃ a, v = .ref a ∧ Dr F a
def RpL (F : Hp) : List D → List V → Prop
  | [], xs => xs = []
  | d :: ds, xs => ∃ x r, xs = x :: r ∧ Rp F d x ∧ RpL F ds r
def RpK (F : Hp) : List (Key × D) → List (Key × V) → Prop
  | [], xs => xs = []
  | (k, d) :: ds, xs => ∃ x r, xs = (k, x) :: r ∧ Rp F d x ∧ RpK F ds r
def RpT (F : Hp) : List (List Key × D) → List (List Key × V) → Prop
  | [], xs => xs = []
  | (k, d) :: ds, xs => ∃ x r, xs = (k, x) :: r ∧ Rp F d x ∧ RpT F ds r
end
/-- what is seen in the one is seen in the other -/
structure Sees (F F' : Hp) : Prop where
  l : ∀ b xs, F b = some (.lst xs) → F' b = some (.lst xs)
  t : ∀ b xs, F b = some (.tup xs) → F' b = some (.tup xs)
  k : ∀ b xs, Rd F b (.dK xs) → Rd F' b (.dK xs)
  m : ∀ b xs, Rd F b (.dT xs) → Rd F' b (.dT xs)
theorem rd_same {F F' : Hp} {b : Addr} {o : HO} (e : Same F F') (h : Rd F b o) : Rd F' b o := by
  rcases h with h | ⟨z, h⟩
  · exact .inl (e _ _ h)
  · exact .inr ⟨z, e _ _ h⟩
theorem Sees.of {F F' : Hp} (e : Same F F') : Sees F F' := ⟨fun b xs h => e _ _ h, fun b xs h => e _ _ h, fun b xs h => rd_same e h, fun b xs h => rd_same e h⟩
mutual
theorem Rp.mono {F F' : Hp} (e : Sees F F') : ∀ {d : D} {v : V}, Rp F d v → Rp F' d v
  | .non, _, h => h
  | .bl _, _, h => h
  | .int _, _, h => h
  | .str _, _, h => h
  | .lst _, _, h => by
    obtain ⟨a, xs, h1, h2, h3⟩ := h
    exact ⟨a, xs, h1, e.l _ _ h2, RpL.mono e h3⟩
  | .tup _, _, h => by
    obtain ⟨a, xs, h1, h2, h3⟩ := h
    exact ⟨a, xs, h1, e.t _ _ h2, RpL.mono e h3⟩
  | .dK _, _, h => by
    obtain ⟨a, xs, h1, h2, h3⟩ := h
    exact ⟨a, xs, h1, e.k _ _ h2, RpK.mono e h3⟩
  | .dT _, _, h => by
    obtain ⟨a, xs, h1, h2, h3⟩ := h
    exact ⟨a, xs, h1, e.m _ _ h2, RpT.mono e h3⟩
  | .tape, _, h => by
    obtain ⟨a, h1, c, s, p, h2, h3⟩ := h
    exact ⟨a, h1, c, s, p, e.l _ _ h2, h3⟩
theorem RpL.mono {F F' : Hp} (e : Sees F F') : ∀ {ds : List D} {xs : List V}, RpL F ds xs → RpL F' ds xs
  | [], _, h => h
  | _ :: _, _, h => by
    obtain ⟨x, r, h1, h2, h3⟩ := h
    exact ⟨x, r, h1, Rp.mono e h2, RpL.mono e h3⟩
theorem RpK.mono {F F' : Hp} (e : Sees F F') : ∀ {ds : List (Key × D)} {xs : List (Key × V)}, RpK F ds xs → RpK F' ds xs
  | [], _, h => h
  | (_, _) :: _, _, h => by
    obtain ⟨x, r, h1, h2, h3⟩ := h
    exact ⟨x, r, h1, Rp.mono e h2, RpK.mono e h3⟩
theorem RpT.mono {F F' : Hp} (e : Sees F F') : ∀ {ds : List (List Key × D)} {xs : List (List Key × V)}, RpT F ds xs → RpT F' ds xs
  | [], _, h => h
  | (_, _) :: _, _, h => by
    obtain ⟨x, r, h1, h2, h3⟩ := h
    exact ⟨x, r, h1, Rp.mono e h2, RpT.mono e h3⟩
end
section
variable {F : Hp}
theorem RpL.len : ∀ {ds : List D} {xs : List V}, RpL F ds xs → xs.length = ds.length
  | [], _, h => by cases h; rfl
  | _ :: _, _, h => by
    obtain ⟨x, r, rfl, _, h3⟩ := h
    rw [List.length_cons, List.length_cons, h3.len]
theorem RpL.app : ∀ {ds es : List D} {xs ys : List V}, RpL F ds xs → RpL F es ys → RpL F (ds ++ es) (xs ++ ys)
  | [], _, _, _, h, h' => by cases h; exact h'
  | _ :: _, _, _, _, h, h' => by
    obtain ⟨x, r, rfl, h2, h3⟩ := h
    exact ⟨x, _, rfl, h2, h3.app h'⟩
theorem RpL.one {d : D} {x : V} (h : Rp F d x) : RpL F [d] [x] := ⟨x, [], rfl, h, rfl⟩
theorem RpL.at : ∀ {ds : List D} {xs : List V} {i : Nat} {d : D}, RpL F ds xs → ds[i]? = some d → ∃ x, xs[i]? = some x ∧ Rp F d x
  | [], _, _, _, _, e => by simp at e
  | _ :: _, _, 0, _, h, e => by
    obtain ⟨x, r, rfl, h2, h3⟩ := h
    simp only [List.getElem?_cons_zero, Option.some.injEq] at e
    subst e
    exact ⟨x, rfl, h2⟩
  | _ :: _, _, i + 1, _, h, e => by
    obtain ⟨x, r, rfl, h2, h3⟩ := h
    simp only [List.getElem?_cons_succ] at e
    obtain ⟨y, h4, h5⟩ := h3.at e
    exact ⟨y, by simpa using h4, h5⟩
theorem RpL.set : ∀ {ds : List D} {xs : List V} {i : Nat} {d : D} {x : V}, RpL F ds xs → Rp F d x → RpL F (ds.set i d) (xs.set i x)
  | [], _, _, _, _, h, _ => by cases h; exact rfl
  | _ :: _, _, 0, _, _, h, h' => by
    obtain ⟨y, r, rfl, h2, h3⟩ := h
    exact ⟨_, _, rfl, h', h3⟩
  | _ :: _, _, i + 1, _, _, h, h' => by
    obtain ⟨y, r, rfl, h2, h3⟩ := h
    exact ⟨_, _, rfl, h2, h3.set h'⟩
theorem RpL.rev : ∀ {ds : List D} {xs : List V}, RpL F ds xs → RpL F ds.reverse xs.reverse
  | [], _, h => by cases h; exact rfl
  | _ :: _, _, h => by
    obtain ⟨x, r, rfl, h2, h3⟩ := h
    rw [List.reverse_cons, List.reverse_cons]
    exact h3.rev.app (.one h2)
theorem RpL.drop : ∀ {ds : List D} {xs : List V} (n : Nat), RpL F ds xs → RpL F (ds.drop n) (xs.drop n)
  | _, _, 0, h => h
  | [], _, _ + 1, h => by cases h; exact rfl
  | _ :: _, _, n + 1, h => by
    obtain ⟨x, r, rfl, h2, h3⟩ := h
    exact h3.drop n
theorem RpL.take : ∀ {ds : List D} {xs : List V} (n : Nat), RpL F ds xs → RpL F (ds.take n) (xs.take n)
  | _, _, 0, h => rfl
  | [], _, _ + 1, h => by cases h; exact rfl
  | _ :: _, _, n + 1, h => by
    obtain ⟨x, r, rfl, h2, h3⟩ := h
    exact ⟨x, _, rfl, h2, h3.take n⟩
theorem rpl_ints : ∀ {ns : List Int} {xs : List V}, RpL F (ns.map D.int) xs → xs = ns.map V.int
  | [], _, h => h
  | _ :: _, _, h => by
    obtain ⟨x, r, rfl, h2, h3⟩ := h
    have e : x = V.int _ := h2
    rw [e, rpl_ints h3]; rfl
theorem rpl_strs : ∀ {ns : List (List Nat)} {xs : List V}, RpL F (ns.map D.str) xs → xs = (ns.map S).map V.str
  | [], _, h => h
  | _ :: _, _, h => by
    obtain ⟨x, r, rfl, h2, h3⟩ := h
    have e : x = V.str _ := h2
    rw [e, rpl_strs h3]; rfl
theorem rpl_bls : ∀ {ns : List Bool} {xs : List V}, RpL F (ns.map D.bl) xs → xs = ns.map V.bl
  | [], _, h => h
  | _ :: _, _, h => by
    obtain ⟨x, r, rfl, h2, h3⟩ := h
    have e : x = V.bl _ := h2
    rw [e, rpl_bls h3]; rfl
theorem rpl_of_ints : ∀ (ns : List Int), RpL F (ns.map D.int) (ns.map V.int)
  | [] => rfl
  | n :: ns => ⟨_, _, rfl, rfl, rpl_of_ints ns⟩
theorem rpl_of_strs : ∀ (ns : List (List Nat)), RpL F (ns.map D.str) ((ns.map S).map V.str)
  | [] => rfl
  | n :: ns => ⟨_, _, rfl, rfl, rpl_of_strs ns⟩
/-- a key as data -/
def dKey : Key → D
  | .inl i => .int i
  | .inr x => .str x.cps.toList
theorem S_cps (x : Str) : S x.cps.toList = x := by cases x; simp [S]
theorem rp_key (k : Key) : Rp F (dKey k) (kV k) := by
  cases k with
  | inl i => exact rfl
  | inr x => show V.str x = V.str (S _); rw [S_cps]
theorem rp_key' {k : Key} {v : V} (h : Rp F (dKey k) v) : v = kV k := by
  cases k with
  | inl i => exact h
  | inr x => rw [show v = V.str (S x.cps.toList) from h, S_cps]; rfl
theorem rpl_keys : ∀ (ks : List Key), RpL F (ks.map dKey) (ks.map kV)
  | [] => rfl
  | k :: ks => ⟨_, _, rfl, rp_key k, rpl_keys ks⟩
theorem rpl_keys' : ∀ {ks : List Key} {xs : List V}, RpL F (ks.map dKey) xs → xs = ks.map kV
  | [], _, h => h
  | _ :: _, _, h => by
    obtain ⟨x, r, rfl, h2, h3⟩ := h
    rw [rp_key' h2, rpl_keys' h3]; rfl
end
/-! dicts -/
def getD' {κ : Type} [DecidableEq κ] (kvs : List (κ × D)) (k : κ) : Option D := (kvs.find? fun e => decide (e.1 = k)).map (·.2)
def putD {κ : Type} [DecidableEq κ] (kvs : List (κ × D)) (k : κ) (d : D) : List (κ × D) := if (kvs.any fun e => decide (e.1 = k)) = true then kvs.map (fun e => if e.1 = k then (e.1, d) else e) else kvs ++ [(k, d)]
section
variable {F : Hp}
theorem RpK.len : ∀ {ds : List (Key × D)} {xs : List (Key × V)}, RpK F ds xs → xs.length = ds.length
  | [], _, h => by cases h; rfl
  | (_, _) :: _, _, h => by
    obtain ⟨x, r, rfl, _, h3⟩ := h
    rw [List.length_cons, List.length_cons, h3.len]
theorem RpT.len : ∀ {ds : List (List Key × D)} {xs : List (List Key × V)}, RpT F ds xs → xs.length = ds.length
  | [], _, h => by cases h; rfl
  | (_, _) :: _, _, h => by
    obtain ⟨x, r, rfl, _, h3⟩ := h
    rw [List.length_cons, List.length_cons, h3.len]
theorem RpK.keys : ∀ {ds : List (Key × D)} {xs : List (Key × V)}, RpK F ds xs → xs.map (·.1) = ds.map (·.1)
  | [], _, h => by cases h; rfl
  | (_, _) :: _, _, h => by
    obtain ⟨x, r, rfl, _, h3⟩ := h
    rw [List.map_cons, List.map_cons, h3.keys]
theorem RpT.keys : ∀ {ds : List (List Key × D)} {xs : List (List Key × V)}, RpT F ds xs → xs.map (·.1) = ds.map (·.1)
  | [], _, h => by cases h; rfl
  | (_, _) :: _, _, h => by
    obtain ⟨x, r, rfl, _, h3⟩ := h
    rw [List.map_cons, List.map_cons, h3.keys]
theorem RpK.get : ∀ {ds : List (Key × D)} {xs : List (Key × V)} (k : Key), RpK F ds xs → (match getD' ds k with | none => valV xs k = none | some d => ∃ v, valV xs k = some v ∧ Rp F d v)
  | [], _, k, h => by cases h; exact rfl
  | (k', d) :: ds, _, k, h => by
    obtain ⟨x, r, rfl, h2, h3⟩ := h
    by_cases e : k' = k
    · subst e
      rw [valV_pos rfl]
      unfold getD'
      rw [List.find?_cons_of_pos (by simp)]
      exact ⟨x, rfl, h2⟩
    · rw [valV_neg e]
      unfold getD'
      rw [List.find?_cons_of_neg (by simpa using e)]
      exact h3.get k
theorem RpT.get : ∀ {ds : List (List Key × D)} {xs : List (List Key × V)} (k : List Key), RpT F ds xs → (match getD' ds k with | none => valV xs k = none | some d => ∃ v, valV xs k = some v ∧ Rp F d v)
  | [], _, k, h => by cases h; exact rfl
  | (k', d) :: ds, _, k, h => by
    obtain ⟨x, r, rfl, h2, h3⟩ := h
    by_cases e : k' = k
    · subst e
      rw [valV_pos rfl]
      unfold getD'
      rw [List.find?_cons_of_pos (by simp)]
      exact ⟨x, rfl, h2⟩
    · rw [valV_neg e]
      unfold getD'
      rw [List.find?_cons_of_neg (by simpa using e)]
      exact h3.get k
theorem any_keys {κ α β : Type} [DecidableEq κ] {k : κ} : ∀ {xs : List (κ × α)} {ds : List (κ × β)}, xs.map (·.1) = ds.map (·.1) → (xs.any fun e => decide (e.1 = k)) = ds.any fun e => decide (e.1 = k)
  | [], [], _ => rfl
  | [], _ :: _, h => by cases h
  | _ :: _, [], h => by cases h
  | a :: xs, b :: ds, h => by
    rw [List.map_cons, List.map_cons, List.cons.injEq] at h
    rw [List.any_cons, List.any_cons, any_keys h.2, h.1]
theorem RpK.mapk {k : Key} {d : D} {v : V} (hv : Rp F d v) : ∀ {ds : List (Key × D)} {xs : List (Key × V)}, RpK F ds xs → RpK F (ds.map fun e => if e.1 = k then (e.1, d) else e) (xs.map fun e => if e.1 = k then (e.1, v) else e)
  | [], _, h => by cases h; exact rfl
  | (k', d') :: ds, _, h => by
    obtain ⟨x, r, rfl, h2, h3⟩ := h
    rw [List.map_cons, List.map_cons]
    by_cases e : k' = k
    · rw [if_pos e, if_pos e]
      exact ⟨v, _, rfl, hv, h3.mapk hv⟩
    · rw [if_neg e, if_neg e]
      exact ⟨x, _, rfl, h2, h3.mapk hv⟩
theorem RpT.mapk {k : List Key} {d : D} {v : V} (hv : Rp F d v) : ∀ {ds : List (List Key × D)} {xs : List (List Key × V)}, RpT F ds xs → RpT F (ds.map fun e => if e.1 = k then (e.1, d) else e) (xs.map fun e => if e.1 = k then (e.1, v) else e)
  | [], _, h => by cases h; exact rfl
  | (k', d') :: ds, _, h => by
    obtain ⟨x, r, rfl, h2, h3⟩ := h
    rw [List.map_cons, List.map_cons]
    by_cases e : k' = k
    · rw [if_pos e, if_pos e]
      exact ⟨v, _, rfl, hv, h3.mapk hv⟩
    · rw [if_neg e, if_neg e]
      exact ⟨x, _, rfl, h2, h3.mapk hv⟩
theorem RpK.snoc {k : Key} {d : D} {v : V} (hv : Rp F d v) : ∀ {ds : List (Key × D)} {xs : List (Key × V)}, RpK F ds xs → RpK F (ds ++ [(k, d)]) (xs ++ [(k, v)])
  | [], _, h => by cases h; exact ⟨v, [], rfl, hv, rfl⟩
  | (k', d') :: ds, _, h => by
    obtain ⟨x, r, rfl, h2, h3⟩ := h
    exact ⟨x, _, rfl, h2, h3.snoc hv⟩
theorem RpT.snoc {k : List Key} {d : D} {v : V} (hv : Rp F d v) : ∀ {ds : List (List Key × D)} {xs : List (List Key × V)}, RpT F ds xs → RpT F (ds ++ [(k, d)]) (xs ++ [(k, v)])
  | [], _, h => by cases h; exact ⟨v, [], rfl, hv, rfl⟩
  | (k', d') :: ds, _, h => by
    obtain ⟨x, r, rfl, h2, h3⟩ := h
    exact ⟨x, _, rfl, h2, h3.snoc hv⟩
theorem RpK.put {k : Key} {d : D} {v : V} {ds : List (Key × D)} {xs : List (Key × V)} (h : RpK F ds xs) (hv : Rp F d v) : RpK F (putD ds k d) (putK xs k v) := by
  unfold putD putK
  rw [any_keys h.keys]
  by_cases z : (ds.any fun e => decide (e.1 = k)) = true
  · rw [if_pos z, if_pos z]; exact h.mapk hv
  · rw [if_neg z, if_neg z]; exact h.snoc hv
theorem RpT.put {k : List Key} {d : D} {v : V} {ds : List (List Key × D)} {xs : List (List Key × V)} (h : RpT F ds xs) (hv : Rp F d v) : RpT F (putD ds k d) (putK xs k v) := by
  unfold putD putK
  rw [any_keys h.keys]
  by_cases z : (ds.any fun e => decide (e.1 = k)) = true
  · rw [if_pos z, if_pos z]; exact h.mapk hv
  · rw [if_neg z, if_neg z]; exact h.snoc hv
end
end Sw
local macro_rules | `(tactic| walk_at "go1") => `(tactic| first
  | with_reducible refine Sw.g_seqasg ?_ | with_reducible refine Sw.g_op ?_ | with_reducible refine Sw.g_var rfl ?_ | with_reducible refine Sw.g_c ?_ | with_reducible refine Sw.g_I0 ?_
  | with_reducible refine Sw.g_cons ?_ | with_reducible refine Sw.g_nil ?_ | with_reducible refine Sw.g_call ?_ | with_reducible refine Sw.g_cb ?_ | with_reducible refine Sw.g_test ?_ | with_reducible refine Sw.g_bl ?_
  | with_reducible refine Sw.g_seqdrop ?_ | with_reducible refine Sw.g_seqsub ?_ | with_reducible refine Sw.g_asg ?_ | with_reducible refine Sw.g_asgsub ?_ | with_reducible refine Sw.g_ret ?_ | with_reducible refine Sw.g_drop ?_ | with_reducible refine Sw.g_if ?_ | with_reducible refine Sw.g_next ?_ | with_reducible refine Sw.g_name ?_
  | with_reducible refine Sw.g_B ?_ | with_reducible refine Sw.g_not ?_ | with_reducible refine Sw.g_and ?_ | with_reducible refine Sw.g_or ?_ | with_reducible refine Sw.g_andV ?_ | with_reducible refine Sw.g_orV ?_ | with_reducible refine Sw.g_notV ?_
  | with_reducible refine Sw.g_ifE ?_ | with_reducible refine Sw.g_chain ?_ | with_reducible refine Sw.g_un ?_ | with_reducible refine Sw.g_tup ?_ | with_reducible refine Sw.g_lst ?_ | with_reducible refine Sw.g_sl ?_ | with_reducible refine Sw.g_part ?_ | with_reducible refine Sw.g_nopart ?_
  | with_reducible refine Sw.g_U ?_ | with_reducible refine Sw.g_eq rfl ?_ | with_reducible refine Sw.g_ne rfl ?_ | with_reducible refine Sw.g_int ?_ | with_reducible refine Sw.g_yes ?_ | with_reducible refine L2.iteT ?_ | with_reducible refine L2.iteF ?_ | with_reducible refine Sw.iteNT ?_ | with_reducible refine Sw.iteNF ?_ | with_reducible refine Sw.g_m1 ?_ | with_reducible refine Sw.g_bm ?_ | with_reducible refine ⟨Sw.ty_lst (by assumption), ?_⟩ | with_reducible refine Sw.g_sput ?_ | with_reducible refine Sw.g_put ?_ | with_reducible refine Sw.g_dget2 ?_ | with_reducible refine Sw.g_dget ?_ | with_reducible refine Sw.g_dK ?_ | with_reducible refine Sw.g_dT ?_ | with_reducible refine Sw.g_dnotin ?_ | with_reducible refine Sw.g_din ?_ | with_reducible refine Sw.g_bm0 ?_
  | with_reducible refine Sw.g_ixL (by assumption) rfl ?_ | with_reducible refine Sw.g_ixT (by assumption) rfl ?_)
local macro_rules | `(tactic| walk_at "go") => `(tactic| repeat walk_at "go1")
local macro_rules | `(tactic| walk_at "bd") => `(tactic| repeat (first | with_reducible exact Sw.all_nil | refine Sw.all_cons ⟨_, rfl, by omega, by omega⟩ ?_))
local macro_rules | `(tactic| walk_at "new") => `(tactic| (refine ⟨Nat.le_of_ble_eq_true rfl, fun p np => ?_⟩; generalize hX : L2.upd _ p _ = H'; have sm : L2.Same _ H' := hX ▸ Sw.same_upd np; have hp : H' p = some _ := hX ▸ L2.upd_same; clear hX))
namespace Sw
open PySem PySem.Spec PyProof.Rows L2 SX
/-! ### heaps that grow: F what is frozen, H all; t the tape of draws -/
structure Grow (t : Option Addr) (F H F' H' : Hp) : Prop where
  z : Same F H
  f : Same F F'
  h : ∀ b o, H b = some o → some b ≠ t → H' b = some o
  d : ∀ b, H b ≠ none → H' b ≠ none
  n : ∀ b, F b = none → H b ≠ none → (∀ xs, H b ≠ some (.tup xs)) → F' b = none
  s : Same F' H'
  t : ∀ a, t = some a → Dr H a → Dr H' a
section
variable {t : Option Addr} {F H F' H' F2 H2 : Hp}
theorem Grow.refl (s : Same F H) : Grow t F H F H := ⟨s, .refl _, fun _ _ h _ => h, fun _ h => h, fun _ h _ _ => h, s, fun _ _ h => h⟩
theorem dr_notup {a : Addr} (h : Dr H a) (xs : List V) : H a ≠ some (.tup xs) := by
  obtain ⟨c, s, p, h1, _⟩ := h
  rw [h1]
  intro z
  cases z
theorem Grow.trans' (a : Grow t F H F' H') (b : Grow t F' H' F2 H2) (ht : ∀ a, t = some a → H a ≠ none → Dr H a) : Grow t F H F2 H2 where
  z := a.z
  f := a.f.trans b.f
  h := fun x o e n => b.h x o (a.h x o e n) n
  d := fun x e => b.d x (a.d x e)
  n := fun x e1 e2 e3 => b.n x (a.n x e1 e2 e3) (a.d x e2) fun xs z => by
    by_cases hx : some x = t
    · exact dr_notup (a.t x hx.symm (ht x hx.symm e2)) xs z
    · cases q : H x with
      | none => exact e2 q
      | some o => rw [a.h x o q hx] at z; exact e3 xs (by rw [q]; exact z)
  s := b.s
  t := fun x e h => b.t x e (a.t x e h)
theorem Grow.trans (a : Grow t F H F' H') (b : Grow t F' H' F2 H2) (ht : ∀ a, t = some a → Dr H a) : Grow t F H F2 H2 := a.trans' b fun x e _ => ht x e
/-- a new object that is frozen -/
theorem Grow.new {p : Addr} {o : HO} (s : Same F H) (np : H p = none) : Grow t F H (upd F p o) (upd H p o) where
  z := s
  f := same_upd (s.free np)
  h := fun b x e _ => same_upd np b x e
  d := fun b e z => by
    by_cases hb : b = p
    · subst hb; exact e np
    · rw [upd_ne hb] at z; exact e z
  n := fun b e1 e2 _ => by
    have hb : b ≠ p := fun z => e2 (by rw [z]; exact np)
    rw [upd_ne hb]; exact e1
  s := fun b x e => by
    by_cases hb : b = p
    · subst hb; rw [upd_same] at e ⊢; exact e
    · rw [upd_ne hb] at e ⊢; exact s b x e
  t := fun a _ h => h.same (same_upd np)
/-- only objects are added -/
theorem Grow.same (s : Same F H) (e : Same H H') : Grow t F H F H' where
  z := s
  f := .refl _
  h := fun b x q _ => e b x q
  d := fun b q z => by
    cases y : H b with
    | none => exact q y
    | some o => rw [e b o y] at z; cases z
  n := fun b e1 _ _ => e1
  s := s.trans e
  t := fun a _ h => h.same e
theorem Grow.own {p : Addr} {o : HO} (s : Same F H) (np : H p = none) : Grow t F H F (upd H p o) := .same s (same_upd np)
/-- the new object at q is frozen now -/
theorem Grow.freeze {q : Addr} {o : HO} (g : Grow t F H F' H') (nq : H q = none) (hq : H' q = some o) : Grow t F H (upd F' q o) H' where
  z := g.z
  f := fun b x e => by rw [upd_ne (ne_of_none e (g.z.free nq))]; exact g.f b x e
  h := g.h
  d := g.d
  n := fun b e1 e2 e3 => by
    have hb : b ≠ q := fun z => e2 (by rw [z]; exact nq)
    rw [upd_ne hb]; exact g.n b e1 e2 e3
  s := fun b x e => by
    by_cases hb : b = q
    · subst hb; rw [upd_same] at e; rw [hq]; exact e
    · rw [upd_ne hb] at e; exact g.s b x e
  t := g.t
/-- a tuple that stands may be frozen at any time -/
theorem Grow.tup {q : Addr} {xs : List V} (s : Same F H) (hq : H q = some (.tup xs)) : Grow t F H (upd F q (.tup xs)) H where
  z := s
  f := fun b x e => by
    by_cases hb : b = q
    · subst hb
      rw [upd_same]
      have := s _ _ e
      rw [hq] at this
      exact this
    · rw [upd_ne hb]; exact e
  h := fun _ _ h _ => h
  d := fun _ h => h
  n := fun b e1 e2 e3 => by
    have hb : b ≠ q := fun z => e3 xs (by rw [z]; exact hq)
    rw [upd_ne hb]; exact e1
  s := fun b x e => by
    by_cases hb : b = q
    · subst hb; rw [upd_same] at e; rw [hq]; exact e
    · rw [upd_ne hb] at e; exact s b x e
  t := fun _ _ h => h
end
/-- nothing that stood is changed: so it is whatever the tape -/
theorem Grow.any {t : Option Addr} {F H F' H' : Hp} (g : Grow none F H F' H') : Grow t F H F' H' where
  z := g.z
  f := g.f
  h := fun b o e _ => g.h b o e (by intro z; cases z)
  d := g.d
  n := g.n
  s := g.s
  t := fun a _ ⟨c1, s1, p1, z1, z2⟩ => ⟨c1, s1, p1, g.h _ _ z1 (by intro z; cases z), z2⟩
/-! ### states -/
/-- what an object of one's own holds, its items frozen -/
def OO (F : Hp) : HO → D → Prop
  | .lst xs, .lst ds => RpL F ds xs
  | .dK xs, .dK ds => RpK F ds xs
  | .dT xs, .dT ds => RpT F ds xs
  | .lst xs, .tape => ∃ c s p : Int, xs = [.int c, .int s, .int p] ∧ 0 ≤ s ∧ s ≤ 2147500000 ∧ 0 < p ∧ p ≤ 2147483647
  | _, _ => False
theorem OO.mono {F F' : Hp} (e : Sees F F') : ∀ {o : HO} {d : D}, OO F o d → OO F' o d := fun {o d} h => by
  cases o <;> cases d <;> first
    | exact RpL.mono e h
    | exact RpK.mono e h
    | exact RpT.mono e h
    | exact h
/-- an object that is frozen from now on -/
theorem OO.rp {F : Hp} {o : HO} {d : D} {q : Addr} (h : OO F o d) (nq : F q = none) : Rp (upd F q o) d (.ref q) := by
  have e : Sees F (upd F q o) := .of (same_upd nq)
  cases o <;> cases d <;> first
    | exact False.elim h
    | exact ⟨q, _, rfl, upd_same, RpL.mono e h⟩
    | exact ⟨q, _, rfl, .inl upd_same, RpK.mono e h⟩
    | exact ⟨q, _, rfl, .inl upd_same, RpT.mono e h⟩
    | exact (let ⟨c, s, p, h1, h2⟩ := h; ⟨q, rfl, c, s, p, by rw [upd_same, h1], h2⟩)
/-- what a slot holds: shared data, an object of the slot's own, the tape of draws, the script -/
inductive SV where
  | sh (d : D) | ow (d : D) | tp | sc (ns : List Int)
abbrev DS := List (Option SV)
section
variable (K : PySem.W.Frag) (t : Option Addr)
def Pk (F H : Hp) (x : V) (d : D) : Prop := ∃ l o, x = .ref l ∧ H l = some o ∧ F l = none ∧ some l ≠ t ∧ OO F o d
def Slot (F H : Hp) (x : V) : SV → Prop
  | .sh d => Rp F d x
  | .ow d => Pk t F H x d
  | .tp => ∃ a, x = .ref a ∧ t = some a
  | .sc ns => ∃ a, x = .ref a ∧ SqL K F a (ns.map V.int)
structure StR (F : Hp) (δ : DS) (σ : L2.St) (H : Hp) : Prop where
  s : Same F H
  tp : ∀ a, t = some a → Dr H a ∧ F a = none
  len : σ.length = δ.length
  sl : ∀ (i : Nat) (v : SV), δ[i]? = some (some v) → ∃ x, σ[i]? = some (some x) ∧ Slot K t F H x v
  ne : ∀ (i j : Nat) (d e : D) (x : V), δ[i]? = some (some (.ow d)) → δ[j]? = some (some (.ow e)) → σ[i]? = some (some x) → σ[j]? = some (some x) → i = j
end
section
variable {K : PySem.W.Frag} {t : Option Addr} {F H F' H' F2 H2 : Hp} {x : V} {d : D} {δ : DS} {σ : L2.St} {v : SV}
theorem pk_notup {xs : List V} (h : OO F (.tup xs) d) : False := by cases d <;> exact h
theorem Pk.grow (g : Grow t F H F' H') (h : Pk t F H x d) : Pk t F' H' x d := by
  obtain ⟨l, o, rfl, h1, h2, h3, h4⟩ := h
  refine ⟨l, o, rfl, g.h _ _ h1 h3, g.n _ h2 (by rw [h1]; exact Option.some_ne_none _) (fun xs z => ?_), h3, h4.mono (.of g.f)⟩
  rw [h1] at z
  cases z
  exact pk_notup h4
theorem Slot.grow (g : Grow t F H F' H') (h : Slot K t F H x v) : Slot K t F' H' x v := by
  cases v with
  | sh d => exact Rp.mono (.of g.f) h
  | ow d => exact Pk.grow g h
  | tp => exact h
  | sc ns => obtain ⟨a, h1, h2⟩ := h; exact ⟨a, h1, g.f.seq h2⟩
theorem StR.dr (s : StR K t F δ σ H) : ∀ a, t = some a → Dr H a := fun a e => (s.tp a e).1
theorem StR.grow (g : Grow t F H F' H') (s : StR K t F δ σ H) : StR K t F' δ σ H' where
  s := g.s
  tp := fun a e => ⟨g.t a e (s.tp a e).1, g.n a (s.tp a e).2 (by obtain ⟨c, z, p, h, _⟩ := (s.tp a e).1; rw [h]; exact Option.some_ne_none _) (dr_notup (s.tp a e).1)⟩
  len := s.len
  sl := fun i v h => by
    obtain ⟨x, h1, h2⟩ := s.sl i v h
    exact ⟨x, h1, h2.grow g⟩
  ne := s.ne
end
/-! ### what expressions come to -/
inductive Md where
  | sh | pk | ow
  deriving DecidableEq
/-- from (F0, H0) on: x stands for d at (F, H) -/
def RV (t : Option Addr) (H0 F H : Hp) (x : V) : Md → D → Prop
  | .sh, d => Rp F d x
  | .pk, d => Pk t F H x d
  | .ow, d => ∃ l o, x = .ref l ∧ H0 l = none ∧ H l = some o ∧ F l = none ∧ some l ≠ t ∧ OO F o d
/-- x may be read as d -/
def Vw (t : Option Addr) (F H : Hp) (x : V) (d : D) : Prop := Rp F d x ∨ Pk t F H x d
section
variable {t : Option Addr} {F H F' H' F2 H2 H0 : Hp} {x : V} {d : D} {m : Md}
theorem Vw.grow (g : Grow t F H F' H') (h : Vw t F H x d) : Vw t F' H' x d := h.elim (fun h => .inl (Rp.mono (.of g.f) h)) fun h => .inr (h.grow g)
theorem Pk.all (s : Same F H) (h : Pk t F H x d) : Rp H d x := by
  obtain ⟨l, o, rfl, h1, h2, h3, h4⟩ := h
  have h5 := OO.mono (.of s) h4
  cases o <;> cases d <;> first
    | exact False.elim h5
    | exact ⟨l, _, rfl, h1, h5⟩
    | exact ⟨l, _, rfl, .inl h1, h5⟩
    | exact (let ⟨c, s, p, w1, w2⟩ := h5; ⟨l, rfl, c, s, p, by rw [h1, w1], w2⟩)
theorem Vw.all (s : Same F H) (h : Vw t F H x d) : Rp H d x := h.elim (fun h => Rp.mono (.of s) h) (Pk.all s)
/-- a result is made one to be read -/
theorem RV.view (g : Grow t F H F' H') (h : RV t H F' H' x m d) : ∃ F2, Grow t F H F2 H' ∧ Vw t F2 H' x d ∧ (m ≠ .pk → Rp F2 d x) := by
  cases m with
  | sh => exact ⟨F', g, .inl h, fun _ => h⟩
  | pk => exact ⟨F', g, .inr h, fun z => absurd rfl z⟩
  | ow =>
    obtain ⟨l, o, rfl, h0, h1, h2, h3, h4⟩ := h
    exact ⟨upd F' l o, g.freeze h0 h1, .inl (h4.rp h2), fun _ => h4.rp h2⟩
theorem Grow.pre (g : Grow t F H F' H') {l : Addr} (h : H' l = none) : H l = none := by
  cases y : H l with
  | none => rfl
  | some o => exact absurd h (g.d l (by rw [y]; exact Option.some_ne_none _))
theorem RV.pre (g : Grow t F H F' H') (h : RV t H' F2 H2 x m d) : RV t H F2 H2 x m d := by
  cases m with
  | sh => exact h
  | pk => exact h
  | ow =>
    obtain ⟨l, o, rfl, h0, h1⟩ := h
    exact ⟨l, o, rfl, g.pre h0, h1⟩
end
/-! ### readings of data -/
abbrev QE := DS → (Md → D → Prop) → Prop
abbrev QT := DS → (Bool → Prop) → Prop
inductive Ar where
  | sh (d : D) | pk (d : D) | tp | sc (ns : List Int)
abbrev QA := DS → (List Ar → Prop) → Prop
structure Pn where
  nx : DS → Prop
  rt : Md → D → Prop
  bk : DS → Prop := fun _ => False
  ct : DS → Prop := fun _ => False
abbrev QS := Pn → DS → Prop
abbrev QG := D → DS → (DS → Prop) → Prop
abbrev QI := DS → (Md → List D → Prop) → Prop
/-- the state of a def: F0, H0 at its entry; L what must stay -/
structure RS (K : PySem.W.Frag) (t : Option Addr) (F0 H0 L F : Hp) (δ : DS) (σ : L2.St) (H : Hp) : Prop where
  st : StR K t F δ σ H
  g : Grow t F0 H0 F H
  lo : Same L F
  fr : ∀ (i : Nat) (d : D) (l : Addr), δ[i]? = some (some (.ow d)) → σ[i]? = some (some (.ref l)) → H0 l = none
  dr : ∀ a, t = some a → H0 a ≠ none → Dr H0 a
def Cl.at (c : Cl) : Nat → Addr
  | 0 => c.Lacks | 1 => c.NoBank | 2 => c.NoBook | 3 => c.NoDeed | 4 => c.NoName | 5 => c.NoOrder | 6 => c.NoPlace | 7 => c.NoRow | 8 => c.NoSlack | 9 => c.NoText | 10 => c.NoTurns | 11 => c.NoWheel | 12 => c.NoWord | _ => c.TooMany
abbrev XE := L2.St → XK
abbrev XP := DS → Nat → Prop
def ER (K : PySem.W.Frag) (c : Cl) (t : Option Addr) (F0 H0 L : Hp) (E : XE) (Ep : XP) : Prop := ∀ n F δ σ H, RS K t F0 H0 L F δ σ H → Ep δ n → E σ (.ref (c.at n)) none H
def P0 : XP := fun _ _ => False
section
variable {K : PySem.W.Frag} {c : Cl} {t : Option Addr} {F0 H0 L L' F H F' H' : Hp} {δ : DS} {σ : L2.St} {E : XE} {Ep : XP}
theorem RS.grow (r : RS K t F0 H0 L F δ σ H) (g : Grow t F H F' H') : RS K t F0 H0 L F' δ σ H' := ⟨r.st.grow g, r.g.trans' g r.dr, r.lo.trans g.f, r.fr, r.dr⟩
theorem RS.low (r : RS K t F0 H0 L' F δ σ H) (e : Same L L') : RS K t F0 H0 L F δ σ H := ⟨r.st, r.g, e.trans r.lo, r.fr, r.dr⟩
theorem RS.at (r : RS K t F0 H0 L F δ σ H) : RS K t F0 H0 F F δ σ H := ⟨r.st, r.g, .refl _, r.fr, r.dr⟩
theorem ER.low (h : ER K c t F0 H0 L E Ep) (e : Same L L') : ER K c t F0 H0 L' E Ep := fun n F δ σ H r p => h n F δ σ H (r.low e) p
theorem ER.no : ER K c t F0 H0 L E P0 := fun _ _ _ _ _ _ h => False.elim h
end
section
variable (K : PySem.W.Frag) (c : Cl) (t : Option Addr) (E : XE) (Ep : XP)
def SimE (te : TE) (qe : QE) : Prop := ∀ F0 H0 L F δ σ H Q Qp, ER K c t F0 H0 L E Ep → RS K t F0 H0 L F δ σ H → qe δ Qp → (∀ x F' H' m d, Grow t F H F' H' → RV t H F' H' x m d → Qp m d → Q x H') → te σ H Q
def SimT (tt : TT) (qt : QT) : Prop := ∀ F0 H0 L F δ σ H Q Qp, ER K c t F0 H0 L E Ep → RS K t F0 H0 L F δ σ H → qt δ Qp → (∀ b F' H', Grow t F H F' H' → Qp b → Q b H') → tt σ H Q
def Av (F H : Hp) (x : V) : Ar → Prop
  | .sh d => Rp F d x
  | .pk d => Pk t F H x d
  | .tp => ∃ a, x = .ref a ∧ t = some a
  | .sc ns => ∃ a, x = .ref a ∧ SqL K F a (ns.map V.int)
def AvL (F H : Hp) : List V → List Ar → Prop
  | [], [] => True
  | x :: xs, a :: as => Av K t F H x a ∧ AvL F H xs as
  | _, _ => False
def SimA (ta : TA) (qa : QA) : Prop := ∀ F0 H0 L F δ σ H Q Qp, ER K c t F0 H0 L E Ep → RS K t F0 H0 L F δ σ H → qa δ Qp → (∀ xs F' H' as, Grow t F H F' H' → AvL K t F' H' xs as → Qp as → Q xs H') → ta σ H Q
structure EndsR (F0 H0 L : Hp) (De : Ends) (Dp : Pn) : Prop where
  nx : ∀ F δ σ H, RS K t F0 H0 L F δ σ H → Dp.nx δ → De.nx σ H
  rt : ∀ F H x m d, Grow t F0 H0 F H → Same L F → (∀ a, t = some a → Dr H a ∧ F a = none) → RV t H0 F H x m d → m ≠ .pk → Dp.rt m d → De.rt x H
  bk : ∀ F δ σ H, RS K t F0 H0 L F δ σ H → Dp.bk δ → De.bk σ H
  ct : ∀ F δ σ H, RS K t F0 H0 L F δ σ H → Dp.ct δ → De.ct σ H
def SimS (ts : TS) (qs : QS) : Prop := ∀ F0 H0 L F δ σ H De Dp, ER K c t F0 H0 L E Ep → RS K t F0 H0 L F δ σ H → EndsR K t F0 H0 L De Dp → qs Dp δ → ts De σ H
def SimG (nm : List Nat) (tg : TG) (qg : QG) : Prop := ∀ F0 H0 L F δ σ H Q Qp x d, RS K t F0 H0 L F δ σ H → Rp F d x → qg d δ Qp → (∀ δ' σ', RS K t F0 H0 L F δ' σ' H → (∀ vs : List Nat, (∀ i ∈ nm, i ∈ vs) → L2.wipe σ' vs = L2.wipe σ vs) → Qp δ' → Q σ' H) → tg x σ H Q
end
section
variable {K : PySem.W.Frag} {t : Option Addr} {F H F' H' : Hp} {x : V} {a : Ar}
theorem Av.grow (g : Grow t F H F' H') (h : Av K t F H x a) : Av K t F' H' x a := by
  cases a with
  | sh d => exact Rp.mono (.of g.f) h
  | pk d => exact Pk.grow g h
  | tp => exact h
  | sc ns => obtain ⟨b, h1, h2⟩ := h; exact ⟨b, h1, g.f.seq h2⟩
theorem AvL.grow (g : Grow t F H F' H') : ∀ {xs : List V} {as : List Ar}, AvL K t F H xs as → AvL K t F' H' xs as
  | [], [], _ => True.intro
  | _ :: _, _ :: _, h => ⟨h.1.grow g, AvL.grow g h.2⟩
  | [], _ :: _, h => False.elim h
  | _ :: _, [], h => False.elim h
end
end Sw
local macro_rules | `(tactic| walk_at "go1") => `(tactic| first
  | with_reducible refine Sw.g_seqasg ?_ | with_reducible refine Sw.g_op ?_ | with_reducible refine Sw.g_var rfl ?_ | with_reducible refine Sw.g_c ?_ | with_reducible refine Sw.g_I0 ?_
  | with_reducible refine Sw.g_cons ?_ | with_reducible refine Sw.g_nil ?_ | with_reducible refine Sw.g_call ?_ | with_reducible refine Sw.g_cb ?_ | with_reducible refine Sw.g_test ?_ | with_reducible refine Sw.g_bl ?_
  | with_reducible refine Sw.g_seqdrop ?_ | with_reducible refine Sw.g_seqsub ?_ | with_reducible refine Sw.g_asg ?_ | with_reducible refine Sw.g_asgsub ?_ | with_reducible refine Sw.g_ret ?_ | with_reducible refine Sw.g_drop ?_ | with_reducible refine Sw.g_if ?_ | with_reducible refine Sw.g_next ?_ | with_reducible refine Sw.g_name ?_
  | with_reducible refine Sw.g_B ?_ | with_reducible refine Sw.g_not ?_ | with_reducible refine Sw.g_and ?_ | with_reducible refine Sw.g_or ?_ | with_reducible refine Sw.g_andV ?_ | with_reducible refine Sw.g_orV ?_ | with_reducible refine Sw.g_notV ?_
  | with_reducible refine Sw.g_ifE ?_ | with_reducible refine Sw.g_chain ?_ | with_reducible refine Sw.g_un ?_ | with_reducible refine Sw.g_tup ?_ | with_reducible refine Sw.g_lst ?_ | with_reducible refine Sw.g_sl ?_ | with_reducible refine Sw.g_part ?_ | with_reducible refine Sw.g_nopart ?_
  | with_reducible refine Sw.g_U ?_ | with_reducible refine Sw.g_eq rfl ?_ | with_reducible refine Sw.g_ne rfl ?_ | with_reducible refine Sw.g_int ?_ | with_reducible refine Sw.g_yes ?_ | with_reducible refine L2.iteT ?_ | with_reducible refine L2.iteF ?_ | with_reducible refine Sw.iteNT ?_ | with_reducible refine Sw.iteNF ?_ | with_reducible refine Sw.g_m1 ?_ | with_reducible refine Sw.g_bm ?_ | with_reducible refine ⟨Sw.ty_lst (by assumption), ?_⟩ | with_reducible refine Sw.g_sput ?_ | with_reducible refine Sw.g_put ?_ | with_reducible refine Sw.g_dget2 ?_ | with_reducible refine Sw.g_dget ?_ | with_reducible refine Sw.g_dK ?_ | with_reducible refine Sw.g_dT ?_ | with_reducible refine Sw.g_dnotin ?_ | with_reducible refine Sw.g_din ?_ | with_reducible refine Sw.g_bm0 ?_
  | with_reducible refine Sw.g_ixL (by assumption) rfl ?_ | with_reducible refine Sw.g_ixT (by assumption) rfl ?_)
local macro_rules | `(tactic| walk_at "go") => `(tactic| repeat walk_at "go1")
local macro_rules | `(tactic| walk_at "bd") => `(tactic| repeat (first | with_reducible exact Sw.all_nil | refine Sw.all_cons ⟨_, rfl, by omega, by omega⟩ ?_))
local macro_rules | `(tactic| walk_at "new") => `(tactic| (refine ⟨Nat.le_of_ble_eq_true rfl, fun p np => ?_⟩; generalize hX : L2.upd _ p _ = H'; have sm : L2.Same _ H' := hX ▸ Sw.same_upd np; have hp : H' p = some _ := hX ▸ L2.upd_same; clear hX))
namespace Sw
open PySem PySem.Spec PyProof.Rows L2 SX
/-! ### how things to be read stand -/
section
variable {t : Option Addr} {F H : Hp} {x : V}
theorem vw_int {i : Int} (h : Vw t F H x (.int i)) : x = .int i := by
  rcases h with h | ⟨l, o, _, _, _, _, h⟩
  · exact h
  · cases o <;> exact False.elim h
theorem vw_str {l : List Nat} (h : Vw t F H x (.str l)) : x = .str (S l) := by
  rcases h with h | ⟨l, o, _, _, _, _, h⟩
  · exact h
  · cases o <;> exact False.elim h
theorem vw_bl {b : Bool} (h : Vw t F H x (.bl b)) : x = .bl b := by
  rcases h with h | ⟨l, o, _, _, _, _, h⟩
  · exact h
  · cases o <;> exact False.elim h
theorem vw_non (h : Vw t F H x .non) : x = .non := by
  rcases h with h | ⟨l, o, _, _, _, _, h⟩
  · exact h
  · cases o <;> exact False.elim h
theorem vw_lst {ds : List D} (s : Same F H) (h : Vw t F H x (.lst ds)) : ∃ a xs, x = .ref a ∧ H a = some (.lst xs) ∧ RpL F ds xs := by
  rcases h with ⟨a, xs, h1, h2, h3⟩ | ⟨l, o, h1, h2, _, _, h⟩
  · exact ⟨a, xs, h1, s _ _ h2, h3⟩
  · cases o <;> first | exact ⟨l, _, h1, h2, h⟩ | exact False.elim h
theorem vw_tup {ds : List D} (h : Vw t F H x (.tup ds)) : ∃ a xs, x = .ref a ∧ F a = some (.tup xs) ∧ RpL F ds xs := by
  rcases h with ⟨a, xs, h1, h2, h3⟩ | ⟨l, o, h1, h2, _, _, h⟩
  · exact ⟨a, xs, h1, h2, h3⟩
  · cases o <;> exact False.elim h
theorem vw_dK {ds : List (Key × D)} (s : Same F H) (h : Vw t F H x (.dK ds)) : ∃ a xs, x = .ref a ∧ Rd H a (.dK xs) ∧ RpK F ds xs := by
  rcases h with ⟨a, xs, h1, h2, h3⟩ | ⟨l, o, h1, h2, _, _, h⟩
  · exact ⟨a, xs, h1, rd_same s h2, h3⟩
  · cases o <;> first | exact ⟨l, _, h1, .inl h2, h⟩ | exact False.elim h
theorem vw_dT {ds : List (List Key × D)} (s : Same F H) (h : Vw t F H x (.dT ds)) : ∃ a xs, x = .ref a ∧ Rd H a (.dT xs) ∧ RpT F ds xs := by
  rcases h with ⟨a, xs, h1, h2, h3⟩ | ⟨l, o, h1, h2, _, _, h⟩
  · exact ⟨a, xs, h1, rd_same s h2, h3⟩
  · cases o <;> first | exact ⟨l, _, h1, .inl h2, h⟩ | exact False.elim h
end
/-! ### readings of data: expressions -/
def qVar (i : Nat) : QE := fun δ Q => ∃ s, δ[i]? = some (some s) ∧ match s with | .sh d => Q .sh d | .ow d => Q .pk d | _ => False
def qC (d : D) : QE := fun _ Q => Q .sh d
abbrev P2 := D → D → (Md → D → Prop) → Prop
abbrev P1 := D → (Md → D → Prop) → Prop
def qOp (p : P2) (qa qb : QE) : QE := fun δ Q => qa δ fun _ d => qb δ fun _ e => p d e Q
def qUn (p : P1) (qa : QE) : QE := fun δ Q => qa δ fun _ d => p d Q
def qTest (qe : QE) : QT := fun δ Q => qe δ fun _ d => ∃ b, d = .bl b ∧ Q b
def qAnd (a b : QT) : QT := fun δ Q => a δ fun c => if c = true then b δ Q else Q false
def qOr (a b : QT) : QT := fun δ Q => a δ fun c => if c = true then Q true else b δ Q
def qNot (a : QT) : QT := fun δ Q => a δ fun c => Q (!c)
def qYes : QT := fun _ Q => Q true
def qAndV (a b : QE) : QE := fun δ Q => a δ fun _ d => ∃ c, d = .bl c ∧ if c = true then b δ Q else Q .sh (.bl false)
def qOrV (a b : QE) : QE := fun δ Q => a δ fun _ d => ∃ c, d = .bl c ∧ if c = true then Q .sh (.bl true) else b δ Q
def qNotV (a : QE) : QE := fun δ Q => a δ fun _ d => ∃ c, d = .bl c ∧ Q .sh (.bl (!c))
def qIf (c : QT) (a b : QE) : QE := fun δ Q => c δ fun k => if k = true then a δ Q else b δ Q
def qChain (p p' : P2) (a b c : QE) : QE := fun δ Q => a δ fun _ x => b δ fun _ y => p x y fun _ z => ∃ k, z = .bl k ∧ if k = true then c δ fun _ w => p' y w Q else Q .sh (.bl false)
def qNil : QA := fun _ Q => Q []
abbrev Ar.mk : Md → D → Ar
  | .pk, d => .pk d
  | _, d => .sh d
def qCons (a : QE) (r : QA) : QA := fun δ Q => a δ fun m d => r δ fun as => Q (Ar.mk m d :: as)
def qConsT (i : Nat) (r : QA) : QA := fun δ Q => δ[i]? = some (some .tp) ∧ r δ fun as => Q (.tp :: as)
def qConsC (i : Nat) (r : QA) : QA := fun δ Q => ∃ ns, δ[i]? = some (some (.sc ns)) ∧ r δ fun as => Q (.sc ns :: as)
def shs (ds : List D) : List Ar := ds.map .sh
def qTup (r : QA) : QE := fun δ Q => r δ fun as => ∃ ds, as = shs ds ∧ ds.length ≤ 1000 ∧ Q .sh (.tup ds)
def qLst (r : QA) : QE := fun δ Q => r δ fun as => ∃ ds, as = shs ds ∧ ds.length ≤ 1000 ∧ Q .ow (.lst ds)
abbrev QO := DS → (Option Int → Prop) → Prop
def qNoPart : QO := fun _ Q => Q none
def qPart (a : QE) : QO := fun δ Q => a δ fun _ d => ∃ i, d = .int i ∧ Q (some i)
def qSl (p : D → Option Int → Option Int → (Md → D → Prop) → Prop) (a : QE) (l u : QO) : QE := fun δ Q => a δ fun _ d => l δ fun lo => u δ fun hi => p d lo hi Q
section
variable (K : PySem.W.Frag) (t : Option Addr)
def Post (F H : Hp) (Qp : Md → D → Prop) (Q : VK) : Prop := ∀ z F' H' m d, Grow t F H F' H' → RV t H F' H' z m d → Qp m d → Q z H'
def Sim2 (r : R2) (p : P2) : Prop := ∀ F H x y d e Q Qp, Same F H → (∀ a, t = some a → Dr H a) → Vw t F H x d → Vw t F H y e → p d e Qp → Post t F H Qp Q → r x y H Q
def Sim1 (r : V → Hp → VK → Prop) (p : P1) : Prop := ∀ F H x d Q Qp, Same F H → (∀ a, t = some a → Dr H a) → Vw t F H x d → p d Qp → Post t F H Qp Q → r x H Q
def SimSl (r : V → Option Int → Option Int → Hp → VK → Prop) (p : D → Option Int → Option Int → (Md → D → Prop) → Prop) : Prop := ∀ F H x d lo hi Q Qp, Same F H → (∀ a, t = some a → Dr H a) → Vw t F H x d → p d lo hi Qp → Post t F H Qp Q → r x lo hi H Q
end
section
variable {K : PySem.W.Frag} {c : Cl} {t : Option Addr} {E : XE} {Ep : XP}
section
variable {F H : Hp} {Qp : Md → D → Prop} {Q : VK}
/-- a scalar -/
theorem Post.val (k : Post t F H Qp Q) (s : Same F H) {x : V} {d : D} (h : Rp F d x) (q : Qp .sh d) : Q x H := k x F H .sh d (.refl s) h q
theorem tape_ne {p : Addr} (ht : ∀ a, t = some a → Dr H a) (np : H p = none) : some p ≠ t := fun e => by
  obtain ⟨c, s, q, h, _⟩ := ht p e.symm
  rw [np] at h
  cases h
/-- a new object -/
theorem Post.new (k : Post t F H Qp Q) (s : Same F H) (ht : ∀ a, t = some a → Dr H a) {p : Addr} {o : HO} {d : D} (np : H p = none) (h : OO F o d) (q : Qp .ow d) : Q (.ref p) (upd H p o) :=
  k (.ref p) F _ .ow d (.own s np) ⟨p, o, rfl, np, upd_same, s.free np, tape_ne ht np, h⟩ q
theorem Post.tup (k : Post t F H Qp Q) (s : Same F H) {p : Addr} {xs : List V} {ds : List D} (np : H p = none) (h : RpL F ds xs) (q : Qp .sh (.tup ds)) : Q (.ref p) (upd H p (.tup xs)) :=
  k (.ref p) _ _ .sh (.tup ds) (.new s np) ⟨p, xs, rfl, upd_same, h.mono (.of (same_upd (s.free np)))⟩ q
end
section
variable {te ta tb tc : TE} {qe qa qb qc : QE} {tt tu : TT} {qt qu : QT}
theorem SimE.vw (h : SimE K c t E Ep te qe) {F0 H0 L F : Hp} {δ : DS} {σ : L2.St} {H : Hp} {Q : VK} {Qp : Md → D → Prop} (er : ER K c t F0 H0 L E Ep) (rs : RS K t F0 H0 L F δ σ H) (hq : qe δ Qp)
    (k : ∀ x F' H' m d, Grow t F H F' H' → Vw t F' H' x d → (m ≠ .pk → Rp F' d x) → Qp m d → Q x H') : te σ H Q :=
  h F0 H0 L F δ σ H Q Qp er rs hq fun x F' H' m d g rv q => by
    obtain ⟨F2, g2, v2, r2⟩ := rv.view g
    exact k x F2 H' m d g2 v2 r2 q
theorem s_var (i : Nat) : SimE K c t E Ep (tVar i) (qVar i) := fun F0 H0 L F δ σ H Q Qp er rs hq k => by
  obtain ⟨s, h1, h2⟩ := hq
  obtain ⟨x, h3, h4⟩ := rs.st.sl i s h1
  refine ⟨x, h3, ?_⟩
  cases s with
  | sh d => exact k x F H .sh d (.refl rs.st.s) h4 h2
  | ow d => exact k x F H .pk d (.refl rs.st.s) h4 h2
  | tp => exact False.elim h2
  | sc ns => exact False.elim h2
theorem s_c {v : V} {d : D} (h : ∀ F, Rp F d v) : SimE K c t E Ep (tC v) (qC d) := fun F0 H0 L F δ σ H Q Qp er rs hq k => k v F H .sh d (.refl rs.st.s) (h F) hq
theorem s_op {r : R2} {p : P2} (hr : Sim2 t r p) (ha : SimE K c t E Ep ta qa) (hb : SimE K c t E Ep tb qb) : SimE K c t E Ep (tOp r ta tb) (qOp p qa qb) := fun F0 H0 L F δ σ H Q Qp er rs hq k => by
  refine ha.vw er rs hq fun x F1 H1 m1 d1 g1 v1 _ q1 => ?_
  refine hb.vw er (rs.grow g1) q1 fun y F2 H2 m2 d2 g2 v2 _ q2 => ?_
  have g12 := g1.trans g2 rs.st.dr
  have st2 := (rs.grow g12).st
  exact hr F2 H2 x y d1 d2 Q Qp g2.s st2.dr (v1.grow g2) v2 q2 fun z F3 H3 m d g3 rv qd => k z F3 H3 m d (g12.trans g3 rs.st.dr) (rv.pre g12) qd
theorem s_un {r : V → Hp → VK → Prop} {p : P1} (hr : Sim1 t r p) (ha : SimE K c t E Ep ta qa) : SimE K c t E Ep (tUn r ta) (qUn p qa) := fun F0 H0 L F δ σ H Q Qp er rs hq k => by
  refine ha.vw er rs hq fun x F1 H1 m1 d1 g1 v1 _ q1 => ?_
  have st1 := (rs.grow g1).st
  exact hr F1 H1 x d1 Q Qp g1.s st1.dr v1 q1 fun z F3 H3 m d g3 rv qd => k z F3 H3 m d (g1.trans g3 rs.st.dr) (rv.pre g1) qd
theorem s_cb1 {r : RC} {p : P1} (hr : Sim1 t (fun x => r [x]) p) (ha : SimE K c t E Ep ta qa) : SimE K c t E Ep (tCB r (tCons ta tNil)) (qUn p qa) := s_un (r := fun x => r [x]) hr ha
theorem s_cb2 {r : RC} {p : P2} (hr : Sim2 t (fun x y => r [x, y]) p) (ha : SimE K c t E Ep ta qa) (hb : SimE K c t E Ep tb qb) : SimE K c t E Ep (tCB r (tCons ta (tCons tb tNil))) (qOp p qa qb) := s_op (r := fun x y => r [x, y]) hr ha hb
theorem s_test (h : SimE K c t E Ep te qe) : SimT K c t E Ep (tTest te) (qTest qe) := fun F0 H0 L F δ σ H Q Qp er rs hq k => by
  refine h.vw er rs hq fun x F1 H1 m1 d1 g1 v1 _ q1 => ?_
  obtain ⟨b, rfl, q2⟩ := q1
  exact ⟨b, vw_bl v1, k b F1 H1 g1 q2⟩
theorem s_b (h : SimE K c t E Ep te qe) : SimT K c t E Ep (tB te) (qTest qe) := s_test h
theorem s_yes : SimT K c t E Ep tYes qYes := fun F0 H0 L F δ σ H Q Qp er rs hq k => k true F H (.refl rs.st.s) hq
theorem s_and (h : SimT K c t E Ep tt qt) (h' : SimT K c t E Ep tu qu) : SimT K c t E Ep (tAnd tt tu) (qAnd qt qu) := fun F0 H0 L F δ σ H Q Qp er rs hq k => by
  refine h F0 H0 L F δ σ H _ _ er rs hq fun b F1 H1 g1 q1 => ?_
  cases b with
  | true => exact h' F0 H0 L F1 δ σ H1 _ _ er (rs.grow g1) q1 fun b2 F2 H2 g2 q2 => k b2 F2 H2 (g1.trans g2 rs.st.dr) q2
  | false => exact k false F1 H1 g1 q1
theorem s_or (h : SimT K c t E Ep tt qt) (h' : SimT K c t E Ep tu qu) : SimT K c t E Ep (tOr tt tu) (qOr qt qu) := fun F0 H0 L F δ σ H Q Qp er rs hq k => by
  refine h F0 H0 L F δ σ H _ _ er rs hq fun b F1 H1 g1 q1 => ?_
  cases b with
  | false => exact h' F0 H0 L F1 δ σ H1 _ _ er (rs.grow g1) q1 fun b2 F2 H2 g2 q2 => k b2 F2 H2 (g1.trans g2 rs.st.dr) q2
  | true => exact k true F1 H1 g1 q1
theorem s_not (h : SimT K c t E Ep tt qt) : SimT K c t E Ep (tNot tt) (qNot qt) := fun F0 H0 L F δ σ H Q Qp er rs hq k => h F0 H0 L F δ σ H _ _ er rs hq fun b F1 H1 g1 q1 => k _ F1 H1 g1 q1
theorem SimE.then {R : V → Hp → Prop} (h : SimE K c t E Ep te qe) {F0 H0 L F : Hp} {δ : DS} {σ : L2.St} {H : Hp} {Qp : Md → D → Prop} (er : ER K c t F0 H0 L E Ep) (rs : RS K t F0 H0 L F δ σ H) (hq : qe δ Qp)
    {F' H' : Hp} (g : Grow t F' H' F H) (hd : ∀ a, t = some a → Dr H' a) (k : ∀ x F2 H2 m d, Grow t F' H' F2 H2 → RV t H' F2 H2 x m d → Qp m d → R x H2) : te σ H R :=
  h F0 H0 L F δ σ H R Qp er rs hq fun x F2 H2 m d g2 rv q => k x F2 H2 m d (g.trans g2 hd) (rv.pre g) q
theorem s_andV (ha : SimE K c t E Ep ta qa) (hb : SimE K c t E Ep tb qb) : SimE K c t E Ep (tAndV ta tb) (qAndV qa qb) := fun F0 H0 L F δ σ H Q Qp er rs hq k => by
  refine ha.vw er rs hq fun x F1 H1 m1 d1 g1 v1 _ q1 => ?_
  obtain ⟨b, rfl, q2⟩ := q1
  refine ⟨b, vw_bl v1, ?_⟩
  cases b with
  | true => exact hb.then er (rs.grow g1) q2 g1 rs.st.dr k
  | false => exact k _ F1 H1 .sh (.bl false) g1 rfl q2
theorem s_orV (ha : SimE K c t E Ep ta qa) (hb : SimE K c t E Ep tb qb) : SimE K c t E Ep (tOrV ta tb) (qOrV qa qb) := fun F0 H0 L F δ σ H Q Qp er rs hq k => by
  refine ha.vw er rs hq fun x F1 H1 m1 d1 g1 v1 _ q1 => ?_
  obtain ⟨b, rfl, q2⟩ := q1
  refine ⟨b, vw_bl v1, ?_⟩
  cases b with
  | false => exact hb.then er (rs.grow g1) q2 g1 rs.st.dr k
  | true => exact k _ F1 H1 .sh (.bl true) g1 rfl q2
theorem s_notV (ha : SimE K c t E Ep ta qa) : SimE K c t E Ep (tNotV ta) (qNotV qa) := fun F0 H0 L F δ σ H Q Qp er rs hq k => by
  refine ha.vw er rs hq fun x F1 H1 m1 d1 g1 v1 _ q1 => ?_
  obtain ⟨b, rfl, q2⟩ := q1
  exact ⟨b, vw_bl v1, k _ F1 H1 .sh (.bl (!b)) g1 rfl q2⟩
theorem s_if (h : SimT K c t E Ep tt qt) (ha : SimE K c t E Ep ta qa) (hb : SimE K c t E Ep tb qb) : SimE K c t E Ep (tIf tt ta tb) (qIf qt qa qb) := fun F0 H0 L F δ σ H Q Qp er rs hq k => by
  refine h F0 H0 L F δ σ H _ _ er rs hq fun b F1 H1 g1 q1 => ?_
  cases b with
  | true => exact ha.then er (rs.grow g1) q1 g1 rs.st.dr k
  | false => exact hb.then er (rs.grow g1) q1 g1 rs.st.dr k
theorem s_chain {r r' : R2} {p p' : P2} (hr : Sim2 t r p) (hr' : Sim2 t r' p') (ha : SimE K c t E Ep ta qa) (hb : SimE K c t E Ep tb qb) (hc : SimE K c t E Ep tc qc) : SimE K c t E Ep (tChain r r' ta tb tc) (qChain p p' qa qb qc) := fun F0 H0 L F δ σ H Q Qp er rs hq k => by
  refine ha.vw er rs hq fun x F1 H1 m1 d1 g1 v1 _ q1 => ?_
  refine hb.vw er (rs.grow g1) q1 fun y F2 H2 m2 d2 g2 v2 _ q2 => ?_
  have g12 := g1.trans g2 rs.st.dr
  have st2 := (rs.grow g12).st
  refine hr F2 H2 x y d1 d2 _ _ g2.s st2.dr (v1.grow g2) v2 q2 fun z F3 H3 m d g3 rv qd => ?_
  obtain ⟨b, rfl, q3⟩ := qd
  obtain ⟨F4, g4, v4, _⟩ := rv.view g3
  have g14 := g12.trans g4 rs.st.dr
  refine ⟨b, vw_bl v4, ?_⟩
  cases b with
  | true =>
    refine hc.vw er (rs.grow g14) q3 fun w F5 H5 m5 d5 g5 v5 _ q5 => ?_
    have g15 := g14.trans g5 rs.st.dr
    exact hr' F5 H5 y w d2 d5 Q Qp g5.s (rs.grow g15).st.dr ((v2.grow g4).grow g5) v5 q5 fun z F6 H6 m d g6 rv qd => k z F6 H6 m d (g15.trans g6 rs.st.dr) (rv.pre g15) qd
  | false => exact k _ F4 H3 .sh (.bl false) g14 rfl q3
/-! arguments -/
theorem s_nil : SimA K c t E Ep tNil qNil := fun F0 H0 L F δ σ H Q Qp er rs hq k => k [] F H [] (.refl rs.st.s) True.intro hq
theorem s_cons {tr : TA} {qr : QA} (ha : SimE K c t E Ep ta qa) (hr : SimA K c t E Ep tr qr) : SimA K c t E Ep (tCons ta tr) (qCons qa qr) := fun F0 H0 L F δ σ H Q Qp er rs hq k => by
  refine ha F0 H0 L F δ σ H _ _ er rs hq fun x F1 H1 m d g rv q => ?_
  have : ∃ F2, Grow t F H F2 H1 ∧ Av K t F2 H1 x (Ar.mk m d) := by
    cases m with
    | sh => exact ⟨F1, g, rv⟩
    | pk => exact ⟨F1, g, rv⟩
    | ow => obtain ⟨F2, g2, v2, r2⟩ := rv.view g; exact ⟨F2, g2, r2 (by decide)⟩
  obtain ⟨F2, g2, av⟩ := this
  refine hr F0 H0 L F2 δ σ H1 _ _ er (rs.grow g2) q fun xs F3 H3 as g3 avl q3 => ?_
  exact k (x :: xs) F3 H3 (Ar.mk m d :: as) (g2.trans g3 rs.st.dr) ⟨av.grow g3, avl⟩ q3
theorem s_consT {i : Nat} {tr : TA} {qr : QA} (hr : SimA K c t E Ep tr qr) : SimA K c t E Ep (tCons (tVar i) tr) (qConsT i qr) := fun F0 H0 L F δ σ H Q Qp er rs hq k => by
  obtain ⟨h1, h2⟩ := hq
  obtain ⟨x, h3, a, h4⟩ := rs.st.sl i _ h1
  refine ⟨x, h3, hr F0 H0 L F δ σ H _ _ er rs h2 fun xs F3 H3 as g3 avl q3 => ?_⟩
  exact k (x :: xs) F3 H3 (.tp :: as) g3 ⟨⟨a, h4⟩, avl⟩ q3
theorem s_consC {i : Nat} {tr : TA} {qr : QA} (hr : SimA K c t E Ep tr qr) : SimA K c t E Ep (tCons (tVar i) tr) (qConsC i qr) := fun F0 H0 L F δ σ H Q Qp er rs hq k => by
  obtain ⟨ns, h1, h2⟩ := hq
  obtain ⟨x, h3, a, h4, h5⟩ := rs.st.sl i _ h1
  refine ⟨x, h3, hr F0 H0 L F δ σ H _ _ er rs h2 fun xs F3 H3 as g3 avl q3 => ?_⟩
  exact k (x :: xs) F3 H3 (.sc ns :: as) g3 ⟨⟨a, h4, g3.f.seq h5⟩, avl⟩ q3
theorem avl_shs {F H : Hp} : ∀ {xs : List V} {ds : List D}, AvL K t F H xs (shs ds) → RpL F ds xs
  | [], [], _ => rfl
  | _ :: _, _ :: _, h => ⟨_, _, rfl, h.1, avl_shs h.2⟩
  | [], _ :: _, h => False.elim h
  | _ :: _, [], h => False.elim h
theorem le_line {n : Nat} (h : n ≤ 1000) : n ≤ sizeLine := Nat.le_trans h (by decide)
theorem s_tup {tr : TA} {qr : QA} (hr : SimA K c t E Ep tr qr) : SimE K c t E Ep (tTup tr) (qTup qr) := fun F0 H0 L F δ σ H Q Qp er rs hq k => by
  refine hr F0 H0 L F δ σ H _ _ er rs hq fun xs F1 H1 as g1 avl q1 => ?_
  obtain ⟨ds, rfl, hl, q2⟩ := q1
  have hrl := avl_shs avl
  refine ⟨by rw [hrl.len]; exact le_line hl, fun p np => ?_⟩
  exact Post.tup (Q := Q) (fun z F' H' m d g rv q => k z F' H' m d (g1.trans g rs.st.dr) (rv.pre g1) q) g1.s np hrl q2
theorem s_lst {tr : TA} {qr : QA} (hr : SimA K c t E Ep tr qr) : SimE K c t E Ep (tLst tr) (qLst qr) := fun F0 H0 L F δ σ H Q Qp er rs hq k => by
  refine hr F0 H0 L F δ σ H _ _ er rs hq fun xs F1 H1 as g1 avl q1 => ?_
  obtain ⟨ds, rfl, hl, q2⟩ := q1
  have hrl := avl_shs avl
  refine ⟨by rw [hrl.len]; exact le_line hl, fun p np => ?_⟩
  exact Post.new (Q := Q) (fun z F' H' m d g rv q => k z F' H' m d (g1.trans g rs.st.dr) (rv.pre g1) q) g1.s (rs.grow g1).st.dr np (o := .lst xs) (d := .lst ds) hrl q2
/-! slices -/
def SimO (to : TO) (qo : QO) : Prop := ∀ F0 H0 L F δ σ H Q Qp, ER K c t F0 H0 L E Ep → RS K t F0 H0 L F δ σ H → qo δ Qp → (∀ i F' H', Grow t F H F' H' → Qp i → Q i H') → to σ H Q
theorem s_noPart : SimO (K := K) (c := c) (t := t) (E := E) (Ep := Ep) tNoPart qNoPart := fun F0 H0 L F δ σ H Q Qp er rs hq k => k none F H (.refl rs.st.s) hq
theorem s_part (ha : SimE K c t E Ep ta qa) : SimO (K := K) (c := c) (t := t) (E := E) (Ep := Ep) (tPart ta) (qPart qa) := fun F0 H0 L F δ σ H Q Qp er rs hq k => by
  refine ha.vw er rs hq fun x F1 H1 m1 d1 g1 v1 _ q1 => ?_
  obtain ⟨i, rfl, q2⟩ := q1
  exact ⟨i, vw_int v1, k _ F1 H1 g1 q2⟩
theorem s_sl {r : V → Option Int → Option Int → Hp → VK → Prop} {p : D → Option Int → Option Int → (Md → D → Prop) → Prop} {tl th : TO} {ql qh : QO} (hr : SimSl t r p) (ha : SimE K c t E Ep ta qa) (hl : SimO (K := K) (c := c) (t := t) (E := E) (Ep := Ep) tl ql) (hh : SimO (K := K) (c := c) (t := t) (E := E) (Ep := Ep) th qh) :
    SimE K c t E Ep (tSl r ta tl th) (qSl p qa ql qh) := fun F0 H0 L F δ σ H Q Qp er rs hq k => by
  refine ha.vw er rs hq fun x F1 H1 m1 d1 g1 v1 _ q1 => ?_
  refine hl F0 H0 L F1 δ σ H1 _ _ er (rs.grow g1) q1 fun lo F2 H2 g2 q2 => ?_
  have g12 := g1.trans g2 rs.st.dr
  refine hh F0 H0 L F2 δ σ H2 _ _ er (rs.grow g12) q2 fun hi F3 H3 g3 q3 => ?_
  have g13 := g12.trans g3 rs.st.dr
  exact hr F3 H3 x d1 lo hi Q Qp g3.s (rs.grow g13).st.dr ((v1.grow g2).grow g3) q3 fun z F6 H6 m d g6 rv qd => k z F6 H6 m d (g13.trans g6 rs.st.dr) (rv.pre g13) qd
end
end
end Sw
local macro_rules | `(tactic| walk_at "go1") => `(tactic| first
  | with_reducible refine Sw.g_seqasg ?_ | with_reducible refine Sw.g_op ?_ | with_reducible refine Sw.g_var rfl ?_ | with_reducible refine Sw.g_c ?_ | with_reducible refine Sw.g_I0 ?_
  | with_reducible refine Sw.g_cons ?_ | with_reducible refine Sw.g_nil ?_ | with_reducible refine Sw.g_call ?_ | with_reducible refine Sw.g_cb ?_ | with_reducible refine Sw.g_test ?_ | with_reducible refine Sw.g_bl ?_
  | with_reducible refine Sw.g_seqdrop ?_ | with_reducible refine Sw.g_seqsub ?_ | with_reducible refine Sw.g_asg ?_ | with_reducible refine Sw.g_asgsub ?_ | with_reducible refine Sw.g_ret ?_ | with_reducible refine Sw.g_drop ?_ | with_reducible refine Sw.g_if ?_ | with_reducible refine Sw.g_next ?_ | with_reducible refine Sw.g_name ?_
  | with_reducible refine Sw.g_B ?_ | with_reducible refine Sw.g_not ?_ | with_reducible refine Sw.g_and ?_ | with_reducible refine Sw.g_or ?_ | with_reducible refine Sw.g_andV ?_ | with_reducible refine Sw.g_orV ?_ | with_reducible refine Sw.g_notV ?_
  | with_reducible refine Sw.g_ifE ?_ | with_reducible refine Sw.g_chain ?_ | with_reducible refine Sw.g_un ?_ | with_reducible refine Sw.g_tup ?_ | with_reducible refine Sw.g_lst ?_ | with_reducible refine Sw.g_sl ?_ | with_reducible refine Sw.g_part ?_ | with_reducible refine Sw.g_nopart ?_
  | with_reducible refine Sw.g_U ?_ | with_reducible refine Sw.g_eq rfl ?_ | with_reducible refine Sw.g_ne rfl ?_ | with_reducible refine Sw.g_int ?_ | with_reducible refine Sw.g_yes ?_ | with_reducible refine L2.iteT ?_ | with_reducible refine L2.iteF ?_ | with_reducible refine Sw.iteNT ?_ | with_reducible refine Sw.iteNF ?_ | with_reducible refine Sw.g_m1 ?_ | with_reducible refine Sw.g_bm ?_ | with_reducible refine ⟨Sw.ty_lst (by assumption), ?_⟩ | with_reducible refine Sw.g_sput ?_ | with_reducible refine Sw.g_put ?_ | with_reducible refine Sw.g_dget2 ?_ | with_reducible refine Sw.g_dget ?_ | with_reducible refine Sw.g_dK ?_ | with_reducible refine Sw.g_dT ?_ | with_reducible refine Sw.g_dnotin ?_ | with_reducible refine Sw.g_din ?_ | with_reducible refine Sw.g_bm0 ?_
  | with_reducible refine Sw.g_ixL (by assumption) rfl ?_ | with_reducible refine Sw.g_ixT (by assumption) rfl ?_)
local macro_rules | `(tactic| walk_at "go") => `(tactic| repeat walk_at "go1")
local macro_rules | `(tactic| walk_at "bd") => `(tactic| repeat (first | with_reducible exact Sw.all_nil | refine Sw.all_cons ⟨_, rfl, by omega, by omega⟩ ?_))
local macro_rules | `(tactic| walk_at "new") => `(tactic| (refine ⟨Nat.le_of_ble_eq_true rfl, fun p np => ?_⟩; generalize hX : L2.upd _ p _ = H'; have sm : L2.Same _ H' := hX ▸ Sw.same_upd np; have hp : H' p = some _ := hX ▸ L2.upd_same; clear hX))
namespace Sw
open PySem PySem.Spec PyProof.Rows L2 SX
/-! ### operators on data -/
def pI0 (g : Int → Int → D) : P2 := fun d e Q => ∃ i j, d = .int i ∧ e = .int j ∧ Q .sh (g i j)
def pI (C : Int → Int → Prop) (g : Int → Int → D) : P2 := fun d e Q => ∃ i j, d = .int i ∧ e = .int j ∧ C i j ∧ Q .sh (g i j)
abbrev pAdd : P2 := pI0 fun i j => .int (i + j)
abbrev pSub : P2 := pI0 fun i j => .int (i - j)
abbrev pMulW : P2 := pI CMulW fun i j => .int (i * j)
abbrev pDivW : P2 := pI CDivW fun i j => .int (i / j)
abbrev pMod : P2 := pI (fun _ j => 0 < j) fun i j => .int (i % j)
abbrev pPow : P2 := pI CPow fun i j => .int (i ^ j.toNat)
abbrev pLt : P2 := pI0 fun i j => .bl (decide (i < j))
abbrev pLe : P2 := pI0 fun i j => .bl (decide (i ≤ j))
abbrev pGt : P2 := pI0 fun i j => .bl (decide (j < i))
abbrev pGe : P2 := pI0 fun i j => .bl (decide (j ≤ i))
def pNeg : P1 := fun d Q => ∃ i, d = .int i ∧ Q .sh (.int (-i))
def pS (g : List Nat → List Nat → Bool) : P2 := fun d e Q => ∃ a b, d = .str a ∧ e = .str b ∧ Q .sh (.bl (g a b))
abbrev pLtS : P2 := pS fun a b => decide (a < b)
abbrev pLeS : P2 := pS fun a b => !decide (b < a)
abbrev pGtS : P2 := pS fun a b => decide (b < a)
abbrev pGeS : P2 := pS fun a b => !decide (a < b)
def pAddS : P2 := fun d e Q => ∃ a b, d = .str a ∧ e = .str b ∧ a.length + b.length ≤ 1000000 ∧ Q .sh (.str (a ++ b))
def pMulS : P2 := fun d e Q => ∃ a n, d = .str a ∧ e = .int n ∧ 0 ≤ n ∧ n ≤ 1000 ∧ a.length ≤ 1000 ∧ Q .sh (.str (List.replicate n.toNat a).flatten)
def pInSign : P2 := fun d e Q => ∃ (ch : Nat) (z : List Nat), d = .str [ch] ∧ e = .str z ∧ Q .sh (.bl (decide (ch ∈ z)))
def pNotInSign : P2 := fun d e Q => ∃ (ch : Nat) (z : List Nat), d = .str [ch] ∧ e = .str z ∧ Q .sh (.bl (!decide (ch ∈ z)))
def isNon : D → Bool
  | .non => true
  | _ => false
def pIsN : P2 := fun d e Q => e = .non ∧ Q .sh (.bl (isNon d))
def pNotN : P2 := fun d e Q => e = .non ∧ Q .sh (.bl (!isNon d))
def eqS : D → D → Option Bool
  | .int a, .int b => some (decide (a = b)) | .str a, .str b => some (decide (a = b)) | .bl a, .bl b => some (decide (a = b)) | .non, .non => some true
  | .non, .int _ => some false | .int _, .non => some false | .non, .bl _ => some false | .bl _, .non => some false | .non, .str _ => some false | .str _, .non => some false
  | .int _, .str _ => some false | .str _, .int _ => some false | .bl _, .str _ => some false | .str _, .bl _ => some false
  | _, _ => none
def pEq : P2 := fun d e Q => ∃ b, eqS d e = some b ∧ Q .sh (.bl b)
def pNe : P2 := fun d e Q => ∃ b, eqS d e = some b ∧ Q .sh (.bl (!b))
def pIxL : P2 := fun d e Q => ∃ ds i v, d = .lst ds ∧ e = .int i ∧ atI ds i = some v ∧ Q .sh v
def pIxT : P2 := fun d e Q => ∃ ds i v, d = .tup ds ∧ e = .int i ∧ atI ds i = some v ∧ Q .sh v
def pIxS : P2 := fun d e Q => ∃ l i ch, d = .str l ∧ e = .int i ∧ l.length ≤ 1000000 ∧ atI l i = some ch ∧ Q .sh (.str [ch])
def pCat : P2 := fun d e Q => ∃ a b, d = .lst a ∧ e = .lst b ∧ a.length + b.length ≤ 1000000 ∧ Q .ow (.lst (a ++ b))
def pCatT : P2 := fun d e Q => ∃ a b, d = .tup a ∧ e = .tup b ∧ a.length + b.length ≤ 1000 ∧ Q .sh (.tup (a ++ b))
def pRep : P2 := fun d e Q => ∃ a n, d = .lst a ∧ e = .int n ∧ 0 ≤ n ∧ n ≤ 100000 ∧ a.length * n.toNat ≤ 100000 ∧ Q .ow (.lst (List.replicate n.toNat a).flatten)
def pLenS : P1 := fun d Q => ∃ l, d = .str l ∧ l.length ≤ 1000000 ∧ Q .sh (.int (l.length : Int))
def pLenL : P1 := fun d Q => ∃ l, (d = .lst l ∨ d = .tup l) ∧ Q .sh (.int (l.length : Int))
def pAbs : P1 := fun d Q => ∃ i, d = .int i ∧ Q .sh (.int (if i < 0 then -i else i))
def pMax2 : P2 := fun d e Q => ∃ i j, d = .int i ∧ e = .int j ∧ Q .sh (.int (if j > i then j else i))
def pMin2 : P2 := fun d e Q => ∃ i j, d = .int i ∧ e = .int j ∧ Q .sh (.int (if j < i then j else i))
def pInt1 : P1 := fun d Q => (∃ i, d = .int i ∧ Q .sh (.int i)) ∨ ∃ b, d = .bl b ∧ Q .sh (.int (if b = true then 1 else 0))
def pSum : P1 := fun d Q => ∃ ns : List Int, d = .lst (ns.map .int) ∧ Q .sh (.int ns.sum)
def pMinL : P1 := fun d Q => ∃ ns : List Int, d = .lst (ns.map .int) ∧ ns ≠ [] ∧ ∀ m, m ∈ ns → (∀ y ∈ ns, m ≤ y) → Q .sh (.int m)
def pMaxL : P1 := fun d Q => ∃ ns : List Int, d = .lst (ns.map .int) ∧ ns ≠ [] ∧ ∀ m, m ∈ ns → (∀ y ∈ ns, y ≤ m) → Q .sh (.int m)
def pListOf : P1 := fun d Q => ∃ l, (d = .lst l ∨ d = .tup l) ∧ Q .ow (.lst l)
def pTupOf : P1 := fun d Q => ∃ l, (d = .lst l ∨ d = .tup l) ∧ Q .sh (.tup l)
def cut {α : Type} (xs : List α) (lo hi : Option Int) : List α := (xs.drop (HT.sIx xs.length 0 lo)).take (HT.sIx xs.length xs.length hi - HT.sIx xs.length 0 lo)
def pSlS : D → Option Int → Option Int → (Md → D → Prop) → Prop := fun d lo hi Q => ∃ l, d = .str l ∧ l.length ≤ 1000000 ∧ Q .sh (.str (cut l lo hi))
def pSlL : D → Option Int → Option Int → (Md → D → Prop) → Prop := fun d lo hi Q => ∃ l, d = .lst l ∧ Q .ow (.lst (cut l lo hi))
def pSlT : D → Option Int → Option Int → (Md → D → Prop) → Prop := fun d lo hi Q => ∃ l, d = .tup l ∧ Q .sh (.tup (cut l lo hi))
def pRevS : P1 := fun d Q => ∃ l, d = .str l ∧ l.length ≤ 1000000 ∧ Q .sh (.str l.reverse)
def pRevL : P1 := fun d Q => ∃ l, d = .lst l ∧ Q .ow (.lst l.reverse)
def pJoin : P2 := fun d e Q => ∃ (a : List Nat) (ys : List (List Nat)), d = .str a ∧ (e = .lst (ys.map .str) ∨ e = .tup (ys.map .str)) ∧ (ys.map (·.length)).sum + ys.length * a.length ≤ 1000000 ∧ Q .sh (.str (Txt.join (S a) (ys.map S)).cps.toList)
def pIn (neg : Bool) : P2 := fun d e Q => (∃ (i : Int) (ns : List Int), d = .int i ∧ (e = .lst (ns.map .int) ∨ e = .tup (ns.map .int)) ∧ Q .sh (.bl (if neg then !decide (i ∈ ns) else decide (i ∈ ns)))) ∨
  ∃ (i : List Nat) (ns : List (List Nat)), d = .str i ∧ (e = .lst (ns.map .str) ∨ e = .tup (ns.map .str)) ∧ Q .sh (.bl (if neg then !decide (i ∈ ns) else decide (i ∈ ns)))
section
variable {t : Option Addr}
theorem o_I0 {g : Int → Int → V} {g' : Int → Int → D} (h : ∀ i j F, Rp F (g' i j) (g i j)) : Sim2 t (rI0 g) (pI0 g') := fun F H x y d e Q Qp s ht vx vy p k => by
  obtain ⟨i, j, rfl, rfl, q⟩ := p
  exact ⟨i, j, vw_int vx, vw_int vy, k.val s (h i j F) q⟩
theorem o_I {C : Int → Int → Prop} {g : Int → Int → V} {g' : Int → Int → D} (h : ∀ i j F, Rp F (g' i j) (g i j)) : Sim2 t (rI C g) (pI C g') := fun F H x y d e Q Qp s ht vx vy p k => by
  obtain ⟨i, j, rfl, rfl, c, q⟩ := p
  exact ⟨i, j, vw_int vx, vw_int vy, c, k.val s (h i j F) q⟩
theorem o_add : Sim2 t rAdd pAdd := o_I0 fun _ _ _ => rfl
theorem o_sub : Sim2 t rSub pSub := o_I0 fun _ _ _ => rfl
theorem o_mulW : Sim2 t rMulW pMulW := o_I fun _ _ _ => rfl
theorem o_divW : Sim2 t rDivW pDivW := o_I fun _ _ _ => rfl
theorem o_mod : Sim2 t rMod pMod := o_I fun _ _ _ => rfl
theorem o_pow : Sim2 t rPow pPow := o_I fun _ _ _ => rfl
theorem o_lt : Sim2 t rLt pLt := o_I0 fun _ _ _ => rfl
theorem o_le : Sim2 t rLe pLe := o_I0 fun _ _ _ => rfl
theorem o_gt : Sim2 t rGt pGt := o_I0 fun _ _ _ => rfl
theorem o_ge : Sim2 t rGe pGe := o_I0 fun _ _ _ => rfl
theorem o_neg : Sim1 t rNeg pNeg := fun F H x d Q Qp s ht vx p k => by
  obtain ⟨i, rfl, q⟩ := p
  exact ⟨i, vw_int vx, k.val s (d := .int (-i)) rfl q⟩
theorem o_ltS : Sim2 t rLtS pLtS := fun F H x y d e Q Qp s ht vx vy p k => by
  obtain ⟨a, b, rfl, rfl, q⟩ := p
  exact ⟨S a, S b, vw_str vx, vw_str vy, k.val s (d := .bl (decide (a < b))) rfl q⟩
theorem o_leS : Sim2 t rLeS pLeS := fun F H x y d e Q Qp s ht vx vy p k => by
  obtain ⟨a, b, rfl, rfl, q⟩ := p
  exact ⟨S a, S b, vw_str vx, vw_str vy, k.val s (d := .bl (!decide (b < a))) rfl q⟩
theorem o_gtS : Sim2 t rGtS pGtS := fun F H x y d e Q Qp s ht vx vy p k => by
  obtain ⟨a, b, rfl, rfl, q⟩ := p
  exact ⟨S a, S b, vw_str vx, vw_str vy, k.val s (d := .bl (decide (b < a))) rfl q⟩
theorem o_geS : Sim2 t rGeS pGeS := fun F H x y d e Q Qp s ht vx vy p k => by
  obtain ⟨a, b, rfl, rfl, q⟩ := p
  exact ⟨S a, S b, vw_str vx, vw_str vy, k.val s (d := .bl (!decide (a < b))) rfl q⟩
theorem le_line6 {n : Nat} (h : n ≤ 1000000) : n ≤ sizeLine := Nat.le_trans h (by decide)
theorem o_addS : Sim2 t rAddS pAddS := fun F H x y d e Q Qp s ht vx vy p k => by
  obtain ⟨a, b, rfl, rfl, hl, q⟩ := p
  refine ⟨S a, S b, vw_str vx, vw_str vy, by rw [S_len, S_len]; exact le_line6 hl, k.val s (d := .str (a ++ b)) ?_ q⟩
  show V.str (S a ++ S b) = V.str (S (a ++ b))
  rw [S_cat]
theorem o_mulS : Sim2 t rMulS pMulS := fun F H x y d e Q Qp s ht vx vy p k => by
  obtain ⟨a, n, rfl, rfl, h0, h1, hl, q⟩ := p
  exact ⟨a, n, vw_str vx, vw_int vy, h0, h1, hl, k.val s (d := .str _) rfl q⟩
theorem o_inSign : Sim2 t rInSign pInSign := fun F H x y d e Q Qp s ht vx vy p k => by
  obtain ⟨a, z, rfl, rfl, q⟩ := p
  exact ⟨a, S z, vw_str vx, vw_str vy, k.val s (d := .bl (decide (a ∈ z))) rfl q⟩
theorem o_notInSign : Sim2 t rNotInSign pNotInSign := fun F H x y d e Q Qp s ht vx vy p k => by
  obtain ⟨a, z, rfl, rfl, q⟩ := p
  exact ⟨a, S z, vw_str vx, vw_str vy, k.val s (d := .bl (!decide (a ∈ z))) rfl q⟩
theorem non_iff {F H : Hp} {x : V} {d : D} (h : Vw t F H x d) : decide (x = .non) = isNon d := by
  have hall : ∀ (a : Addr), decide (V.ref a = .non) = false := fun _ => rfl
  rcases h with h | ⟨l, o, rfl, _, _, _, h⟩
  · cases d with
    | non => rw [show x = .non from h]; rfl
    | bl b => rw [show x = .bl b from h]; rfl
    | int b => rw [show x = .int b from h]; rfl
    | str b => rw [show x = .str (S b) from h]; rfl
    | lst _ => obtain ⟨a, _, rfl, _⟩ := h; rfl
    | tup _ => obtain ⟨a, _, rfl, _⟩ := h; rfl
    | dK _ => obtain ⟨a, _, rfl, _⟩ := h; rfl
    | dT _ => obtain ⟨a, _, rfl, _⟩ := h; rfl
    | tape => obtain ⟨a, rfl, _⟩ := h; rfl
  · cases d <;> first | rfl | (cases o <;> exact False.elim h)
theorem o_isN : Sim2 t rIsNn pIsN := fun F H x y d e Q Qp s ht vx vy p k => by
  obtain ⟨rfl, q⟩ := p
  refine ⟨vw_non vy, k.val s (d := .bl (isNon d)) ?_ q⟩
  rw [non_iff vx]; exact rfl
theorem o_notN : Sim2 t rNotNn pNotN := fun F H x y d e Q Qp s ht vx vy p k => by
  obtain ⟨rfl, q⟩ := p
  refine ⟨vw_non vy, k.val s (d := .bl (!isNon d)) ?_ q⟩
  rw [non_iff vx]; exact rfl
theorem eqS_ok {F H : Hp} {x y : V} {d e : D} {b : Bool} (vx : Vw t F H x d) (vy : Vw t F H y e) (h : eqS d e = some b) : scal x y = true ∧ decide (x = y) = b := by
  cases d <;> cases e <;> simp only [eqS, Option.some.injEq, reduceCtorEq] at h <;> subst h <;>
    first
    | (have h1 := vw_int vx; have h2 := vw_int vy; subst h1 h2; exact ⟨rfl, by simp⟩)
    | (have h1 := vw_str vx; have h2 := vw_str vy; subst h1 h2; exact ⟨rfl, decide_eq_decide.mpr ⟨fun z => S_inj (V.str.inj z), fun z => by rw [z]⟩⟩)
    | (have h1 := vw_bl vx; have h2 := vw_bl vy; subst h1 h2; exact ⟨rfl, by simp⟩)
    | (have h1 := vw_non vx; have h2 := vw_non vy; subst h1 h2; exact ⟨rfl, by simp⟩)
    | (have h1 := vw_non vx; have h2 := vw_int vy; subst h1 h2; exact ⟨rfl, by simp⟩)
    | (have h1 := vw_int vx; have h2 := vw_non vy; subst h1 h2; exact ⟨rfl, by simp⟩)
    | (have h1 := vw_non vx; have h2 := vw_bl vy; subst h1 h2; exact ⟨rfl, by simp⟩)
    | (have h1 := vw_bl vx; have h2 := vw_non vy; subst h1 h2; exact ⟨rfl, by simp⟩)
    | (have h1 := vw_non vx; have h2 := vw_str vy; subst h1 h2; exact ⟨rfl, by simp⟩)
    | (have h1 := vw_str vx; have h2 := vw_non vy; subst h1 h2; exact ⟨rfl, by simp⟩)
    | (have h1 := vw_int vx; have h2 := vw_str vy; subst h1 h2; exact ⟨rfl, by simp⟩)
    | (have h1 := vw_str vx; have h2 := vw_int vy; subst h1 h2; exact ⟨rfl, by simp⟩)
    | (have h1 := vw_bl vx; have h2 := vw_str vy; subst h1 h2; exact ⟨rfl, by simp⟩)
    | (have h1 := vw_str vx; have h2 := vw_bl vy; subst h1 h2; exact ⟨rfl, by simp⟩)
theorem o_eq : Sim2 t rEq pEq := fun F H x y d e Q Qp s ht vx vy p k => by
  obtain ⟨b, h, q⟩ := p
  obtain ⟨h1, h2⟩ := eqS_ok vx vy h
  exact ⟨h1, k.val s (d := .bl b) (by rw [h2]; exact rfl) q⟩
theorem o_ne : Sim2 t rNe pNe := fun F H x y d e Q Qp s ht vx vy p k => by
  obtain ⟨b, h, q⟩ := p
  obtain ⟨h1, h2⟩ := eqS_ok vx vy h
  exact ⟨h1, k.val s (d := .bl (!b)) (by rw [h2]; exact rfl) q⟩
theorem rpl_atI {F : Hp} {ds : List D} {xs : List V} {i : Int} {v : D} (h : RpL F ds xs) (e : atI ds i = some v) : ∃ x, atI xs i = some x ∧ Rp F v x := by
  unfold atI at e ⊢
  rw [h.len]
  cases z : ixN ds.length i with
  | none => rw [z] at e; cases e
  | some j =>
    rw [z] at e
    exact h.at e
theorem o_ixL {K : PySem.W.Frag} : Sim2 t (rIxL K) pIxL := fun F H x y d e Q Qp s ht vx vy p k => by
  obtain ⟨ds, i, v, rfl, rfl, ev, q⟩ := p
  obtain ⟨a, xs, rfl, h1, h2⟩ := vw_lst s vx
  obtain ⟨w, h3, h4⟩ := rpl_atI h2 ev
  exact ⟨a, xs, i, w, rfl, vw_int vy, .inl (.inl h1), h3, k.val s h4 q⟩
theorem o_ixT {K : PySem.W.Frag} : Sim2 t (rIxT K) pIxT := fun F H x y d e Q Qp s ht vx vy p k => by
  obtain ⟨ds, i, v, rfl, rfl, ev, q⟩ := p
  obtain ⟨a, xs, rfl, h1, h2⟩ := vw_tup vx
  obtain ⟨w, h3, h4⟩ := rpl_atI h2 ev
  exact ⟨a, xs, i, w, rfl, vw_int vy, .inl (.inl (s _ _ h1)), h3, k.val s h4 q⟩
theorem o_ixS : Sim2 t rIxS pIxS := fun F H x y d e Q Qp s ht vx vy p k => by
  obtain ⟨l, i, v, rfl, rfl, hl, ev, q⟩ := p
  exact ⟨S l, i, v, vw_str vx, vw_int vy, by rw [S_len]; exact le_line6 hl, ev, k.val s (d := .str [v]) rfl q⟩
theorem o_cat : Sim2 t rCat pCat := fun F H x y d e Q Qp s ht vx vy p k => by
  obtain ⟨a, b, rfl, rfl, hl, q⟩ := p
  obtain ⟨p1, xs, rfl, h1, h2⟩ := vw_lst s vx
  obtain ⟨p2, ys, rfl, h3, h4⟩ := vw_lst s vy
  exact ⟨p1, p2, xs, ys, rfl, rfl, h1, h3, by rw [h2.len, h4.len]; exact le_line6 hl, fun p np => k.new s ht (d := .lst (a ++ b)) np (show OO F (.lst (xs ++ ys)) (.lst (a ++ b)) from h2.app h4) q⟩
theorem o_catT {K : PySem.W.Frag} : Sim2 t (rCatA K) pCatT := fun F H x y d e Q Qp s ht vx vy p k => by
  obtain ⟨a, b, rfl, rfl, hl, q⟩ := p
  obtain ⟨p1, xs, rfl, h1, h2⟩ := vw_tup vx
  obtain ⟨p2, ys, rfl, h3, h4⟩ := vw_tup vy
  have l1 := h2.len
  have l2 := h4.len
  refine ⟨p1, p2, xs, ys, rfl, rfl, .inl (.inl (s _ _ h1)), .inl (.inl (s _ _ h3)), by rw [l1, l2]; exact le_line hl, fun z => ?_, fun _ z => ?_, fun _ _ p np => k.tup s np (h2.app h4) q⟩
  · subst z
    have : a = [] := List.length_eq_zero_iff.mp (by simpa using l1.symm)
    subst this
    exact k.val s (d := .tup b) ⟨p2, ys, rfl, h3, h4⟩ q
  · subst z
    have : b = [] := List.length_eq_zero_iff.mp (by simpa using l2.symm)
    subst this
    rw [List.append_nil] at q
    exact k.val s (d := .tup a) ⟨p1, xs, rfl, h1, h2⟩ q
theorem rpl_rep {F : Hp} {a : List D} {xs : List V} (h : RpL F a xs) : ∀ n : Nat, RpL F (List.replicate n a).flatten (List.replicate n xs).flatten
  | 0 => rfl
  | n + 1 => by
    rw [List.replicate_succ, List.replicate_succ, List.flatten_cons, List.flatten_cons]
    exact h.app (rpl_rep h n)
theorem o_rep : Sim2 t rRep pRep := fun F H x y d e Q Qp s ht vx vy p k => by
  obtain ⟨a, n, rfl, rfl, n0, n1, hl, q⟩ := p
  obtain ⟨p1, xs, rfl, h1, h2⟩ := vw_lst s vx
  exact ⟨p1, n, xs, rfl, vw_int vy, h1, by omega, by omega, by rw [h2.len]; exact Nat.le_trans hl (by decide), fun p np => k.new s ht np (show OO F (.lst _) (.lst _) from rpl_rep h2 n.toNat) q⟩
theorem o_lenS : Sim1 t (fun x => rLenStr [x]) pLenS := fun F H x d Q Qp s ht vx p k => by
  obtain ⟨l, rfl, hl, q⟩ := p
  have e := vw_str vx
  subst e
  refine ⟨S l, rfl, by rw [S_len]; exact le_line6 hl, k.val s (d := .int (l.length : Int)) ?_ q⟩
  rw [S_len]; exact rfl
theorem o_lenL {K : PySem.W.Frag} : Sim1 t (fun x => rLenSq K [x]) pLenL := fun F H x d Q Qp s ht vx p k => by
  obtain ⟨l, h, q⟩ := p
  rcases h with rfl | rfl
  · obtain ⟨p1, xs, rfl, h1, h2⟩ := vw_lst s vx
    exact ⟨p1, xs, rfl, .inl (.inl (.inl h1)), k.val s (d := .int (l.length : Int)) (by rw [h2.len]; exact rfl) q⟩
  · obtain ⟨p1, xs, rfl, h1, h2⟩ := vw_tup vx
    exact ⟨p1, xs, rfl, .inr (.inl (.inl (s _ _ h1))), k.val s (d := .int (l.length : Int)) (by rw [h2.len]; exact rfl) q⟩
theorem o_abs : Sim1 t (fun x => rAbs [x]) pAbs := fun F H x d Q Qp s ht vx p k => by
  obtain ⟨i, rfl, q⟩ := p
  exact ⟨i, by rw [vw_int vx], k.val s (d := .int _) rfl q⟩
theorem o_max2 : Sim2 t (fun x y => rMax2 [x, y]) pMax2 := fun F H x y d e Q Qp s ht vx vy p k => by
  obtain ⟨i, j, rfl, rfl, q⟩ := p
  exact ⟨i, j, by rw [vw_int vx, vw_int vy], k.val s (d := .int _) rfl q⟩
theorem o_min2 : Sim2 t (fun x y => rMin2 [x, y]) pMin2 := fun F H x y d e Q Qp s ht vx vy p k => by
  obtain ⟨i, j, rfl, rfl, q⟩ := p
  exact ⟨i, j, by rw [vw_int vx, vw_int vy], k.val s (d := .int _) rfl q⟩
theorem o_int1 : Sim1 t (fun x => rInt1 [x]) pInt1 := fun F H x d Q Qp s ht vx p k => by
  rcases p with ⟨i, rfl, q⟩ | ⟨b, rfl, q⟩
  · exact .inl ⟨i, by rw [vw_int vx], k.val s (d := .int i) rfl q⟩
  · exact .inr ⟨b, by rw [vw_bl vx], k.val s (d := .int _) rfl q⟩
theorem o_sum {K : PySem.W.Frag} : Sim1 t (fun x => rSum K [x]) pSum := fun F H x d Q Qp s ht vx p k => by
  obtain ⟨ns, rfl, q⟩ := p
  obtain ⟨p1, xs, rfl, h1, h2⟩ := vw_lst s vx
  have e := rpl_ints h2
  subst e
  exact ⟨p1, ns, rfl, .inl (.inl h1), k.val s (d := .int ns.sum) rfl q⟩
theorem o_minL {K : PySem.W.Frag} : Sim1 t (fun x => rMin K [x]) pMinL := fun F H x d Q Qp s ht vx p k => by
  obtain ⟨ns, rfl, hn, q⟩ := p
  obtain ⟨p1, xs, rfl, h1, h2⟩ := vw_lst s vx
  have e := rpl_ints h2
  subst e
  exact ⟨p1, ns, rfl, .inl (.inl h1), List.length_pos_iff.mpr hn, fun m hm hy => k.val s (d := .int m) rfl (q m hm hy)⟩
theorem o_maxL {K : PySem.W.Frag} : Sim1 t (fun x => rMax K [x]) pMaxL := fun F H x d Q Qp s ht vx p k => by
  obtain ⟨ns, rfl, hn, q⟩ := p
  obtain ⟨p1, xs, rfl, h1, h2⟩ := vw_lst s vx
  have e := rpl_ints h2
  subst e
  exact ⟨p1, ns, rfl, .inl (.inl h1), List.length_pos_iff.mpr hn, fun m hm hy => k.val s (d := .int m) rfl (q m hm hy)⟩
theorem o_listOf {K : PySem.W.Frag} : Sim1 t (fun x => rListOf K [x]) pListOf := fun F H x d Q Qp s ht vx p k => by
  obtain ⟨l, h, q⟩ := p
  rcases h with rfl | rfl
  · obtain ⟨p1, xs, rfl, h1, h2⟩ := vw_lst s vx
    exact ⟨p1, xs, rfl, .inl (.inl (.inl h1)), fun p np => k.new s ht np (show OO F (.lst xs) (.lst l) from h2) q⟩
  · obtain ⟨p1, xs, rfl, h1, h2⟩ := vw_tup vx
    exact ⟨p1, xs, rfl, .inr (.inl (.inl (s _ _ h1))), fun p np => k.new s ht np (show OO F (.lst xs) (.lst l) from h2) q⟩
theorem o_tupOf {K : PySem.W.Frag} : Sim1 t (fun x => rTupleOf K [x]) pTupOf := fun F H x d Q Qp s ht vx p k => by
  obtain ⟨l, h, q⟩ := p
  rcases h with rfl | rfl
  · obtain ⟨p1, xs, rfl, h1, h2⟩ := vw_lst s vx
    exact ⟨p1, xs, rfl, .inl ⟨.inl (.inl h1), fun p np => k.tup s np h2 q⟩⟩
  · obtain ⟨p1, xs, rfl, h1, h2⟩ := vw_tup vx
    exact ⟨p1, xs, rfl, .inr ⟨.inl (.inl (s _ _ h1)), k.val s (d := .tup l) ⟨p1, xs, rfl, h1, h2⟩ q⟩⟩
theorem rpl_cut {F : Hp} {ds : List D} {xs : List V} {lo hi : Option Int} (h : RpL F ds xs) : RpL F (cut ds lo hi) (cutV xs lo hi) := by
  unfold cut cutV
  rw [h.len]
  exact (h.drop _).take _
theorem o_slS : SimSl t rSlS pSlS := fun F H x d lo hi Q Qp s ht vx p k => by
  obtain ⟨l, rfl, hl, q⟩ := p
  have e := vw_str vx
  subst e
  refine ⟨S l, rfl, by rw [S_len]; exact le_line6 hl, k.val s (d := .str (cut l lo hi)) ?_ q⟩
  unfold cut
  show V.str (cutS (S l) lo hi) = _
  unfold cutS
  rw [S_len]
theorem o_slL {K : PySem.W.Frag} : SimSl t (rSlL K) pSlL := fun F H x d lo hi Q Qp s ht vx p k => by
  obtain ⟨l, rfl, q⟩ := p
  obtain ⟨p1, xs, rfl, h1, h2⟩ := vw_lst s vx
  exact ⟨p1, xs, rfl, .inl (.inl h1), fun p np => k.new s ht np (show OO F (.lst _) (.lst _) from rpl_cut h2) q⟩
theorem o_slT {K : PySem.W.Frag} : SimSl t (rSlA K) pSlT := fun F H x d lo hi Q Qp s ht vx p k => by
  obtain ⟨l, rfl, q⟩ := p
  obtain ⟨p1, xs, rfl, h1, h2⟩ := vw_tup vx
  refine ⟨p1, xs, rfl, .inl (.inl (s _ _ h1)), fun z => ?_, fun _ p np => k.tup s np (rpl_cut h2) q⟩
  have e : cut l lo hi = l := by
    unfold cut
    rw [← h2.len, z.1, z.2, List.drop_zero, Nat.sub_zero, h2.len, List.take_length]
  rw [e] at q
  exact k.val s (d := .tup l) ⟨p1, xs, rfl, h1, h2⟩ q
theorem o_join {K : PySem.W.Frag} : Sim2 t (fun x y => rJoin K x [y]) pJoin := fun F H x y d e Q Qp s ht vx vy p k => by
  obtain ⟨a, ys, rfl, h, hl, q⟩ := p
  have fin : ∀ p1, (SqL K H p1 ((ys.map S).map V.str) ∨ SqT K H p1 ((ys.map S).map V.str)) → y = .ref p1 → rJoin K x [y] H Q := fun p1 h1 e => by
    refine ⟨S a, p1, ys.map S, vw_str vx, by rw [e], h1, ?_, k.val s (d := .str _) ?_ q⟩
    · have e1 : (ys.map S).map (·.length) = ys.map (·.length) := by
        rw [List.map_map]
        apply List.map_congr_left
        intro z _
        exact S_len z
      rw [e1, List.length_map, S_len]
      exact Nat.le_trans hl (by decide)
    · show V.str _ = V.str (S _)
      rw [S_cps]
  rcases h with rfl | rfl
  · obtain ⟨p1, xs, rfl, h1, h2⟩ := vw_lst s vy
    rw [rpl_strs h2] at h1
    exact fin p1 (.inl (.inl (.inl h1))) rfl
  · obtain ⟨p1, xs, rfl, h1, h2⟩ := vw_tup vy
    rw [rpl_strs h2] at h1
    exact fin p1 (.inr (.inl (.inl (s _ _ h1)))) rfl
theorem flat_ints (ns : List Int) : (ns.map V.int).all flatV = true := by simp [flatV]
theorem flat_strs (ns : List (List Nat)) : ((ns.map S).map V.str).all flatV = true := by simp [flatV]
theorem inV_int (i : Int) (ns : List Int) : inV (.int i) (ns.map V.int) = decide (i ∈ ns) := by
  unfold inV
  rw [List.any_map]
  induction ns with
  | nil => rfl
  | cons a ns ih =>
    rw [List.any_cons, ih]
    show ((a == i) || decide (i ∈ ns)) = decide (i ∈ a :: ns)
    by_cases h : i = a
    · subst h; simp
    · simp [h, Ne.symm h]
theorem inV_str (i : List Nat) (ns : List (List Nat)) : inV (.str (S i)) ((ns.map S).map V.str) = decide (i ∈ ns) := by
  unfold inV
  rw [List.any_map, List.any_map]
  induction ns with
  | nil => rfl
  | cons a ns ih =>
    rw [List.any_cons, ih]
    show ((S a == S i) || decide (i ∈ ns)) = decide (i ∈ a :: ns)
    by_cases h : i = a
    · subst h; simp
    · have : (S a == S i) = false := by
        rw [beq_eq_false_iff_ne]
        intro z
        exact h (S_inj z).symm
      simp [h, this]
theorem o_in {K : PySem.W.Frag} {neg : Bool} : Sim2 t (rIn K neg) (pIn neg) := fun F H x y d e Q Qp s ht vx vy p k => by
  rcases p with ⟨i, ns, rfl, h, q⟩ | ⟨i, ns, rfl, h, q⟩
  · rcases h with rfl | rfl
    · obtain ⟨p1, xs, rfl, h1, h2⟩ := vw_lst s vy
      rw [rpl_ints h2] at h1
      have e := vw_int vx
      subst e
      exact ⟨p1, _, rfl, .inl (.inl (.inl h1)), rfl, flat_ints ns, by rw [inV_int]; exact k.val s (d := .bl _) rfl q⟩
    · obtain ⟨p1, xs, rfl, h1, h2⟩ := vw_tup vy
      rw [rpl_ints h2] at h1
      have e := vw_int vx
      subst e
      exact ⟨p1, _, rfl, .inr (.inl (.inl (s _ _ h1))), rfl, flat_ints ns, by rw [inV_int]; exact k.val s (d := .bl _) rfl q⟩
  · rcases h with rfl | rfl
    · obtain ⟨p1, xs, rfl, h1, h2⟩ := vw_lst s vy
      rw [rpl_strs h2] at h1
      have e := vw_str vx
      subst e
      exact ⟨p1, _, rfl, .inl (.inl (.inl h1)), rfl, flat_strs ns, by rw [inV_str]; exact k.val s (d := .bl _) rfl q⟩
    · obtain ⟨p1, xs, rfl, h1, h2⟩ := vw_tup vy
      rw [rpl_strs h2] at h1
      have e := vw_str vx
      subst e
      exact ⟨p1, _, rfl, .inr (.inl (.inl (s _ _ h1))), rfl, flat_strs ns, by rw [inV_str]; exact k.val s (d := .bl _) rfl q⟩
end
end Sw
local macro_rules | `(tactic| walk_at "go1") => `(tactic| first
  | with_reducible refine Sw.g_seqasg ?_ | with_reducible refine Sw.g_op ?_ | with_reducible refine Sw.g_var rfl ?_ | with_reducible refine Sw.g_c ?_ | with_reducible refine Sw.g_I0 ?_
  | with_reducible refine Sw.g_cons ?_ | with_reducible refine Sw.g_nil ?_ | with_reducible refine Sw.g_call ?_ | with_reducible refine Sw.g_cb ?_ | with_reducible refine Sw.g_test ?_ | with_reducible refine Sw.g_bl ?_
  | with_reducible refine Sw.g_seqdrop ?_ | with_reducible refine Sw.g_seqsub ?_ | with_reducible refine Sw.g_asg ?_ | with_reducible refine Sw.g_asgsub ?_ | with_reducible refine Sw.g_ret ?_ | with_reducible refine Sw.g_drop ?_ | with_reducible refine Sw.g_if ?_ | with_reducible refine Sw.g_next ?_ | with_reducible refine Sw.g_name ?_
  | with_reducible refine Sw.g_B ?_ | with_reducible refine Sw.g_not ?_ | with_reducible refine Sw.g_and ?_ | with_reducible refine Sw.g_or ?_ | with_reducible refine Sw.g_andV ?_ | with_reducible refine Sw.g_orV ?_ | with_reducible refine Sw.g_notV ?_
  | with_reducible refine Sw.g_ifE ?_ | with_reducible refine Sw.g_chain ?_ | with_reducible refine Sw.g_un ?_ | with_reducible refine Sw.g_tup ?_ | with_reducible refine Sw.g_lst ?_ | with_reducible refine Sw.g_sl ?_ | with_reducible refine Sw.g_part ?_ | with_reducible refine Sw.g_nopart ?_
  | with_reducible refine Sw.g_U ?_ | with_reducible refine Sw.g_eq rfl ?_ | with_reducible refine Sw.g_ne rfl ?_ | with_reducible refine Sw.g_int ?_ | with_reducible refine Sw.g_yes ?_ | with_reducible refine L2.iteT ?_ | with_reducible refine L2.iteF ?_ | with_reducible refine Sw.iteNT ?_ | with_reducible refine Sw.iteNF ?_ | with_reducible refine Sw.g_m1 ?_ | with_reducible refine Sw.g_bm ?_ | with_reducible refine ⟨Sw.ty_lst (by assumption), ?_⟩ | with_reducible refine Sw.g_sput ?_ | with_reducible refine Sw.g_put ?_ | with_reducible refine Sw.g_dget2 ?_ | with_reducible refine Sw.g_dget ?_ | with_reducible refine Sw.g_dK ?_ | with_reducible refine Sw.g_dT ?_ | with_reducible refine Sw.g_dnotin ?_ | with_reducible refine Sw.g_din ?_ | with_reducible refine Sw.g_bm0 ?_
  | with_reducible refine Sw.g_ixL (by assumption) rfl ?_ | with_reducible refine Sw.g_ixT (by assumption) rfl ?_)
local macro_rules | `(tactic| walk_at "go") => `(tactic| repeat walk_at "go1")
local macro_rules | `(tactic| walk_at "bd") => `(tactic| repeat (first | with_reducible exact Sw.all_nil | refine Sw.all_cons ⟨_, rfl, by omega, by omega⟩ ?_))
local macro_rules | `(tactic| walk_at "new") => `(tactic| (refine ⟨Nat.le_of_ble_eq_true rfl, fun p np => ?_⟩; generalize hX : L2.upd _ p _ = H'; have sm : L2.Same _ H' := hX ▸ Sw.same_upd np; have hp : H' p = some _ := hX ▸ L2.upd_same; clear hX))
namespace Sw
open PySem PySem.Spec PyProof.Rows L2 SX
/-! ### states that change -/
section
variable {K : PySem.W.Frag} {c : Cl} {t : Option Addr} {F0 H0 L F H F' H' : Hp} {δ : DS} {σ : L2.St} {i : Nat} {x : V} {d d' : D}
theorem set_at {α : Type} {l : List α} {i j : Nat} {v w : α} (h : (l.set i v)[j]? = some w) : (i = j ∧ w = v ∧ i < l.length) ∨ (i ≠ j ∧ l[j]? = some w) := by
  rw [List.getElem?_set] at h
  by_cases e : i = j
  · subst e
    rw [if_pos rfl] at h
    by_cases z : i < l.length
    · rw [if_pos z] at h; exact .inl ⟨rfl, (Option.some.inj h).symm, z⟩
    · rw [if_neg z] at h; cases h
  · rw [if_neg e] at h; exact .inr ⟨e, h⟩
theorem set_self {α : Type} {l : List α} {i : Nat} {v : α} (h : i < l.length) : (l.set i v)[i]? = some v := by rw [List.getElem?_set, if_pos rfl, if_pos h]
theorem set_other {α : Type} {l : List α} {i j : Nat} {v : α} (h : i ≠ j) : (l.set i v)[j]? = l[j]? := by rw [List.getElem?_set, if_neg h]
theorem RS.setS (r : RS K t F0 H0 L F δ σ H) (h : Rp F d x) : RS K t F0 H0 L F (δ.set i (some (.sh d))) (σ.set i (some x)) H where
  st := {
    s := r.st.s
    tp := r.st.tp
    len := by rw [List.length_set, List.length_set]; exact r.st.len
    sl := fun j v e => by
      rcases set_at e with ⟨rfl, e2, hl⟩ | ⟨ne, e2⟩
      · cases e2
        exact ⟨x, set_self (by rw [r.st.len]; exact hl), h⟩
      · obtain ⟨y, h1, h2⟩ := r.st.sl j v e2
        exact ⟨y, by rw [set_other ne]; exact h1, h2⟩
    ne := fun a b d1 d2 y e1 e2 e3 e4 => by
      rcases set_at e1 with ⟨_, z, _⟩ | ⟨n1, e1⟩
      · cases z
      rcases set_at e2 with ⟨_, z, _⟩ | ⟨n2, e2⟩
      · cases z
      rw [set_other n1] at e3
      rw [set_other n2] at e4
      exact r.st.ne a b d1 d2 y e1 e2 e3 e4 }
  g := r.g
  lo := r.lo
  fr := fun j e l e1 e2 => by
    rcases set_at e1 with ⟨_, z, _⟩ | ⟨n1, e1⟩
    · cases z
    rw [set_other n1] at e2
    exact r.fr j e l e1 e2
  dr := r.dr
theorem RS.setO (r : RS K t F0 H0 L F δ σ H) (g : Grow t F H F' H') (h : RV t H F' H' x .ow d) : RS K t F0 H0 L F' (δ.set i (some (.ow d))) (σ.set i (some x)) H' := by
  have r' := r.grow g
  obtain ⟨l, o, rfl, h0, h1, h2, h3, h4⟩ := h
  have old : ∀ (j : Nat) (e : D) (y : V), δ[j]? = some (some (.ow e)) → σ[j]? = some (some y) → y ≠ .ref l := fun j e y e1 e2 z => by
    obtain ⟨y', q1, l', o', q2, q3, _⟩ := r.st.sl j _ e1
    rw [e2] at q1
    cases q1
    rw [z] at q2
    cases q2
    rw [h0] at q3
    cases q3
  exact {
    st := {
      s := r'.st.s
      tp := r'.st.tp
      len := by rw [List.length_set, List.length_set]; exact r.st.len
      sl := fun j v e => by
        rcases set_at e with ⟨rfl, e2, hl⟩ | ⟨ne, e2⟩
        · cases e2
          exact ⟨.ref l, set_self (by rw [r.st.len]; exact hl), l, o, rfl, h1, h2, h3, h4⟩
        · obtain ⟨y, h1, h2⟩ := r'.st.sl j v e2
          exact ⟨y, by rw [set_other ne]; exact h1, h2⟩
      ne := fun a b d1 d2 y e1 e2 e3 e4 => by
        rcases set_at e1 with ⟨rfl, z1, l1⟩ | ⟨n1, e1⟩
        · rcases set_at e2 with ⟨rfl, z2, l2⟩ | ⟨n2, e2⟩
          · rfl
          · rw [set_self (by rw [r.st.len]; exact l1)] at e3
            rw [set_other n2] at e4
            cases e3
            exact absurd rfl (old b d2 _ e2 e4)
        · rcases set_at e2 with ⟨rfl, z2, l2⟩ | ⟨n2, e2⟩
          · rw [set_self (by rw [r.st.len]; exact l2)] at e4
            rw [set_other n1] at e3
            cases e4
            exact absurd rfl (old a d1 _ e1 e3)
          · rw [set_other n1] at e3
            rw [set_other n2] at e4
            exact r.st.ne a b d1 d2 y e1 e2 e3 e4 }
    g := r'.g
    lo := r'.lo
    fr := fun j e l' e1 e2 => by
      rcases set_at e1 with ⟨rfl, z, l1⟩ | ⟨n1, e1⟩
      · rw [set_self (by rw [r.st.len]; exact l1)] at e2
        cases e2
        exact r.g.pre h0
      · rw [set_other n1] at e2
        exact r.fr j e l' e1 e2
    dr := r.dr }
/-- the object of slot i's own is changed -/
theorem RS.upd (r : RS K t F0 H0 L F δ σ H) {l : Addr} {o : HO} (hi : δ[i]? = some (some (.ow d))) (hx : σ[i]? = some (some (.ref l))) (h : OO F o d') : RS K t F0 H0 L F (δ.set i (some (.ow d'))) σ (upd H l o) := by
  obtain ⟨y, q1, l', o', q2, q3, q4, q5, q6⟩ := r.st.sl i _ hi
  rw [hx] at q1
  cases q1
  cases q2
  have hil : i < δ.length := (List.getElem?_eq_some_iff.mp hi).1
  have h0 := r.fr i d l hi hx
  have sF : Same F (L2.upd H l o) := fun b z e => by rw [upd_ne (ne_of_none e q4)]; exact r.st.s b z e
  have dr1 : ∀ a, t = some a → Dr H a → Dr (L2.upd H l o) a := fun a e h => by
    obtain ⟨c1, s1, p1, z1, z2⟩ := h
    exact ⟨c1, s1, p1, by rw [upd_ne (fun w => q5 (by rw [e, w]))]; exact z1, z2⟩
  exact {
    st := {
      s := sF
      tp := fun a e => ⟨dr1 a e (r.st.tp a e).1, (r.st.tp a e).2⟩
      len := by rw [List.length_set]; exact r.st.len
      sl := fun j v e => by
        rcases set_at e with ⟨rfl, e2, hl⟩ | ⟨ne, e2⟩
        · cases e2
          exact ⟨.ref l, hx, l, o, rfl, upd_same, q4, q5, h⟩
        · obtain ⟨y, h1, h2⟩ := r.st.sl j v e2
          refine ⟨y, h1, ?_⟩
          cases v with
          | sh d => exact h2
          | tp => exact h2
          | sc ns => exact h2
          | ow d2 =>
            obtain ⟨l2, o2, w1, w2, w3⟩ := h2
            refine ⟨l2, o2, w1, ?_, w3⟩
            rw [upd_ne (fun z => ne (r.st.ne i j d d2 (.ref l) hi e2 hx (by rw [h1, w1, z])))]
            exact w2
      ne := fun a b d1 d2 y e1 e2 e3 e4 => by
        have f1 : ∃ z, δ[a]? = some (some (.ow z)) := by
          rcases set_at e1 with ⟨rfl, _, _⟩ | ⟨_, e⟩
          · exact ⟨d, hi⟩
          · exact ⟨d1, e⟩
        have f2 : ∃ z, δ[b]? = some (some (.ow z)) := by
          rcases set_at e2 with ⟨rfl, _, _⟩ | ⟨_, e⟩
          · exact ⟨d, hi⟩
          · exact ⟨d2, e⟩
        obtain ⟨z1, f1⟩ := f1
        obtain ⟨z2, f2⟩ := f2
        exact r.st.ne a b z1 z2 y f1 f2 e3 e4 }
    g := {
      z := r.g.z
      f := r.g.f
      h := fun b o1 e n => by rw [upd_ne (ne_of_none e h0)]; exact r.g.h b o1 e n
      d := fun b e z => by
        by_cases hb : b = l
        · subst hb; rw [upd_same] at z; cases z
        · rw [upd_ne hb] at z; exact r.g.d b e z
      n := r.g.n
      s := sF
      t := fun a e h => dr1 a e (r.g.t a e h) }
    lo := r.lo
    fr := fun j e l2 e1 e2 => by
      rcases set_at e1 with ⟨rfl, _, _⟩ | ⟨_, e1⟩
      · exact r.fr i d l2 hi e2
      · exact r.fr j e l2 e1 e2
    dr := r.dr }
/-- the object of slot i's own is frozen -/
theorem RS.freeze (r : RS K t F0 H0 L F δ σ H) (hi : δ[i]? = some (some (.ow d))) : ∃ F', Same F F' ∧ RS K t F0 H0 L F' (δ.set i (some (.sh d))) σ H := by
  obtain ⟨y, hx, l, o, rfl, q3, q4, q5, q6⟩ := r.st.sl i _ hi
  have h0 := r.fr i d l hi hx
  have sF : Same F (L2.upd F l o) := same_upd q4
  refine ⟨L2.upd F l o, sF, ?_⟩
  have g := r.g.freeze h0 q3
  exact {
    st := {
      s := g.s
      tp := fun a e => ⟨(r.st.tp a e).1, by rw [upd_ne (fun w => q5 (by rw [e, w]))]; exact (r.st.tp a e).2⟩
      len := by rw [List.length_set]; exact r.st.len
      sl := fun j v e => by
        rcases set_at e with ⟨rfl, e2, hl⟩ | ⟨ne, e2⟩
        · cases e2
          exact ⟨.ref l, hx, q6.rp q4⟩
        · obtain ⟨y, h1, h2⟩ := r.st.sl j v e2
          refine ⟨y, h1, ?_⟩
          cases v with
          | sh d => exact Rp.mono (.of sF) h2
          | tp => exact h2
          | sc ns => obtain ⟨a, w1, w2⟩ := h2; exact ⟨a, w1, sF.seq w2⟩
          | ow d2 =>
            obtain ⟨l2, o2, w1, w2, w3, w4, w5⟩ := h2
            refine ⟨l2, o2, w1, w2, ?_, w4, w5.mono (.of sF)⟩
            rw [upd_ne (fun z => ne (r.st.ne i j d d2 (.ref l) hi e2 hx (by rw [h1, w1, z])))]
            exact w3
      ne := fun a b d1 d2 y e1 e2 e3 e4 => by
        rcases set_at e1 with ⟨_, z, _⟩ | ⟨n1, e1⟩
        · cases z
        rcases set_at e2 with ⟨_, z, _⟩ | ⟨n2, e2⟩
        · cases z
        exact r.st.ne a b d1 d2 y e1 e2 e3 e4 }
    g := g
    lo := r.lo.trans sF
    fr := fun j e l2 e1 e2 => by
      rcases set_at e1 with ⟨_, z, _⟩ | ⟨_, e1⟩
      · cases z
      · exact r.fr j e l2 e1 e2
    dr := r.dr }
/-- a slot is forgotten -/
theorem RS.setN (r : RS K t F0 H0 L F δ σ H) {y : Option V} : RS K t F0 H0 L F (δ.set i none) (σ.set i y) H where
  st := {
    s := r.st.s
    tp := r.st.tp
    len := by rw [List.length_set, List.length_set]; exact r.st.len
    sl := fun j v e => by
      rcases set_at e with ⟨rfl, e2, hl⟩ | ⟨ne, e2⟩
      · cases e2
      · obtain ⟨y, h1, h2⟩ := r.st.sl j v e2
        exact ⟨y, by rw [set_other ne]; exact h1, h2⟩
    ne := fun a b d1 d2 y e1 e2 e3 e4 => by
      rcases set_at e1 with ⟨_, z, _⟩ | ⟨n1, e1⟩
      · cases z
      rcases set_at e2 with ⟨_, z, _⟩ | ⟨n2, e2⟩
      · cases z
      rw [set_other n1] at e3
      rw [set_other n2] at e4
      exact r.st.ne a b d1 d2 y e1 e2 e3 e4 }
  g := r.g
  lo := r.lo
  fr := fun j e l e1 e2 => by
    rcases set_at e1 with ⟨_, z, _⟩ | ⟨n1, e1⟩
    · cases z
    rw [set_other n1] at e2
    exact r.fr j e l e1 e2
  dr := r.dr
end
/-! ### readings of data: statements -/
abbrev SV.of : Md → D → SV
  | .ow, d => .ow d
  | _, d => .sh d
def qNext : QS := fun P δ => P.nx δ
def qSeq (a b : QS) : QS := fun P δ => a { P with nx := b P } δ
def qAsg (e : QE) (i : Nat) : QS := fun P δ => e δ fun m d => m ≠ .pk ∧ P.nx (δ.set i (some (SV.of m d)))
def qDrop (e : QE) : QS := fun P δ => e δ fun _ _ => P.nx δ
def qRet (e : QE) : QS := fun P δ => e δ fun m d => m ≠ .pk ∧ P.rt m d
def qRetV (i : Nat) : QS := fun P δ => ∃ s, δ[i]? = some (some s) ∧ match s with | .sh d => P.rt .sh d | .ow d => P.rt .ow d | _ => False
def qRetN : QS := fun P _ => P.rt .sh .non
def qIfS (t : QT) (a b : QS) : QS := fun P δ => t δ fun k => if k = true then a P δ else b P δ
def qNever : QS := fun _ _ => False
def qBreak : QS := fun P δ => P.bk δ
def qCont : QS := fun P δ => P.ct δ
def qFrz (i : Nat) (q : QS) : QS := fun P δ => ∃ s, δ[i]? = some (some s) ∧ match s with | .ow d => q P (δ.set i (some (.sh d))) | _ => q P δ
def qRaise (Ep : XP) (n : Nat) : QS := fun _ δ => Ep δ n
def qApp (i : Nat) (e : QE) : QS := fun P δ => e δ fun m d => ∃ ds, δ[i]? = some (some (.ow (.lst ds))) ∧ m ≠ .pk ∧ ds.length ≤ 1000000 ∧ P.nx (δ.set i (some (.ow (.lst (ds ++ [d])))))
def qExt (i : Nat) (e : QE) : QS := fun P δ => e δ fun _ d => ∃ ds es, δ[i]? = some (some (.ow (.lst ds))) ∧ d = .lst es ∧ ds.length + es.length ≤ 1000000 ∧ P.nx (δ.set i (some (.ow (.lst (ds ++ es)))))
def qPutK (i : Nat) (k e : QE) : QS := fun P δ => e δ fun m d => k δ fun _ y => ∃ kvs key, δ[i]? = some (some (.ow (.dK kvs))) ∧ y = dKey key ∧ m ≠ .pk ∧ kvs.length ≤ 1000000 ∧ P.nx (δ.set i (some (.ow (.dK (putD kvs key d)))))
def qPutT (i : Nat) (k e : QE) : QS := fun P δ => e δ fun m d => k δ fun _ y => ∃ kvs ks, δ[i]? = some (some (.ow (.dT kvs))) ∧ y = .tup (ks.map dKey) ∧ m ≠ .pk ∧ kvs.length ≤ 1000000 ∧ P.nx (δ.set i (some (.ow (.dT (putD kvs ks d)))))
def qSetL (i : Nat) (j e : QE) : QS := fun P δ => e δ fun m d => j δ fun _ y => ∃ ds n k, δ[i]? = some (some (.ow (.lst ds))) ∧ y = .int n ∧ m ≠ .pk ∧ ixN ds.length n = some k ∧ P.nx (δ.set i (some (.ow (.lst (ds.set k d)))))
section
variable {K : PySem.W.Frag} {c : Cl} {t : Option Addr} {E : XE} {Ep : XP} {te ta tb : TE} {qe qa qb : QE} {tt : TT} {qt : QT} {ts tu : TS} {qs qu : QS} {i : Nat}
theorem s_next : SimS K c t E Ep tNext qNext := fun F0 H0 L F δ σ H De Dp er rs en hq => en.nx F δ σ H rs hq
theorem s_seq (ha : SimS K c t E Ep ts qs) (hb : SimS K c t E Ep tu qu) : SimS K c t E Ep (tSeq ts tu) (qSeq qs qu) := fun F0 H0 L F δ σ H De Dp er rs en hq =>
  ha F0 H0 L F δ σ H _ { Dp with nx := qu Dp } er rs ⟨fun F1 δ1 σ1 H1 r1 q1 => hb F0 H0 L F1 δ1 σ1 H1 De Dp er r1 en q1, en.rt, en.bk, en.ct⟩ hq
theorem s_asg (he : SimE K c t E Ep te qe) : SimS K c t E Ep (tAsg te (gName i)) (qAsg qe i) := fun F0 H0 L F δ σ H De Dp er rs en hq =>
  he F0 H0 L F δ σ H _ _ er rs hq fun x F1 H1 m d g rv q => by
    cases m with
    | sh => exact en.nx F1 _ _ H1 ((rs.grow g).setS rv) q.2
    | pk => exact absurd rfl q.1
    | ow => exact en.nx F1 _ _ H1 (rs.setO g rv) q.2
theorem s_drop (he : SimE K c t E Ep te qe) : SimS K c t E Ep (tDrop te) (qDrop qe) := fun F0 H0 L F δ σ H De Dp er rs en hq =>
  he F0 H0 L F δ σ H _ _ er rs hq fun x F1 H1 m d g rv q => en.nx F1 δ σ H1 (rs.grow g) q
theorem s_ret (he : SimE K c t E Ep te qe) : SimS K c t E Ep (tRet te) (qRet qe) := fun F0 H0 L F δ σ H De Dp er rs en hq =>
  he F0 H0 L F δ σ H _ _ er rs hq fun x F1 H1 m d g rv q => en.rt F1 H1 x m d (rs.g.trans' g rs.dr) (rs.lo.trans g.f) (rs.grow g).st.tp (rv.pre rs.g) q.1 q.2
theorem s_retV : SimS K c t E Ep (tRet (tVar i)) (qRetV i) := fun F0 H0 L F δ σ H De Dp er rs en hq => by
  obtain ⟨s, h1, h2⟩ := hq
  obtain ⟨x, h3, h4⟩ := rs.st.sl i s h1
  refine ⟨x, h3, ?_⟩
  cases s with
  | sh d => exact en.rt F H x .sh d rs.g rs.lo rs.st.tp h4 (by decide) h2
  | ow d =>
    obtain ⟨l, o, rfl, q3, q4, q5, q6⟩ := h4
    exact en.rt F H (.ref l) .ow d rs.g rs.lo rs.st.tp ⟨l, o, rfl, rs.fr i d l h1 h3, q3, q4, q5, q6⟩ (by decide) h2
  | tp => exact False.elim h2
  | sc ns => exact False.elim h2
theorem s_retN : SimS K c t E Ep tRetN qRetN := fun F0 H0 L F δ σ H De Dp er rs en hq => en.rt F H .non .sh .non rs.g rs.lo rs.st.tp rfl (by decide) hq
theorem s_ifS (ht : SimT K c t E Ep tt qt) (ha : SimS K c t E Ep ts qs) (hb : SimS K c t E Ep tu qu) : SimS K c t E Ep (tIfS tt ts tu) (qIfS qt qs qu) := fun F0 H0 L F δ σ H De Dp er rs en hq =>
  ht F0 H0 L F δ σ H _ _ er rs hq fun b F1 H1 g q => by
    cases b with
    | true => exact ha F0 H0 L F1 δ σ H1 De Dp er (rs.grow g) en q
    | false => exact hb F0 H0 L F1 δ σ H1 De Dp er (rs.grow g) en q
theorem s_never : SimS K c t E Ep tNever qNever := fun F0 H0 L F δ σ H De Dp er rs en hq => False.elim hq
theorem s_break : SimS K c t E Ep tBreak qBreak := fun F0 H0 L F δ σ H De Dp er rs en hq => en.bk F δ σ H rs hq
theorem s_cont : SimS K c t E Ep tCont qCont := fun F0 H0 L F δ σ H De Dp er rs en hq => en.ct F δ σ H rs hq
theorem s_frz (h : SimS K c t E Ep ts qs) : SimS K c t E Ep ts (qFrz i qs) := fun F0 H0 L F δ σ H De Dp er rs en hq => by
  obtain ⟨s, h1, h2⟩ := hq
  cases s with
  | ow d =>
    obtain ⟨F', _, r'⟩ := rs.freeze h1
    exact h F0 H0 L F' _ σ H De Dp er r' en h2
  | sh d => exact h F0 H0 L F δ σ H De Dp er rs en h2
  | tp => exact h F0 H0 L F δ σ H De Dp er rs en h2
  | sc ns => exact h F0 H0 L F δ σ H De Dp er rs en h2
theorem s_raise {e : XK} {ep : XP} {n : Nat} : SimS K c t (fun _ => e) ep (tRaise e (c.at n)) (qRaise ep n) := fun F0 H0 L F δ σ H De Dp er rs en hq => er n F δ σ H rs hq
/-- the object of a slot's own, with what stands there -/
theorem RS.own {F0 H0 L F H : Hp} {δ : DS} {σ : L2.St} {d : D} (r : RS K t F0 H0 L F δ σ H) (hi : δ[i]? = some (some (.ow d))) : ∃ l o, σ[i]? = some (some (.ref l)) ∧ H l = some o ∧ F l = none ∧ some l ≠ t ∧ OO F o d := by
  obtain ⟨y, hx, l, o, rfl, q3, q4, q5, q6⟩ := r.st.sl i _ hi
  exact ⟨l, o, hx, q3, q4, q5, q6⟩
theorem oo_lst {F : Hp} {o : HO} {ds : List D} (h : OO F o (.lst ds)) : ∃ xs, o = .lst xs ∧ RpL F ds xs := by
  cases o <;> first | exact ⟨_, rfl, h⟩ | exact False.elim h
theorem oo_dK {F : Hp} {o : HO} {ds : List (Key × D)} (h : OO F o (.dK ds)) : ∃ xs, o = .dK xs ∧ RpK F ds xs := by
  cases o <;> first | exact ⟨_, rfl, h⟩ | exact False.elim h
theorem oo_dT {F : Hp} {o : HO} {ds : List (List Key × D)} (h : OO F o (.dT ds)) : ∃ xs, o = .dT xs ∧ RpT F ds xs := by
  cases o <;> first | exact ⟨_, rfl, h⟩ | exact False.elim h
/-- the slot's value, before its argument is looked at -/
theorem RS.slotv {F0 H0 L F H : Hp} {δ : DS} {σ : L2.St} (r : RS K t F0 H0 L F δ σ H) : ∀ d, δ[i]? = some (some (.ow d)) → ∃ l, σ[i]? = some (some (.ref l)) := fun d h => by
  obtain ⟨l, _, h1, _⟩ := r.own h
  exact ⟨l, h1⟩
theorem s_app (K' : PySem.W.Frag) (he : SimE K c t E Ep te qe) : SimS K c t E Ep (tDrop (tBM K' "list" rAppend (tVar i) (tCons te tNil))) (fun P δ => (∃ d, δ[i]? = some (some (.ow (.lst d)))) ∧ qApp i qe P δ) := fun F0 H0 L F δ σ H De Dp er rs en hq => by
  obtain ⟨⟨d0, h0⟩, hq⟩ := hq
  obtain ⟨l, o, hx, hl, hf, hn, ho⟩ := rs.own h0
  obtain ⟨xs0, rfl, _⟩ := oo_lst ho
  refine ⟨.ref l, hx, ty_lst hl, ?_⟩
  refine he.vw er rs hq fun y F1 H1 m d g v rp q => ?_
  obtain ⟨ds, h1, hm, hz, q2⟩ := q
  have r1 := rs.grow g
  obtain ⟨l', o', hx', hl', hf', hn', ho'⟩ := r1.own h1
  rw [hx] at hx'
  cases hx'
  obtain ⟨xs, rfl, hrl⟩ := oo_lst ho'
  refine ⟨l, xs, y, rfl, rfl, hl', by rw [hrl.len]; exact Nat.lt_of_le_of_lt hz (by decide), ?_⟩
  exact en.nx F1 _ σ _ (r1.upd h1 hx (show OO F1 (.lst (xs ++ [y])) (.lst (ds ++ [d])) from hrl.app (.one (rp hm)))) q2
theorem s_ext (K' : PySem.W.Frag) (he : SimE K c t E Ep te qe) : SimS K c t E Ep (tDrop (tBM K' "list" rExtend (tVar i) (tCons te tNil))) (fun P δ => (∃ d, δ[i]? = some (some (.ow (.lst d)))) ∧ qExt i qe P δ) := fun F0 H0 L F δ σ H De Dp er rs en hq => by
  obtain ⟨⟨d0, h0⟩, hq⟩ := hq
  obtain ⟨l, o, hx, hl, hf, hn, ho⟩ := rs.own h0
  obtain ⟨xs0, rfl, _⟩ := oo_lst ho
  refine ⟨.ref l, hx, ty_lst hl, ?_⟩
  refine he.vw er rs hq fun y F1 H1 m d g v rp q => ?_
  obtain ⟨ds, es, h1, rfl, hz, q2⟩ := q
  have r1 := rs.grow g
  obtain ⟨l', o', hx', hl', hf', hn', ho'⟩ := r1.own h1
  rw [hx] at hx'
  cases hx'
  obtain ⟨xs, rfl, hrl⟩ := oo_lst ho'
  obtain ⟨b, ys, rfl, hb, hrb⟩ := vw_lst g.s v
  refine ⟨l, b, xs, ys, rfl, rfl, hl', hb, by rw [hrl.len, hrb.len]; exact le_line6 hz, ?_⟩
  exact en.nx F1 _ σ _ (r1.upd h1 hx (show OO F1 (.lst (xs ++ ys)) (.lst (ds ++ es)) from hrl.app hrb)) q2
theorem s_putK (he : SimE K c t E Ep te qe) (hk : SimE K c t E Ep ta qa) : SimS K c t E Ep (sDPut (tVar i) ta te) (fun P δ => (∃ d, δ[i]? = some (some (.ow (.dK d)))) ∧ qPutK i qa qe P δ) := fun F0 H0 L F δ σ H De Dp er rs en hq => by
  obtain ⟨⟨d0, h0⟩, hq⟩ := hq
  obtain ⟨l, _, hx, _⟩ := rs.own h0
  refine he.vw er rs hq fun v F1 H1 m d g vv rp q => ?_
  have r1 := rs.grow g
  refine ⟨.ref l, hx, ?_⟩
  refine hk.vw er r1 q fun y F2 H2 m2 d2 g2 v2 rp2 q2 => ?_
  have r2 := r1.grow g2
  obtain ⟨kvs, key, h1, rfl, hm, hz, q3⟩ := q2
  obtain ⟨l', o', hx', hl', hf', hn', ho'⟩ := r2.own h1
  rw [hx] at hx'
  cases hx'
  obtain ⟨xs, rfl, hrl⟩ := oo_dK ho'
  have ey : y = kV key := by
    rcases v2 with z | ⟨_, o, _, _, _, _, z⟩
    · exact rp_key' z
    · cases key <;> cases o <;> exact False.elim z
  refine ⟨l, _, rfl, .inl ⟨xs, key, hl', ey, by rw [hrl.len]; exact Nat.lt_of_le_of_lt hz (by decide), rfl⟩, ?_⟩
  exact en.nx F2 _ σ _ (r2.upd h1 hx (show OO F2 (.dK (putK xs key v)) (.dK (putD kvs key d)) from hrl.put (Rp.mono (.of g2.f) (rp hm)))) q3
theorem s_putT (he : SimE K c t E Ep te qe) (hk : SimE K c t E Ep ta qa) : SimS K c t E Ep (sDPut (tVar i) ta te) (fun P δ => (∃ d, δ[i]? = some (some (.ow (.dT d)))) ∧ qPutT i qa qe P δ) := fun F0 H0 L F δ σ H De Dp er rs en hq => by
  obtain ⟨⟨d0, h0⟩, hq⟩ := hq
  obtain ⟨l, _, hx, _⟩ := rs.own h0
  refine he.vw er rs hq fun v F1 H1 m d g vv rp q => ?_
  have r1 := rs.grow g
  refine ⟨.ref l, hx, ?_⟩
  refine hk.vw er r1 q fun y F2 H2 m2 d2 g2 v2 rp2 q2 => ?_
  have r2 := r1.grow g2
  obtain ⟨kvs, ks, h1, rfl, hm, hz, q3⟩ := q2
  obtain ⟨l', o', hx', hl', hf', hn', ho'⟩ := r2.own h1
  rw [hx] at hx'
  cases hx'
  obtain ⟨xs, rfl, hrl⟩ := oo_dT ho'
  obtain ⟨b, ys, rfl, hb, hrb⟩ := vw_tup v2
  rw [rpl_keys' hrb] at hb
  refine ⟨l, _, rfl, .inr ⟨xs, ks, b, hl', rfl, g2.s _ _ hb, by rw [hrl.len]; exact Nat.lt_of_le_of_lt hz (by decide), rfl⟩, ?_⟩
  exact en.nx F2 _ σ _ (r2.upd h1 hx (show OO F2 (.dT (putK xs ks v)) (.dT (putD kvs ks d)) from hrl.put (Rp.mono (.of g2.f) (rp hm)))) q3
theorem s_setL (he : SimE K c t E Ep te qe) (hk : SimE K c t E Ep ta qa) : SimS K c t E Ep (tAsg te (gSub (tVar i) ta rSetL)) (fun P δ => (∃ d, δ[i]? = some (some (.ow (.lst d)))) ∧ qSetL i qa qe P δ) := fun F0 H0 L F δ σ H De Dp er rs en hq => by
  obtain ⟨⟨d0, h0⟩, hq⟩ := hq
  obtain ⟨l, _, hx, _⟩ := rs.own h0
  refine he.vw er rs hq fun v F1 H1 m d g vv rp q => ?_
  have r1 := rs.grow g
  refine ⟨.ref l, hx, ?_⟩
  refine hk.vw er r1 q fun y F2 H2 m2 d2 g2 v2 rp2 q2 => ?_
  have r2 := r1.grow g2
  obtain ⟨ds, n, k, h1, rfl, hm, hz, q3⟩ := q2
  obtain ⟨l', o', hx', hl', hf', hn', ho'⟩ := r2.own h1
  rw [hx] at hx'
  cases hx'
  obtain ⟨xs, rfl, hrl⟩ := oo_lst ho'
  refine ⟨l, xs, n, k, rfl, vw_int v2, hl', by rw [hrl.len]; exact hz, ?_⟩
  exact en.nx F2 _ σ _ (r2.upd h1 hx (show OO F2 (.lst (xs.set k v)) (.lst (ds.set k d)) from hrl.set (Rp.mono (.of g2.f) (rp hm)))) q3
end
end Sw
local macro_rules | `(tactic| walk_at "go1") => `(tactic| first
  | with_reducible refine Sw.g_seqasg ?_ | with_reducible refine Sw.g_op ?_ | with_reducible refine Sw.g_var rfl ?_ | with_reducible refine Sw.g_c ?_ | with_reducible refine Sw.g_I0 ?_
  | with_reducible refine Sw.g_cons ?_ | with_reducible refine Sw.g_nil ?_ | with_reducible refine Sw.g_call ?_ | with_reducible refine Sw.g_cb ?_ | with_reducible refine Sw.g_test ?_ | with_reducible refine Sw.g_bl ?_
  | with_reducible refine Sw.g_seqdrop ?_ | with_reducible refine Sw.g_seqsub ?_ | with_reducible refine Sw.g_asg ?_ | with_reducible refine Sw.g_asgsub ?_ | with_reducible refine Sw.g_ret ?_ | with_reducible refine Sw.g_drop ?_ | with_reducible refine Sw.g_if ?_ | with_reducible refine Sw.g_next ?_ | with_reducible refine Sw.g_name ?_
  | with_reducible refine Sw.g_B ?_ | with_reducible refine Sw.g_not ?_ | with_reducible refine Sw.g_and ?_ | with_reducible refine Sw.g_or ?_ | with_reducible refine Sw.g_andV ?_ | with_reducible refine Sw.g_orV ?_ | with_reducible refine Sw.g_notV ?_
  | with_reducible refine Sw.g_ifE ?_ | with_reducible refine Sw.g_chain ?_ | with_reducible refine Sw.g_un ?_ | with_reducible refine Sw.g_tup ?_ | with_reducible refine Sw.g_lst ?_ | with_reducible refine Sw.g_sl ?_ | with_reducible refine Sw.g_part ?_ | with_reducible refine Sw.g_nopart ?_
  | with_reducible refine Sw.g_U ?_ | with_reducible refine Sw.g_eq rfl ?_ | with_reducible refine Sw.g_ne rfl ?_ | with_reducible refine Sw.g_int ?_ | with_reducible refine Sw.g_yes ?_ | with_reducible refine L2.iteT ?_ | with_reducible refine L2.iteF ?_ | with_reducible refine Sw.iteNT ?_ | with_reducible refine Sw.iteNF ?_ | with_reducible refine Sw.g_m1 ?_ | with_reducible refine Sw.g_bm ?_ | with_reducible refine ⟨Sw.ty_lst (by assumption), ?_⟩ | with_reducible refine Sw.g_sput ?_ | with_reducible refine Sw.g_put ?_ | with_reducible refine Sw.g_dget2 ?_ | with_reducible refine Sw.g_dget ?_ | with_reducible refine Sw.g_dK ?_ | with_reducible refine Sw.g_dT ?_ | with_reducible refine Sw.g_dnotin ?_ | with_reducible refine Sw.g_din ?_ | with_reducible refine Sw.g_bm0 ?_
  | with_reducible refine Sw.g_ixL (by assumption) rfl ?_ | with_reducible refine Sw.g_ixT (by assumption) rfl ?_)
local macro_rules | `(tactic| walk_at "go") => `(tactic| repeat walk_at "go1")
local macro_rules | `(tactic| walk_at "bd") => `(tactic| repeat (first | with_reducible exact Sw.all_nil | refine Sw.all_cons ⟨_, rfl, by omega, by omega⟩ ?_))
local macro_rules | `(tactic| walk_at "new") => `(tactic| (refine ⟨Nat.le_of_ble_eq_true rfl, fun p np => ?_⟩; generalize hX : L2.upd _ p _ = H'; have sm : L2.Same _ H' := hX ▸ Sw.same_upd np; have hp : H' p = some _ := hX ▸ L2.upd_same; clear hX))
namespace Sw
open PySem PySem.Spec PyProof.Rows L2 SX
/-! ### walks -/
def Yields (J : It) (F1 H1 : Hp) (ds : List D) : Prop := (∀ (i : Nat) (d : D), ds[i]? = some d → J.go i H1 ∧ ∀ x H2, J.yld i H1 x H2 → ∃ F2, Grow none F1 H1 F2 H2 ∧ Rp F2 d x) ∧ J.stop ds.length H1
def ItOk (J : It) (F : Hp) (ds : List D) : Prop := ∀ F1 H1, Same F F1 → Same F1 H1 → Yields J F1 H1 ds
def ItOkP (t : Option Addr) (J : It) (F H : Hp) (ds : List D) : Prop := ∀ F1 H1, Grow t F H F1 H1 → Yields J F1 H1 ds
theorem ItOk.p {t : Option Addr} {J : It} {F H : Hp} {ds : List D} (h : ItOk J F ds) : ItOkP t J F H ds := fun F1 H1 g => h F1 H1 g.f g.s
def SimI (K : PySem.W.Frag) (c : Cl) (t : Option Addr) (E : XE) (Ep : XP) (wi : TI) (qi : QI) : Prop := ∀ F0 H0 L F δ σ H R Qp, ER K c t F0 H0 L E Ep → RS K t F0 H0 L F δ σ H → qi δ Qp →
  (∀ J F' H' m ds, Grow t F H F' H' → ItOkP t J F' H' ds → (m ≠ .pk → ItOk J F' ds) → Qp m ds → R J H') → wi σ H R
def qiList (e : QE) : QI := fun δ Q => e δ fun m d => ∃ ds, d = .lst ds ∧ Q m ds
def qiTup (e : QE) : QI := fun δ Q => e δ fun _ d => ∃ ds, d = .tup ds ∧ Q .sh ds
def qiStr (e : QE) : QI := fun δ Q => e δ fun _ d => ∃ l : List Nat, d = .str l ∧ Q .sh (l.map fun ch => .str [ch])
def rng (lo : Int) (n : Nat) : List Int := (List.range n).map fun k : Nat => lo + (k : Int)
def rngC (lo c : Int) (n : Nat) : List Int := (List.range n).map fun k : Nat => lo + (k : Int) * c
def qiR1 (e : QE) : QI := fun δ Q => e δ fun _ d => ∃ j : Int, d = .int j ∧ -(2 ^ 62) ≤ j ∧ j < 2 ^ 62 ∧ Q .sh ((rng 0 j.toNat).map .int)
def qiR2 (a b : QE) : QI := fun δ Q => a δ fun _ d => b δ fun _ e => ∃ i j : Int, d = .int i ∧ e = .int j ∧ (-(2 ^ 62) ≤ i ∧ i < 2 ^ 62 ∧ -(2 ^ 62) ≤ j ∧ j < 2 ^ 62) ∧ Q .sh ((rng i (j - i).toNat).map .int)
def qiR3 (a b e : QE) : QI := fun δ Q => a δ fun _ d1 => b δ fun _ d2 => e δ fun _ d3 => ∃ (i j c : Int) (n : Nat), d1 = .int i ∧ d2 = .int j ∧ d3 = .int c ∧ RgC i j c n ∧ Q .sh ((rngC i c n).map .int)
def qiEnum (e : QE) : QI := fun δ Q => e δ fun m d => ∃ ds, d = .lst ds ∧ Q m (ds.zipIdx.map fun p => .tup [.int (p.2 : Int), p.1])
def qiZip (a b : QE) : QI := fun δ Q => a δ fun m d => b δ fun m' e => ∃ ds es, d = .lst ds ∧ e = .lst es ∧ Q (if m = .pk ∨ m' = .pk then .pk else .sh) ((ds.zip es).map fun p => .tup [p.1, p.2])
section
variable {K : PySem.W.Frag} {c : Cl} {t : Option Addr} {E : XE} {Ep : XP} {te ta tb tc : TE} {qe qa qb qc : QE}
theorem uniqL {K : PySem.W.Frag} {H : Hp} {a : Addr} {xs : List V} (h : H a = some (.lst xs)) : SqL K H a xs := .inl (.inl h)
theorem yields_list {F1 H1 : Hp} {a : Addr} {xs : List V} {ds : List D} (s : Same F1 H1) (h : H1 a = some (.lst xs)) (r : RpL F1 ds xs) : Yields (Itl K a) F1 H1 ds := by
  refine ⟨fun i d e => ?_, xs, uniqL h, by rw [r.len]; exact Nat.le_refl _⟩
  obtain ⟨x, h1, h2⟩ := r.at e
  refine ⟨⟨xs, x, uniqL h, h1⟩, fun y H2 ⟨e1, e2⟩ => ?_⟩
  subst e1
  have := e2 xs (uniqL h)
  rw [h1] at this
  cases this
  exact ⟨F1, .refl s, h2⟩
theorem si_list (he : SimE K c t E Ep te qe) : SimI K c t E Ep (iList K te) (qiList qe) := fun F0 H0 L F δ σ H R Qp er rs hq k => by
  refine he.vw er rs hq fun x F1 H1 m d g v rp q => ?_
  obtain ⟨ds, rfl, q2⟩ := q
  obtain ⟨a, xs, rfl, h1, h2⟩ := vw_lst g.s v
  refine ⟨a, rfl, ⟨xs, uniqL h1⟩, k _ F1 H1 m ds g (fun F2 H2 g2 => ?_) (fun hm F2 H2 s1 s2 => ?_) q2⟩
  · obtain ⟨a', xs', e1, h3, h4⟩ := vw_lst g2.s (v.grow g2)
    cases e1
    exact yields_list g2.s h3 h4
  · obtain ⟨a', xs', e1, h3, h4⟩ := rp hm
    cases e1
    exact yields_list s2 (s2 _ _ (s1 _ _ h3)) (h4.mono (.of s1))
theorem si_tup (he : SimE K c t E Ep te qe) : SimI K c t E Ep (iTup K te) (qiTup qe) := fun F0 H0 L F δ σ H R Qp er rs hq k => by
  refine he.vw er rs hq fun x F1 H1 m d g v rp q => ?_
  obtain ⟨ds, rfl, q2⟩ := q
  obtain ⟨a, xs, rfl, h1, h2⟩ := vw_tup v
  have ok : ItOk (Itt K a) F1 ds := fun F2 H2 s1 s2 => by
    have hs : SqT K H2 a xs := .inl (.inl (s2 _ _ (s1 _ _ h1)))
    refine ⟨fun i d e => ?_, xs, hs, by rw [h2.len]; exact Nat.le_refl _⟩
    obtain ⟨y, h3, h4⟩ := h2.at e
    refine ⟨⟨xs, y, hs, h3⟩, fun z H3 ⟨e1, e2⟩ => ?_⟩
    subst e1
    have := e2 xs hs
    rw [h3] at this
    cases this
    exact ⟨F2, .refl s2, h4.mono (.of s1)⟩
  exact ⟨a, rfl, ⟨xs, .inl (.inl (g.s _ _ h1))⟩, k _ F1 H1 .sh ds g ok.p (fun _ => ok) q2⟩
theorem si_str (he : SimE K c t E Ep te qe) : SimI K c t E Ep (iStr te) (qiStr qe) := fun F0 H0 L F δ σ H R Qp er rs hq k => by
  refine he.vw er rs hq fun x F1 H1 m d g v rp q => ?_
  obtain ⟨l, rfl, q2⟩ := q
  have ok : ItOk (Its (S l)) F1 (l.map fun ch => .str [ch]) := fun F2 H2 s1 s2 => by
    refine ⟨fun i d e => ?_, by show (S l).cps.size ≤ _; simp⟩
    rw [List.getElem?_map] at e
    obtain ⟨ch, h1, rfl⟩ := Option.map_eq_some_iff.mp e
    have hl : i < l.length := (List.getElem?_eq_some_iff.mp h1).1
    refine ⟨by show i < (S l).cps.size; simpa using hl, fun z H3 ⟨e1, ch', h2, e2⟩ => ?_⟩
    subst e1 e2
    have : l[i]? = some ch' := by simpa using h2
    rw [h1] at this
    cases this
    exact ⟨F2, .refl s2, rfl⟩
  exact ⟨S l, vw_str v, k _ F1 H1 .sh _ g ok.p (fun _ => ok) q2⟩
theorem rng_at {lo : Int} {n i : Nat} {d : D} (h : ((rng lo n).map D.int)[i]? = some d) : i < n ∧ d = .int (lo + (i : Int)) := by
  unfold rng at h
  rw [List.map_map, List.getElem?_map] at h
  obtain ⟨z, h1, rfl⟩ := Option.map_eq_some_iff.mp h
  have h2 := List.getElem?_eq_some_iff.mp h1
  obtain ⟨h3, h4⟩ := h2
  rw [List.length_range] at h3
  rw [List.getElem_range] at h4
  exact ⟨h3, by rw [← h4]; rfl⟩
theorem rngC_at {lo s : Int} {n i : Nat} {d : D} (h : ((rngC lo s n).map D.int)[i]? = some d) : i < n ∧ d = .int (lo + (i : Int) * s) := by
  unfold rngC at h
  rw [List.map_map, List.getElem?_map] at h
  obtain ⟨z, h1, rfl⟩ := Option.map_eq_some_iff.mp h
  have h2 := List.getElem?_eq_some_iff.mp h1
  obtain ⟨h3, h4⟩ := h2
  rw [List.length_range] at h3
  rw [List.getElem_range] at h4
  exact ⟨h3, by rw [← h4]; rfl⟩
theorem itr_ok {F : Hp} {lo : Int} {n : Nat} : ItOk (Itr lo n) F ((rng lo n).map .int) := fun F1 H1 s1 s2 => by
  refine ⟨fun i d e => ?_, by show n ≤ _; simp [rng]⟩
  obtain ⟨hi, rfl⟩ := rng_at e
  refine ⟨hi, fun x H2 ⟨e1, e2⟩ => ?_⟩
  subst e1 e2
  exact ⟨F1, .refl s2, rfl⟩
theorem itc_ok {F : Hp} {lo s : Int} {n : Nat} : ItOk (Itc lo s n) F ((rngC lo s n).map .int) := fun F1 H1 s1 s2 => by
  refine ⟨fun i d e => ?_, by show n ≤ _; simp [rngC]⟩
  obtain ⟨hi, rfl⟩ := rngC_at e
  refine ⟨hi, fun x H2 ⟨e1, e2⟩ => ?_⟩
  subst e1 e2
  exact ⟨F1, .refl s2, rfl⟩
theorem si_r1 (he : SimE K c t E Ep te qe) : SimI K c t E Ep (iRng1 (tCons te tNil)) (qiR1 qe) := fun F0 H0 L F δ σ H R Qp er rs hq k => by
  refine he.vw er rs hq fun x F1 H1 m d g v rp q => ?_
  obtain ⟨j, rfl, h1, h2, q2⟩ := q
  exact ⟨j, by rw [vw_int v], h1, h2, k _ F1 H1 .sh _ g itr_ok.p (fun _ => itr_ok) q2⟩
theorem si_r2 (ha : SimE K c t E Ep ta qa) (hb : SimE K c t E Ep tb qb) : SimI K c t E Ep (iRng2 (tCons ta (tCons tb tNil))) (qiR2 qa qb) := fun F0 H0 L F δ σ H R Qp er rs hq k => by
  refine ha.vw er rs hq fun x F1 H1 m d g v rp q => ?_
  refine hb.vw er (rs.grow g) q fun y F2 H2 m2 e g2 v2 rp2 q2 => ?_
  obtain ⟨i, j, rfl, rfl, h1, q3⟩ := q2
  exact ⟨i, j, by rw [vw_int v, vw_int v2], h1, k _ F2 H2 .sh _ (g.trans g2 rs.st.dr) itr_ok.p (fun _ => itr_ok) q3⟩
theorem si_r3 (ha : SimE K c t E Ep ta qa) (hb : SimE K c t E Ep tb qb) (hc : SimE K c t E Ep tc qc) : SimI K c t E Ep (iRng3 (tCons ta (tCons tb (tCons tc tNil)))) (qiR3 qa qb qc) := fun F0 H0 L F δ σ H R Qp er rs hq k => by
  refine ha.vw er rs hq fun x F1 H1 m d g v rp q => ?_
  refine hb.vw er (rs.grow g) q fun y F2 H2 m2 e g2 v2 rp2 q2 => ?_
  have g12 := g.trans g2 rs.st.dr
  refine hc.vw er (rs.grow g12) q2 fun z F3 H3 m3 e3 g3 v3 rp3 q3 => ?_
  obtain ⟨i, j, s, n, rfl, rfl, rfl, h1, q4⟩ := q3
  exact ⟨i, j, s, n, by rw [vw_int v, vw_int v2, vw_int v3], h1, k _ F3 H3 .sh _ (g12.trans g3 rs.st.dr) itc_ok.p (fun _ => itc_ok) q4⟩
theorem yields_enum {F1 H1 : Hp} {a : Addr} {xs : List V} {ds : List D} (s : Same F1 H1) (h : H1 a = some (.lst xs)) (r : RpL F1 ds xs) : Yields (Ite K a) F1 H1 (ds.zipIdx.map fun p => .tup [.int (p.2 : Int), p.1]) := by
  refine ⟨fun i d e => ?_, xs, uniqL h, by rw [r.len, List.length_map, List.length_zipIdx]; exact Nat.le_refl _⟩
  rw [List.getElem?_map, List.getElem?_zipIdx] at e
  obtain ⟨p, e1, rfl⟩ := Option.map_eq_some_iff.mp e
  obtain ⟨d, e2, rfl⟩ := Option.map_eq_some_iff.mp e1
  obtain ⟨x, h1, h2⟩ := r.at e2
  refine ⟨⟨xs, x, uniqL h, h1⟩, fun y H2 ⟨T, z, e1, e2, e3, e4⟩ => ?_⟩
  have := e4 xs (uniqL h)
  rw [h1] at this
  cases this
  subst e1 e3
  refine ⟨_, .new s e2, T, _, rfl, upd_same, ?_⟩
  have e5 : ((0 + i : Nat) : Int) = (i : Int) := by omega
  exact ⟨_, _, rfl, by show V.int _ = V.int _; rw [e5], _, _, rfl, h2.mono (.of (same_upd (s.free e2))), rfl⟩
theorem si_enum (he : SimE K c t E Ep te qe) : SimI K c t E Ep (iEnum K (tCons te tNil)) (qiEnum qe) := fun F0 H0 L F δ σ H R Qp er rs hq k => by
  refine he.vw er rs hq fun x F1 H1 m d g v rp q => ?_
  obtain ⟨ds, rfl, q2⟩ := q
  obtain ⟨a, xs, rfl, h1, h2⟩ := vw_lst g.s v
  refine ⟨a, xs, rfl, uniqL h1, k _ F1 H1 m _ g (fun F2 H2 g2 => ?_) (fun hm F2 H2 s1 s2 => ?_) q2⟩
  · obtain ⟨a', xs', e1, h3, h4⟩ := vw_lst g2.s (v.grow g2)
    cases e1
    exact yields_enum g2.s h3 h4
  · obtain ⟨a', xs', e1, h3, h4⟩ := rp hm
    cases e1
    exact yields_enum s2 (s2 _ _ (s1 _ _ h3)) (h4.mono (.of s1))
theorem yields_zip {F1 H1 : Hp} {a b : Addr} {xs ys : List V} {ds es : List D} (s : Same F1 H1) (h : H1 a = some (.lst xs)) (r : RpL F1 ds xs) (h' : H1 b = some (.lst ys)) (r' : RpL F1 es ys) : Yields (Itz K a b) F1 H1 ((ds.zip es).map fun p => .tup [p.1, p.2]) := by
  refine ⟨fun i d e => ?_, xs, ys, uniqL h, uniqL h', by rw [r.len, r'.len, List.length_map, List.length_zip]; omega⟩
  rw [List.getElem?_map] at e
  obtain ⟨p, e1, rfl⟩ := Option.map_eq_some_iff.mp e
  obtain ⟨e2, e3⟩ := List.getElem?_zip_eq_some.mp e1
  obtain ⟨x, h1, h2⟩ := r.at e2
  obtain ⟨y, h3, h4⟩ := r'.at e3
  refine ⟨⟨xs, ys, x, y, uniqL h, uniqL h', h1, h3⟩, fun v H2 ⟨T, z, w, e1, e2, e3, e4, e5⟩ => ?_⟩
  have z1 := e4 xs (uniqL h)
  rw [h1] at z1
  cases z1
  have z2 := e5 ys (uniqL h')
  rw [h3] at z2
  cases z2
  subst e1 e3
  have sm : Same F1 (upd F1 T (.tup [x, y])) := same_upd (s.free e2)
  exact ⟨_, .new s e2, T, _, rfl, upd_same, _, _, rfl, h2.mono (.of sm), _, _, rfl, h4.mono (.of sm), rfl⟩
theorem si_zip (ha : SimE K c t E Ep ta qa) (hb : SimE K c t E Ep tb qb) : SimI K c t E Ep (iZip K (tCons ta (tCons tb tNil))) (qiZip qa qb) := fun F0 H0 L F δ σ H R Qp er rs hq k => by
  refine ha.vw er rs hq fun x F1 H1 m d g v rp q => ?_
  refine hb.vw er (rs.grow g) q fun y F2 H2 m2 e g2 v2 rp2 q2 => ?_
  obtain ⟨ds, es, rfl, rfl, q3⟩ := q2
  have v1 := v.grow g2
  obtain ⟨a, xs, rfl, h1, h2⟩ := vw_lst g2.s v1
  obtain ⟨b, ys, rfl, h3, h4⟩ := vw_lst g2.s v2
  refine ⟨a, b, xs, ys, rfl, uniqL h1, uniqL h3, k _ F2 H2 _ _ (g.trans g2 rs.st.dr) (fun F3 H3 g3 => ?_) (fun hm F3 H3 s1 s2 => ?_) q3⟩
  · obtain ⟨a', xs', e1, h5, h6⟩ := vw_lst g3.s (v1.grow g3)
    cases e1
    obtain ⟨b', ys', e1, h7, h8⟩ := vw_lst g3.s (v2.grow g3)
    cases e1
    exact yields_zip g3.s h5 h6 h7 h8
  · have m1 : m ≠ .pk := fun z => hm (if_pos (.inl z))
    have m3 : m2 ≠ .pk := fun z => hm (if_pos (.inr z))
    obtain ⟨a', xs', e1, h5, h6⟩ := (rp m1).mono (.of (g2.f.trans s1))
    cases e1
    obtain ⟨b', ys', e1, h7, h8⟩ := (rp2 m3).mono (.of s1)
    cases e1
    exact yields_zip s2 (s2 _ _ h5) h6 (s2 _ _ h7) h8
end
/-! ### targets -/
def qgName (i : Nat) : QG := fun d δ Q => Q (δ.set i (some (.sh d)))
abbrev QGs := List D → DS → (DS → Prop) → Prop
def qgNil : QGs := fun ds δ Q => ds = [] ∧ Q δ
def qgCons (g : QG) (r : QGs) : QGs := fun ds δ Q => ∃ d es, ds = d :: es ∧ g d δ fun δ' => r es δ' Q
def qgTup (n : Nat) (g : QGs) : QG := fun d δ Q => ∃ ds, d = .tup ds ∧ ds.length = n ∧ g ds δ Q
section
variable {K : PySem.W.Frag} {t : Option Addr}
def SimGs (K : PySem.W.Frag) (t : Option Addr) (nm : List Nat) (tg : TGs) (qg : QGs) : Prop := ∀ F0 H0 L F δ σ H Q Qp xs ds, RS K t F0 H0 L F δ σ H → RpL F ds xs → qg ds δ Qp → (∀ δ' σ', RS K t F0 H0 L F δ' σ' H → (∀ vs : List Nat, (∀ i ∈ nm, i ∈ vs) → L2.wipe σ' vs = L2.wipe σ vs) → Qp δ' → Q σ' H) → tg xs σ H Q
theorem wipe_set {σ : L2.St} {i : Nat} {x : Option V} : ∀ {vs : List Nat}, i ∈ vs → L2.wipe (σ.set i x) vs = L2.wipe σ vs
  | [], h => nomatch h
  | v :: vs, h => by
    show (L2.wipe (σ.set i x) vs).set v none = (L2.wipe σ vs).set v none
    by_cases hv : i ∈ vs
    · rw [wipe_set hv]
    · have e : i = v := (List.mem_cons.mp h).resolve_right hv
      subst e
      have key : ∀ (us : List Nat) (τ : L2.St), (L2.wipe (τ.set i x) us).set i none = (L2.wipe τ us).set i none := by
        intro us
        induction us with
        | nil => intro τ; show (τ.set i x).set i none = τ.set i none; rw [List.set_set]
        | cons u us ih =>
          intro τ
          show ((L2.wipe (τ.set i x) us).set u none).set i none = ((L2.wipe τ us).set u none).set i none
          by_cases hu : u = i
          · subst hu; rw [List.set_set, List.set_set]; exact ih τ
          · rw [List.set_comm _ _ hu, ih τ, ← List.set_comm _ _ hu]
      exact key vs σ
theorem sg_name {i : Nat} : SimG K t [i] (gName i) (qgName i) := fun F0 H0 L F δ σ H Q Qp x d rs h q k => k _ _ (rs.setS h) (fun vs hv => wipe_set (hv i List.mem_cons_self)) q
theorem sg_nil : SimGs K t [] gNil qgNil := fun F0 H0 L F δ σ H Q Qp xs ds rs h q k => by
  obtain ⟨rfl, q⟩ := q
  exact ⟨h, k δ σ rs (fun _ _ => rfl) q⟩
theorem sg_cons {g : TG} {qg : QG} {r : TGs} {qr : QGs} {n1 n2 : List Nat} (hg : SimG K t n1 g qg) (hr : SimGs K t n2 r qr) : SimGs K t (n1 ++ n2) (gCons g r) (qgCons qg qr) := fun F0 H0 L F δ σ H Q Qp xs ds rs h q k => by
  obtain ⟨d, es, rfl, q⟩ := q
  obtain ⟨x, ys, rfl, h1, h2⟩ := h
  refine ⟨x, ys, rfl, hg F0 H0 L F δ σ H _ _ x d rs h1 q fun δ1 σ1 r1 w1 q1 => ?_⟩
  exact hr F0 H0 L F δ1 σ1 H _ _ ys es r1 h2 q1 fun δ2 σ2 r2 w2 q2 => k δ2 σ2 r2 (fun vs hv => (w2 vs fun i hi => hv i (List.mem_append_right _ hi)).trans (w1 vs fun i hi => hv i (List.mem_append_left _ hi))) q2
theorem sg_tup {n : Nat} {r : TGs} {qr : QGs} {nm : List Nat} (hr : SimGs K t nm r qr) : SimG K t nm (gTup K n r) (qgTup n qr) := fun F0 H0 L F δ σ H Q Qp x d rs h q k => by
  obtain ⟨ds, rfl, hl, q⟩ := q
  obtain ⟨a, xs, rfl, h1, h2⟩ := h
  exact ⟨a, xs, rfl, .inl (.inl (rs.st.s _ _ h1)), by rw [h2.len]; exact hl, hr F0 H0 L F δ σ H _ _ xs ds rs h2 q k⟩
end
/-! ### loops -/
def loop (g : QG) (b : QS) (P : Pn) : List D → DS → Prop
  | [], δ => P.nx δ
  | x :: xs, δ => g x δ fun δ' => b { P with nx := loop g b P xs, ct := loop g b P xs, bk := P.nx } δ'
def qFor (i : QI) (g : QG) (b : QS) : QS := fun P δ => i δ fun m ds => m ≠ .pk ∧ loop g b P ds δ
def qWhile (q : QT) (b : QS) : QS := fun P δ => ∃ W : Nat → DS → Prop, (∃ m, W m δ) ∧ ∀ m δ, W m δ → q δ fun k => if k = true then b { P with nx := fun δ' => ∃ m', m' < m ∧ W m' δ', ct := fun δ' => ∃ m', m' < m ∧ W m' δ', bk := P.nx } δ else P.nx δ
def qAsgG (e : QE) (g : QG) : QS := fun P δ => e δ fun m d => m ≠ .pk ∧ g d δ P.nx
section
variable {K : PySem.W.Frag} {c : Cl} {t : Option Addr} {E : XE} {Ep : XP} {te : TE} {qe : QE} {tt : TT} {qt : QT} {ts : TS} {qs : QS} {wi : TI} {qi : QI} {g : TG} {qg : QG} {nm : List Nat}
theorem drop_at {ds : List D} {i : Nat} {d : D} (h : ds[i]? = some d) : ds.drop i = d :: ds.drop (i + 1) := by
  obtain ⟨h1, h2⟩ := List.getElem?_eq_some_iff.mp h
  rw [List.drop_eq_getElem_cons h1, h2]
def ForW (g : TG) (ts : TS) (De : Ends) (σ : L2.St) (J : It) (H1 : Hp) : Prop := ∃ W : Nat → Nat → L2.St → Hp → Prop, (∃ m, W 0 m σ H1) ∧ ∀ i m σ H, W i m σ H →
      (J.stop i H ∧ De.nx σ H) ∨ (J.go i H ∧ ∃ N : L2.St → Hp → Prop, (∀ σ' H', N σ' H' → ∃ m', m' < m ∧ W (i + 1) m' σ' H') ∧ ∀ x H', J.yld i H x H' → g x σ H' fun σ2 H2 => ts { De with nx := N, ct := N, bk := De.nx } σ2 H2)
theorem for_core {F0 H0 L F1 H1 : Hp} {δ : DS} {σ : L2.St} {De : Ends} {Dp : Pn} {J : It} {ds : List D} (hg : SimG K t nm g qg) (hb : SimS K c t E Ep ts qs) (er : ER K c t F0 H0 L E Ep) (r1 : RS K t F0 H0 L F1 δ σ H1) (en : EndsR K t F0 H0 L De Dp) (ok : ItOk J F1 ds) (q : loop qg qs Dp ds δ) :
    ForW g ts De σ J H1 := by
  have lo1 : Same L F1 := r1.lo
  have er1 : ER K c t F0 H0 F1 E Ep := er.low lo1
  refine ⟨fun i m σ' H' => m = ds.length - i ∧ i ≤ ds.length ∧ ∃ F' δ', RS K t F0 H0 F1 F' δ' σ' H' ∧ loop qg qs Dp (ds.drop i) δ', ⟨ds.length, by omega, by omega, F1, δ, r1.at, by rw [List.drop_zero]; exact q⟩, ?_⟩
  rintro i m σ' H' ⟨rfl, hi, F', δ', r', q'⟩
  have y := ok F' H' r'.lo r'.st.s
  by_cases hlt : i < ds.length
  · have hd := List.getElem?_eq_getElem hlt
    generalize ds[i] = d at hd
    obtain ⟨y1, y2⟩ := y.1 i d hd
    refine .inr ⟨y1, fun σ2 H2 => ∃ F2 δ2, RS K t F0 H0 F1 F2 δ2 σ2 H2 ∧ loop qg qs Dp (ds.drop (i + 1)) δ2, fun σ2 H2 ⟨F2, δ2, r2, q2⟩ => ⟨ds.length - (i + 1), by omega, rfl, by omega, F2, δ2, r2, q2⟩, fun x H2 hy => ?_⟩
    obtain ⟨F2, g2, rp⟩ := y2 x H2 hy
    replace g2 := g2.any (t := t)
    rw [drop_at hd] at q'
    refine hg F0 H0 F1 F2 δ' σ' H2 _ _ x d (r'.grow g2) rp q' fun δ3 σ3 r3 _ q3 => ?_
    refine hb F0 H0 F1 F2 δ3 σ3 H2 _ { Dp with nx := loop qg qs Dp (ds.drop (i + 1)), ct := loop qg qs Dp (ds.drop (i + 1)), bk := Dp.nx } er1 r3 ⟨?_, fun F4 H4 x4 m4 d4 g4 l4 => en.rt F4 H4 x4 m4 d4 g4 (lo1.trans l4), ?_, ?_⟩ q3
    · exact fun F4 δ4 σ4 H4 r4 q4 => ⟨F4, δ4, r4, q4⟩
    · exact fun F4 δ4 σ4 H4 r4 q4 => en.nx F4 δ4 σ4 H4 (r4.low lo1) q4
    · exact fun F4 δ4 σ4 H4 r4 q4 => ⟨F4, δ4, r4, q4⟩
  · have e : i = ds.length := by omega
    subst e
    rw [List.drop_length] at q'
    exact .inl ⟨y.2, en.nx F' δ' σ' H' (r'.low lo1) q'⟩
theorem s_for (hi : SimI K c t E Ep wi qi) (hg : SimG K t nm g qg) (hb : SimS K c t E Ep ts qs) : SimS K c t E Ep (tFor wi g ts) (qFor qi qg qs) := fun F0 H0 L F δ σ H De Dp er rs en hq => by
  refine hi F0 H0 L F δ σ H _ _ er rs hq fun J F1 H1 m ds g1 _ ok q => ?_
  exact for_core hg hb er (rs.grow g1) en (ok q.1) q.2
theorem s_while (ht : SimT K c t E Ep tt qt) (hb : SimS K c t E Ep ts qs) : SimS K c t E Ep (tWhile tt ts) (qWhile qt qs) := fun F0 H0 L F δ σ H De Dp er rs en hq => by
  obtain ⟨W, ⟨m, w⟩, hw⟩ := hq
  refine ⟨fun m σ' H' => ∃ F' δ', RS K t F0 H0 L F' δ' σ' H' ∧ W m δ', ⟨m, F, δ, rs, w⟩, ?_⟩
  rintro m σ' H' ⟨F', δ', r', w'⟩
  refine ht F0 H0 L F' δ' σ' H' _ _ er r' (hw m δ' w') fun b F1 H1 g1 q1 => ?_
  cases b with
  | true =>
    refine ⟨fun σ2 H2 => ∃ m', m' < m ∧ ∃ F' δ', RS K t F0 H0 L F' δ' σ2 H2 ∧ W m' δ', fun _ _ h => h, ?_⟩
    refine hb F0 H0 L F1 δ' σ' H1 _ { Dp with nx := fun δ' => ∃ m', m' < m ∧ W m' δ', ct := fun δ' => ∃ m', m' < m ∧ W m' δ', bk := Dp.nx } er (r'.grow g1) ⟨?_, en.rt, ?_, ?_⟩ q1
    · rintro F4 δ4 σ4 H4 r4 ⟨m', hm, w4⟩
      exact ⟨m', hm, F4, δ4, r4, w4⟩
    · exact en.nx
    · rintro F4 δ4 σ4 H4 r4 ⟨m', hm, w4⟩
      exact ⟨m', hm, F4, δ4, r4, w4⟩
  | false => exact en.nx F1 δ' σ' H1 (r'.grow g1) q1
theorem s_asgG (he : SimE K c t E Ep te qe) (hg : SimG K t nm g qg) : SimS K c t E Ep (tAsg te g) (qAsgG qe qg) := fun F0 H0 L F δ σ H De Dp er rs en hq => by
  refine he.vw er rs hq fun x F1 H1 m d g1 v rp q => ?_
  exact hg F0 H0 L F1 δ σ H1 _ _ x d (rs.grow g1) (rp q.1) q.2 fun δ2 σ2 r2 _ q2 => en.nx F1 δ2 σ2 H1 r2 q2
end
end Sw
local macro_rules | `(tactic| walk_at "go1") => `(tactic| first
  | with_reducible refine Sw.g_seqasg ?_ | with_reducible refine Sw.g_op ?_ | with_reducible refine Sw.g_var rfl ?_ | with_reducible refine Sw.g_c ?_ | with_reducible refine Sw.g_I0 ?_
  | with_reducible refine Sw.g_cons ?_ | with_reducible refine Sw.g_nil ?_ | with_reducible refine Sw.g_call ?_ | with_reducible refine Sw.g_cb ?_ | with_reducible refine Sw.g_test ?_ | with_reducible refine Sw.g_bl ?_
  | with_reducible refine Sw.g_seqdrop ?_ | with_reducible refine Sw.g_seqsub ?_ | with_reducible refine Sw.g_asg ?_ | with_reducible refine Sw.g_asgsub ?_ | with_reducible refine Sw.g_ret ?_ | with_reducible refine Sw.g_drop ?_ | with_reducible refine Sw.g_if ?_ | with_reducible refine Sw.g_next ?_ | with_reducible refine Sw.g_name ?_
  | with_reducible refine Sw.g_B ?_ | with_reducible refine Sw.g_not ?_ | with_reducible refine Sw.g_and ?_ | with_reducible refine Sw.g_or ?_ | with_reducible refine Sw.g_andV ?_ | with_reducible refine Sw.g_orV ?_ | with_reducible refine Sw.g_notV ?_
  | with_reducible refine Sw.g_ifE ?_ | with_reducible refine Sw.g_chain ?_ | with_reducible refine Sw.g_un ?_ | with_reducible refine Sw.g_tup ?_ | with_reducible refine Sw.g_lst ?_ | with_reducible refine Sw.g_sl ?_ | with_reducible refine Sw.g_part ?_ | with_reducible refine Sw.g_nopart ?_
  | with_reducible refine Sw.g_U ?_ | with_reducible refine Sw.g_eq rfl ?_ | with_reducible refine Sw.g_ne rfl ?_ | with_reducible refine Sw.g_int ?_ | with_reducible refine Sw.g_yes ?_ | with_reducible refine L2.iteT ?_ | with_reducible refine L2.iteF ?_ | with_reducible refine Sw.iteNT ?_ | with_reducible refine Sw.iteNF ?_ | with_reducible refine Sw.g_m1 ?_ | with_reducible refine Sw.g_bm ?_ | with_reducible refine ⟨Sw.ty_lst (by assumption), ?_⟩ | with_reducible refine Sw.g_sput ?_ | with_reducible refine Sw.g_put ?_ | with_reducible refine Sw.g_dget2 ?_ | with_reducible refine Sw.g_dget ?_ | with_reducible refine Sw.g_dK ?_ | with_reducible refine Sw.g_dT ?_ | with_reducible refine Sw.g_dnotin ?_ | with_reducible refine Sw.g_din ?_ | with_reducible refine Sw.g_bm0 ?_
  | with_reducible refine Sw.g_ixL (by assumption) rfl ?_ | with_reducible refine Sw.g_ixT (by assumption) rfl ?_)
local macro_rules | `(tactic| walk_at "go") => `(tactic| repeat walk_at "go1")
local macro_rules | `(tactic| walk_at "bd") => `(tactic| repeat (first | with_reducible exact Sw.all_nil | refine Sw.all_cons ⟨_, rfl, by omega, by omega⟩ ?_))
local macro_rules | `(tactic| walk_at "new") => `(tactic| (refine ⟨Nat.le_of_ble_eq_true rfl, fun p np => ?_⟩; generalize hX : L2.upd _ p _ = H'; have sm : L2.Same _ H' := hX ▸ Sw.same_upd np; have hp : H' p = some _ := hX ▸ L2.upd_same; clear hX))
namespace Sw
open PySem PySem.Spec PyProof.Rows L2 SX
/-! ### comprehensions -/
def wipeD (δ : DS) : List Nat → DS
  | [] => δ
  | v :: vs => (wipeD δ vs).set v none
def lcGo (δ : DS) (g : QG) (tt : QT) (e : QE) (Q : List D → Prop) : List D → List D → Prop
  | [], acc => Q acc
  | x :: xs, acc => g x δ fun δ' => tt δ' fun b => if b = true then e δ' fun m d => m ≠ .pk ∧ acc.length ≤ 1000000 ∧ lcGo δ g tt e Q xs (acc ++ [d]) else lcGo δ g tt e Q xs acc
def qLc (i : QI) (g : QG) (tt : QT) (e : QE) (vs : List Nat) : QE := fun δ Q => i δ fun _ ds => lcGo (wipeD δ vs) g tt e (fun acc => Q .ow (.lst acc)) ds []
theorem RS.wipe {K : PySem.W.Frag} {t : Option Addr} {F0 H0 L F H : Hp} {δ : DS} {σ : L2.St} (r : RS K t F0 H0 L F δ σ H) : ∀ (vs : List Nat), RS K t F0 H0 L F (wipeD δ vs) (L2.wipe σ vs) H
  | [] => r
  | _ :: vs => (r.wipe vs).setN
theorem wipe_wipe (σ : L2.St) (vs : List Nat) : ∀ us : List Nat, (∀ i ∈ us, i ∈ vs) → L2.wipe (L2.wipe σ us) vs = L2.wipe σ vs
  | [], _ => rfl
  | u :: us, h => by
    show L2.wipe ((L2.wipe σ us).set u none) vs = _
    rw [wipe_set (h u List.mem_cons_self), wipe_wipe σ vs us fun i hi => h i (List.mem_cons_of_mem _ hi)]
section
variable {K : PySem.W.Frag} {c : Cl} {t : Option Addr} {E : XE} {Ep : XP} {te : TE} {qe : QE} {tt : TT} {qt : QT} {wi : TI} {qi : QI} {g : TG} {qg : QG} {vs nm : List Nat}
theorem s_lc (hi : SimI K c t E Ep wi qi) (hg : SimG K t nm g qg) (hw : ∀ i ∈ nm, i ∈ vs) (ht : SimT K c t E Ep tt qt) (he : SimE K c t E Ep te qe) : SimE K c t E Ep (tLc wi g tt te vs) (qLc qi qg qt qe vs) := fun F0 H0 L F δ σ H Q Qp er rs hq k => by
  refine hi F0 H0 L F δ σ H _ _ er rs hq fun J F1 H1 m ds g1 ok _ q => ?_
  intro Dl nD
  have r1 := rs.grow g1
  have tD : some Dl ≠ t := tape_ne r1.st.dr nD
  refine ⟨fun i m H' => m = ds.length - i ∧ i ≤ ds.length ∧ ∃ F' xs acc, Grow t F1 H1 F' H' ∧ H' Dl = some (.lst xs) ∧ F' Dl = none ∧ RpL F' acc xs ∧ lcGo (wipeD δ vs) qg qt qe (fun acc => Qp .ow (.lst acc)) (ds.drop i) acc,
    ⟨ds.length, by omega, by omega, F1, [], [], .own g1.s nD, upd_same, g1.s.free nD, rfl, by rw [List.drop_zero]; exact q⟩, ?_⟩
  rintro i m H' ⟨rfl, hi, F', xs, acc, g', hD, fD, ra, q'⟩
  have y := ok F' H' g'
  have r' := r1.grow g'
  by_cases hlt : i < ds.length
  · have hd := List.getElem?_eq_getElem hlt
    generalize ds[i] = d at hd
    obtain ⟨y1, y2⟩ := y.1 i d hd
    refine .inr ⟨y1, fun H2 => ∃ F2 xs acc, Grow t F1 H1 F2 H2 ∧ H2 Dl = some (.lst xs) ∧ F2 Dl = none ∧ RpL F2 acc xs ∧ lcGo (wipeD δ vs) qg qt qe (fun acc => Qp .ow (.lst acc)) (ds.drop (i + 1)) acc, fun H2 h => ⟨ds.length - (i + 1), by omega, rfl, by omega, h⟩, fun x H2 hy => ?_⟩
    obtain ⟨F2, g2, rp⟩ := y2 x H2 hy
    replace g2 := g2.any (t := t)
    rw [drop_at hd] at q'
    refine hg F0 H0 L F2 (wipeD δ vs) (L2.wipe σ vs) H2 _ _ x d ((r'.grow g2).wipe vs) rp q' fun δ3 σ3 r3 w3 q3 => ?_
    refine ⟨(w3 vs hw).trans (wipe_wipe σ vs vs fun _ h => h), ?_⟩
    refine ht F0 H0 L F2 δ3 σ3 H2 _ _ er r3 q3 fun b F4 H4 g4 q4 => ?_
    have ga : Grow t F' H' F4 H4 := g2.trans g4 r'.st.dr
    have gb : Grow t F1 H1 F4 H4 := g'.trans ga r1.st.dr
    have nt : ∀ {Fx Hx Fy Hy : Hp} {zs : List V}, Grow t Fx Hx Fy Hy → Hx Dl = some (.lst zs) → Fx Dl = none → Hy Dl = some (.lst zs) ∧ Fy Dl = none := fun gg h1 h2 => ⟨gg.h _ _ h1 tD, gg.n _ h2 (by rw [h1]; exact Option.some_ne_none _) fun ys z => by rw [h1] at z; cases z⟩
    obtain ⟨hD4, fD4⟩ := nt ga hD fD
    cases b with
    | false => exact ⟨F4, xs, acc, gb, hD4, fD4, ra.mono (.of ga.f), q4⟩
    | true =>
      refine he.vw er (r3.grow g4) q4 fun z F5 H5 m5 d5 g5 v5 rp5 q5 => ?_
      obtain ⟨hm, hz, q6⟩ := q5
      obtain ⟨hD5, fD5⟩ := nt g5 hD4 fD4
      have gc := gb.trans g5 r1.st.dr
      refine ⟨xs, hD5, by rw [ra.len]; exact Nat.lt_of_le_of_lt hz (by decide), F5, xs ++ [z], acc ++ [d5], ?_, upd_same, fD5, (ra.mono (.of (ga.f.trans g5.f))).app (.one (rp5 hm)), q6⟩
      exact {
        z := gc.z
        f := gc.f
        h := fun b o e n => by rw [upd_ne (ne_of_none e nD)]; exact gc.h b o e n
        d := fun b e z => by
          by_cases hb : b = Dl
          · subst hb; rw [upd_same] at z; cases z
          · rw [upd_ne hb] at z; exact gc.d b e z
        n := gc.n
        s := fun b o e => by rw [upd_ne (ne_of_none e fD5)]; exact gc.s b o e
        t := fun a e h => by
          obtain ⟨c1, s1, p1, z1, z2⟩ := gc.t a e h
          exact ⟨c1, s1, p1, by rw [upd_ne (fun w => tD (by rw [e, w]))]; exact z1, z2⟩ }
  · have e : i = ds.length := by omega
    subst e
    rw [List.drop_length] at q'
    exact .inl ⟨y.2, k (.ref Dl) F' H' .ow (.lst acc) (g1.trans g' rs.st.dr) ⟨Dl, .lst xs, rfl, g1.pre nD, hD, fD, tD, ra⟩ q'⟩
end
/-! ### calls -/
abbrev PSp := List Ar → (Md → D → Prop) → (Nat → Prop) → Prop
def Ar.un : Ar → Ar
  | .pk d => .sh d
  | a => a
def Ar.isPk : Ar → Bool
  | .pk _ => true
  | _ => false
def scalD : D → Bool
  | .non => true | .bl _ => true | .int _ => true | .str _ => true | _ => false
/-- the promise over data as a promise over the heap -/
def lift (K : PySem.W.Frag) (c : Cl) (psp : PSp) : Sp := fun vs H Q E => ∃ t F as Qp Ep, Same F H ∧ (∀ a, t = some a → Dr H a ∧ F a = none) ∧ AvL K t F H vs as ∧ as.any Ar.isPk = false ∧ psp as Qp Ep ∧
  (∀ x F' H' m d, Grow t F H F' H' → RV t H F' H' x m d → m ≠ .pk → Qp m d → Q x H') ∧ ∀ n F' H', Grow t F H F' H' → Ep n → E (.ref (c.at n)) none H'
def qCall (psp : PSp) (Ep : XP) (a : QA) : QE := fun δ Q => a δ fun as => psp (as.map Ar.un) (fun m d => (as.any Ar.isPk = true → scalD d = true) ∧ Q m d) (Ep δ)
section
variable {K : PySem.W.Frag} {c : Cl} {t : Option Addr}
theorem avl_len {F H : Hp} : ∀ {xs : List V} {as : List Ar}, AvL K t F H xs as → xs.length = as.length
  | [], [], _ => rfl
  | _ :: _, _ :: _, h => by rw [List.length_cons, List.length_cons, avl_len h.2]
  | [], _ :: _, h => False.elim h
  | _ :: _, [], h => False.elim h
/-- what stands to be read only is frozen for a call -/
theorem avl_un {F H : Hp} (s : Same F H) (ht : ∀ a, t = some a → Dr H a ∧ F a = none) : ∀ {xs : List V} {as : List Ar}, AvL K t F H xs as → ∃ F', Same F F' ∧ Same F' H ∧ (∀ a, t = some a → F' a = none) ∧ AvL K t F' H xs (as.map Ar.un)
  | [], [], _ => ⟨F, .refl _, s, fun a e => (ht a e).2, True.intro⟩
  | x :: xs, a :: as, h => by
    obtain ⟨F1, s1, s2, n1, h1⟩ := avl_un s ht h.2
    have h0 := h.1
    cases a with
    | sh d => exact ⟨F1, s1, s2, n1, Rp.mono (.of s1) h0, h1⟩
    | tp => exact ⟨F1, s1, s2, n1, h0, h1⟩
    | sc ns => obtain ⟨b, e1, e2⟩ := h0; exact ⟨F1, s1, s2, n1, ⟨b, e1, s1.seq e2⟩, h1⟩
    | pk d =>
      obtain ⟨l, o, rfl, q1, q2, q3, q4⟩ := h0
      have sF : Same F1 (upd F1 l o) := fun b z e => by
        by_cases hb : b = l
        · subst hb
          have := s2 _ _ e
          rw [q1] at this
          rw [upd_same]; exact this
        · rw [upd_ne hb]; exact e
      have g : ∀ (ys : List V) (bs : List Ar), AvL K t F1 H ys (bs.map Ar.un) → AvL K t (upd F1 l o) H ys (bs.map Ar.un) := by
        intro ys bs
        induction bs generalizing ys with
        | nil =>
          intro h
          cases ys with
          | nil => exact True.intro
          | cons _ _ => exact h
        | cons b bs ih =>
          intro h
          cases ys with
          | nil => exact h
          | cons y ys =>
            refine ⟨?_, ih ys h.2⟩
            have h0 := h.1
            cases b with
            | sh d => exact Rp.mono (.of sF) h0
            | pk d => exact Rp.mono (.of sF) h0
            | tp => exact h0
            | sc ns => obtain ⟨b, e1, e2⟩ := h0; exact ⟨b, e1, sF.seq e2⟩
      refine ⟨upd F1 l o, s1.trans sF, fun b z e => ?_, fun a e => ?_, ?_, g xs as h1⟩
      · by_cases hb : b = l
        · subst hb; rw [upd_same] at e; rw [q1]; exact e
        · rw [upd_ne hb] at e; exact s2 b z e
      · rw [upd_ne (fun w => q3 (by rw [e, w]))]; exact n1 a e
      · have e2 : Sees F (upd F1 l o) := .of (s1.trans sF)
        show Rp (upd F1 l o) d (.ref l)
        have q5 := OO.mono e2 q4
        cases o <;> cases d <;> first
          | exact False.elim q5
          | exact ⟨l, _, rfl, upd_same, q5⟩
          | exact ⟨l, _, rfl, .inl upd_same, q5⟩
          | exact (let ⟨c, s, p, w1, w2⟩ := q5; ⟨l, rfl, c, s, p, by rw [upd_same, w1], w2⟩)
  | [], _ :: _, h => False.elim h
  | _ :: _, [], h => False.elim h
theorem nopk_un : ∀ as : List Ar, (as.map Ar.un).any Ar.isPk = false
  | [] => rfl
  | a :: as => by
    rw [List.map_cons, List.any_cons, nopk_un as]
    cases a <;> rfl
theorem un_nopk : ∀ {as : List Ar}, as.any Ar.isPk = false → as.map Ar.un = as
  | [], _ => rfl
  | a :: as, h => by
    rw [List.any_cons, Bool.or_eq_false_iff] at h
    rw [List.map_cons, un_nopk h.2]
    cases a with
    | pk d => exact absurd h.1 (by intro z; cases z)
    | _ => rfl
/-- nothing of the call's own is kept -/
theorem Grow.drop {F Fc H F' H' : Hp} (s : Same F H) (ht : ∀ a, t = some a → Dr H a ∧ F a = none) (g : Grow t Fc H F' H') : Grow t F H F H' where
  z := s
  f := .refl _
  h := g.h
  d := g.d
  n := fun _ h _ _ => h
  s := fun b o e => g.h b o (s b o e) fun z => by rw [(ht b z.symm).2] at e; cases e
  t := g.t
theorem rp_scal {F F' : Hp} {d : D} {x : V} (h : scalD d = true) (r : Rp F d x) : Rp F' d x := by
  cases d <;> first | exact r | cases h
theorem rv_scal {t' : Option Addr} {H F F' H' : Hp} {d : D} {m : Md} {x : V} (h : scalD d = true) (r : RV t' H F H' x m d) : Rp F' d x := by
  cases m with
  | sh => exact rp_scal h r
  | pk => obtain ⟨l, o, _, _, _, _, z⟩ := r; cases d <;> cases o <;> first | exact False.elim z | cases h
  | ow => obtain ⟨l, o, _, _, _, _, _, z⟩ := r; cases d <;> cases o <;> first | exact False.elim z | cases h
theorem call_core {E : XE} {Ep : XP} {psp : PSp} {F0 H0 L F : Hp} {δ : DS} {σ : L2.St} {H : Hp} {Q : VK} {Qp : Md → D → Prop} {xs : List V} {as : List Ar} {e : XK} {ep : Nat → Prop} (rs : RS K t F0 H0 L F δ σ H) (av : AvL K t F H xs as)
    (hp : psp (as.map Ar.un) (fun m d => (as.any Ar.isPk = true → scalD d = true) ∧ Qp m d) ep) (he : ∀ n F' H', Grow t F H F' H' → ep n → e (.ref (c.at n)) none H')
    (k : ∀ x F' H' m d, Grow t F H F' H' → RV t H F' H' x m d → m ≠ .pk → Qp m d → Q x H') : lift K c psp xs H Q e := by
  cases hpk : as.any Ar.isPk with
  | false =>
    rw [un_nopk hpk] at hp
    exact ⟨t, F, as, _, ep, rs.st.s, rs.st.tp, av, hpk, hp, fun x F' H' m d g rv hm q => k x F' H' m d g rv hm q.2, he⟩
  | true =>
    obtain ⟨F1, s1, s2, n1, av1⟩ := avl_un rs.st.s rs.st.tp av
    refine ⟨t, F1, _, _, ep, s2, fun a e => ⟨(rs.st.tp a e).1, n1 a e⟩, av1, nopk_un as, hp, fun x F' H' m d g rv hm q => ?_, fun n F' H' g q => he n F H' (g.drop rs.st.s rs.st.tp) q⟩
    have hs := q.1 hpk
    exact k x F H' .sh d (g.drop rs.st.s rs.st.tp) (rv_scal hs rv) (by decide) (by
      cases m with
      | sh => exact q.2
      | pk => exact absurd rfl hm
      | ow => obtain ⟨l, o, _, _, _, _, _, z⟩ := rv; cases d <;> cases o <;> first | exact False.elim z | cases hs)
theorem s_call0 {E : XE} {Ep : XP} {psp : PSp} {ta : TA} {qa : QA} (ha : SimA K c t E Ep ta qa) : SimE K c t E Ep (tCall (lift K c psp) [] E0 ta) (qCall psp P0 qa) := fun F0 H0 L F δ σ H Q Qp er rs hq k => by
  refine ha F0 H0 L F δ σ H _ _ er rs hq fun xs F1 H1 as g av q => ?_
  rw [List.append_nil]
  exact call_core (E := E) (Ep := Ep) (rs.grow g) av q (fun n F' H' _ z => False.elim z) fun x F' H' m d g2 rv _ q2 => k x F' H' m d (g.trans g2 rs.st.dr) (rv.pre g) q2
theorem s_callX {e : XK} {Ep : XP} {psp : PSp} {ta : TA} {qa : QA} (ha : SimA K c t (fun _ => e) Ep ta qa) : SimE K c t (fun _ => e) Ep (tCall (lift K c psp) [] e ta) (qCall psp Ep qa) := fun F0 H0 L F δ σ H Q Qp er rs hq k => by
  refine ha F0 H0 L F δ σ H _ _ er rs hq fun xs F1 H1 as g av q => ?_
  rw [List.append_nil]
  have r1 := rs.grow g
  exact call_core (E := fun _ => e) (Ep := Ep) r1 av q (fun n F' H' g2 z => er n F' δ σ H' (r1.grow g2) z) fun x F' H' m d g2 rv _ q2 => k x F' H' m d (g.trans g2 rs.st.dr) (rv.pre g) q2
theorem s_callS {E : XE} {Ep : XP} {psp : PSp} {ta : TA} {qa : QA} (ha : SimA K c t E Ep ta qa) : SimE K c t E Ep (tCallS (lift K c psp) E ta) (qCall psp Ep qa) := fun F0 H0 L F δ σ H Q Qp er rs hq k => by
  refine ha F0 H0 L F δ σ H _ _ er rs hq fun xs F1 H1 as g av q => ?_
  have r1 := rs.grow g
  exact call_core (E := E) (Ep := Ep) r1 av q (fun n F' H' g2 z => er n F' δ σ H' (r1.grow g2) z) fun x F' H' m d g2 rv _ q2 => k x F' H' m d (g.trans g2 rs.st.dr) (rv.pre g) q2
end
/-! ### a def, read over data -/
def Ar.sv : Ar → SV
  | .sh d => .sh d
  | .pk d => .sh d
  | .tp => .tp
  | .sc ns => .sc ns
def dstart (n : Nat) (as : List Ar) : DS := as.map (fun a => some a.sv) ++ List.replicate (n - as.length) none
section
variable {K : PySem.W.Frag} {c : Cl}
theorem avl_at {t : Option Addr} {F H : Hp} : ∀ {xs : List V} {as : List Ar} {i : Nat} {a : Ar}, AvL K t F H xs as → as[i]? = some a → ∃ x, xs[i]? = some x ∧ Av K t F H x a
  | [], [], _, _, _, e => by simp at e
  | x :: xs, b :: as, 0, a, h, e => by
    have e' : b = a := by simpa using e
    subst e'
    exact ⟨x, rfl, h.1⟩
  | x :: xs, b :: as, i + 1, a, h, e => by
    obtain ⟨y, h1, h2⟩ := avl_at (i := i) h.2 (by simpa using e)
    exact ⟨y, by simpa using h1, h2⟩
  | [], _ :: _, _, _, h, _ => False.elim h
  | _ :: _, [], _, _, h, _ => False.elim h
theorem dstart_at {n i : Nat} {as : List Ar} {s : SV} (h : (dstart n as)[i]? = some (some s)) : ∃ a, as[i]? = some a ∧ s = a.sv := by
  unfold dstart at h
  by_cases hi : i < as.length
  · rw [List.getElem?_append_left (by rw [List.length_map]; exact hi), List.getElem?_map] at h
    obtain ⟨a, h1, h2⟩ := Option.map_eq_some_iff.mp h
    cases h2
    exact ⟨a, h1, rfl⟩
  · rw [List.getElem?_append_right (by rw [List.length_map]; omega), List.getElem?_replicate] at h
    split at h
    · cases h
    · cases h
theorem start_rs {t : Option Addr} {F H : Hp} {N : List Str} {vs : List V} {as : List Ar} (s : Same F H) (ht : ∀ a, t = some a → Dr H a ∧ F a = none) (av : AvL K t F H vs as) (np : as.any Ar.isPk = false) (hN : as.length ≤ N.length) (hst : start N vs = vs.map some ++ List.replicate (N.length - vs.length) none) :
    RS K t F H F F (dstart N.length as) (start N vs) H where
  st := {
    s := s
    tp := ht
    len := by
      rw [hst]
      unfold dstart
      have := avl_len av
      simp
      omega
    sl := fun i v e => by
      obtain ⟨a, h1, rfl⟩ := dstart_at e
      obtain ⟨x, h2, h3⟩ := avl_at av h1
      refine ⟨x, ?_, ?_⟩
      · rw [hst, List.getElem?_append_left (by rw [List.length_map]; exact (List.getElem?_eq_some_iff.mp h2).1), List.getElem?_map, h2]; rfl
      · cases a with
        | sh d => exact h3
        | pk d => exact absurd (List.any_eq_true.mpr ⟨_, List.mem_of_getElem? h1, rfl⟩) (by rw [np]; exact Bool.false_ne_true)
        | tp => exact h3
        | sc ns => exact h3
    ne := fun i j d e x e1 _ _ _ => by
      obtain ⟨a, _, h2⟩ := dstart_at e1
      cases a <;> cases h2 }
  g := .refl s
  lo := .refl _
  fr := fun i d l e1 _ => by
    obtain ⟨a, _, h2⟩ := dstart_at e1
    cases a <;> cases h2
  dr := fun a e _ => (ht a e).1
/-- the reading of a def over the heap, by its reading over data -/
theorem rd_of {N : List Str} {psp : PSp} {ts : XK → TS} {qs : XP → QS} {vs : List V} {H : Hp} {Q : VK} {E : XK} (hs : ∀ t e ep, SimS K c t (fun _ => e) ep (ts e) (qs ep)) (hl : ∀ as Qp Ep, psp as Qp Ep → as.length ≤ N.length)
    (hq : ∀ as Qp Ep, psp as Qp Ep → qs (fun _ n => Ep n) { nx := fun _ => Qp .sh .non, rt := Qp } (dstart N.length as)) (h : lift K c psp vs H Q E) :
    ts E { nx := fun _ H' => Q .non H', rt := Q } (start N vs) H := by
  obtain ⟨t, F, as, Qp, Ep, s, ht, av, np, hp, k, ke⟩ := h
  have rs := start_rs (N := N) s ht av np (hl as Qp Ep hp) rfl
  refine hs t E (fun _ n => Ep n) F H F F _ _ H _ { nx := fun _ => Qp .sh .non, rt := Qp } (fun n F' δ σ H' r z => ke n F' H' r.g z) rs ⟨?_, ?_, ?_, ?_⟩ ?_
  · exact fun F' δ σ H' r q => k .non F' H' .sh .non r.g rfl (by decide) q
  · exact fun F' H' x m d g _ _ rv hm q => k x F' H' m d g rv hm q
  · exact fun F' δ σ H' r q => False.elim q
  · exact fun F' δ σ H' r q => False.elim q
  · exact hq as Qp Ep hp
end
end Sw
local macro_rules | `(tactic| walk_at "go1") => `(tactic| first
  | with_reducible refine Sw.g_seqasg ?_ | with_reducible refine Sw.g_op ?_ | with_reducible refine Sw.g_var rfl ?_ | with_reducible refine Sw.g_c ?_ | with_reducible refine Sw.g_I0 ?_
  | with_reducible refine Sw.g_cons ?_ | with_reducible refine Sw.g_nil ?_ | with_reducible refine Sw.g_call ?_ | with_reducible refine Sw.g_cb ?_ | with_reducible refine Sw.g_test ?_ | with_reducible refine Sw.g_bl ?_
  | with_reducible refine Sw.g_seqdrop ?_ | with_reducible refine Sw.g_seqsub ?_ | with_reducible refine Sw.g_asg ?_ | with_reducible refine Sw.g_asgsub ?_ | with_reducible refine Sw.g_ret ?_ | with_reducible refine Sw.g_drop ?_ | with_reducible refine Sw.g_if ?_ | with_reducible refine Sw.g_next ?_ | with_reducible refine Sw.g_name ?_
  | with_reducible refine Sw.g_B ?_ | with_reducible refine Sw.g_not ?_ | with_reducible refine Sw.g_and ?_ | with_reducible refine Sw.g_or ?_ | with_reducible refine Sw.g_andV ?_ | with_reducible refine Sw.g_orV ?_ | with_reducible refine Sw.g_notV ?_
  | with_reducible refine Sw.g_ifE ?_ | with_reducible refine Sw.g_chain ?_ | with_reducible refine Sw.g_un ?_ | with_reducible refine Sw.g_tup ?_ | with_reducible refine Sw.g_lst ?_ | with_reducible refine Sw.g_sl ?_ | with_reducible refine Sw.g_part ?_ | with_reducible refine Sw.g_nopart ?_
  | with_reducible refine Sw.g_U ?_ | with_reducible refine Sw.g_eq rfl ?_ | with_reducible refine Sw.g_ne rfl ?_ | with_reducible refine Sw.g_int ?_ | with_reducible refine Sw.g_yes ?_ | with_reducible refine L2.iteT ?_ | with_reducible refine L2.iteF ?_ | with_reducible refine Sw.iteNT ?_ | with_reducible refine Sw.iteNF ?_ | with_reducible refine Sw.g_m1 ?_ | with_reducible refine Sw.g_bm ?_ | with_reducible refine ⟨Sw.ty_lst (by assumption), ?_⟩ | with_reducible refine Sw.g_sput ?_ | with_reducible refine Sw.g_put ?_ | with_reducible refine Sw.g_dget2 ?_ | with_reducible refine Sw.g_dget ?_ | with_reducible refine Sw.g_dK ?_ | with_reducible refine Sw.g_dT ?_ | with_reducible refine Sw.g_dnotin ?_ | with_reducible refine Sw.g_din ?_ | with_reducible refine Sw.g_bm0 ?_
  | with_reducible refine Sw.g_ixL (by assumption) rfl ?_ | with_reducible refine Sw.g_ixT (by assumption) rfl ?_)
local macro_rules | `(tactic| walk_at "go") => `(tactic| repeat walk_at "go1")
local macro_rules | `(tactic| walk_at "bd") => `(tactic| repeat (first | with_reducible exact Sw.all_nil | refine Sw.all_cons ⟨_, rfl, by omega, by omega⟩ ?_))
local macro_rules | `(tactic| walk_at "new") => `(tactic| (refine ⟨Nat.le_of_ble_eq_true rfl, fun p np => ?_⟩; generalize hX : L2.upd _ p _ = H'; have sm : L2.Same _ H' := hX ▸ Sw.same_upd np; have hp : H' p = some _ := hX ▸ L2.upd_same; clear hX))
namespace Sw
open PySem PySem.Spec PyProof.Rows L2 SX
/-! ### dicts as expressions -/
def pGetK : P2 := fun d e Q => ∃ kvs key v, d = .dK kvs ∧ e = dKey key ∧ getD' kvs key = some v ∧ Q .sh v
def pGetT : P2 := fun d e Q => ∃ kvs ks v, d = .dT kvs ∧ e = .tup (ks.map dKey) ∧ getD' kvs ks = some v ∧ Q .sh v
def pInK (neg : Bool) : P2 := fun e d Q => ∃ kvs key, d = .dK kvs ∧ e = dKey key ∧ Q .sh (.bl (if neg = true then !(getD' kvs key).isSome else (getD' kvs key).isSome))
def pInT (neg : Bool) : P2 := fun e d Q => ∃ kvs ks, d = .dT kvs ∧ e = .tup (ks.map dKey) ∧ Q .sh (.bl (if neg = true then !(getD' kvs ks).isSome else (getD' kvs ks).isSome))
def qGet2K (a b e : QE) : QE := fun δ Q => a δ fun _ d => ∃ kvs, d = .dK kvs ∧ b δ fun _ y => e δ fun m z => m ≠ .pk ∧ ∃ key, y = dKey key ∧ Q .sh ((getD' kvs key).getD z)
def qGet2T (a b e : QE) : QE := fun δ Q => a δ fun _ d => ∃ kvs, d = .dT kvs ∧ b δ fun _ y => e δ fun m z => m ≠ .pk ∧ ∃ ks, y = .tup (ks.map dKey) ∧ Q .sh ((getD' kvs ks).getD z)
def qNewK : QE := fun _ Q => Q .ow (.dK [])
def qNewT : QE := fun _ Q => Q .ow (.dT [])
def qDispT (a b : QE) : QE := fun δ Q => a δ fun _ d => b δ fun m e => m ≠ .pk ∧ ∃ ks, d = .tup (ks.map dKey) ∧ Q .ow (.dT [(ks, e)])
def pListT : P1 := fun d Q => ∃ kvs, d = .dT kvs ∧ Q .ow (.lst (kvs.map fun e => .tup (e.1.map dKey)))
def qLenC (i : Nat) : QE := fun δ Q => ∃ ns, δ[i]? = some (some (.sc ns)) ∧ Q .sh (.int (ns.length : Int))
section
variable {t : Option Addr}
theorem vw_key {F H : Hp} {y : V} {key : Key} (v : Vw t F H y (dKey key)) : y = kV key := by
  rcases v with z | ⟨_, o, _, _, _, _, z⟩
  · exact rp_key' z
  · cases key <;> cases o <;> exact False.elim z
theorem vw_tkey {F H : Hp} {y : V} {ks : List Key} (v : Vw t F H y (.tup (ks.map dKey))) : ∃ b, y = .ref b ∧ F b = some (.tup (ks.map kV)) := by
  obtain ⟨b, ys, rfl, hb, hrb⟩ := vw_tup v
  rw [rpl_keys' hrb] at hb
  exact ⟨b, rfl, hb⟩
theorem dget_K {F H : Hp} {x y : V} {kvs : List (Key × D)} {key : Key} (s : Same F H) (vx : Vw t F H x (.dK kvs)) (vy : Vw t F H y (dKey key)) : ∃ a o, x = .ref a ∧ DGet H a y o ∧ IsD H a ∧ (match getD' kvs key with | none => o = none | some d => ∃ v, o = some v ∧ Rp F d v) := by
  obtain ⟨a, xs, rfl, h1, h2⟩ := vw_dK s vx
  refine ⟨a, valV xs key, rfl, .inl ⟨xs, key, h1, vw_key vy, rfl⟩, .inl ⟨xs, h1⟩, ?_⟩
  exact h2.get key
theorem dget_T {F H : Hp} {x y : V} {kvs : List (List Key × D)} {ks : List Key} (s : Same F H) (vx : Vw t F H x (.dT kvs)) (vy : Vw t F H y (.tup (ks.map dKey))) : ∃ a o, x = .ref a ∧ DGet H a y o ∧ IsD H a ∧ (match getD' kvs ks with | none => o = none | some d => ∃ v, o = some v ∧ Rp F d v) := by
  obtain ⟨a, xs, rfl, h1, h2⟩ := vw_dT s vx
  obtain ⟨b, rfl, hb⟩ := vw_tkey vy
  refine ⟨a, valV xs ks, rfl, .inr ⟨xs, ks, b, h1, rfl, s _ _ hb, rfl⟩, .inr ⟨xs, h1⟩, ?_⟩
  exact h2.get ks
abbrev rDGet : R2 := fun x y H Q => ∃ a v, x = .ref a ∧ DGet H a y (some v) ∧ Q v H
abbrev rDIn : R2 := fun y x H Q => ∃ a o, x = .ref a ∧ DGet H a y o ∧ Q (.bl o.isSome) H
abbrev rDNotIn : R2 := fun y x H Q => ∃ a o, x = .ref a ∧ DGet H a y o ∧ Q (.bl (!o.isSome)) H
theorem o_getK : Sim2 t rDGet pGetK := fun F H x y d e Q Qp s ht vx vy p k => by
  obtain ⟨kvs, key, v, rfl, rfl, hv, q⟩ := p
  obtain ⟨a, o, rfl, h1, _, h2⟩ := dget_K s vx vy
  rw [hv] at h2
  obtain ⟨w, rfl, h3⟩ := h2
  exact ⟨a, w, rfl, h1, k.val s h3 q⟩
theorem o_getT : Sim2 t rDGet pGetT := fun F H x y d e Q Qp s ht vx vy p k => by
  obtain ⟨kvs, key, v, rfl, rfl, hv, q⟩ := p
  obtain ⟨a, o, rfl, h1, _, h2⟩ := dget_T s vx vy
  rw [hv] at h2
  obtain ⟨w, rfl, h3⟩ := h2
  exact ⟨a, w, rfl, h1, k.val s h3 q⟩
theorem isSome_of {F : Hp} {g : Option D} {o : Option V} (h : match g with | none => o = none | some d => ∃ v, o = some v ∧ Rp F d v) : o.isSome = g.isSome := by
  cases g with
  | none => rw [show o = none from h]; rfl
  | some d => obtain ⟨v, rfl, _⟩ := h; rfl
theorem o_inK : Sim2 t rDIn (pInK false) := fun F H y x e d Q Qp s ht vy vx p k => by
  obtain ⟨kvs, key, rfl, rfl, q⟩ := p
  obtain ⟨a, o, rfl, h1, _, h2⟩ := dget_K s vx vy
  exact ⟨a, o, rfl, h1, by rw [isSome_of h2]; exact k.val s (d := .bl _) rfl q⟩
theorem o_inT : Sim2 t rDIn (pInT false) := fun F H y x e d Q Qp s ht vy vx p k => by
  obtain ⟨kvs, key, rfl, rfl, q⟩ := p
  obtain ⟨a, o, rfl, h1, _, h2⟩ := dget_T s vx vy
  exact ⟨a, o, rfl, h1, by rw [isSome_of h2]; exact k.val s (d := .bl _) rfl q⟩
theorem o_notInK : Sim2 t rDNotIn (pInK true) := fun F H y x e d Q Qp s ht vy vx p k => by
  obtain ⟨kvs, key, rfl, rfl, q⟩ := p
  obtain ⟨a, o, rfl, h1, _, h2⟩ := dget_K s vx vy
  exact ⟨a, o, rfl, h1, by rw [isSome_of h2]; exact k.val s (d := .bl _) rfl q⟩
theorem o_notInT : Sim2 t rDNotIn (pInT true) := fun F H y x e d Q Qp s ht vy vx p k => by
  obtain ⟨kvs, key, rfl, rfl, q⟩ := p
  obtain ⟨a, o, rfl, h1, _, h2⟩ := dget_T s vx vy
  exact ⟨a, o, rfl, h1, by rw [isSome_of h2]; exact k.val s (d := .bl _) rfl q⟩
theorem o_listT : Sim1 t (fun x => rListT [x]) pListT := fun F H x d Q Qp s ht vx p k => by
  obtain ⟨kvs, rfl, q⟩ := p
  obtain ⟨a, xs, rfl, h1, h2⟩ := vw_dT s vx
  refine ⟨a, xs, rfl, h1, fun p bs np hb => ?_⟩
  have key : ∀ {us : List (List Key × V)} {cs : List Addr}, IsKeys H us cs → ∀ {F : Hp}, Same F H → ∃ F', Grow t F H F' H ∧ RpL F' (us.map fun e => .tup (e.1.map dKey)) (cs.map V.ref) := by
    intro us cs h
    induction h with
    | nil => intro F s; exact ⟨F, .refl s, rfl⟩
    | cons r _ ih =>
      intro F s
      obtain ⟨F1, g1, h1⟩ := ih (Grow.tup (t := t) s r).s
      refine ⟨F1, (Grow.tup s r).trans g1 ht, _, _, rfl, ⟨_, _, rfl, g1.f _ _ upd_same, rpl_keys _⟩, h1⟩
  obtain ⟨F1, g1, hr⟩ := key hb s
  have ek : (xs.map fun e => D.tup (e.1.map dKey)) = kvs.map fun e => D.tup (e.1.map dKey) := by
    have := congrArg (List.map fun z => D.tup (z.map dKey)) h2.keys
    rw [List.map_map, List.map_map] at this
    exact this
  rw [ek] at hr
  exact k (.ref p) F1 _ .ow (.lst _) (g1.trans (.own g1.s np) ht) ⟨p, .lst (bs.map V.ref), rfl, np, upd_same, g1.s.free np, tape_ne ht np, hr⟩ q
end
section
variable {K : PySem.W.Frag} {c : Cl} {t : Option Addr} {E : XE} {Ep : XP} {te ta tb : TE} {qe qa qb : QE} {i : Nat}
theorem s_dget {p : P2} (h : Sim2 t rDGet p) (ha : SimE K c t E Ep ta qa) (hb : SimE K c t E Ep tb qb) : SimE K c t E Ep (tDGet ta tb) (qOp p qa qb) := s_op (r := rDGet) h ha hb
theorem s_din {p : P2} (h : Sim2 t rDIn p) (ha : SimE K c t E Ep ta qa) (hb : SimE K c t E Ep tb qb) : SimE K c t E Ep (tDIn ta tb) (qOp p qa qb) := s_op (r := rDIn) h ha hb
theorem s_dnotin {p : P2} (h : Sim2 t rDNotIn p) (ha : SimE K c t E Ep ta qa) (hb : SimE K c t E Ep tb qb) : SimE K c t E Ep (tDNotIn ta tb) (qOp p qa qb) := s_op (r := rDNotIn) h ha hb
theorem s_newK : SimE K c t E Ep tDNewK qNewK := fun F0 H0 L F δ σ H Q Qp er rs hq k p np => Post.new (t := t) (F := F) (Qp := Qp) (Q := Q) k rs.st.s rs.st.dr np (show OO F (.dK []) (.dK []) from rfl) hq
theorem s_newT : SimE K c t E Ep tDNewT qNewT := fun F0 H0 L F δ σ H Q Qp er rs hq k p np => Post.new (t := t) (F := F) (Qp := Qp) (Q := Q) k rs.st.s rs.st.dr np (show OO F (.dT []) (.dT []) from rfl) hq
theorem s_lenC (K' : PySem.W.Frag) : SimE K' c t E Ep (tCB (rLenSq K') (tCons (tVar i) tNil)) (qLenC i) := fun F0 H0 L F δ σ H Q Qp er rs hq k => by
  obtain ⟨ns, h1, q⟩ := hq
  obtain ⟨x, h3, a, rfl, h4⟩ := rs.st.sl i _ h1
  exact ⟨_, h3, a, _, rfl, .inl (rs.st.s.seq h4), by rw [List.length_map]; exact k _ F H .sh (.int _) (.refl rs.st.s) rfl q⟩
theorem IsD.grow {F H F' H' : Hp} {a : Addr} (g : Grow t F H F' H') (hn : some a ≠ t) (h : IsD H a) : IsD H' a := by
  rcases h with ⟨kvs, h | ⟨o, h⟩⟩ | ⟨kvs, h | ⟨o, h⟩⟩
  · exact .inl ⟨kvs, .inl (g.h _ _ h hn)⟩
  · exact .inl ⟨kvs, .inr ⟨o, g.h _ _ h hn⟩⟩
  · exact .inr ⟨kvs, .inl (g.h _ _ h hn)⟩
  · exact .inr ⟨kvs, .inr ⟨o, g.h _ _ h hn⟩⟩
theorem s_get2K (ha : SimE K c t E Ep ta qa) (hb : SimE K c t E Ep tb qb) (he : SimE K c t E Ep te qe) : SimE K c t E Ep (tDGet2 ta tb te) (qGet2K qa qb qe) := fun F0 H0 L F δ σ H Q Qp er rs hq k => by
  refine ha.vw er rs hq fun x F1 H1 m1 d1 g1 v1 _ q1 => ?_
  obtain ⟨kvs, rfl, q1⟩ := q1
  obtain ⟨a, xs, rfl, h1, h2⟩ := vw_dK g1.s v1
  refine ⟨a, rfl, .inl ⟨xs, h1⟩, ?_⟩
  refine hb.vw er (rs.grow g1) q1 fun y F2 H2 m2 d2 g2 v2 _ q2 => ?_
  have g12 := g1.trans g2 rs.st.dr
  refine he.vw er (rs.grow g12) q2 fun z F3 H3 m3 d3 g3 v3 rp3 q3 => ?_
  obtain ⟨hm, key, rfl, q4⟩ := q3
  obtain ⟨a', o, e2, h3, _, h4⟩ := dget_K (key := key) g3.s ((v1.grow g2).grow g3) (v2.grow g3)
  cases e2
  refine ⟨o, h3, ?_⟩
  refine k _ F3 H3 .sh _ (g12.trans g3 rs.st.dr) ?_ q4
  cases hg : getD' kvs key with
  | none => rw [hg] at h4; rw [show o = none from h4]; exact rp3 hm
  | some d => rw [hg] at h4; obtain ⟨v, rfl, h5⟩ := h4; exact h5
theorem s_get2T (ha : SimE K c t E Ep ta qa) (hb : SimE K c t E Ep tb qb) (he : SimE K c t E Ep te qe) : SimE K c t E Ep (tDGet2 ta tb te) (qGet2T qa qb qe) := fun F0 H0 L F δ σ H Q Qp er rs hq k => by
  refine ha.vw er rs hq fun x F1 H1 m1 d1 g1 v1 _ q1 => ?_
  obtain ⟨kvs, rfl, q1⟩ := q1
  obtain ⟨a, xs, rfl, h1, h2⟩ := vw_dT g1.s v1
  refine ⟨a, rfl, .inr ⟨xs, h1⟩, ?_⟩
  refine hb.vw er (rs.grow g1) q1 fun y F2 H2 m2 d2 g2 v2 _ q2 => ?_
  have g12 := g1.trans g2 rs.st.dr
  refine he.vw er (rs.grow g12) q2 fun z F3 H3 m3 d3 g3 v3 rp3 q3 => ?_
  obtain ⟨hm, key, rfl, q4⟩ := q3
  obtain ⟨a', o, e2, h3, _, h4⟩ := dget_T (ks := key) g3.s ((v1.grow g2).grow g3) (v2.grow g3)
  cases e2
  refine ⟨o, h3, ?_⟩
  refine k _ F3 H3 .sh _ (g12.trans g3 rs.st.dr) ?_ q4
  cases hg : getD' kvs key with
  | none => rw [hg] at h4; rw [show o = none from h4]; exact rp3 hm
  | some d => rw [hg] at h4; obtain ⟨v, rfl, h5⟩ := h4; exact h5
/-- {key: value}, the key a tuple -/
theorem s_dispT (ha : SimE K c t E Ep ta qa) (hb : SimE K c t E Ep tb qb) : SimE K c t E Ep (tDispT ta tb) (qDispT qa qb) := fun F0 H0 L F δ σ H Q Qp er rs hq k => by
  intro p np
  have g0 : Grow t F H F (upd H p (.dT [])) := .own rs.st.s np
  have hp0 : upd H p (.dT []) p = some (.dT []) := upd_same
  have tp := tape_ne rs.st.dr np
  refine ha.vw er (rs.grow g0) hq fun x F1 H1 m1 d1 g1 v1 _ q1 => ?_
  have g01 := g0.trans g1 rs.st.dr
  refine hb.vw er (rs.grow g01) q1 fun y F2 H2 m2 d2 g2 v2 rp2 q2 => ?_
  have g12 := g1.trans g2 (rs.grow g0).st.dr
  have g02 := g01.trans g2 rs.st.dr
  obtain ⟨hm, ks, rfl, q3⟩ := q2
  obtain ⟨b, rfl, hbk⟩ := vw_tkey (v1.grow g2)
  have hp2 := g12.h _ _ hp0 tp
  have fp2 := g12.n p (rs.st.s.free np) (by rw [hp0]; exact Option.some_ne_none _) fun xs z => by rw [hp0] at z; cases z
  refine ⟨hp2, b, ks, rfl, g2.s _ _ hbk, ?_⟩
  refine k (.ref p) F2 _ .ow (.dT [(ks, d2)]) ?_ ⟨p, .dT [(ks, y)], rfl, np, upd_same, fp2, tp, (⟨y, [], rfl, rp2 hm, rfl⟩ : RpT F2 [(ks, d2)] [(ks, y)])⟩ q3
  exact {
    z := g02.z
    f := g02.f
    h := fun b o e n => by rw [upd_ne (ne_of_none e np)]; exact g02.h b o e n
    d := fun b e z => by
      by_cases hb : b = p
      · subst hb; rw [upd_same] at z; cases z
      · rw [upd_ne hb] at z; exact g02.d b e z
    n := g02.n
    s := fun b o e => by rw [upd_ne (ne_of_none e fp2)]; exact g02.s b o e
    t := fun a e h => by
      obtain ⟨c1, s1, p1, z1, z2⟩ := g02.t a e h
      exact ⟨c1, s1, p1, by rw [upd_ne (fun w => tp (by rw [e, w]))]; exact z1, z2⟩ }
end
end Sw
local macro_rules | `(tactic| walk_at "go1") => `(tactic| first
  | with_reducible refine Sw.g_seqasg ?_ | with_reducible refine Sw.g_op ?_ | with_reducible refine Sw.g_var rfl ?_ | with_reducible refine Sw.g_c ?_ | with_reducible refine Sw.g_I0 ?_
  | with_reducible refine Sw.g_cons ?_ | with_reducible refine Sw.g_nil ?_ | with_reducible refine Sw.g_call ?_ | with_reducible refine Sw.g_cb ?_ | with_reducible refine Sw.g_test ?_ | with_reducible refine Sw.g_bl ?_
  | with_reducible refine Sw.g_seqdrop ?_ | with_reducible refine Sw.g_seqsub ?_ | with_reducible refine Sw.g_asg ?_ | with_reducible refine Sw.g_asgsub ?_ | with_reducible refine Sw.g_ret ?_ | with_reducible refine Sw.g_drop ?_ | with_reducible refine Sw.g_if ?_ | with_reducible refine Sw.g_next ?_ | with_reducible refine Sw.g_name ?_
  | with_reducible refine Sw.g_B ?_ | with_reducible refine Sw.g_not ?_ | with_reducible refine Sw.g_and ?_ | with_reducible refine Sw.g_or ?_ | with_reducible refine Sw.g_andV ?_ | with_reducible refine Sw.g_orV ?_ | with_reducible refine Sw.g_notV ?_
  | with_reducible refine Sw.g_ifE ?_ | with_reducible refine Sw.g_chain ?_ | with_reducible refine Sw.g_un ?_ | with_reducible refine Sw.g_tup ?_ | with_reducible refine Sw.g_lst ?_ | with_reducible refine Sw.g_sl ?_ | with_reducible refine Sw.g_part ?_ | with_reducible refine Sw.g_nopart ?_
  | with_reducible refine Sw.g_U ?_ | with_reducible refine Sw.g_eq rfl ?_ | with_reducible refine Sw.g_ne rfl ?_ | with_reducible refine Sw.g_int ?_ | with_reducible refine Sw.g_yes ?_ | with_reducible refine L2.iteT ?_ | with_reducible refine L2.iteF ?_ | with_reducible refine Sw.iteNT ?_ | with_reducible refine Sw.iteNF ?_ | with_reducible refine Sw.g_m1 ?_ | with_reducible refine Sw.g_bm ?_ | with_reducible refine ⟨Sw.ty_lst (by assumption), ?_⟩ | with_reducible refine Sw.g_sput ?_ | with_reducible refine Sw.g_put ?_ | with_reducible refine Sw.g_dget2 ?_ | with_reducible refine Sw.g_dget ?_ | with_reducible refine Sw.g_dK ?_ | with_reducible refine Sw.g_dT ?_ | with_reducible refine Sw.g_dnotin ?_ | with_reducible refine Sw.g_din ?_ | with_reducible refine Sw.g_bm0 ?_
  | with_reducible refine Sw.g_ixL (by assumption) rfl ?_ | with_reducible refine Sw.g_ixT (by assumption) rfl ?_)
local macro_rules | `(tactic| walk_at "go") => `(tactic| repeat walk_at "go1")
local macro_rules | `(tactic| walk_at "bd") => `(tactic| repeat (first | with_reducible exact Sw.all_nil | refine Sw.all_cons ⟨_, rfl, by omega, by omega⟩ ?_))
local macro_rules | `(tactic| walk_at "new") => `(tactic| (refine ⟨Nat.le_of_ble_eq_true rfl, fun p np => ?_⟩; generalize hX : L2.upd _ p _ = H'; have sm : L2.Same _ H' := hX ▸ Sw.same_upd np; have hp : H' p = some _ := hX ▸ L2.upd_same; clear hX))
namespace Sw
open PySem PySem.Spec PyProof.Rows L2 SX
/-! ### a dict that is walked is locked -/
def lk (a : Addr) (od : Obj) (u : HO) (G : Hp) : Hp := fun b => if b = a then (G a).map (fun _ => .frz od u) else G b
def isDict : HO → Prop
  | .dK _ => True
  | .dT _ => True
  | _ => False
section
variable {a : Addr} {od : Obj} {u : HO} {G G' : Hp}
theorem lk_ne {b : Addr} (h : b ≠ a) : lk a od u G b = G b := if_neg h
theorem lk_at {o : HO} (h : G a = some o) : lk a od u G a = some (.frz od u) := by unfold lk; rw [if_pos rfl, h]; rfl
theorem lk_none {b : Addr} (h : G b = none) : lk a od u G b = none := by
  unfold lk
  by_cases hb : b = a
  · subst hb; rw [if_pos rfl, h]; rfl
  · rw [if_neg hb]; exact h
theorem lk_none' {b : Addr} (h : lk a od u G b = none) : G b = none := by
  by_cases hb : b = a
  · subst hb
    cases q : G b with
    | none => rfl
    | some o => rw [lk_at q] at h; cases h
  · rw [lk_ne hb] at h; exact h
theorem lk_upd (h : G a = some u) : lk a od u G = upd G a (.frz od u) := by
  funext b
  by_cases hb : b = a
  · subst hb; rw [lk_at h, upd_same]
  · rw [lk_ne hb, upd_ne hb]
theorem lk_same (h : Same G G') : Same (lk a od u G) (lk a od u G') := fun b o e => by
  by_cases hb : b = a
  · subst hb
    cases q : G b with
    | none => rw [lk_none q] at e; cases e
    | some w => rw [lk_at q] at e; rw [lk_at (h _ _ q)]; exact e
  · rw [lk_ne hb] at e ⊢; exact h b o e
theorem lk_sees (h : G a = some u) (hu : isDict u) : Sees G (lk a od u G) where
  l := fun b xs e => by
    have hb : b ≠ a := fun z => by rw [z, h] at e; cases e; exact hu
    rw [lk_ne hb]; exact e
  t := fun b xs e => by
    have hb : b ≠ a := fun z => by rw [z, h] at e; cases e; exact hu
    rw [lk_ne hb]; exact e
  k := fun b xs e => by
    by_cases hb : b = a
    · subst hb
      rcases e with e | ⟨o, e⟩
      · rw [h] at e; cases e; exact .inr ⟨od, lk_at h⟩
      · rw [h] at e; cases e; exact False.elim hu
    · rcases e with e | ⟨o, e⟩
      · exact .inl (by rw [lk_ne hb]; exact e)
      · exact .inr ⟨o, by rw [lk_ne hb]; exact e⟩
  m := fun b xs e => by
    by_cases hb : b = a
    · subst hb
      rcases e with e | ⟨o, e⟩
      · rw [h] at e; cases e; exact .inr ⟨od, lk_at h⟩
      · rw [h] at e; cases e; exact False.elim hu
    · rcases e with e | ⟨o, e⟩
      · exact .inl (by rw [lk_ne hb]; exact e)
      · exact .inr ⟨o, by rw [lk_ne hb]; exact e⟩
theorem un_sees (h : G a = some (.frz od u)) (hu : isDict u) : Sees G (upd G a u) where
  l := fun b xs e => by
    have hb : b ≠ a := fun z => by rw [z, h] at e; cases e
    rw [upd_ne hb]; exact e
  t := fun b xs e => by
    have hb : b ≠ a := fun z => by rw [z, h] at e; cases e
    rw [upd_ne hb]; exact e
  k := fun b xs e => by
    by_cases hb : b = a
    · subst hb
      rcases e with e | ⟨o, e⟩
      · rw [h] at e; cases e
      · rw [h] at e; cases e; exact .inl upd_same
    · rcases e with e | ⟨o, e⟩
      · exact .inl (by rw [upd_ne hb]; exact e)
      · exact .inr ⟨o, by rw [upd_ne hb]; exact e⟩
  m := fun b xs e => by
    by_cases hb : b = a
    · subst hb
      rcases e with e | ⟨o, e⟩
      · rw [h] at e; cases e
      · rw [h] at e; cases e; exact .inl upd_same
    · rcases e with e | ⟨o, e⟩
      · exact .inl (by rw [upd_ne hb]; exact e)
      · exact .inr ⟨o, by rw [upd_ne hb]; exact e⟩
theorem lk_dr {b : Addr} (h : G a = some u) (hu : isDict u) (d : Dr G b) : Dr (lk a od u G) b := by
  obtain ⟨c1, s1, p1, z1, z2⟩ := d
  have hb : b ≠ a := fun z => by rw [z, h] at z1; cases z1; exact hu
  exact ⟨c1, s1, p1, by rw [lk_ne hb]; exact z1, z2⟩
theorem lk_dr' {b : Addr} (d : Dr (lk a od u G) b) : Dr G b := by
  obtain ⟨c1, s1, p1, z1, z2⟩ := d
  by_cases hb : b = a
  · subst hb
    cases q : G b with
    | none => rw [lk_none q] at z1; cases z1
    | some w => rw [lk_at q] at z1; cases z1
  · rw [lk_ne hb] at z1; exact ⟨c1, s1, p1, z1, z2⟩
theorem un_dr {b : Addr} (h : G a = some (.frz od u)) (d : Dr G b) : Dr (upd G a u) b := by
  obtain ⟨c1, s1, p1, z1, z2⟩ := d
  have hb : b ≠ a := fun z => by rw [z, h] at z1; cases z1
  exact ⟨c1, s1, p1, by rw [upd_ne hb]; exact z1, z2⟩
theorem lk_seq {K : PySem.W.Frag} {b : Addr} {xs : List V} (h : G a = some u) (hu : isDict u) (s : SqL K G b xs) : SqL K (lk a od u G) b xs := by
  rcases s with (e | ⟨o, e⟩) | e
  · have hb : b ≠ a := fun z => by rw [z, h] at e; cases e; exact hu
    exact .inl (.inl (by rw [lk_ne hb]; exact e))
  · have hb : b ≠ a := fun z => by rw [z, h] at e; cases e; exact hu
    exact .inl (.inr ⟨o, by rw [lk_ne hb]; exact e⟩)
  · exact .inr e
theorem un_seq {K : PySem.W.Frag} {b : Addr} {xs : List V} (h : G a = some (.frz od u)) (hu : isDict u) (s : SqL K G b xs) : SqL K (upd G a u) b xs := by
  rcases s with (e | ⟨o, e⟩) | e
  · have hb : b ≠ a := fun z => by rw [z, h] at e; cases e
    exact .inl (.inl (by rw [upd_ne hb]; exact e))
  · have hb : b ≠ a := fun z => by rw [z, h] at e; cases e; exact hu
    exact .inl (.inr ⟨o, by rw [upd_ne hb]; exact e⟩)
  · exact .inr e
end
section
variable {K : PySem.W.Frag} {t : Option Addr} {F0 H0 L F H : Hp} {δ : DS} {σ : L2.St} {a : Addr} {od : Obj} {u : HO}
theorem RS.lock (r : RS K t F0 H0 L F δ σ H) (hF : F a = some u) (hu : isDict u) : RS K t (lk a od u F0) (lk a od u H0) (lk a od u L) (lk a od u F) δ σ (lk a od u H) := by
  have hH := r.st.s _ _ hF
  have hta : ∀ b, t = some b → b ≠ a := fun b e z => by rw [z] at e; rw [(r.st.tp a e).2] at hF; cases hF
  have nt : some a ≠ t := fun e => hta a e.symm rfl
  have h0 : ∀ o, H0 a = some o → o = u := fun o e => by have := r.g.h _ _ e nt; rw [hH] at this; exact (Option.some.inj this).symm
  have se : Sees F (lk a od u F) := lk_sees hF hu
  exact {
    st := {
      s := lk_same r.st.s
      tp := fun b e => ⟨lk_dr hH hu (r.st.tp b e).1, lk_none (r.st.tp b e).2⟩
      len := r.st.len
      sl := fun i v e => by
        obtain ⟨x, h1, h2⟩ := r.st.sl i v e
        refine ⟨x, h1, ?_⟩
        cases v with
        | sh d => exact Rp.mono se h2
        | tp => exact h2
        | sc ns => obtain ⟨b, w1, w2⟩ := h2; exact ⟨b, w1, lk_seq hF hu w2⟩
        | ow d =>
          obtain ⟨l, o, w1, w2, w3, w4, w5⟩ := h2
          have hl : l ≠ a := fun z => by rw [z, hF] at w3; cases w3
          exact ⟨l, o, w1, by rw [lk_ne hl]; exact w2, lk_none w3, w4, w5.mono se⟩
      ne := r.st.ne }
    g := {
      z := lk_same r.g.z
      f := lk_same r.g.f
      h := fun b o e n => by
        by_cases hb : b = a
        · subst hb
          cases q : H0 b with
          | none => rw [lk_none q] at e; cases e
          | some w => rw [lk_at q] at e; rw [lk_at hH]; exact e
        · rw [lk_ne hb] at e ⊢; exact r.g.h b o e n
      d := fun b e z => by
        have := lk_none' z
        exact r.g.d b (fun w => e (lk_none w)) this
      n := fun b e1 e2 e3 => by
        have f1 := lk_none' e1
        have f2 : H0 b ≠ none := fun w => e2 (lk_none w)
        refine lk_none (r.g.n b f1 f2 fun xs w => ?_)
        by_cases hb : b = a
        · subst hb; have := h0 _ w; rw [← this] at hu; exact hu
        · exact e3 xs (by rw [lk_ne hb]; exact w)
      s := lk_same r.g.s
      t := fun b e h => lk_dr hH hu (r.g.t b e (lk_dr' h)) }
    lo := lk_same r.lo
    fr := fun i d l e1 e2 => lk_none (r.fr i d l e1 e2)
    dr := fun b e n => by
      have n' : H0 b ≠ none := fun w => n (lk_none w)
      obtain ⟨c1, s1, p1, z1, z2⟩ := r.dr b e n'
      exact ⟨c1, s1, p1, by rw [lk_ne (hta b e)]; exact z1, z2⟩ }
theorem lk_un {G G2 : Hp} (h : Same (lk a od u G) G2) (hG : ∀ o, G a = some o → o = u) : Same G (upd G2 a u) := fun b o e => by
  by_cases hb : b = a
  · subst hb; rw [upd_same, hG o e]
  · rw [upd_ne hb]; exact h b o (by rw [lk_ne hb]; exact e)
theorem RS.unlock {F2 H2 : Hp} {δ2 : DS} {σ2 : L2.St} (r : RS K t F0 H0 L F δ σ H) (hF : F a = some u) (hu : isDict u) (r2 : RS K t (lk a od u F0) (lk a od u H0) (lk a od u F) F2 δ2 σ2 H2) :
    H2 a = some (.frz od u) ∧ RS K t F0 H0 L (L2.upd F2 a u) δ2 σ2 (L2.upd H2 a u) := by
  have hH := r.st.s _ _ hF
  have hta : ∀ b, t = some b → b ≠ a := fun b e z => by rw [z] at e; rw [(r.st.tp a e).2] at hF; cases hF
  have nt : some a ≠ t := fun e => hta a e.symm rfl
  have h0 : ∀ o, H0 a = some o → o = u := fun o e => by have := r.g.h _ _ e nt; rw [hH] at this; exact (Option.some.inj this).symm
  have f0 : ∀ o, F0 a = some o → o = u := fun o e => h0 o (r.g.z _ _ e)
  have fF : ∀ o, F a = some o → o = u := fun o e => by rw [hF] at e; exact (Option.some.inj e).symm
  have hF2 : F2 a = some (.frz od u) := r2.lo _ _ (lk_at hF)
  have hH2 : H2 a = some (.frz od u) := r2.st.s _ _ hF2
  have se : Sees F2 (L2.upd F2 a u) := un_sees hF2 hu
  have s2 : Same (L2.upd F2 a u) (L2.upd H2 a u) := fun b o e => by
    by_cases hb : b = a
    · subst hb; rw [upd_same] at e ⊢; exact e
    · rw [upd_ne hb] at e ⊢; exact r2.st.s b o e
  refine ⟨hH2, ?_⟩
  exact {
    st := {
      s := s2
      tp := fun b e => ⟨un_dr hH2 (r2.st.tp b e).1, by rw [upd_ne (hta b e)]; exact (r2.st.tp b e).2⟩
      len := r2.st.len
      sl := fun i v e => by
        obtain ⟨x, h1, h2⟩ := r2.st.sl i v e
        refine ⟨x, h1, ?_⟩
        cases v with
        | sh d => exact Rp.mono se h2
        | tp => exact h2
        | sc ns => obtain ⟨b, w1, w2⟩ := h2; exact ⟨b, w1, un_seq hF2 hu w2⟩
        | ow d =>
          obtain ⟨l, o, w1, w2, w3, w4, w5⟩ := h2
          have hl : l ≠ a := fun z => by rw [z, hF2] at w3; cases w3
          exact ⟨l, o, w1, by rw [upd_ne hl]; exact w2, by rw [upd_ne hl]; exact w3, w4, w5.mono se⟩
      ne := r2.st.ne }
    g := {
      z := r.g.z
      f := lk_un r2.g.f f0
      h := fun b o e n => by
        by_cases hb : b = a
        · subst hb; rw [upd_same, h0 o e]
        · rw [upd_ne hb]; exact r2.g.h b o (by rw [lk_ne hb]; exact e) n
      d := fun b e z => by
        by_cases hb : b = a
        · subst hb; rw [upd_same] at z; cases z
        · rw [upd_ne hb] at z; exact r2.g.d b (fun w => e (lk_none' w)) z
      n := fun b e1 e2 e3 => by
        by_cases hb : b = a
        · subst hb
          have := r.g.n b e1 e2 e3
          rw [hF] at this; cases this
        · rw [upd_ne hb]
          exact r2.g.n b (lk_none e1) (fun w => e2 (lk_none' w)) fun xs w => e3 xs (by rw [lk_ne hb] at w; exact w)
      s := s2
      t := fun b e h => by
        have hb : H0 a = some u ∨ H0 a = none := by
          cases q : H0 a with
          | none => exact .inr rfl
          | some w => rw [h0 w q] at *; exact .inl rfl
        refine un_dr hH2 (r2.g.t b e ?_)
        obtain ⟨c1, s1, p1, z1, z2⟩ := h
        exact ⟨c1, s1, p1, by rw [lk_ne (hta b e)]; exact z1, z2⟩ }
    lo := r.lo.trans (lk_un r2.lo fF)
    fr := fun i d l e1 e2 => lk_none' (r2.fr i d l e1 e2)
    dr := r.dr }
end
end Sw
local macro_rules | `(tactic| walk_at "go1") => `(tactic| first
  | with_reducible refine Sw.g_seqasg ?_ | with_reducible refine Sw.g_op ?_ | with_reducible refine Sw.g_var rfl ?_ | with_reducible refine Sw.g_c ?_ | with_reducible refine Sw.g_I0 ?_
  | with_reducible refine Sw.g_cons ?_ | with_reducible refine Sw.g_nil ?_ | with_reducible refine Sw.g_call ?_ | with_reducible refine Sw.g_cb ?_ | with_reducible refine Sw.g_test ?_ | with_reducible refine Sw.g_bl ?_
  | with_reducible refine Sw.g_seqdrop ?_ | with_reducible refine Sw.g_seqsub ?_ | with_reducible refine Sw.g_asg ?_ | with_reducible refine Sw.g_asgsub ?_ | with_reducible refine Sw.g_ret ?_ | with_reducible refine Sw.g_drop ?_ | with_reducible refine Sw.g_if ?_ | with_reducible refine Sw.g_next ?_ | with_reducible refine Sw.g_name ?_
  | with_reducible refine Sw.g_B ?_ | with_reducible refine Sw.g_not ?_ | with_reducible refine Sw.g_and ?_ | with_reducible refine Sw.g_or ?_ | with_reducible refine Sw.g_andV ?_ | with_reducible refine Sw.g_orV ?_ | with_reducible refine Sw.g_notV ?_
  | with_reducible refine Sw.g_ifE ?_ | with_reducible refine Sw.g_chain ?_ | with_reducible refine Sw.g_un ?_ | with_reducible refine Sw.g_tup ?_ | with_reducible refine Sw.g_lst ?_ | with_reducible refine Sw.g_sl ?_ | with_reducible refine Sw.g_part ?_ | with_reducible refine Sw.g_nopart ?_
  | with_reducible refine Sw.g_U ?_ | with_reducible refine Sw.g_eq rfl ?_ | with_reducible refine Sw.g_ne rfl ?_ | with_reducible refine Sw.g_int ?_ | with_reducible refine Sw.g_yes ?_ | with_reducible refine L2.iteT ?_ | with_reducible refine L2.iteF ?_ | with_reducible refine Sw.iteNT ?_ | with_reducible refine Sw.iteNF ?_ | with_reducible refine Sw.g_m1 ?_ | with_reducible refine Sw.g_bm ?_ | with_reducible refine ⟨Sw.ty_lst (by assumption), ?_⟩ | with_reducible refine Sw.g_sput ?_ | with_reducible refine Sw.g_put ?_ | with_reducible refine Sw.g_dget2 ?_ | with_reducible refine Sw.g_dget ?_ | with_reducible refine Sw.g_dK ?_ | with_reducible refine Sw.g_dT ?_ | with_reducible refine Sw.g_dnotin ?_ | with_reducible refine Sw.g_din ?_ | with_reducible refine Sw.g_bm0 ?_
  | with_reducible refine Sw.g_ixL (by assumption) rfl ?_ | with_reducible refine Sw.g_ixT (by assumption) rfl ?_)
local macro_rules | `(tactic| walk_at "go") => `(tactic| repeat walk_at "go1")
local macro_rules | `(tactic| walk_at "bd") => `(tactic| repeat (first | with_reducible exact Sw.all_nil | refine Sw.all_cons ⟨_, rfl, by omega, by omega⟩ ?_))
local macro_rules | `(tactic| walk_at "new") => `(tactic| (refine ⟨Nat.le_of_ble_eq_true rfl, fun p np => ?_⟩; generalize hX : L2.upd _ p _ = H'; have sm : L2.Same _ H' := hX ▸ Sw.same_upd np; have hp : H' p = some _ := hX ▸ L2.upd_same; clear hX))
namespace Sw
open PySem PySem.Spec PyProof.Rows L2 SX
/-! ### for k in d -/
/-- an expression that only looks: its value by the state alone -/
def Peek (K : PySem.W.Frag) (t : Option Addr) (te : TE) (qe : QE) : Prop := ∀ F0 H0 L F δ σ H Qp, RS K t F0 H0 L F δ σ H → qe δ Qp → ∃ x m d, (m ≠ .ow) ∧ Vw t F H x d ∧ (m ≠ .pk → Rp F d x) ∧ Qp m d ∧ ∀ H' (Q : VK), Sees H H' → Q x H' → te σ H' Q
section
variable {K : PySem.W.Frag} {t : Option Addr} {ta tb : TE} {qa qb : QE}
theorem pk_var (i : Nat) : Peek K t (tVar i) (qVar i) := fun F0 H0 L F δ σ H Qp rs hq => by
  obtain ⟨s, h1, h2⟩ := hq
  obtain ⟨x, h3, h4⟩ := rs.st.sl i s h1
  cases s with
  | sh d => exact ⟨x, .sh, d, by decide, .inl h4, fun _ => h4, h2, fun H' Q _ q => ⟨x, h3, q⟩⟩
  | ow d => exact ⟨x, .pk, d, by decide, .inr h4, fun z => absurd rfl z, h2, fun H' Q _ q => ⟨x, h3, q⟩⟩
  | tp => exact False.elim h2
  | sc ns => exact False.elim h2
theorem pk_c {v : V} {d : D} (h : ∀ F, Rp F d v) : Peek K t (tC v) (qC d) := fun F0 H0 L F δ σ H Qp rs hq => ⟨v, .sh, d, by decide, .inl (h F), fun _ => h F, hq, fun _ _ _ q => q⟩
theorem pk_neg (ha : Peek K t ta qa) : Peek K t (tUn rNeg ta) (qUn pNeg qa) := fun F0 H0 L F δ σ H Qp rs hq => by
  obtain ⟨x, m, d, hm, v, r, ⟨i, rfl, q⟩, k⟩ := ha F0 H0 L F δ σ H _ rs hq
  have e := vw_int v
  subst e
  exact ⟨.int (-i), .sh, .int (-i), by decide, .inl rfl, fun _ => rfl, q, fun H' Q s q => k H' _ s ⟨i, rfl, q⟩⟩
theorem pk_I0 {g : Int → Int → V} {g' : Int → Int → D} (h : ∀ i j F, Rp F (g' i j) (g i j)) (ha : Peek K t ta qa) (hb : Peek K t tb qb) : Peek K t (tOp (rI0 g) ta tb) (qOp (pI0 g') qa qb) := fun F0 H0 L F δ σ H Qp rs hq => by
  obtain ⟨x, m, d, hm, v, r, q, k⟩ := ha F0 H0 L F δ σ H _ rs hq
  obtain ⟨y, m2, e, hm2, v2, r2, ⟨i, j, rfl, rfl, q2⟩, k2⟩ := hb F0 H0 L F δ σ H _ rs q
  have e1 := vw_int v
  have e2 := vw_int v2
  subst e1 e2
  exact ⟨g i j, .sh, g' i j, by decide, .inl (h i j F), fun _ => h i j F, q2, fun H' Q s q => k H' _ s (k2 H' _ s ⟨i, j, rfl, rfl, q⟩)⟩
theorem pk_ixL (ha : Peek K t ta qa) (hb : Peek K t tb qb) : Peek K t (tOp (rIxL K) ta tb) (qOp pIxL qa qb) := fun F0 H0 L F δ σ H Qp rs hq => by
  obtain ⟨x, m, d, hm, v, r, q, k⟩ := ha F0 H0 L F δ σ H _ rs hq
  obtain ⟨y, m2, e, hm2, v2, r2, ⟨ds, i, w, rfl, rfl, ev, q2⟩, k2⟩ := hb F0 H0 L F δ σ H _ rs q
  obtain ⟨a, xs, rfl, h1, h2⟩ := vw_lst rs.st.s v
  obtain ⟨z, h3, h4⟩ := rpl_atI h2 ev
  have e2 := vw_int v2
  subst e2
  exact ⟨z, .sh, w, by decide, .inl h4, fun _ => h4, q2, fun H' Q s q => k H' _ s (k2 H' _ s ⟨a, xs, i, z, rfl, rfl, .inl (.inl (s.l _ _ h1)), h3, q⟩)⟩
end
def tForD (td : TE) (g : TG) (tb : TS) : TS := fun D σ H => tLock (tFor (iKeys td) g tb) D σ H ∨ tFor (iKeys td) g tb D σ H
theorem ps_forD {X : Cx} {st : Stmt} {td : TE} {g : TG} {tb : TS} (h : PS X st (tFor (iKeys td) g tb)) : PS X st (tForD td g tb) := ⟨fun pins s σ H D I hw => hw.elim (fun w => (ps_lock h).run pins s σ H D I w) fun w => h.run pins s σ H D I w⟩
def qForD (e : QE) (g : QG) (b : QS) : QS := fun P δ => e δ fun m d => m ≠ .pk ∧ ((∃ kvs, d = .dT kvs ∧ loop g b P (kvs.map fun e => .tup (e.1.map dKey)) δ) ∨ ∃ kvs, d = .dK kvs ∧ loop g b P (kvs.map fun e => dKey e.1) δ)
section
variable {K : PySem.W.Frag} {c : Cl} {t : Option Addr} {E : XE} {Ep : XP} {te : TE} {qe : QE} {ts : TS} {qs : QS} {g : TG} {qg : QG} {nm : List Nat}
theorem itkt_ok {F : Hp} {a : Addr} {o : Obj} {xs : List (List Key × V)} {kvs : List (List Key × D)} (h : F a = some (.frz o (.dT xs))) (hk : xs.map (·.1) = kvs.map (·.1)) : ItOk (Itkt a o xs) F (kvs.map fun e => .tup (e.1.map dKey)) := fun F1 H1 s1 s2 => by
  have hl : xs.length = kvs.length := by simpa using congrArg List.length hk
  refine ⟨fun i d e => ?_, s2 _ _ (s1 _ _ h), by rw [List.length_map, hl]; exact Nat.le_refl _⟩
  rw [List.getElem?_map] at e
  obtain ⟨e0, h1, rfl⟩ := Option.map_eq_some_iff.mp e
  have hi : i < kvs.length := (List.getElem?_eq_some_iff.mp h1).1
  refine ⟨⟨s2 _ _ (s1 _ _ h), by omega⟩, fun x H2 ⟨e1, k, v, q, h2, h3, h4⟩ => ?_⟩
  subst e1 h3
  have : e0.1 = k := by
    have z1 := congrArg (fun l => l[i]?) hk
    simp only [List.getElem?_map] at z1
    rw [h1, h2] at z1
    exact (Option.some.inj z1).symm
  rw [this]
  exact ⟨_, .tup s2 h4, q, _, rfl, upd_same, rpl_keys k⟩
theorem itk_ok {F : Hp} {a : Addr} {o : Obj} {xs : List (Key × V)} {kvs : List (Key × D)} (h : F a = some (.frz o (.dK xs))) (hk : xs.map (·.1) = kvs.map (·.1)) : ItOk (Itk a o xs) F (kvs.map fun e => dKey e.1) := fun F1 H1 s1 s2 => by
  have hl : xs.length = kvs.length := by simpa using congrArg List.length hk
  refine ⟨fun i d e => ?_, s2 _ _ (s1 _ _ h), by rw [List.length_map, hl]; exact Nat.le_refl _⟩
  rw [List.getElem?_map] at e
  obtain ⟨e0, h1, rfl⟩ := Option.map_eq_some_iff.mp e
  have hi : i < kvs.length := (List.getElem?_eq_some_iff.mp h1).1
  refine ⟨⟨s2 _ _ (s1 _ _ h), by omega⟩, fun x H2 ⟨e1, k, v, h2, h3⟩ => ?_⟩
  subst e1 h3
  have : e0.1 = k := by
    have z1 := congrArg (fun l => l[i]?) hk
    simp only [List.getElem?_map] at z1
    rw [h1, h2] at z1
    exact (Option.some.inj z1).symm
  rw [this]
  exact ⟨F1, .refl s2, rp_key k⟩
theorem bare {F0 H0 L F H : Hp} (g : Grow t F0 H0 F H) (lo : Same L F) (dr : ∀ a, t = some a → H0 a ≠ none → Dr H0 a) (st : ∀ a, t = some a → Dr H a ∧ F a = none) : RS K t F0 H0 L F [] [] H where
  st := {
    s := g.s
    tp := st
    len := rfl
    sl := fun i v e => by simp at e
    ne := fun i j d e x e1 _ _ _ => by simp at e1 }
  g := g
  lo := lo
  fr := fun i d l e1 _ => by simp at e1
  dr := dr
theorem s_forD (hp : Peek K t te qe) (hg : SimG K t nm g qg) (hb : SimS K c t E P0 ts qs) : SimS K c t E Ep (tForD te g ts) (qForD qe qg qs) := fun F0 H0 L F δ σ H De Dp er rs en hq => by
  obtain ⟨x, m, d, hm, v, r, ⟨hm2, q⟩, k⟩ := hp F0 H0 L F δ σ H _ rs hq
  have rp := r hm2
  -- either kind: its object u, its walk
  have main : ∀ (a : Addr) (u : HO) (ds : List D), x = .ref a → isDict u → Rd F a u → (∀ (G : Hp) (o : Obj), G a = some (.frz o u) → ∃ J, ItOk J G ds ∧ ∀ (H' : Hp) (R : It → Hp → Prop), H' a = some (.frz o u) → R J H' → (∃ kvs, H' a = some (.frz o (.dK kvs)) ∧ R (Itk a o kvs) H') ∨ ∃ kvs, H' a = some (.frz o (.dT kvs)) ∧ R (Itkt a o kvs) H') →
      loop qg qs Dp ds δ → tForD te g ts De σ H := by
    intro a u ds ex hu hr hit hl
    subst ex
    rcases hr with hF | ⟨o, hF⟩
    · have hH := rs.st.s _ _ hF
      refine .inl ⟨a, u, hH, by cases u <;> first | exact True.intro | exact hu, fun od => ?_⟩
      have rl := rs.lock (od := od) hF hu
      have eH : lk a od u H = upd H a (.frz od u) := lk_upd hH
      obtain ⟨J, ok, hJ⟩ := hit (lk a od u F) od (lk_at hF)
      rw [← eH]
      refine k _ _ (lk_sees hH hu) ⟨a, od, rfl, hJ (lk a od u H) (ForW g ts ⟨fun σ' H' => H' a = some (.frz od u) ∧ De.nx σ' (upd H' a u), fun v H' => H' a = some (.frz od u) ∧ De.rt v (upd H' a u), fun σ' H' => H' a = some (.frz od u) ∧ De.bk σ' (upd H' a u), fun σ' H' => H' a = some (.frz od u) ∧ De.ct σ' (upd H' a u)⟩ σ) (lk_at hH) ?_⟩
      refine for_core (L := lk a od u F) (Dp := Dp) hg hb ER.no rl.at ⟨?_, ?_, ?_, ?_⟩ ok hl
      · intro F4 δ4 σ4 H4 r4 q4
        obtain ⟨z1, z2⟩ := rs.unlock hF hu r4
        exact ⟨z1, en.nx _ δ4 σ4 _ z2 q4⟩
      · intro F4 H4 x4 m4 d4 g4 l4 t4 rv4 hm4 q4
        have r4 : RS K t (lk a od u F0) (lk a od u H0) (lk a od u F) F4 [] [] H4 := bare g4 l4 rl.dr t4
        obtain ⟨z1, z2⟩ := rs.unlock hF hu r4
        have f4 : F4 a = some (.frz od u) := l4 _ _ (lk_at hF)
        refine ⟨z1, en.rt _ _ x4 m4 d4 z2.g z2.lo z2.st.tp ?_ hm4 q4⟩
        have se := un_sees f4 hu
        cases m4 with
        | sh => exact Rp.mono se rv4
        | pk => exact absurd rfl hm4
        | ow =>
          obtain ⟨l, o, w0, w1, w2, w3, w4, w5⟩ := rv4
          have hl : l ≠ a := fun z => by rw [z, f4] at w3; cases w3
          exact ⟨l, o, w0, lk_none' w1, by rw [upd_ne hl]; exact w2, by rw [upd_ne hl]; exact w3, w4, w5.mono se⟩
      · intro F4 δ4 σ4 H4 r4 q4
        obtain ⟨z1, z2⟩ := rs.unlock hF hu r4
        exact ⟨z1, en.bk _ δ4 σ4 _ z2 q4⟩
      · intro F4 δ4 σ4 H4 r4 q4
        obtain ⟨z1, z2⟩ := rs.unlock hF hu r4
        exact ⟨z1, en.ct _ δ4 σ4 _ z2 q4⟩
    · obtain ⟨J, ok, hJ⟩ := hit F o hF
      refine .inr (k _ _ ⟨fun _ _ h => h, fun _ _ h => h, fun _ _ h => h, fun _ _ h => h⟩ ⟨a, o, rfl, hJ H (ForW g ts De σ) (rs.st.s _ _ hF) ?_⟩)
      exact for_core hg hb ER.no rs en ok hl
  rcases q with ⟨kvs, rfl, q⟩ | ⟨kvs, rfl, q⟩
  · obtain ⟨a, xs, rfl, h1, h2⟩ := rp
    exact main a (.dT xs) _ rfl True.intro h1 (fun G o h => ⟨Itkt a o xs, itkt_ok h h2.keys, fun H' R h' r => .inr ⟨xs, h', r⟩⟩) q
  · obtain ⟨a, xs, rfl, h1, h2⟩ := rp
    exact main a (.dK xs) _ rfl True.intro h1 (fun G o h => ⟨Itk a o xs, itk_ok h h2.keys, fun H' R h' r => .inl ⟨xs, h', r⟩⟩) q
end
end Sw
local macro_rules | `(tactic| walk_at "go1") => `(tactic| first
  | with_reducible refine Sw.g_seqasg ?_ | with_reducible refine Sw.g_op ?_ | with_reducible refine Sw.g_var rfl ?_ | with_reducible refine Sw.g_c ?_ | with_reducible refine Sw.g_I0 ?_
  | with_reducible refine Sw.g_cons ?_ | with_reducible refine Sw.g_nil ?_ | with_reducible refine Sw.g_call ?_ | with_reducible refine Sw.g_cb ?_ | with_reducible refine Sw.g_test ?_ | with_reducible refine Sw.g_bl ?_
  | with_reducible refine Sw.g_seqdrop ?_ | with_reducible refine Sw.g_seqsub ?_ | with_reducible refine Sw.g_asg ?_ | with_reducible refine Sw.g_asgsub ?_ | with_reducible refine Sw.g_ret ?_ | with_reducible refine Sw.g_drop ?_ | with_reducible refine Sw.g_if ?_ | with_reducible refine Sw.g_next ?_ | with_reducible refine Sw.g_name ?_
  | with_reducible refine Sw.g_B ?_ | with_reducible refine Sw.g_not ?_ | with_reducible refine Sw.g_and ?_ | with_reducible refine Sw.g_or ?_ | with_reducible refine Sw.g_andV ?_ | with_reducible refine Sw.g_orV ?_ | with_reducible refine Sw.g_notV ?_
  | with_reducible refine Sw.g_ifE ?_ | with_reducible refine Sw.g_chain ?_ | with_reducible refine Sw.g_un ?_ | with_reducible refine Sw.g_tup ?_ | with_reducible refine Sw.g_lst ?_ | with_reducible refine Sw.g_sl ?_ | with_reducible refine Sw.g_part ?_ | with_reducible refine Sw.g_nopart ?_
  | with_reducible refine Sw.g_U ?_ | with_reducible refine Sw.g_eq rfl ?_ | with_reducible refine Sw.g_ne rfl ?_ | with_reducible refine Sw.g_int ?_ | with_reducible refine Sw.g_yes ?_ | with_reducible refine L2.iteT ?_ | with_reducible refine L2.iteF ?_ | with_reducible refine Sw.iteNT ?_ | with_reducible refine Sw.iteNF ?_ | with_reducible refine Sw.g_m1 ?_ | with_reducible refine Sw.g_bm ?_ | with_reducible refine ⟨Sw.ty_lst (by assumption), ?_⟩ | with_reducible refine Sw.g_sput ?_ | with_reducible refine Sw.g_put ?_ | with_reducible refine Sw.g_dget2 ?_ | with_reducible refine Sw.g_dget ?_ | with_reducible refine Sw.g_dK ?_ | with_reducible refine Sw.g_dT ?_ | with_reducible refine Sw.g_dnotin ?_ | with_reducible refine Sw.g_din ?_ | with_reducible refine Sw.g_bm0 ?_
  | with_reducible refine Sw.g_ixL (by assumption) rfl ?_ | with_reducible refine Sw.g_ixT (by assumption) rfl ?_)
local macro_rules | `(tactic| walk_at "go") => `(tactic| repeat walk_at "go1")
local macro_rules | `(tactic| walk_at "bd") => `(tactic| repeat (first | with_reducible exact Sw.all_nil | refine Sw.all_cons ⟨_, rfl, by omega, by omega⟩ ?_))
local macro_rules | `(tactic| walk_at "new") => `(tactic| (refine ⟨Nat.le_of_ble_eq_true rfl, fun p np => ?_⟩; generalize hX : L2.upd _ p _ = H'; have sm : L2.Same _ H' := hX ▸ Sw.same_upd np; have hp : H' p = some _ := hX ▸ L2.upd_same; clear hX))
namespace Sw
open PySem PySem.Spec PyProof.Rows L2 SX
/-! ### min(d.values()), sorted(pairs) -/
def pMinV : P1 := fun d Q => ∃ kvs : List (List Key × Int), d = .dT (kvs.map fun e => (e.1, .int e.2)) ∧ kvs ≠ [] ∧ ∀ m, m ∈ kvs.map (·.2) → (∀ j ∈ kvs.map (·.2), m ≤ j) → Q .sh (.int m)
abbrev rMinV : V → Hp → VK → Prop := fun x H1 Q => ∃ a kvs is, x = V.ref a ∧ Rd H1 a (.dT kvs) ∧ kvs.map (·.2) = is.map V.int ∧ is ≠ [] ∧ ∀ m, m ∈ is → (∀ j ∈ is, m ≤ j) → Q (.int m) H1
theorem rpT_ints {F : Hp} : ∀ {kvs : List (List Key × Int)} {xs : List (List Key × V)}, RpT F (kvs.map fun e => (e.1, .int e.2)) xs → xs.map (·.2) = (kvs.map (·.2)).map V.int
  | [], _, h => by cases h; rfl
  | (k, i) :: kvs, _, h => by
    obtain ⟨x, r, rfl, h2, h3⟩ := h
    rw [List.map_cons, rpT_ints h3, show x = V.int i from h2]
    rfl
def encP (p : Int × Int) : D := .tup [.int p.1, .int p.2]
def lexLt (p q : Int × Int) : Prop := p.1 < q.1 ∨ (p.1 = q.1 ∧ p.2 < q.2)
def lexLe (p q : Int × Int) : Prop := p.1 < q.1 ∨ (p.1 = q.1 ∧ p.2 ≤ q.2)
def pSortP : P1 := fun d Q => ∃ ps : List (Int × Int), d = .lst (ps.map encP) ∧ ∀ so : List (Int × Int), so.Perm ps → so.Pairwise lexLe → Q .ow (.lst (so.map encP))
section
variable {t : Option Addr}
theorem o_minV : Sim1 t rMinV pMinV := fun F H x d Q Qp s ht vx p k => by
  obtain ⟨kvs, rfl, hn, q⟩ := p
  obtain ⟨a, xs, rfl, h1, h2⟩ := vw_dT s vx
  refine ⟨a, xs, kvs.map (·.2), rfl, h1, rpT_ints h2, by simpa using hn, fun m hm hj => k.val s (d := .int m) rfl (q m hm hj)⟩
/-- the pair that stands at x -/
def pairOf (F : Hp) (x : V) : Int × Int := match x with
  | .ref a => match F a with
    | some (.tup [.int i, .int j]) => (i, j)
    | _ => (0, 0)
  | _ => (0, 0)
theorem rpl_pairs {F : Hp} : ∀ {ps : List (Int × Int)} {xs : List V}, RpL F (ps.map encP) xs → xs.map (pairOf F) = ps ∧ ∀ x ∈ xs, ∃ a, x = .ref a ∧ F a = some (.tup [.int (pairOf F x).1, .int (pairOf F x).2])
  | [], _, h => by cases h; exact ⟨rfl, fun _ h => nomatch h⟩
  | p :: ps, _, h => by
    obtain ⟨x, r, rfl, h2, h3⟩ := h
    obtain ⟨i1, i2⟩ := rpl_pairs h3
    obtain ⟨a, xs, rfl, h4, h5⟩ := h2
    obtain ⟨y, r1, rfl, h6, h7⟩ := h5
    obtain ⟨z, r2, rfl, h8, h9⟩ := h7
    have e1 : y = .int p.1 := h6
    have e2 : z = .int p.2 := h8
    have e3 : r2 = [] := h9
    subst e1 e2 e3
    have e : pairOf F (.ref a) = p := by show (match F a with | some (HO.tup [V.int i, V.int j]) => (i, j) | _ => (0, 0)) = p; rw [h4]
    refine ⟨by rw [List.map_cons, e, i1], fun x hx => ?_⟩
    rcases List.mem_cons.mp hx with rfl | hx
    · exact ⟨a, rfl, by rw [e]; exact h4⟩
    · exact i2 x hx
theorem rpl_of_pairs {F : Hp} : ∀ {xs : List V}, (∀ x ∈ xs, ∃ a, x = .ref a ∧ F a = some (.tup [.int (pairOf F x).1, .int (pairOf F x).2])) → RpL F ((xs.map (pairOf F)).map encP) xs
  | [], _ => rfl
  | x :: xs, h => by
    obtain ⟨a, e, h1⟩ := h x List.mem_cons_self
    refine ⟨x, xs, rfl, ?_, rpl_of_pairs fun y hy => h y (List.mem_cons_of_mem _ hy)⟩
    exact ⟨a, _, e, h1, _, _, rfl, rfl, _, _, rfl, rfl, rfl⟩
theorem o_sortP {K : PySem.W.Frag} : Sim1 t (fun x => rSortedPO K [x]) pSortP := fun F H x d Q Qp s ht vx p k => by
  obtain ⟨ps, rfl, q⟩ := p
  obtain ⟨a, xs, rfl, h1, h2⟩ := vw_lst s vx
  obtain ⟨h3, h4⟩ := rpl_pairs h2
  refine ⟨a, xs, pairOf F, rfl, .inl (.inl h1), fun x hx => ?_, fun ys p so st np => ?_⟩
  · obtain ⟨b, e, h5⟩ := h4 x hx
    exact ⟨b, e, s _ _ h5⟩
  · have pe := st.perm
    have h5 : RpL F ((ys.map (pairOf F)).map encP) ys := rpl_of_pairs fun y hy => h4 y (pe.mem_iff.mp hy)
    refine k.new s ht np (o := .lst ys) (d := .lst _) h5 (q (ys.map (pairOf F)) ?_ ?_)
    · rw [← h3]; exact pe.map _
    · rw [List.pairwise_map]
      refine List.Pairwise.imp ?_ so
      intro x y h
      have := SrtO.lexB_no.mp h
      unfold lexLe
      omega
end
/-! ### data compared -/
mutual
def toPy : D → PyData
  | .non => .none
  | .bl b => .bool b
  | .int i => .int i
  | .str l => .str (S l)
  | .lst ds => .list (toPyL ds)
  | .tup ds => .tuple (toPyL ds)
  | .dK _ => .none
  | .dT _ => .none
  | .tape => .none
def toPyL : List D → List PyData
  | [] => []
  | d :: ds => toPy d :: toPyL ds
end
mutual
/-- no dict in it -/
def flatD : D → Bool
  | .lst ds => flatDL ds
  | .tup ds => flatDL ds
  | .dK _ => false
  | .dT _ => false
  | .tape => false
  | _ => true
def flatDL : List D → Bool
  | [] => true
  | d :: ds => flatD d && flatDL ds
end
mutual
theorem rp_dp {K : PySem.W.Frag} {H : Hp} : ∀ {d : D} {v : V}, flatD d = true → Rp H d v → Dp K H v (toPy d)
  | .non, _, _, h => by rw [show _ = V.non from h]; exact .non
  | .bl b, _, _, h => by rw [show _ = V.bl b from h]; exact .bl b
  | .int i, _, _, h => by rw [show _ = V.int i from h]; exact .int i
  | .str l, _, _, h => by rw [show _ = V.str (S l) from h]; exact .str _
  | .lst ds, _, f, h => by obtain ⟨a, xs, rfl, h1, h2⟩ := h; exact .lst (.inl (.inl h1)) (rpl_dp f h2)
  | .tup ds, _, f, h => by obtain ⟨a, xs, rfl, h1, h2⟩ := h; exact .tup (.inl (.inl h1)) (rpl_dp f h2)
  | .dK _, _, f, _ => by cases f
  | .dT _, _, f, _ => by cases f
  | .tape, _, f, _ => by cases f
theorem rpl_dp {K : PySem.W.Frag} {H : Hp} : ∀ {ds : List D} {vs : List V}, flatDL ds = true → RpL H ds vs → DpAll K H vs (toPyL ds)
  | [], _, _, h => by cases h; exact .nil
  | d :: ds, _, f, h => by
    obtain ⟨x, r, rfl, h1, h2⟩ := h
    have f' : (flatD d && flatDL ds) = true := f
    rw [Bool.and_eq_true] at f'
    exact .cons (rp_dp f'.1 h1) (rpl_dp f'.2 h2)
end
def pEqD : P2 := fun d e Q => flatD d = true ∧ flatD e = true ∧ SeqAt.shaped (toPy d) = true ∧ SeqAt.shaped (toPy e) = true ∧ Q .sh (.bl (PyData.eqv (toPy d) (toPy e)))
def pNeD : P2 := fun d e Q => flatD d = true ∧ flatD e = true ∧ SeqAt.shaped (toPy d) = true ∧ SeqAt.shaped (toPy e) = true ∧ Q .sh (.bl (!PyData.eqv (toPy d) (toPy e)))
theorem o_eqD {K : PySem.W.Frag} {t : Option Addr} : Sim2 t (rEqD K) pEqD := fun F H x y d e Q Qp s ht vx vy p k => by
  obtain ⟨f1, f2, s1, s2, q⟩ := p
  exact ⟨toPy d, toPy e, rp_dp f1 (vx.all s), rp_dp f2 (vy.all s), s1, s2, k.val s (d := .bl _) rfl q⟩
theorem o_neD {K : PySem.W.Frag} {t : Option Addr} : Sim2 t (rNeD K) pNeD := fun F H x y d e Q Qp s ht vx vy p k => by
  obtain ⟨f1, f2, s1, s2, q⟩ := p
  exact ⟨toPy d, toPy e, rp_dp f1 (vx.all s), rp_dp f2 (vy.all s), s1, s2, k.val s (d := .bl _) rfl q⟩
/-! ### try: .. except WheelError as e: kind = _law_kind(e) -/
def kn (n : Nat) : List Nat := (kstr n).cps.toList
def qTry (R : List Nat) (i j : Nat) (b : XP → QS) : QS := fun P δ => b (fun δ n => n ∈ R ∧ i < δ.length ∧ P.nx (((δ.set i none).set j (some (.sh (.str (kn n))))).set i none)) P δ
theorem s_try {K : PySem.W.Frag} {c : Cl} {t : Option Addr} {E : XE} {Ep : XP} {R : List Nat} {i j : Nat} {tb : WX → TS} {qb : XP → QS} (hx : ∀ n ∈ R, n < 14 ∧ Caught K c (c.at n) n) (hb : ∀ W ep, SimS K c t (WE W) ep (tb W) (qb ep)) (hij : i ≠ j) :
    SimS K c t E Ep (tTry K c.WheelError i tb (fun a cls d => tAsg (tCallE (sp_law_kind K c) a cls d (tVar i)) (gName j))) (qTry R i j qb) := fun F0 H0 L F δ σ H De Dp er rs en hq => by
  refine hb _ _ F0 H0 L F δ σ H De Dp (fun n F1 δ1 σ1 H1 r1 z => ?_) rs en hq
  obtain ⟨hn, hi, z⟩ := z
  obtain ⟨h14, ca⟩ := hx n hn
  refine ⟨true, ca.exm, fun _ a na => ?_, fun w => by cases w⟩
  refine ⟨.ref a, set_self (by rw [r1.st.len]; exact hi), rfl, rfl, c.at n, n, rfl, ca, h14, fun H2 s2 => ?_⟩
  have r2 : RS K t F0 H0 L F1 δ1 σ1 H2 := r1.grow (.same r1.st.s s2)
  have r3 := ((r2.setN (i := i) (y := some (.ref a))).setS (i := j) (d := .str (kn n)) (x := .str (kstr n)) (by show V.str _ = V.str (S _); unfold kn; rw [S_cps])).setN (i := i) (y := none)
  exact en.nx F1 _ _ H2 r3 z
end Sw
local macro_rules | `(tactic| walk_at "go1") => `(tactic| first
  | with_reducible refine Sw.g_seqasg ?_ | with_reducible refine Sw.g_op ?_ | with_reducible refine Sw.g_var rfl ?_ | with_reducible refine Sw.g_c ?_ | with_reducible refine Sw.g_I0 ?_
  | with_reducible refine Sw.g_cons ?_ | with_reducible refine Sw.g_nil ?_ | with_reducible refine Sw.g_call ?_ | with_reducible refine Sw.g_cb ?_ | with_reducible refine Sw.g_test ?_ | with_reducible refine Sw.g_bl ?_
  | with_reducible refine Sw.g_seqdrop ?_ | with_reducible refine Sw.g_seqsub ?_ | with_reducible refine Sw.g_asg ?_ | with_reducible refine Sw.g_asgsub ?_ | with_reducible refine Sw.g_ret ?_ | with_reducible refine Sw.g_drop ?_ | with_reducible refine Sw.g_if ?_ | with_reducible refine Sw.g_next ?_ | with_reducible refine Sw.g_name ?_
  | with_reducible refine Sw.g_B ?_ | with_reducible refine Sw.g_not ?_ | with_reducible refine Sw.g_and ?_ | with_reducible refine Sw.g_or ?_ | with_reducible refine Sw.g_andV ?_ | with_reducible refine Sw.g_orV ?_ | with_reducible refine Sw.g_notV ?_
  | with_reducible refine Sw.g_ifE ?_ | with_reducible refine Sw.g_chain ?_ | with_reducible refine Sw.g_un ?_ | with_reducible refine Sw.g_tup ?_ | with_reducible refine Sw.g_lst ?_ | with_reducible refine Sw.g_sl ?_ | with_reducible refine Sw.g_part ?_ | with_reducible refine Sw.g_nopart ?_
  | with_reducible refine Sw.g_U ?_ | with_reducible refine Sw.g_eq rfl ?_ | with_reducible refine Sw.g_ne rfl ?_ | with_reducible refine Sw.g_int ?_ | with_reducible refine Sw.g_yes ?_ | with_reducible refine L2.iteT ?_ | with_reducible refine L2.iteF ?_ | with_reducible refine Sw.iteNT ?_ | with_reducible refine Sw.iteNF ?_ | with_reducible refine Sw.g_m1 ?_ | with_reducible refine Sw.g_bm ?_ | with_reducible refine ⟨Sw.ty_lst (by assumption), ?_⟩ | with_reducible refine Sw.g_sput ?_ | with_reducible refine Sw.g_put ?_ | with_reducible refine Sw.g_dget2 ?_ | with_reducible refine Sw.g_dget ?_ | with_reducible refine Sw.g_dK ?_ | with_reducible refine Sw.g_dT ?_ | with_reducible refine Sw.g_dnotin ?_ | with_reducible refine Sw.g_din ?_ | with_reducible refine Sw.g_bm0 ?_
  | with_reducible refine Sw.g_ixL (by assumption) rfl ?_ | with_reducible refine Sw.g_ixT (by assumption) rfl ?_)
local macro_rules | `(tactic| walk_at "go") => `(tactic| repeat walk_at "go1")
local macro_rules | `(tactic| walk_at "bd") => `(tactic| repeat (first | with_reducible exact Sw.all_nil | refine Sw.all_cons ⟨_, rfl, by omega, by omega⟩ ?_))
local macro_rules | `(tactic| walk_at "new") => `(tactic| (refine ⟨Nat.le_of_ble_eq_true rfl, fun p np => ?_⟩; generalize hX : L2.upd _ p _ = H'; have sm : L2.Same _ H' := hX ▸ Sw.same_upd np; have hp : H' p = some _ := hX ▸ L2.upd_same; clear hX))
namespace Sw
open PySem PySem.Spec PyProof.Rows L2 SX
/-! ### reading data, step by step -/
def qAppS (i : Nat) (e : QE) : QS := fun P δ => (∃ d, δ[i]? = some (some (.ow (.lst d)))) ∧ qApp i e P δ
def qExtS (i : Nat) (e : QE) : QS := fun P δ => (∃ d, δ[i]? = some (some (.ow (.lst d)))) ∧ qExt i e P δ
def qPutKS (i : Nat) (k e : QE) : QS := fun P δ => (∃ d, δ[i]? = some (some (.ow (.dK d)))) ∧ qPutK i k e P δ
def qPutTS (i : Nat) (k e : QE) : QS := fun P δ => (∃ d, δ[i]? = some (some (.ow (.dT d)))) ∧ qPutT i k e P δ
def qSetLS (i : Nat) (j e : QE) : QS := fun P δ => (∃ d, δ[i]? = some (some (.ow (.lst d)))) ∧ qSetL i j e P δ
section
variable {δ : DS} {P : Pn} {Q : Md → D → Prop} {QT' : Bool → Prop} {QA' : List Ar → Prop} {i : Nat} {d d' : D} {a b e : QE} {s u : QS} {tt tu : QT} {p p' : P2} {p1 : P1} {x y : Int} {l l' : List Nat} {R : Prop} {m : Md}
theorem h_seq (h : s { P with nx := u P } δ) : qSeq s u P δ := h
theorem h_seqasg (h : e δ fun m d => m ≠ .pk ∧ u P (δ.set i (some (SV.of m d)))) : qSeq (qAsg e i) u P δ := h
theorem h_seqdrop (h : e δ fun _ _ => u P δ) : qSeq (qDrop e) u P δ := h
theorem h_asg (h : e δ fun m d => m ≠ .pk ∧ P.nx (δ.set i (some (SV.of m d)))) : qAsg e i P δ := h
theorem h_drop (h : e δ fun _ _ => P.nx δ) : qDrop e P δ := h
theorem h_ret (h : e δ fun m d => m ≠ .pk ∧ P.rt m d) : qRet e P δ := h
theorem h_retS (h : δ[i]? = some (some (.sh d))) (q : P.rt .sh d) : qRetV i P δ := ⟨_, h, q⟩
theorem h_retO (h : δ[i]? = some (some (.ow d))) (q : P.rt .ow d) : qRetV i P δ := ⟨_, h, q⟩
theorem h_retN (q : P.rt .sh .non) : qRetN P δ := q
theorem h_next (q : P.nx δ) : qNext P δ := q
theorem h_if (h : tt δ fun k => if k = true then s P δ else u P δ) : qIfS tt s u P δ := h
theorem h_frzO (h : δ[i]? = some (some (.ow d))) (q : s P (δ.set i (some (.sh d)))) : qFrz i s P δ := ⟨_, h, q⟩
theorem h_frzS (h : δ[i]? = some (some (.sh d))) (q : s P δ) : qFrz i s P δ := ⟨_, h, q⟩
theorem h_varS (h : δ[i]? = some (some (.sh d))) (q : Q .sh d) : qVar i δ Q := ⟨_, h, q⟩
theorem h_varO (h : δ[i]? = some (some (.ow d))) (q : Q .pk d) : qVar i δ Q := ⟨_, h, q⟩
theorem h_c (q : Q .sh d) : qC d δ Q := q
theorem h_op (h : a δ fun _ d => b δ fun _ e => p d e Q) : qOp p a b δ Q := h
theorem h_un (h : a δ fun _ d => p1 d Q) : qUn p1 a δ Q := h
theorem h_test (h : e δ fun _ d => ∃ b, d = .bl b ∧ QT' b) : qTest e δ QT' := h
theorem h_bl {b : Bool} (h : QT' b) : ∃ c, D.bl b = .bl c ∧ QT' c := ⟨b, rfl, h⟩
theorem h_and (h : tt δ fun c => if c = true then tu δ QT' else QT' false) : qAnd tt tu δ QT' := h
theorem h_or (h : tt δ fun c => if c = true then QT' true else tu δ QT') : qOr tt tu δ QT' := h
theorem h_not (h : tt δ fun c => QT' (!c)) : qNot tt δ QT' := h
theorem h_yes (h : QT' true) : qYes δ QT' := h
theorem h_andV (h : a δ fun _ d => ∃ c, d = .bl c ∧ if c = true then b δ Q else Q .sh (.bl false)) : qAndV a b δ Q := h
theorem h_orV (h : a δ fun _ d => ∃ c, d = .bl c ∧ if c = true then Q .sh (.bl true) else b δ Q) : qOrV a b δ Q := h
theorem h_notV (h : a δ fun _ d => ∃ c, d = .bl c ∧ Q .sh (.bl (!c))) : qNotV a δ Q := h
theorem h_ifE (h : tt δ fun k => if k = true then a δ Q else b δ Q) : qIf tt a b δ Q := h
theorem h_chain (h : a δ fun _ x => b δ fun _ y => p x y fun _ z => ∃ k, z = .bl k ∧ if k = true then e δ fun _ w => p' y w Q else Q .sh (.bl false)) : qChain p p' a b e δ Q := h
theorem h_nil (h : QA' []) : qNil δ QA' := h
theorem h_cons {r : QA} (h : a δ fun m d => r δ fun as => QA' (Ar.mk m d :: as)) : qCons a r δ QA' := h
theorem h_consT {r : QA} (h1 : δ[i]? = some (some .tp)) (h : r δ fun as => QA' (.tp :: as)) : qConsT i r δ QA' := ⟨h1, h⟩
theorem h_consC {r : QA} {ns : List Int} (h1 : δ[i]? = some (some (.sc ns))) (h : r δ fun as => QA' (.sc ns :: as)) : qConsC i r δ QA' := ⟨ns, h1, h⟩
theorem h_lenC {ns : List Int} (h1 : δ[i]? = some (some (.sc ns))) (h : Q .sh (.int (ns.length : Int))) : qLenC i δ Q := ⟨ns, h1, h⟩
theorem h_tup {r : QA} (h : r δ fun as => ∃ ds, as = shs ds ∧ ds.length ≤ 1000 ∧ Q .sh (.tup ds)) : qTup r δ Q := h
theorem h_lst {r : QA} (h : r δ fun as => ∃ ds, as = shs ds ∧ ds.length ≤ 1000 ∧ Q .ow (.lst ds)) : qLst r δ Q := h
theorem h_shs0 {G : List D → Prop} (h : G []) : ∃ ds, ([] : List Ar) = shs ds ∧ ds.length ≤ 1000 ∧ G ds := ⟨[], rfl, by decide, h⟩
theorem h_shs1 {G : List D → Prop} {d1 : D} (h : G [d1]) : ∃ ds, [Ar.sh d1] = shs ds ∧ ds.length ≤ 1000 ∧ G ds := ⟨[d1], rfl, Nat.le_of_ble_eq_true rfl, h⟩
theorem h_shs2 {G : List D → Prop} {d1 d2 : D} (h : G [d1, d2]) : ∃ ds, [Ar.sh d1, Ar.sh d2] = shs ds ∧ ds.length ≤ 1000 ∧ G ds := ⟨[d1, d2], rfl, Nat.le_of_ble_eq_true rfl, h⟩
theorem h_shs3 {G : List D → Prop} {d1 d2 d3 : D} (h : G [d1, d2, d3]) : ∃ ds, [Ar.sh d1, Ar.sh d2, Ar.sh d3] = shs ds ∧ ds.length ≤ 1000 ∧ G ds := ⟨[d1, d2, d3], rfl, Nat.le_of_ble_eq_true rfl, h⟩
theorem h_shs4 {G : List D → Prop} {d1 d2 d3 d4 : D} (h : G [d1, d2, d3, d4]) : ∃ ds, [Ar.sh d1, Ar.sh d2, Ar.sh d3, Ar.sh d4] = shs ds ∧ ds.length ≤ 1000 ∧ G ds := ⟨[d1, d2, d3, d4], rfl, Nat.le_of_ble_eq_true rfl, h⟩
theorem h_sl {r : D → Option Int → Option Int → (Md → D → Prop) → Prop} {o o' : QO} (h : a δ fun _ d => o δ fun lo => o' δ fun hi => r d lo hi Q) : qSl r a o o' δ Q := h
theorem h_nopart {QO' : Option Int → Prop} (h : QO' none) : qNoPart δ QO' := h
theorem h_part {QO' : Option Int → Prop} (h : a δ fun _ d => ∃ i, d = .int i ∧ QO' (some i)) : qPart a δ QO' := h
theorem h_int {G : Int → Prop} (h : G x) : ∃ i, D.int x = .int i ∧ G i := ⟨x, rfl, h⟩
theorem h_ne1 (h : R) : Md.sh ≠ .pk ∧ R := ⟨by decide, h⟩
theorem h_ne2 (h : R) : Md.ow ≠ .pk ∧ R := ⟨by decide, h⟩
theorem h_asS {G : DS → Prop} (h : G (δ.set i (some (.sh d)))) : Md.sh ≠ .pk ∧ G (δ.set i (some (SV.of .sh d))) := ⟨by decide, h⟩
theorem h_asO {G : DS → Prop} (h : G (δ.set i (some (.ow d)))) : Md.ow ≠ .pk ∧ G (δ.set i (some (SV.of .ow d))) := ⟨by decide, h⟩
theorem h_seqfrzO (h : δ[i]? = some (some (.ow d))) (q : qSeq s u P (δ.set i (some (.sh d)))) : qSeq (qFrz i s) u P δ := ⟨_, h, q⟩
theorem h_seqfrzS (h : δ[i]? = some (some (.sh d))) (q : qSeq s u P δ) : qSeq (qFrz i s) u P δ := ⟨_, h, q⟩
theorem h_seqasgG {g : QG} (h : e δ fun m d => m ≠ .pk ∧ g d δ (u P)) : qSeq (qAsgG e g) u P δ := h
/-- what follows is shown once, for all states of I, then the ways to it -/
theorem h_join (I : DS → Prop) (hu : ∀ δ', I δ' → u P δ') (h : ∀ U : DS → Prop, (∀ δ', I δ' → U δ') → s { P with nx := U } δ) : qSeq s u P δ := h _ hu
theorem h_seqif {t1 : QT} {s1 : QS} (h : t1 δ fun k => if k = true then s1 { P with nx := u P } δ else u P δ) : qSeq (qIfS t1 s1 qNext) u P δ := h
theorem h_seq1 {t1 : QT} {s1 s2 : QS} (h : t1 δ fun k => if k = true then s1 { P with nx := u P } δ else s2 { P with nx := u P } δ) : qSeq (qIfS t1 s1 s2) u P δ := h
/-! operators -/
theorem h_I0 {g : Int → Int → D} (h : Q .sh (g x y)) : pI0 g (.int x) (.int y) Q := ⟨x, y, rfl, rfl, h⟩
theorem h_I {C : Int → Int → Prop} {g : Int → Int → D} (c : C x y) (h : Q .sh (g x y)) : pI C g (.int x) (.int y) Q := ⟨x, y, rfl, rfl, c, h⟩
theorem h_neg (h : Q .sh (.int (-x))) : pNeg (.int x) Q := ⟨x, rfl, h⟩
theorem h_S {g : List Nat → List Nat → Bool} (h : Q .sh (.bl (g l l'))) : pS g (.str l) (.str l') Q := ⟨l, l', rfl, rfl, h⟩
theorem h_addS (hz : l.length + l'.length ≤ 1000000) (h : Q .sh (.str (l ++ l'))) : pAddS (.str l) (.str l') Q := ⟨l, l', rfl, rfl, hz, h⟩
theorem h_inSign {ch : Nat} (h : Q .sh (.bl (decide (ch ∈ l)))) : pInSign (.str [ch]) (.str l) Q := ⟨ch, l, rfl, rfl, h⟩
theorem h_notInSign {ch : Nat} (h : Q .sh (.bl (!decide (ch ∈ l)))) : pNotInSign (.str [ch]) (.str l) Q := ⟨ch, l, rfl, rfl, h⟩
theorem h_isN (h : Q .sh (.bl (isNon d))) : pIsN d .non Q := ⟨rfl, h⟩
theorem h_notN (h : Q .sh (.bl (!isNon d))) : pNotN d .non Q := ⟨rfl, h⟩
theorem h_eq {b : Bool} (e : eqS d d' = some b) (h : Q .sh (.bl b)) : pEq d d' Q := ⟨b, e, h⟩
theorem h_ne {b : Bool} (e : eqS d d' = some b) (h : Q .sh (.bl (!b))) : pNe d d' Q := ⟨b, e, h⟩
theorem h_ixL {ds : List D} (e : atI ds x = some d) (h : Q .sh d) : pIxL (.lst ds) (.int x) Q := ⟨ds, x, d, rfl, rfl, e, h⟩
theorem h_ixT {ds : List D} (e : atI ds x = some d) (h : Q .sh d) : pIxT (.tup ds) (.int x) Q := ⟨ds, x, d, rfl, rfl, e, h⟩
theorem h_ixS {ch : Nat} (hz : l.length ≤ 1000000) (e : atI l x = some ch) (h : Q .sh (.str [ch])) : pIxS (.str l) (.int x) Q := ⟨l, x, ch, rfl, rfl, hz, e, h⟩
theorem h_cat {ds es : List D} (hz : ds.length + es.length ≤ 1000000) (h : Q .ow (.lst (ds ++ es))) : pCat (.lst ds) (.lst es) Q := ⟨ds, es, rfl, rfl, hz, h⟩
theorem h_catT {ds es : List D} (hz : ds.length + es.length ≤ 1000) (h : Q .sh (.tup (ds ++ es))) : pCatT (.tup ds) (.tup es) Q := ⟨ds, es, rfl, rfl, hz, h⟩
theorem h_lenS (hz : l.length ≤ 1000000) (h : Q .sh (.int (l.length : Int))) : pLenS (.str l) Q := ⟨l, rfl, hz, h⟩
theorem h_lenL {ds : List D} (h : Q .sh (.int (ds.length : Int))) : pLenL (.lst ds) Q := ⟨ds, .inl rfl, h⟩
theorem h_lenT {ds : List D} (h : Q .sh (.int (ds.length : Int))) : pLenL (.tup ds) Q := ⟨ds, .inr rfl, h⟩
theorem h_abs (h : Q .sh (.int (if x < 0 then -x else x))) : pAbs (.int x) Q := ⟨x, rfl, h⟩
theorem h_max2 (h : Q .sh (.int (if y > x then y else x))) : pMax2 (.int x) (.int y) Q := ⟨x, y, rfl, rfl, h⟩
theorem h_min2 (h : Q .sh (.int (if y < x then y else x))) : pMin2 (.int x) (.int y) Q := ⟨x, y, rfl, rfl, h⟩
theorem h_int1b {b : Bool} (h : Q .sh (.int (if b = true then 1 else 0))) : pInt1 (.bl b) Q := .inr ⟨b, rfl, h⟩
theorem h_sum {ns : List Int} (h : Q .sh (.int ns.sum)) : pSum (.lst (ns.map .int)) Q := ⟨ns, rfl, h⟩
theorem h_listOf {ds : List D} (h : Q .ow (.lst ds)) : pListOf (.lst ds) Q := ⟨ds, .inl rfl, h⟩
theorem h_slS {lo hi : Option Int} (hz : l.length ≤ 1000000) (h : Q .sh (.str (cut l lo hi))) : pSlS (.str l) lo hi Q := ⟨l, rfl, hz, h⟩
theorem h_slL {ds : List D} {lo hi : Option Int} (h : Q .ow (.lst (cut ds lo hi))) : pSlL (.lst ds) lo hi Q := ⟨ds, rfl, h⟩
theorem h_slT {ds : List D} {lo hi : Option Int} (h : Q .sh (.tup (cut ds lo hi))) : pSlT (.tup ds) lo hi Q := ⟨ds, rfl, h⟩
theorem h_revL {ds : List D} (h : Q .ow (.lst ds.reverse)) : pRevL (.lst ds) Q := ⟨ds, rfl, h⟩
/-! statements with objects of one's own -/
theorem h_app {ds : List D} (h1 : δ[i]? = some (some (.ow (.lst ds)))) (hz : ds.length ≤ 1000000) (h : e δ fun m d => m ≠ .pk ∧ P.nx (δ.set i (some (.ow (.lst (ds ++ [d])))))) (mono : ∀ (R R' : Md → D → Prop), (∀ m d, R m d → R' m d) → e δ R → e δ R') : qAppS i e P δ :=
  ⟨⟨ds, h1⟩, mono _ _ (fun m d ⟨z1, z2⟩ => ⟨ds, h1, z1, hz, z2⟩) h⟩
theorem h_appV {ds : List D} {j : Nat} {v : D} (h1 : δ[i]? = some (some (.ow (.lst ds)))) (h2 : δ[j]? = some (some (.sh v))) (hz : ds.length ≤ 1000000) (h : P.nx (δ.set i (some (.ow (.lst (ds ++ [v])))))) : qAppS i (qVar j) P δ :=
  ⟨⟨ds, h1⟩, _, h2, ds, h1, by decide, hz, h⟩
theorem h_appE {ds : List D} (h1 : δ[i]? = some (some (.ow (.lst ds)))) (h : e δ fun m d => ∃ ds, δ[i]? = some (some (.ow (.lst ds))) ∧ m ≠ .pk ∧ ds.length ≤ 1000000 ∧ P.nx (δ.set i (some (.ow (.lst (ds ++ [d])))))) : qAppS i e P δ := ⟨⟨ds, h1⟩, h⟩
theorem h_appK {ds : List D} {m : Md} {d : D} (h1 : δ[i]? = some (some (.ow (.lst ds)))) (hm : m ≠ .pk) (hz : ds.length ≤ 1000000) (h : P.nx (δ.set i (some (.ow (.lst (ds ++ [d])))))) : ∃ ds, δ[i]? = some (some (.ow (.lst ds))) ∧ m ≠ .pk ∧ ds.length ≤ 1000000 ∧ P.nx (δ.set i (some (.ow (.lst (ds ++ [d]))))) := ⟨ds, h1, hm, hz, h⟩
theorem h_extE {ds : List D} (h1 : δ[i]? = some (some (.ow (.lst ds)))) (h : e δ fun _ d => ∃ ds es, δ[i]? = some (some (.ow (.lst ds))) ∧ d = .lst es ∧ ds.length + es.length ≤ 1000000 ∧ P.nx (δ.set i (some (.ow (.lst (ds ++ es)))))) : qExtS i e P δ := ⟨⟨ds, h1⟩, h⟩
theorem h_extK {ds es : List D} (h1 : δ[i]? = some (some (.ow (.lst ds)))) (hz : ds.length + es.length ≤ 1000000) (h : P.nx (δ.set i (some (.ow (.lst (ds ++ es)))))) : ∃ ds' es', δ[i]? = some (some (.ow (.lst ds'))) ∧ D.lst es = .lst es' ∧ ds'.length + es'.length ≤ 1000000 ∧ P.nx (δ.set i (some (.ow (.lst (ds' ++ es'))))) := ⟨ds, es, h1, rfl, hz, h⟩
theorem h_putTE {kvs : List (List Key × D)} {k : QE} (h1 : δ[i]? = some (some (.ow (.dT kvs)))) (h : e δ fun m d => k δ fun _ y => ∃ kvs ks, δ[i]? = some (some (.ow (.dT kvs))) ∧ y = .tup (ks.map dKey) ∧ m ≠ .pk ∧ kvs.length ≤ 1000000 ∧ P.nx (δ.set i (some (.ow (.dT (putD kvs ks d)))))) : qPutTS i k e P δ := ⟨⟨kvs, h1⟩, h⟩
theorem h_putKE {kvs : List (Key × D)} {k : QE} (h1 : δ[i]? = some (some (.ow (.dK kvs)))) (h : e δ fun m d => k δ fun _ y => ∃ kvs key, δ[i]? = some (some (.ow (.dK kvs))) ∧ y = dKey key ∧ m ≠ .pk ∧ kvs.length ≤ 1000000 ∧ P.nx (δ.set i (some (.ow (.dK (putD kvs key d)))))) : qPutKS i k e P δ := ⟨⟨kvs, h1⟩, h⟩
theorem h_putTK {kvs : List (List Key × D)} {ks : List Key} {y : D} (h1 : δ[i]? = some (some (.ow (.dT kvs)))) (hy : y = .tup (ks.map dKey)) (hm : m ≠ .pk) (hz : kvs.length ≤ 1000000) (h : P.nx (δ.set i (some (.ow (.dT (putD kvs ks d)))))) :
    ∃ kvs ks, δ[i]? = some (some (.ow (.dT kvs))) ∧ y = .tup (ks.map dKey) ∧ m ≠ .pk ∧ kvs.length ≤ 1000000 ∧ P.nx (δ.set i (some (.ow (.dT (putD kvs ks d))))) := ⟨kvs, ks, h1, hy, hm, hz, h⟩
theorem h_putKK {kvs : List (Key × D)} {key : Key} {y : D} (h1 : δ[i]? = some (some (.ow (.dK kvs)))) (hy : y = dKey key) (hm : m ≠ .pk) (hz : kvs.length ≤ 1000000) (h : P.nx (δ.set i (some (.ow (.dK (putD kvs key d)))))) :
    ∃ kvs key, δ[i]? = some (some (.ow (.dK kvs))) ∧ y = dKey key ∧ m ≠ .pk ∧ kvs.length ≤ 1000000 ∧ P.nx (δ.set i (some (.ow (.dK (putD kvs key d))))) := ⟨kvs, key, h1, hy, hm, hz, h⟩
theorem h_getT {kvs : List (List Key × D)} {ks : List Key} (hd : d = .tup (ks.map dKey)) (hv : getD' kvs ks = some d') (h : Q .sh d') : pGetT (.dT kvs) d Q := ⟨kvs, ks, d', rfl, hd, hv, h⟩
theorem h_getK {kvs : List (Key × D)} {key : Key} (hd : d = dKey key) (hv : getD' kvs key = some d') (h : Q .sh d') : pGetK (.dK kvs) d Q := ⟨kvs, key, d', rfl, hd, hv, h⟩
theorem h_inT {neg : Bool} {kvs : List (List Key × D)} {ks : List Key} (hd : d = .tup (ks.map dKey)) (h : Q .sh (.bl (if neg = true then !(getD' kvs ks).isSome else (getD' kvs ks).isSome))) : pInT neg d (.dT kvs) Q := ⟨kvs, ks, rfl, hd, h⟩
theorem h_inK {neg : Bool} {kvs : List (Key × D)} {key : Key} (hd : d = dKey key) (h : Q .sh (.bl (if neg = true then !(getD' kvs key).isSome else (getD' kvs key).isSome))) : pInK neg d (.dK kvs) Q := ⟨kvs, key, rfl, hd, h⟩
theorem h_newK (h : Q .ow (.dK [])) : qNewK δ Q := h
theorem h_newT (h : Q .ow (.dT [])) : qNewT δ Q := h
theorem h_call {psp : PSp} {Ep : XP} {r : QA} (h : r δ fun as => psp (as.map Ar.un) (fun m d => (as.any Ar.isPk = true → scalD d = true) ∧ Q m d) (Ep δ)) : qCall psp Ep r δ Q := h
theorem h_np {bb : Bool} (e : bb = false) (h : R) {S' : Prop} : (bb = true → S') ∧ R := ⟨fun z => absurd (e.symm.trans z) Bool.false_ne_true, h⟩
theorem h_sc (e : scalD d = true) {S' : Prop} (h : R) : (S' → scalD d = true) ∧ R := ⟨fun _ => e, h⟩
theorem h_dispT (h : a δ fun _ d => b δ fun m e => m ≠ .pk ∧ ∃ ks, d = .tup (ks.map dKey) ∧ Q .ow (.dT [(ks, e)])) : qDispT a b δ Q := h
theorem h_minV {kvs : List (List Key × Int)} (hn : kvs ≠ []) (h : ∀ m, m ∈ kvs.map (·.2) → (∀ j ∈ kvs.map (·.2), m ≤ j) → Q .sh (.int m)) : pMinV (.dT (kvs.map fun e => (e.1, .int e.2))) Q := ⟨kvs, rfl, hn, h⟩
theorem h_seqforD {g : QG} (h : e δ fun m d => m ≠ .pk ∧ ((∃ kvs, d = .dT kvs ∧ loop g s { P with nx := u P } (kvs.map fun e => .tup (e.1.map dKey)) δ) ∨ ∃ kvs, d = .dK kvs ∧ loop g s { P with nx := u P } (kvs.map fun e => dKey e.1) δ)) : qSeq (qForD e g s) u P δ := h
/-! walks -/
theorem h_for {qi : QI} {g : QG} (h : qi δ fun m ds => m ≠ .pk ∧ loop g s P ds δ) : qFor qi g s P δ := h
theorem h_seqfor {qi : QI} {g : QG} (h : qi δ fun m ds => m ≠ .pk ∧ loop g s { P with nx := u P } ds δ) : qSeq (qFor qi g s) u P δ := h
theorem h_iList {QI' : Md → List D → Prop} (h : e δ fun m d => ∃ ds, d = .lst ds ∧ QI' m ds) : qiList e δ QI' := h
theorem h_iTup {QI' : Md → List D → Prop} (h : e δ fun _ d => ∃ ds, d = .tup ds ∧ QI' .sh ds) : qiTup e δ QI' := h
theorem h_iStr {QI' : Md → List D → Prop} (h : e δ fun _ d => ∃ l : List Nat, d = .str l ∧ QI' .sh (l.map fun ch => .str [ch])) : qiStr e δ QI' := h
theorem h_iR1 {QI' : Md → List D → Prop} (h : e δ fun _ d => ∃ j : Int, d = .int j ∧ -(2 ^ 62) ≤ j ∧ j < 2 ^ 62 ∧ QI' .sh ((rng 0 j.toNat).map .int)) : qiR1 e δ QI' := h
theorem h_iR2 {QI' : Md → List D → Prop} (h : a δ fun _ d => b δ fun _ e => ∃ i j : Int, d = .int i ∧ e = .int j ∧ (-(2 ^ 62) ≤ i ∧ i < 2 ^ 62 ∧ -(2 ^ 62) ≤ j ∧ j < 2 ^ 62) ∧ QI' .sh ((rng i (j - i).toNat).map .int)) : qiR2 a b δ QI' := h
theorem h_iR3 {QI' : Md → List D → Prop} (h : a δ fun _ d1 => b δ fun _ d2 => e δ fun _ d3 => ∃ (i j c : Int) (n : Nat), d1 = .int i ∧ d2 = .int j ∧ d3 = .int c ∧ RgC i j c n ∧ QI' .sh ((rngC i c n).map .int)) : qiR3 a b e δ QI' := h
theorem h_iEnum {QI' : Md → List D → Prop} (h : e δ fun m d => ∃ ds, d = .lst ds ∧ QI' m (ds.zipIdx.map fun p => .tup [.int (p.2 : Int), p.1])) : qiEnum e δ QI' := h
theorem h_iZip {QI' : Md → List D → Prop} (h : a δ fun m d => b δ fun m' e => ∃ ds es, d = .lst ds ∧ e = .lst es ∧ QI' (if m = .pk ∨ m' = .pk then .pk else .sh) ((ds.zip es).map fun p => .tup [p.1, p.2])) : qiZip a b δ QI' := h
theorem h_lst1 {ds : List D} {G : List D → Prop} (h : G ds) : ∃ es, D.lst ds = .lst es ∧ G es := ⟨ds, rfl, h⟩
theorem h_tup1 {ds : List D} {G : List D → Prop} (h : G ds) : ∃ es, D.tup ds = .tup es ∧ G es := ⟨ds, rfl, h⟩
theorem h_str1 {G : List Nat → Prop} (h : G l) : ∃ es, D.str l = .str es ∧ G es := ⟨l, rfl, h⟩
theorem h_lc {qi : QI} {g : QG} {vs : List Nat} (h : qi δ fun _ ds => lcGo (wipeD δ vs) g tt e (fun acc => Q .ow (.lst acc)) ds []) : qLc qi g tt e vs δ Q := h
theorem h_gN {QG' : DS → Prop} (h : QG' (δ.set i (some (.sh d)))) : qgName i d δ QG' := h
theorem h_gT {n : Nat} {g : QGs} {ds : List D} {QG' : DS → Prop} (hl : ds.length = n) (h : g ds δ QG') : qgTup n g (.tup ds) δ QG' := ⟨ds, rfl, hl, h⟩
theorem h_gC {g : QG} {r : QGs} {ds : List D} {QG' : DS → Prop} (h : g d δ fun δ' => r ds δ' QG') : qgCons g r (d :: ds) δ QG' := ⟨d, ds, rfl, h⟩
theorem h_gE {QG' : DS → Prop} (h : QG' δ) : qgNil [] δ QG' := ⟨rfl, h⟩
theorem h_asgG {g : QG} (h : e δ fun m d => m ≠ .pk ∧ g d δ P.nx) : qAsgG e g P δ := h
theorem h_forD {g : QG} (h : e δ fun m d => m ≠ .pk ∧ ((∃ kvs, d = .dT kvs ∧ loop g s P (kvs.map fun e => .tup (e.1.map dKey)) δ) ∨ ∃ kvs, d = .dK kvs ∧ loop g s P (kvs.map fun e => dKey e.1) δ)) : qForD e g s P δ := h
theorem h_raise {Ep : XP} {n : Nat} (h : Ep δ n) : qRaise Ep n P δ := h
end
/-! ### loops by what stays -/
theorem loop_inv {g : QG} {b : QS} {P : Pn} {ds : List D} {δ : DS} (I : Nat → DS → Prop) (h0 : I 0 δ)
    (hs : ∀ (i : Nat) (d : D) (δ' : DS) (N : DS → Prop), ds[i]? = some d → I i δ' → (∀ δ2, I (i + 1) δ2 → N δ2) → g d δ' fun δ2 => b { P with nx := N, ct := N, bk := P.nx } δ2) (he : ∀ δ', I ds.length δ' → P.nx δ') : loop g b P ds δ := by
  have key : ∀ (k : Nat) (δ' : DS), k ≤ ds.length → I (ds.length - k) δ' → loop g b P (ds.drop (ds.length - k)) δ' := by
    intro k
    induction k with
    | zero => intro δ' _ h; rw [Nat.sub_zero, List.drop_length]; exact he δ' h
    | succ k ih =>
      intro δ' hk h
      have hlt : ds.length - (k + 1) < ds.length := by omega
      rw [drop_at (List.getElem?_eq_getElem hlt)]
      have e1 : ds.length - (k + 1) + 1 = ds.length - k := by omega
      refine hs _ _ δ' _ (List.getElem?_eq_getElem hlt) h fun δ2 h2 => ?_
      rw [e1] at h2 ⊢
      exact ih δ2 (by omega) h2
  have := key ds.length δ (Nat.le_refl _) (by rw [Nat.sub_self]; exact h0)
  rw [Nat.sub_self, List.drop_zero] at this
  exact this
theorem lc_inv {δ : DS} {g : QG} {tt : QT} {e : QE} {Q : List D → Prop} {ds : List D} (I : Nat → List D → Prop) (h0 : I 0 [])
    (hs : ∀ (i : Nat) (d : D) (acc : List D) (N : List D → Prop), ds[i]? = some d → I i acc → (∀ acc', I (i + 1) acc' → N acc') → g d δ fun δ' => tt δ' fun b => if b = true then e δ' fun m y => m ≠ .pk ∧ acc.length ≤ 1000000 ∧ N (acc ++ [y]) else N acc) (he : ∀ acc, I ds.length acc → Q acc) : lcGo δ g tt e Q ds [] := by
  have key : ∀ (k : Nat) (acc : List D), k ≤ ds.length → I (ds.length - k) acc → lcGo δ g tt e Q (ds.drop (ds.length - k)) acc := by
    intro k
    induction k with
    | zero => intro acc _ h; rw [Nat.sub_zero, List.drop_length]; exact he acc h
    | succ k ih =>
      intro acc hk h
      have hlt : ds.length - (k + 1) < ds.length := by omega
      rw [drop_at (List.getElem?_eq_getElem hlt)]
      have e1 : ds.length - (k + 1) + 1 = ds.length - k := by omega
      refine hs _ _ acc _ (List.getElem?_eq_getElem hlt) h fun a2 h2 => ?_
      rw [e1] at h2 ⊢
      exact ih a2 (by omega) h2
  have := key ds.length [] (Nat.le_refl _) (by rw [Nat.sub_self]; exact h0)
  rw [Nat.sub_self, List.drop_zero] at this
  exact this
/-- each item by itself: what is made of it, if anything -/
theorem lc_fm {δ : DS} {g : QG} {tt : QT} {e : QE} {Q : List D → Prop} {ds : List D} (f : D → Option D) (hl : ds.length ≤ 1000000)
    (hs : ∀ (d : D) (k : Option D → Prop) (n : Nat), d ∈ ds → n ≤ 1000000 → k (f d) → g d δ fun δ' => tt δ' fun b => if b = true then e δ' fun m y => m ≠ .pk ∧ n ≤ 1000000 ∧ k (some y) else k none) (he : Q (ds.filterMap f)) : lcGo δ g tt e Q ds [] := by
  refine lc_inv (fun i acc => acc = (ds.take i).filterMap f) rfl (fun i d acc N hd hI hN => ?_) (fun acc hI => ?_)
  · have hi : i < ds.length := (List.getElem?_eq_some_iff.mp hd).1
    have hacc : acc.length ≤ 1000000 := by
      have h1 := List.length_filterMap_le f (ds.take i)
      rw [List.length_take] at h1
      rw [hI]
      omega
    refine hs d (fun o => match o with | some y => N (acc ++ [y]) | none => N acc) acc.length (List.mem_of_getElem? hd) hacc ?_
    have hn : (ds.take (i + 1)).filterMap f = (ds.take i).filterMap f ++ (f d).toList := by
      rw [List.take_succ, hd, List.filterMap_append]
      cases h : f d with
      | none => simp [h]
      | some y => simp [h]
    cases h : f d with
    | none => exact hN _ (by rw [hn, h, hI]; simp)
    | some y => exact hN _ (by rw [hn, h, hI]; simp)
  · rw [hI, List.take_length]; exact he
/-- .. each gives one -/
theorem lc_map {δ : DS} {g : QG} {e : QE} {Q : List D → Prop} {ds : List D} (f : D → D) (hl : ds.length ≤ 1000000)
    (hs : ∀ (d : D) (k : D → Prop) (n : Nat), d ∈ ds → n ≤ 1000000 → k (f d) → g d δ fun δ' => e δ' fun m y => m ≠ .pk ∧ n ≤ 1000000 ∧ k y) (he : Q (ds.map f)) : lcGo δ g qYes e Q ds [] := by
  refine lc_fm (fun d => some (f d)) hl (fun d k n hd hn hk => hs d (fun y => k (some y)) n hd hn hk) ?_
  have e : ds.filterMap (fun d => some (f d)) = ds.map f := by simp
  rw [e]
  exact he
end Sw
local macro_rules | `(tactic| walk_at "go1") => `(tactic| first
  | with_reducible refine Sw.g_seqasg ?_ | with_reducible refine Sw.g_op ?_ | with_reducible refine Sw.g_var rfl ?_ | with_reducible refine Sw.g_c ?_ | with_reducible refine Sw.g_I0 ?_
  | with_reducible refine Sw.g_cons ?_ | with_reducible refine Sw.g_nil ?_ | with_reducible refine Sw.g_call ?_ | with_reducible refine Sw.g_cb ?_ | with_reducible refine Sw.g_test ?_ | with_reducible refine Sw.g_bl ?_
  | with_reducible refine Sw.g_seqdrop ?_ | with_reducible refine Sw.g_seqsub ?_ | with_reducible refine Sw.g_asg ?_ | with_reducible refine Sw.g_asgsub ?_ | with_reducible refine Sw.g_ret ?_ | with_reducible refine Sw.g_drop ?_ | with_reducible refine Sw.g_if ?_ | with_reducible refine Sw.g_next ?_ | with_reducible refine Sw.g_name ?_
  | with_reducible refine Sw.g_B ?_ | with_reducible refine Sw.g_not ?_ | with_reducible refine Sw.g_and ?_ | with_reducible refine Sw.g_or ?_ | with_reducible refine Sw.g_andV ?_ | with_reducible refine Sw.g_orV ?_ | with_reducible refine Sw.g_notV ?_
  | with_reducible refine Sw.g_ifE ?_ | with_reducible refine Sw.g_chain ?_ | with_reducible refine Sw.g_un ?_ | with_reducible refine Sw.g_tup ?_ | with_reducible refine Sw.g_lst ?_ | with_reducible refine Sw.g_sl ?_ | with_reducible refine Sw.g_part ?_ | with_reducible refine Sw.g_nopart ?_
  | with_reducible refine Sw.g_U ?_ | with_reducible refine Sw.g_eq rfl ?_ | with_reducible refine Sw.g_ne rfl ?_ | with_reducible refine Sw.g_int ?_ | with_reducible refine Sw.g_yes ?_ | with_reducible refine L2.iteT ?_ | with_reducible refine L2.iteF ?_ | with_reducible refine Sw.iteNT ?_ | with_reducible refine Sw.iteNF ?_ | with_reducible refine Sw.g_m1 ?_ | with_reducible refine Sw.g_bm ?_ | with_reducible refine ⟨Sw.ty_lst (by assumption), ?_⟩ | with_reducible refine Sw.g_sput ?_ | with_reducible refine Sw.g_put ?_ | with_reducible refine Sw.g_dget2 ?_ | with_reducible refine Sw.g_dget ?_ | with_reducible refine Sw.g_dK ?_ | with_reducible refine Sw.g_dT ?_ | with_reducible refine Sw.g_dnotin ?_ | with_reducible refine Sw.g_din ?_ | with_reducible refine Sw.g_bm0 ?_
  | with_reducible refine Sw.g_ixL (by assumption) rfl ?_ | with_reducible refine Sw.g_ixT (by assumption) rfl ?_)
local macro_rules | `(tactic| walk_at "go") => `(tactic| repeat walk_at "go1")
local macro_rules | `(tactic| walk_at "bd") => `(tactic| repeat (first | with_reducible exact Sw.all_nil | refine Sw.all_cons ⟨_, rfl, by omega, by omega⟩ ?_))
local macro_rules | `(tactic| walk_at "new") => `(tactic| (refine ⟨Nat.le_of_ble_eq_true rfl, fun p np => ?_⟩; generalize hX : L2.upd _ p _ = H'; have sm : L2.Same _ H' := hX ▸ Sw.same_upd np; have hp : H' p = some _ := hX ▸ L2.upd_same; clear hX))
namespace Sw
open PySem PySem.Spec PyProof.Rows L2 SX
/-! ### further forms -/
def qMount (i : Nat) (s : QS) : QS := fun P δ => δ[i]? = some (some (.ow .tape)) ∧ s P ((δ.map fun o => match o with | some .tp => none | o => o).set i (some .tp))
section
variable {K : PySem.W.Frag} {c : Cl} {t : Option Addr} {E : XE} {Ep : XP} {ta tb : TE} {qa qb : QE}
def pJoinC (a : List Nat) : P1 := fun e Q => ∃ ys : List (List Nat), (e = .lst (ys.map .str) ∨ e = .tup (ys.map .str)) ∧ (ys.map (·.length)).sum + ys.length * a.length ≤ 1000000 ∧ Q .sh (.str (Txt.join (S a) (ys.map S)).cps.toList)
theorem s_joinC {v : Str} {a : List Nat} (hv : V.str v = V.str (S a)) (hb : SimE K c t E Ep tb qb) : SimE K c t E Ep (tM1 (rJoin K) (tC (.str v)) tb) (qUn (pJoinC a) qb) := fun F0 H0 L F δ σ H Q Qp er rs hq k => by
  refine ⟨⟨v, rfl⟩, ?_⟩
  refine hb.vw er rs hq fun y F2 H2 m2 d2 g2 v2 _ q2 => ?_
  obtain ⟨ys, q3⟩ := q2
  exact o_join (K := K) F2 H2 (.str v) y (.str a) d2 Q Qp g2.s (rs.grow g2).st.dr (.inl hv) v2 ⟨a, ys, rfl, q3⟩ fun z F3 H3 m d g3 rv qd => k z F3 H3 m d (g2.trans g3 rs.st.dr) (rv.pre g2) qd
abbrev rRevL (K : PySem.W.Frag) : V → Hp → VK → Prop := fun x H1 Q => ∃ a xs, x = .ref a ∧ SqL K H1 a xs ∧ ∀ p, H1 p = none → Q (.ref p) (upd H1 p (.lst xs.reverse))
abbrev rRevS : V → Hp → VK → Prop := fun x H1 Q => ∃ l : List Nat, x = .str (S l) ∧ l.length ≤ sizeLine ∧ Q (.str (S l.reverse)) H1
theorem o_revL : Sim1 t (rRevL K) pRevL := fun F H x d Q Qp s ht vx p k => by
  obtain ⟨l, rfl, q⟩ := p
  obtain ⟨p1, xs, rfl, h1, h2⟩ := vw_lst s vx
  exact ⟨p1, xs, rfl, .inl (.inl h1), fun p np => k.new s ht np (show OO F (.lst _) (.lst _) from h2.rev) q⟩
theorem o_revS : Sim1 t rRevS pRevS := fun F H x d Q Qp s ht vx p k => by
  obtain ⟨l, rfl, hl, q⟩ := p
  exact ⟨l, vw_str vx, le_line6 hl, k.val s (d := .str _) rfl q⟩
theorem s_revL (ha : SimE K c t E Ep ta qa) : SimE K c t E Ep (tRevL K ta) (qUn pRevL qa) := s_un (r := rRevL K) o_revL ha
theorem s_revS (ha : SimE K c t E Ep ta qa) : SimE K c t E Ep (tRevS ta) (qUn pRevS qa) := s_un (r := rRevS) o_revS ha
end
/-! ### the law's own level: tapes are made there -/
def FrT (t : Option Addr) (H0 : Hp) : Prop := ∀ a, t = some a → H0 a = none
structure EndsF (K : PySem.W.Frag) (F0 H0 L : Hp) (De : Ends) (Dp : Pn) : Prop where
  nx : ∀ t F δ σ H, FrT t H0 → RS K t F0 H0 L F δ σ H → Dp.nx δ → De.nx σ H
  rt : ∀ t F H x m d, FrT t H0 → Grow t F0 H0 F H → RV t H0 F H x m d → m ≠ .pk → Dp.rt m d → De.rt x H
  bk : ∀ t F δ σ H, FrT t H0 → RS K t F0 H0 L F δ σ H → Dp.bk δ → De.bk σ H
  ct : ∀ t F δ σ H, FrT t H0 → RS K t F0 H0 L F δ σ H → Dp.ct δ → De.ct σ H
def SimF (K : PySem.W.Frag) (ts : TS) (qs : QS) : Prop := ∀ t F0 H0 L F δ σ H De Dp, FrT t H0 → RS K t F0 H0 L F δ σ H → EndsF K F0 H0 L De Dp → qs Dp δ → ts De σ H
section
variable {K : PySem.W.Frag} {ts tu : TS} {qs qu : QS} {i : Nat}
theorem SimF.of (c : Cl) (h : ∀ t E Ep, SimS K c t E Ep ts qs) : SimF K ts qs := fun t F0 H0 L F δ σ H De Dp fr rs en hq =>
  h t (fun _ => E0) P0 F0 H0 L F δ σ H De Dp ER.no rs ⟨fun F δ σ H r q => en.nx t F δ σ H fr r q, fun F H x m d g _ _ rv hm q => en.rt t F H x m d fr g rv hm q, fun F δ σ H r q => en.bk t F δ σ H fr r q, fun F δ σ H r q => en.ct t F δ σ H fr r q⟩ hq
theorem f_seq (ha : SimF K ts qs) (hb : SimF K tu qu) : SimF K (tSeq ts tu) (qSeq qs qu) := fun t F0 H0 L F δ σ H De Dp fr rs en hq =>
  ha t F0 H0 L F δ σ H _ { Dp with nx := qu Dp } fr rs ⟨fun t1 F1 δ1 σ1 H1 f1 r1 q1 => hb t1 F0 H0 L F1 δ1 σ1 H1 De Dp f1 r1 en q1, en.rt, en.bk, en.ct⟩ hq
theorem f_ifS (c : Cl) {tt : TT} {qt : QT} (ht : ∀ t E Ep, SimT K c t E Ep tt qt) (ha : SimF K ts qs) (hb : SimF K tu qu) : SimF K (tIfS tt ts tu) (qIfS qt qs qu) := fun t F0 H0 L F δ σ H De Dp fr rs en hq =>
  ht t (fun _ => E0) P0 F0 H0 L F δ σ H _ _ ER.no rs hq fun b F1 H1 g q => by
    cases b with
    | true => exact ha t F0 H0 L F1 δ σ H1 De Dp fr (rs.grow g) en q
    | false => exact hb t F0 H0 L F1 δ σ H1 De Dp fr (rs.grow g) en q
theorem f_frz (h : SimF K ts qs) : SimF K ts (qFrz i qs) := fun t F0 H0 L F δ σ H De Dp fr rs en hq => by
  obtain ⟨s, h1, h2⟩ := hq
  cases s with
  | ow d =>
    obtain ⟨F', _, r'⟩ := rs.freeze h1
    exact h t F0 H0 L F' _ σ H De Dp fr r' en h2
  | sh d => exact h t F0 H0 L F δ σ H De Dp fr rs en h2
  | tp => exact h t F0 H0 L F δ σ H De Dp fr rs en h2
  | sc ns => exact h t F0 H0 L F δ σ H De Dp fr rs en h2
theorem f_for (c : Cl) {wi : TI} {qi : QI} {g : TG} {qg : QG} {nm : List Nat} (hi : ∀ t E Ep, SimI K c t E Ep wi qi) (hg : ∀ t, SimG K t nm g qg) (hb : SimF K ts qs) : SimF K (tFor wi g ts) (qFor qi qg qs) := fun t F0 H0 L F δ σ H De Dp fr rs en hq => by
  refine hi t (fun _ => E0) P0 F0 H0 L F δ σ H _ _ ER.no rs hq fun J F1 H1 m ds g1 _ ok q => ?_
  obtain ⟨hm, q⟩ := q
  have ok := ok hm
  have r1 := rs.grow g1
  have lo1 : Same L F1 := r1.lo
  refine ⟨fun i m σ' H' => m = ds.length - i ∧ i ≤ ds.length ∧ ∃ t' F' δ', FrT t' H0 ∧ RS K t' F0 H0 F1 F' δ' σ' H' ∧ loop qg qs Dp (ds.drop i) δ', ⟨ds.length, by omega, by omega, t, F1, δ, fr, r1.at, by rw [List.drop_zero]; exact q⟩, ?_⟩
  rintro i m σ' H' ⟨rfl, hi, t', F', δ', fr', r', q'⟩
  have y := ok F' H' r'.lo r'.st.s
  by_cases hlt : i < ds.length
  · have hd := List.getElem?_eq_getElem hlt
    generalize ds[i] = d at hd
    obtain ⟨y1, y2⟩ := y.1 i d hd
    refine .inr ⟨y1, fun σ2 H2 => ∃ t2 F2 δ2, FrT t2 H0 ∧ RS K t2 F0 H0 F1 F2 δ2 σ2 H2 ∧ loop qg qs Dp (ds.drop (i + 1)) δ2, fun σ2 H2 ⟨t2, F2, δ2, f2, r2, q2⟩ => ⟨ds.length - (i + 1), by omega, rfl, by omega, t2, F2, δ2, f2, r2, q2⟩, fun x H2 hy => ?_⟩
    obtain ⟨F2, g2, rp⟩ := y2 x H2 hy
    replace g2 := g2.any (t := t')
    rw [drop_at hd] at q'
    refine hg t' F0 H0 F1 F2 δ' σ' H2 _ _ x d (r'.grow g2) rp q' fun δ3 σ3 r3 _ q3 => ?_
    refine hb t' F0 H0 F1 F2 δ3 σ3 H2 _ { Dp with nx := loop qg qs Dp (ds.drop (i + 1)), ct := loop qg qs Dp (ds.drop (i + 1)), bk := Dp.nx } fr' r3 ⟨?_, en.rt, ?_, ?_⟩ q3
    · exact fun t4 F4 δ4 σ4 H4 f4 r4 q4 => ⟨t4, F4, δ4, f4, r4, q4⟩
    · exact fun t4 F4 δ4 σ4 H4 f4 r4 q4 => en.nx t4 F4 δ4 σ4 H4 f4 (r4.low lo1) q4
    · exact fun t4 F4 δ4 σ4 H4 f4 r4 q4 => ⟨t4, F4, δ4, f4, r4, q4⟩
  · have e : i = ds.length := by omega
    subst e
    rw [List.drop_length] at q'
    exact .inl ⟨y.2, en.nx t' F' δ' σ' H' fr' (r'.low lo1) q'⟩
theorem notp_at {δ : DS} {j : Nat} {v : SV} (h : (δ.map fun o => match o with | some .tp => none | o => o)[j]? = some (some v)) : δ[j]? = some (some v) ∧ v ≠ .tp := by
  rw [List.getElem?_map] at h
  obtain ⟨o, h1, h2⟩ := Option.map_eq_some_iff.mp h
  cases o with
  | none => cases h2
  | some w =>
    cases w with
    | tp => cases h2
    | sh d => cases h2; exact ⟨h1, by intro z; cases z⟩
    | ow d => cases h2; exact ⟨h1, by intro z; cases z⟩
    | sc ns => cases h2; exact ⟨h1, by intro z; cases z⟩
theorem f_mount (h : SimF K ts qs) : SimF K ts (qMount i qs) := fun t F0 H0 L F δ σ H De Dp fr rs en hq => by
  obtain ⟨h1, h2⟩ := hq
  obtain ⟨l, o, hx, hl, hf, hn, ho⟩ := rs.own h1
  have h0 := rs.fr i _ l h1 hx
  have dl : Dr H l := by
    cases o <;> first | exact False.elim ho | (obtain ⟨c1, s1, p1, rfl, z⟩ := ho; exact ⟨c1, s1, p1, hl, z⟩)
  have fr' : FrT (some l) H0 := fun a e => by cases e; exact h0
  refine h (some l) F0 H0 L F _ σ H De Dp fr' ?_ en h2
  have hil : i < δ.length := (List.getElem?_eq_some_iff.mp h1).1
  exact {
    st := {
      s := rs.st.s
      tp := fun a e => by cases e; exact ⟨dl, hf⟩
      len := by rw [List.length_set, List.length_map]; exact rs.st.len
      sl := fun j v e => by
        rcases set_at e with ⟨rfl, e2, _⟩ | ⟨ne, e2⟩
        · cases e2
          exact ⟨.ref l, hx, l, rfl, rfl⟩
        · obtain ⟨e3, nt⟩ := notp_at e2
          obtain ⟨y, w1, w2⟩ := rs.st.sl j v e3
          refine ⟨y, w1, ?_⟩
          cases v with
          | sh d => exact w2
          | tp => exact absurd rfl nt
          | sc ns => exact w2
          | ow d =>
            obtain ⟨l2, o2, z1, z2, z3, z4, z5⟩ := w2
            refine ⟨l2, o2, z1, z2, z3, fun z => ?_, z5⟩
            have z' : l2 = l := Option.some.inj z
            exact ne (rs.st.ne i j _ _ (.ref l) h1 e3 hx (by rw [w1, z1, z']))
      ne := fun a b d1 d2 y e1 e2 e3 e4 => by
        rcases set_at e1 with ⟨_, z, _⟩ | ⟨_, e1⟩
        · cases z
        rcases set_at e2 with ⟨_, z, _⟩ | ⟨_, e2⟩
        · cases z
        exact rs.st.ne a b d1 d2 y (notp_at e1).1 (notp_at e2).1 e3 e4 }
    g := {
      z := rs.g.z
      f := rs.g.f
      h := fun b o e _ => rs.g.h b o e fun z => by rw [fr b z.symm] at e; cases e
      d := rs.g.d
      n := rs.g.n
      s := rs.g.s
      t := fun a e _ => by cases e; exact dl }
    lo := rs.lo
    fr := fun j d l2 e1 e2 => by
      rcases set_at e1 with ⟨_, z, _⟩ | ⟨_, e1⟩
      · cases z
      exact rs.fr j d l2 (notp_at e1).1 e2
    dr := fun a e n => by cases e; exact absurd h0 n }
theorem law_rd {N : List Str} {vs : List V} {H : Hp} {Q : VK} {E : XK} (hs : SimF K ts qs) (hN : 1 ≤ N.length) (pr : ∀ ns : List Int, ns.length ≤ 63 → qs { nx := fun _ => False, rt := fun m d => m = .sh ∧ d = .bl true } (dstart N.length [.sc ns])) (h : sp_law K vs H Q E) :
    ts { nx := fun _ H' => Q .non H', rt := Q } (start N vs) H := by
  obtain ⟨a, ns, rfl, hS, hn, q⟩ := h
  have rs := start_rs (K := K) (t := none) (N := N) (F := H) (H := H) (vs := [.ref a]) (as := [.sc ns]) (.refl _) (fun a e => by cases e) ⟨⟨a, rfl, hS⟩, True.intro⟩ rfl hN rfl
  refine hs none H H H H _ _ H _ { nx := fun _ => False, rt := fun m d => m = .sh ∧ d = .bl true } (fun a e => by cases e) rs ⟨?_, ?_, ?_, ?_⟩ (pr ns hn)
  · exact fun t F δ σ H' _ r q => False.elim q
  · rintro t F H' x m d _ g rv hm ⟨rfl, rfl⟩
    rw [show x = .bl true from rv]
    exact q H'
  · exact fun t F δ σ H' _ r q => False.elim q
  · exact fun t F δ σ H' _ r q => False.elim q
end
theorem ln_lift {K : PySem.W.Frag} {c : Cl} {psp : PSp} {n : Nat} (ln : ∀ {as : List Ar} {Qp : Md → D → Prop} {Ep : Nat → Prop}, psp as Qp Ep → as.length = n) {vs : List V} {H : Hp} {Q : VK} {E : XK} (h : lift K c psp vs H Q E) : vs.length = n := by
  obtain ⟨t, F, as, Qp, Ep, _, _, av, _, hp, _⟩ := h
  rw [avl_len av]
  exact ln hp
theorem avl2 {K : PySem.W.Frag} {t : Option Addr} {F H : Hp} {vs : List V} {a b : Ar} (h : AvL K t F H vs [a, b]) : ∃ x y, vs = [x, y] ∧ Av K t F H x a ∧ Av K t F H y b := by
  cases vs with
  | nil => exact False.elim h
  | cons x vs =>
    cases vs with
    | nil => exact False.elim h.2
    | cons y vs =>
      cases vs with
      | nil => exact ⟨x, y, rfl, h.1, h.2.1⟩
      | cons z vs => exact False.elim h.2.2
/-! ### draws -/
def psp_law_draw : PSp := fun as Q _ => ∃ m : Int, as = [.tp, .sh (.int m)] ∧ 0 < m ∧ m < 2 ^ 300 ∧ ∀ r : Int, 0 ≤ r → r < m → Q .sh (.int r)
theorem ln_p_law_draw {as : List Ar} {Qp : Md → D → Prop} {Ep : Nat → Prop} (h : psp_law_draw as Qp Ep) : as.length = 2 := by obtain ⟨_, rfl, _⟩ := h; rfl
theorem old_law_draw {K : PySem.W.Frag} {c : Cl} {vs : List V} {H : Hp} {Q : VK} {E E' : XK} (h : lift K c psp_law_draw vs H Q E) : sp_law_draw K vs H Q E' := by
  obtain ⟨t, F, as, Qp, Ep, s, ht, av, np, ⟨m, rfl, m0, m1, q⟩, k, _⟩ := h
  · obtain ⟨x, y, rfl, ⟨a, rfl, e⟩, av2⟩ := avl2 av
    have ey : y = .int m := av2
    subst ey e
    obtain ⟨dr, fa⟩ := ht a rfl
    refine ⟨a, m, rfl, dr, m0, m1, fun r H' r0 r1 dr' kp => k (.int r) F H' .sh (.int r) ?_ rfl (by decide) (q r r0 r1)⟩
    exact {
      z := s
      f := .refl _
      h := fun b o e n => by rw [kp b (fun z => n (by rw [z]))]; exact e
      d := fun b e z => by
        by_cases hb : b = a
        · subst hb; obtain ⟨c1, s1, p1, w, _⟩ := dr'; rw [w] at z; cases z
        · rw [kp b hb] at z; exact e z
      n := fun b e _ _ => e
      s := fun b o e => by rw [kp b (fun z => by rw [z, fa] at e; cases e)]; exact s b o e
      t := fun b e _ => by cases e; exact dr' }
def psp_law_draws : PSp := fun as Q _ => ∃ (ns : List Int) (k : Int), as = [.sc ns, .sh (.int k)] ∧ ns.length ≤ 63 ∧ 0 ≤ k ∧ k ≤ 1000 ∧ Q .ow .tape
theorem ln_p_law_draws {as : List Ar} {Qp : Md → D → Prop} {Ep : Nat → Prop} (h : psp_law_draws as Qp Ep) : as.length = 2 := by obtain ⟨_, _, rfl, _⟩ := h; rfl
theorem old_law_draws {K : PySem.W.Frag} {c : Cl} {vs : List V} {H : Hp} {Q : VK} {E E' : XK} (h : lift K c psp_law_draws vs H Q E) : sp_law_draws K vs H Q E' := by
  obtain ⟨t, F, as, Qp, Ep, s, ht, av, np, ⟨ns, m, rfl, hn, m0, m1, q⟩, k, _⟩ := h
  · obtain ⟨x, y, rfl, ⟨a, rfl, e⟩, av2⟩ := avl2 av
    have ey : y = .int m := av2
    subst ey
    refine ⟨a, ns, m, rfl, s.seq e, hn, m0, m1, fun d H' nd sm dr => ?_⟩
    obtain ⟨c1, s1, p1, hd, b⟩ := dr
    exact k (.ref d) F H' .ow .tape (.same s sm) ⟨d, _, rfl, nd, hd, s.free nd, tape_ne (fun a e => (ht a e).1) nd, c1, s1, p1, rfl, b⟩ (by decide) q
/-- a call that is handed a new tape -/
def Ar.okD : Ar → Bool
  | .sh _ => true
  | .sc _ => true
  | _ => false
def qCallD (psp : PSp) (qd : QE) (a : QA) : QE := fun δ Q => qd δ fun m d => m = .ow ∧ d = .tape ∧ a δ fun as => as.all Ar.okD = true ∧ psp (.tp :: as) Q (fun _ => False)
theorem avl_ok {K : PySem.W.Frag} {t t' : Option Addr} {F H : Hp} : ∀ {xs : List V} {as : List Ar}, as.all Ar.okD = true → AvL K t F H xs as → AvL K t' F H xs as
  | [], [], _, _ => True.intro
  | x :: xs, a :: as, h, av => by
    rw [List.all_cons, Bool.and_eq_true] at h
    refine ⟨?_, avl_ok h.2 av.2⟩
    have h1 := av.1
    cases a with
    | sh d => exact h1
    | sc ns => exact h1
    | pk d => exact absurd h.1 (by intro z; cases z)
    | tp => exact absurd h.1 (by intro z; cases z)
  | [], _ :: _, _, h => False.elim h
  | _ :: _, [], _, h => False.elim h
theorem ok_nopk : ∀ {as : List Ar}, as.all Ar.okD = true → as.any Ar.isPk = false
  | [], _ => rfl
  | a :: as, h => by
    rw [List.all_cons, Bool.and_eq_true] at h
    rw [List.any_cons, ok_nopk h.2]
    cases a with
    | pk d => exact absurd h.1 (by intro z; cases z)
    | _ => rfl
theorem s_callD {K : PySem.W.Frag} {c : Cl} {t : Option Addr} {E : XE} {Ep : XP} {psp : PSp} {td : TE} {qd : QE} {ta : TA} {qa : QA} (hd : SimE K c t E Ep td qd) (ha : SimA K c t E Ep ta qa) : SimE K c t E Ep (tCall (lift K c psp) [] E0 (tCons td ta)) (qCallD psp qd qa) := fun F0 H0 L F δ σ H Q Qp er rs hq k => by
  refine hd F0 H0 L F δ σ H _ _ er rs hq fun x F1 H1 m d g1 rv q1 => ?_
  obtain ⟨rfl, rfl, q1⟩ := q1
  obtain ⟨l, o, rfl, n0, h1, f1, nt, oo⟩ := rv
  refine ha F0 H0 L F1 δ σ H1 _ _ er (rs.grow g1) q1 fun xs F2 H2 as g2 av q2 => ?_
  obtain ⟨hok, q2⟩ := q2
  have g12 := g1.trans g2 rs.st.dr
  have h2 : H2 l = some o := g2.h _ _ h1 nt
  have nol : ∀ zs, o ≠ .tup zs := fun zs z => by subst z; exact oo
  have f2 : F2 l = none := g2.n l f1 (by rw [h1]; exact Option.some_ne_none _) fun zs z => by rw [h1] at z; exact nol zs (Option.some.inj z)
  have dl : Dr H2 l := by
    cases o <;> first | exact False.elim oo | (obtain ⟨c1, s1, p1, rfl, z⟩ := oo; exact ⟨c1, s1, p1, h2, z⟩)
  rw [List.append_nil]
  refine ⟨some l, F2, .tp :: as, Qp, fun _ => False, g2.s, fun a e => by cases e; exact ⟨dl, f2⟩, ⟨⟨l, rfl, rfl⟩, avl_ok hok av⟩, by rw [List.any_cons, ok_nopk hok]; rfl, q2, fun z F3 H3 m d g3 rv3 hm q3 => ?_, fun n F' H' _ z => False.elim z⟩
  have st2 := (rs.grow g12).st
  refine k z F3 H3 m d ?_ ?_ q3
  · exact {
      z := g12.z
      f := g12.f.trans g3.f
      h := fun b o1 e n => g3.h b o1 (g12.h b o1 e n) fun z => by rw [Option.some.inj z, n0] at e; cases e
      d := fun b e => g3.d b (g12.d b e)
      n := fun b e1 e2 e3 => g3.n b (g12.n b e1 e2 e3) (g12.d b e2) fun zs z => by
        by_cases hb : some b = t
        · exact dr_notup (st2.dr b hb.symm) zs z
        · cases q : H b with
          | none => exact e2 q
          | some w => rw [g12.h b w q hb] at z; exact e3 zs (by rw [q]; exact z)
      s := g3.s
      t := fun a e _ => by
        obtain ⟨c1, s1, p1, w1, w2⟩ := st2.dr a e
        exact ⟨c1, s1, p1, g3.h _ _ w1 (fun z => nt (by rw [← z, e])), w2⟩ }
  · cases m with
    | sh => exact rv3
    | pk => exact absurd rfl hm
    | ow =>
      obtain ⟨l3, o3, e3, w0, w1, w2, _, w4⟩ := rv3
      exact ⟨l3, o3, e3, g12.pre w0, w1, w2, tape_ne st2.dr w0, w4⟩
end Sw
local macro_rules | `(tactic| walk_at "go1") => `(tactic| first
  | with_reducible refine Sw.g_seqasg ?_ | with_reducible refine Sw.g_op ?_ | with_reducible refine Sw.g_var rfl ?_ | with_reducible refine Sw.g_c ?_ | with_reducible refine Sw.g_I0 ?_
  | with_reducible refine Sw.g_cons ?_ | with_reducible refine Sw.g_nil ?_ | with_reducible refine Sw.g_call ?_ | with_reducible refine Sw.g_cb ?_ | with_reducible refine Sw.g_test ?_ | with_reducible refine Sw.g_bl ?_
  | with_reducible refine Sw.g_seqdrop ?_ | with_reducible refine Sw.g_seqsub ?_ | with_reducible refine Sw.g_asg ?_ | with_reducible refine Sw.g_asgsub ?_ | with_reducible refine Sw.g_ret ?_ | with_reducible refine Sw.g_drop ?_ | with_reducible refine Sw.g_if ?_ | with_reducible refine Sw.g_next ?_ | with_reducible refine Sw.g_name ?_
  | with_reducible refine Sw.g_B ?_ | with_reducible refine Sw.g_not ?_ | with_reducible refine Sw.g_and ?_ | with_reducible refine Sw.g_or ?_ | with_reducible refine Sw.g_andV ?_ | with_reducible refine Sw.g_orV ?_ | with_reducible refine Sw.g_notV ?_
  | with_reducible refine Sw.g_ifE ?_ | with_reducible refine Sw.g_chain ?_ | with_reducible refine Sw.g_un ?_ | with_reducible refine Sw.g_tup ?_ | with_reducible refine Sw.g_lst ?_ | with_reducible refine Sw.g_sl ?_ | with_reducible refine Sw.g_part ?_ | with_reducible refine Sw.g_nopart ?_
  | with_reducible refine Sw.g_U ?_ | with_reducible refine Sw.g_eq rfl ?_ | with_reducible refine Sw.g_ne rfl ?_ | with_reducible refine Sw.g_int ?_ | with_reducible refine Sw.g_yes ?_ | with_reducible refine L2.iteT ?_ | with_reducible refine L2.iteF ?_ | with_reducible refine Sw.iteNT ?_ | with_reducible refine Sw.iteNF ?_ | with_reducible refine Sw.g_m1 ?_ | with_reducible refine Sw.g_bm ?_ | with_reducible refine ⟨Sw.ty_lst (by assumption), ?_⟩ | with_reducible refine Sw.g_sput ?_ | with_reducible refine Sw.g_put ?_ | with_reducible refine Sw.g_dget2 ?_ | with_reducible refine Sw.g_dget ?_ | with_reducible refine Sw.g_dK ?_ | with_reducible refine Sw.g_dT ?_ | with_reducible refine Sw.g_dnotin ?_ | with_reducible refine Sw.g_din ?_ | with_reducible refine Sw.g_bm0 ?_
  | with_reducible refine Sw.g_ixL (by assumption) rfl ?_ | with_reducible refine Sw.g_ixT (by assumption) rfl ?_)
local macro_rules | `(tactic| walk_at "go") => `(tactic| repeat walk_at "go1")
local macro_rules | `(tactic| walk_at "bd") => `(tactic| repeat (first | with_reducible exact Sw.all_nil | refine Sw.all_cons ⟨_, rfl, by omega, by omega⟩ ?_))
local macro_rules | `(tactic| walk_at "new") => `(tactic| (refine ⟨Nat.le_of_ble_eq_true rfl, fun p np => ?_⟩; generalize hX : L2.upd _ p _ = H'; have sm : L2.Same _ H' := hX ▸ Sw.same_upd np; have hp : H' p = some _ := hX ▸ L2.upd_same; clear hX))
namespace Sw
open PySem PySem.Spec PyProof.Rows L2 SX
/-! ### isinstance -/
def tyD : D → String
  | .non => "NoneType" | .bl _ => "bool" | .int _ => "int" | .str _ => "str" | .lst _ => "list" | .tup _ => "tuple" | .dK _ => "dict" | .dT _ => "dict" | .tape => "list"
def isiD (n : String) (d : D) : Bool := match d with
  | .dK _ => false | .dT _ => false | .tape => false
  | d => (kitB (tyD d) n).getD false
def noDict : D → Bool
  | .dK _ => false | .dT _ => false | .tape => false | _ => true
def pIsi (n : String) : P1 := fun d Q => noDict d = true ∧ (kitB (tyD d) n).isSome = true ∧ Q .sh (.bl ((kitB (tyD d) n).getD false))
theorem o_isi {K : PySem.W.Frag} {t : Option Addr} {n : String} : Sim1 t (fun x => rIsi K [x, .ty n]) (pIsi n) := fun F H x d Q Qp s ht vx p k => by
  obtain ⟨h1, h2, q⟩ := p
  have ty : TyX K H x (.type (tyD d)) := by
    cases d with
    | non => rw [vw_non vx]; exact .base .non
    | bl b => rw [vw_bl vx]; exact .base (.bl b)
    | int i => rw [vw_int vx]; exact .base (.int i)
    | str l => rw [vw_str vx]; exact .base (.str _)
    | lst l => obtain ⟨a, xs, rfl, h3, _⟩ := vw_lst s vx; exact .base (.lst h3)
    | tup l => obtain ⟨a, xs, rfl, h3, _⟩ := vw_tup vx; exact .base (.tup (s _ _ h3))
    | dK _ => cases h1
    | dT _ => cases h1
    | tape => cases h1
  cases hk : kitB (tyD d) n with
  | none => rw [hk] at h2; cases h2
  | some b =>
    rw [hk] at q
    exact ⟨x, .ty n, .type (tyD d), .type n, b, rfl, .ty n, ty, kit_ty hk, k.val s (d := .bl b) rfl q⟩
theorem s_isi {K : PySem.W.Frag} {c : Cl} {t : Option Addr} {E : XE} {Ep : XP} {ta : TE} {qa : QE} {n : String} (ha : SimE K c t E Ep ta qa) : SimE K c t E Ep (tCB (rIsi K) (tCons ta (tCons (tC (.ty n)) tNil))) (qUn (pIsi n) qa) := s_un (r := fun x => rIsi K [x, .ty n]) o_isi ha
theorem h_isi {n : String} {d : D} {b : Bool} {Q : Md → D → Prop} (h1 : noDict d = true) (h2 : kitB (tyD d) n = some b) (q : Q .sh (.bl b)) : pIsi n d Q := ⟨h1, by rw [h2]; rfl, by rw [h2]; exact q⟩
/-! ### count, index in lists of ints -/
def qLM (p : P2) (a b : QE) : QE := fun δ Q => a δ fun _ d => (∃ ds, d = .lst ds) ∧ b δ fun _ e => p d e Q
theorem s_LM {K : PySem.W.Frag} {c : Cl} {t : Option Addr} {E : XE} {Ep : XP} {ta tb : TE} {qa qb : QE} {r : V → List V → Hp → VK → Prop} {p : P2} (h : Sim2 t (fun x y => r x [y]) p) (ha : SimE K c t E Ep ta qa) (hb : SimE K c t E Ep tb qb) : SimE K c t E Ep (tBM K "list" r ta (tCons tb tNil)) (qLM p qa qb) := fun F0 H0 L F δ σ H Q Qp er rs hq k => by
  refine ha.vw er rs hq fun x F1 H1 m1 d1 g1 v1 _ q1 => ?_
  obtain ⟨⟨ds, rfl⟩, q1⟩ := q1
  obtain ⟨a, xs, rfl, h1, _⟩ := vw_lst g1.s v1
  refine ⟨ty_lst h1, ?_⟩
  refine hb.vw er (rs.grow g1) q1 fun y F2 H2 m2 d2 g2 v2 _ q2 => ?_
  have g12 := g1.trans g2 rs.st.dr
  exact h F2 H2 (.ref a) y _ d2 Q Qp g2.s (rs.grow g12).st.dr (v1.grow g2) v2 q2 fun z F3 H3 m d g3 rv qd => k z F3 H3 m d (g12.trans g3 rs.st.dr) (rv.pre g12) qd
def pCount : P2 := fun d e Q => ∃ (ns : List Int) (k : Int), d = .lst (ns.map .int) ∧ e = .int k ∧ Q .sh (.int (ns.count k : Nat))
def pIndex : P2 := fun d e Q => ∃ (ns : List Int) (k : Int), d = .lst (ns.map .int) ∧ e = .int k ∧ k ∈ ns ∧ Q .sh (.int (ns.idxOf k : Nat))
theorem o_count {K : PySem.W.Frag} {t : Option Addr} : Sim2 t (fun x y => rCntI K x [y]) pCount := fun F H x y d e Q Qp s ht vx vy p k => by
  obtain ⟨ns, i, rfl, rfl, q⟩ := p
  obtain ⟨a, xs, rfl, h1, h2⟩ := vw_lst s vx
  rw [rpl_ints h2] at h1
  exact ⟨a, ns, i, rfl, by rw [vw_int vy], .inl (.inl h1), k.val s (d := .int _) rfl q⟩
theorem idx_first : ∀ (ns : List Int) (i : Int) (m : Nat) (n : Int), m < ns.idxOf i → ns[m]? = some n → n ≠ i
  | [], _, _, _, _, h => by simp at h
  | a :: ns, i, m, n, h, e => by
    rw [List.idxOf_cons] at h
    cases hb : (a == i) with
    | true => rw [hb] at h; exact absurd h (Nat.not_lt_zero _)
    | false =>
      rw [hb] at h
      have hne : a ≠ i := by rw [beq_eq_false_iff_ne] at hb; exact hb
      cases m with
      | zero => cases e; exact hne
      | succ m =>
        have h' : m + 1 < ns.idxOf i + 1 := h
        exact idx_first ns i m n (by omega) (by simpa using e)
theorem o_index {K : PySem.W.Frag} {t : Option Addr} : Sim2 t (fun x y => rIndex K x [y]) pIndex := fun F H x y d e Q Qp s ht vx vy p k => by
  obtain ⟨ns, i, rfl, rfl, hm, q⟩ := p
  obtain ⟨a, xs, rfl, h1, h2⟩ := vw_lst s vx
  rw [rpl_ints h2] at h1
  have ey := vw_int vy
  subst ey
  have hlt : ns.idxOf i < ns.length := List.idxOf_lt_length_of_mem hm
  refine ⟨a, ns.map V.int, .int i, ns.idxOf i, .int i, rfl, rfl, .inl (.inl h1), rfl, flat_ints ns, ?_, by show (i == i) = true; simp, fun m z' hlt' hz' => ?_, k.val s (d := .int _) rfl q⟩
  · rw [List.getElem?_map, List.getElem?_eq_getElem hlt, List.getElem_idxOf]; rfl
  · rw [List.getElem?_map] at hz'
    obtain ⟨n, hn, rfl⟩ := Option.map_eq_some_iff.mp hz'
    show (n == i) = false
    rw [beq_eq_false_iff_ne]
    intro e
    subst e
    exact idx_first ns n m n hlt' hn rfl
theorem s_index {K : PySem.W.Frag} {c : Cl} {t : Option Addr} {E : XE} {Ep : XP} {ta tb : TE} {qa qb : QE} (ha : SimE K c t E Ep ta qa) (hb : SimE K c t E Ep tb qb) : SimE K c t E Ep (tBM K "list" (rIndex K) ta (tCons tb tNil)) (qLM pIndex qa qb) := s_LM o_index ha hb
theorem s_count {K : PySem.W.Frag} {c : Cl} {t : Option Addr} {E : XE} {Ep : XP} {ta tb : TE} {qa qb : QE} (ha : SimE K c t E Ep ta qa) (hb : SimE K c t E Ep tb qb) : SimE K c t E Ep (tBM K "list" (rCntI K) ta (tCons tb tNil)) (qLM pCount qa qb) := s_LM o_count ha hb
theorem h_LM {p : P2} {a b : QE} {δ : DS} {Q : Md → D → Prop} (h : a δ fun _ d => (∃ ds, d = .lst ds) ∧ b δ fun _ e => p d e Q) : qLM p a b δ Q := h
end Sw
namespace Sw
open PySem PySem.Spec PyProof.Rows L2 SX
/-! ### min(list of data) -/
theorem dpA_get2 {K : PySem.W.Frag} {H : Hp} {xs : List V} {ds : List PyData} {i : Nat} {x : V} (h : DpAll K H xs ds) (e : xs[i]? = some x) : ∃ d, ds[i]? = some d ∧ Dp K H x d := by
  revert i ds
  induction xs with
  | nil => intro ds i h e; simp at e
  | cons y ys ih =>
    intro ds i h e
    cases h with
    | cons h1 h2 =>
      cases i with
      | zero => cases e; exact ⟨_, rfl, h1⟩
      | succ i => exact ih (ds := _) (i := i) h2 (by simpa using e)
abbrev rMinG (K : PySem.W.Frag) : RC := fun vs H Q => ∃ (a : Addr) (xs : List V) (d : PyData) (ds : List PyData), vs = [.ref a] ∧ SqL K H a xs ∧ DpAll K H xs (d :: ds) ∧ PySem.W.AlikeAll (d :: ds) ∧ PyData.depthAll (d :: ds) ≤ 60 ∧ ∀ (i : Nat) v e, xs[i]? = some v → (d :: ds)[i]? = some e → e = PySem.W.minD d ds → Q v H
theorem cr_minG {X : Cx} (hc : X.calm = true) (hu : X.A.units + 64 < cLine) : CallR X (.builtin "min") (rMinG X.K) := by
  intro pins s σ H vs us Q I r h
  obtain ⟨a, xs, d, ds, rfl, hs, hd, al, dp, q⟩ := h
  obtain ⟨its, rv, hl, _⟩ := I.list hs
  rw [Vals.ref1 r]
  obtain ⟨as, ra⟩ := Dp.readsAll I _ _ _ hd rv
  refine PySem.W.min_list_data (x := d) (xs := ds) (I.ok.hd hc) hl.isList (show ReadsAll s.heap its.toArray.toList (d :: ds) as from by simpa using ra) al (by omega) fun i v h' tk bs hi rd hk => ?_
  have hi' : its[i]? = some v := by simpa using hi
  have lx : xs.length = its.length := rv.length
  have hlt : i < xs.length := by rw [lx]; exact (List.getElem?_eq_some_iff.mp hi').1
  have hx := List.getElem?_eq_getElem hlt
  obtain ⟨u, hu', ru⟩ := rv.get hx
  rw [hi'] at hu'
  cases hu'
  obtain ⟨e, hdi, dpx⟩ := dpA_get2 hd hx
  obtain ⟨cs, rx⟩ := Dp.reads I _ _ _ dpx ru
  have rx' := PySem.W.reads_keeps hk rx
  exact ⟨xs[i], H, I.kept hk, ru, q i _ e hx hdi (Reads.unique rx' _ _ rd).1⟩
def pMinD : P1 := fun d Q => ∃ e0 es, d = .lst (e0 :: es) ∧ flatDL (e0 :: es) = true ∧ PySem.W.AlikeAll (toPyL (e0 :: es)) ∧ PyData.depthAll (toPyL (e0 :: es)) ≤ 60 ∧ ∀ e, e ∈ e0 :: es → toPy e = PySem.W.minD (toPy e0) (toPyL es) → Q .sh e
theorem toPyL_get : ∀ (ds : List D) (i : Nat), (toPyL ds)[i]? = (ds[i]?).map toPy
  | [], i => by simp [toPyL]
  | d :: ds, 0 => rfl
  | d :: ds, i + 1 => by
    show (toPy d :: toPyL ds)[i + 1]? = _
    rw [List.getElem?_cons_succ, toPyL_get ds i, List.getElem?_cons_succ]
theorem o_minG {K : PySem.W.Frag} {t : Option Addr} : Sim1 t (fun x => rMinG K [x]) pMinD := fun F H x d Q Qp s ht vx p k => by
  obtain ⟨e0, es, rfl, fl, al, dp, q⟩ := p
  obtain ⟨a, xs, rfl, h1, h2⟩ := vw_lst s vx
  refine ⟨a, xs, toPy e0, toPyL es, rfl, .inl (.inl h1), rpl_dp fl (h2.mono (.of s)), al, dp, fun i v e hv he hm => ?_⟩
  have he' : (toPyL (e0 :: es))[i]? = some e := he
  rw [toPyL_get] at he'
  obtain ⟨d, hd, rfl⟩ := Option.map_eq_some_iff.mp he'
  obtain ⟨y, hy, rp⟩ := h2.at hd
  rw [hv] at hy
  cases hy
  exact k.val s rp (q d (List.mem_of_getElem? hd) hm)
/-! pairs of ints -/
def ltI (a b : Int × Int) : Bool := decide (a.1 < b.1 ∨ (a.1 = b.1 ∧ a.2 < b.2))
def minP (p : Int × Int) (ps : List (Int × Int)) : Int × Int := ps.foldl (fun a y => if ltI y a then y else a) p
def dP (p : Int × Int) : PyData := .tuple [.int p.1, .int p.2]
theorem toPy_encP (p : Int × Int) : toPy (encP p) = dP p := rfl
theorem toPyL_encP : ∀ ps : List (Int × Int), toPyL (ps.map encP) = ps.map dP
  | [] => rfl
  | p :: ps => by show toPy (encP p) :: toPyL (ps.map encP) = _; rw [toPyL_encP ps]; rfl
theorem minD_pairs : ∀ (ps : List (Int × Int)) (p : Int × Int), PySem.W.minD (dP p) (ps.map dP) = dP (minP p ps)
  | [], _ => rfl
  | y :: ps, p => by
    show PySem.W.minD (if PySem.W.dataLt (dP y) (dP p) then dP y else dP p) (ps.map dP) = dP (minP (if ltI y p then y else p) ps)
    have e : PySem.W.dataLt (dP y) (dP p) = ltI y p := PySem.W.dataLt_ii _ _ _ _
    rw [e]
    by_cases h : ltI y p = true
    · rw [if_pos h, if_pos h]
      exact minD_pairs ps y
    · rw [if_neg h, if_neg h]
      exact minD_pairs ps p
theorem dP_inj {p q : Int × Int} (h : dP p = dP q) : p = q := by
  unfold dP at h
  simp only [PyData.tuple.injEq, List.cons.injEq, PyData.int.injEq, and_true] at h
  exact Prod.ext h.1 h.2
theorem flat_pairs : ∀ ps : List (Int × Int), flatDL (ps.map encP) = true
  | [] => rfl
  | p :: ps => by show (flatD (encP p) && flatDL (ps.map encP)) = true; rw [flat_pairs ps]; rfl
theorem depth_pairs : ∀ (ps : List (Int × Int)), PyData.depthAll (ps.map dP) ≤ 1
  | [] => Nat.zero_le _
  | p :: ps => by
    show max (dP p).depth (PyData.depthAll (ps.map dP)) ≤ 1
    exact Nat.max_le.mpr ⟨Nat.le_refl 1, depth_pairs ps⟩
theorem h_minP {p : Int × Int} {ps : List (Int × Int)} {Q : Md → D → Prop} (q : Q .sh (encP (minP p ps))) : pMinD (.lst ((p :: ps).map encP)) Q := by
  refine ⟨encP p, ps.map encP, rfl, flat_pairs (p :: ps), ?_, ?_, fun e he hm => ?_⟩
  · rw [show toPyL (encP p :: ps.map encP) = (p :: ps).map dP from toPyL_encP (p :: ps)]
    refine ⟨fun x hx y hy => ?_, fun x hx => ?_⟩
    · obtain ⟨p, _, rfl⟩ := List.mem_map.mp hx
      obtain ⟨q, _, rfl⟩ := List.mem_map.mp hy
      rfl
    · obtain ⟨p, _, rfl⟩ := List.mem_map.mp hx
      exact fun z => nomatch z
  · rw [show toPyL (encP p :: ps.map encP) = (p :: ps).map dP from toPyL_encP (p :: ps)]
    exact Nat.le_trans (depth_pairs (p :: ps)) (by decide)
  · have he' : e ∈ (p :: ps).map encP := he
    obtain ⟨y, _, rfl⟩ := List.mem_map.mp he'
    rw [toPy_encP, toPy_encP, toPyL_encP, minD_pairs] at hm
    rw [dP_inj hm]
    exact q
theorem minP_mem (p : Int × Int) (ps : List (Int × Int)) : minP p ps ∈ p :: ps := by
  unfold minP
  induction ps generalizing p with
  | nil => exact List.mem_cons_self
  | cons y ps ih =>
    rw [List.foldl_cons]
    have h := ih (if ltI y p = true then y else p)
    rcases List.mem_cons.mp h with e | e
    · rw [e]
      split
      · exact List.mem_cons_of_mem _ List.mem_cons_self
      · exact List.mem_cons_self
    · exact List.mem_cons_of_mem _ (List.mem_cons_of_mem _ e)
/-- its first number is the least of all first numbers -/
theorem minP_le (p : Int × Int) (ps : List (Int × Int)) : ∀ y ∈ p :: ps, (minP p ps).1 ≤ y.1 := by
  unfold minP
  induction ps generalizing p with
  | nil => intro y hy; rw [List.mem_singleton.mp hy]; exact Int.le_refl _
  | cons z ps ih =>
    intro y hy
    rw [List.foldl_cons]
    have h := ih (if ltI z p = true then z else p)
    have h0 := h _ List.mem_cons_self
    have hz : (if ltI z p = true then z else p).1 ≤ z.1 ∧ (if ltI z p = true then z else p).1 ≤ p.1 := by
      unfold ltI
      split
      · rename_i c
        have := of_decide_eq_true c
        omega
      · rename_i c
        have : ¬ (z.1 < p.1 ∨ (z.1 = p.1 ∧ z.2 < p.2)) := fun u => c (decide_eq_true u)
        omega
    rcases List.mem_cons.mp hy with e | e
    · rw [e]; omega
    · rcases List.mem_cons.mp e with e | e
      · rw [e]; omega
      · exact h y (List.mem_cons_of_mem _ e)
end Sw
local macro_rules | `(tactic| walk_at "go1") => `(tactic| first
  | with_reducible refine Sw.g_seqasg ?_ | with_reducible refine Sw.g_op ?_ | with_reducible refine Sw.g_var rfl ?_ | with_reducible refine Sw.g_c ?_ | with_reducible refine Sw.g_I0 ?_
  | with_reducible refine Sw.g_cons ?_ | with_reducible refine Sw.g_nil ?_ | with_reducible refine Sw.g_call ?_ | with_reducible refine Sw.g_cb ?_ | with_reducible refine Sw.g_test ?_ | with_reducible refine Sw.g_bl ?_
  | with_reducible refine Sw.g_seqdrop ?_ | with_reducible refine Sw.g_seqsub ?_ | with_reducible refine Sw.g_asg ?_ | with_reducible refine Sw.g_asgsub ?_ | with_reducible refine Sw.g_ret ?_ | with_reducible refine Sw.g_drop ?_ | with_reducible refine Sw.g_if ?_ | with_reducible refine Sw.g_next ?_ | with_reducible refine Sw.g_name ?_
  | with_reducible refine Sw.g_B ?_ | with_reducible refine Sw.g_not ?_ | with_reducible refine Sw.g_and ?_ | with_reducible refine Sw.g_or ?_ | with_reducible refine Sw.g_andV ?_ | with_reducible refine Sw.g_orV ?_ | with_reducible refine Sw.g_notV ?_
  | with_reducible refine Sw.g_ifE ?_ | with_reducible refine Sw.g_chain ?_ | with_reducible refine Sw.g_un ?_ | with_reducible refine Sw.g_tup ?_ | with_reducible refine Sw.g_lst ?_ | with_reducible refine Sw.g_sl ?_ | with_reducible refine Sw.g_part ?_ | with_reducible refine Sw.g_nopart ?_
  | with_reducible refine Sw.g_U ?_ | with_reducible refine Sw.g_eq rfl ?_ | with_reducible refine Sw.g_ne rfl ?_ | with_reducible refine Sw.g_int ?_ | with_reducible refine Sw.g_yes ?_ | with_reducible refine L2.iteT ?_ | with_reducible refine L2.iteF ?_ | with_reducible refine Sw.iteNT ?_ | with_reducible refine Sw.iteNF ?_ | with_reducible refine Sw.g_m1 ?_ | with_reducible refine Sw.g_bm ?_ | with_reducible refine ⟨Sw.ty_lst (by assumption), ?_⟩ | with_reducible refine Sw.g_sput ?_ | with_reducible refine Sw.g_put ?_ | with_reducible refine Sw.g_dget2 ?_ | with_reducible refine Sw.g_dget ?_ | with_reducible refine Sw.g_dK ?_ | with_reducible refine Sw.g_dT ?_ | with_reducible refine Sw.g_dnotin ?_ | with_reducible refine Sw.g_din ?_ | with_reducible refine Sw.g_bm0 ?_
  | with_reducible refine Sw.g_ixL (by assumption) rfl ?_ | with_reducible refine Sw.g_ixT (by assumption) rfl ?_)
local macro_rules | `(tactic| walk_at "go") => `(tactic| repeat walk_at "go1")
local macro_rules | `(tactic| walk_at "bd") => `(tactic| repeat (first | with_reducible exact Sw.all_nil | refine Sw.all_cons ⟨_, rfl, by omega, by omega⟩ ?_))
local macro_rules | `(tactic| walk_at "new") => `(tactic| (refine ⟨Nat.le_of_ble_eq_true rfl, fun p np => ?_⟩; generalize hX : L2.upd _ p _ = H'; have sm : L2.Same _ H' := hX ▸ Sw.same_upd np; have hp : H' p = some _ := hX ▸ L2.upd_same; clear hX))
namespace Sw
open PySem PySem.Spec PyProof.Rows L2 SX
/-! ### zip of a list and a text -/
def ItzS (K : PySem.W.Frag) (a : Addr) (x : Str) : It :=
  ⟨fun i H => ∃ (xs : List V) (v : V), SqL K H a xs ∧ xs[i]? = some v ∧ i < x.cps.size,
    fun i H v H' => ∃ T u ch, v = .ref T ∧ H T = none ∧ H' = upd H T (.tup [u, .str ⟨#[ch]⟩]) ∧ (∀ xs, SqL K H a xs → xs[i]? = some u) ∧ x.cps[i]? = some ch,
    fun i H => ∃ xs : List V, SqL K H a xs ∧ i = min xs.length x.cps.size⟩
theorem turn_zipS {P : Program} {w : World} {K : PySem.W.Frag} {elts : List Expr} {kk : Nat} {tpos : Pos} {a z TI TO i1 i2 : Addr} {x : Str} {t : Tok} (S : ZipSep2 z TI TO i1 i2 [i1, a] [i2]) (hai : a ≠ i1) :
    Turn P w K (.Tuple elts kk tpos) (ItzS K a x) [z, TI, TO, i1, i2] z (fun i h => IsZip h z TI TO .none ∧ IsTupOf2 h TI (.ref i1) (.ref i2) ∧ (∃ x y, IsTupOf2 h TO x y) ∧ h.IsListIter i1 a i ∧ h.IsStrIter i2 (strIterType x) x t i) where
  mem := by simp
  obj := fun i h st c hc => by
    obtain ⟨hz, hTI, ⟨x, y, hTO⟩, ⟨o1, e1, _, d1⟩, ⟨o2, e2, _, d2⟩⟩ := st
    have e' : c = z ∨ c = TI ∨ c = TO ∨ c = i1 ∨ c = i2 := by simpa using hc
    rcases e' with q | q | q | q | q
    · rw [q]; exact ⟨_, hz, fun v q => nomatch q⟩
    · rw [q]; exact ⟨_, hTI, fun v q => nomatch q⟩
    · rw [q]; exact ⟨_, hTO, fun v q => nomatch q⟩
    · rw [q]; exact ⟨o1, e1, fun v q => by rw [d1] at q; cases q⟩
    · rw [q]; exact ⟨o2, e2, fun v q => by rw [d2] at q; cases q⟩
  keep := fun i h h' st k => by
    obtain ⟨hz, hTI, ⟨x, y, hTO⟩, h1, h2⟩ := st
    exact ⟨k z (by simp) _ hz, k TI (by simp) _ hTI, ⟨x, y, k TO (by simp) _ hTO⟩, h1.at fun o q => k i1 (by simp) o q, let ⟨o, ho, r⟩ := h2; ⟨o, k i2 (by simp) o ho, r⟩⟩
  item := by
    intro X hP hw hK hc i pins s σ H E I hf st hg
    subst hP hw hK
    obtain ⟨hz, hTI, ⟨x0, y0, hTO⟩, h1, h2⟩ := st
    obtain ⟨xs, v, hqx, hx, hlt⟩ := hg
    obtain ⟨its, rv, p, _⟩ := I.list hqx
    obtain ⟨u, hu, ru⟩ := rv.get hx
    have hzl : z < s.heap.objs.size := Heap.lt_size hz
    have hil : i < its.toArray.size := by
      have := (List.getElem?_eq_some_iff.mp hu).1
      simpa using this
    have W := WalksT.zipD2 S (Draws.list (prog := X.prog) (w := X.w) (A := X.A.in1) (I.ok.hd hc) i1 a hai its.toArray) (Draws.text (prog := X.prog) (w := X.w) (A := X.A.in1) (I.ok.hd hc) i2 x t)
    refine W.item i s _ _ (by omega) ⟨hz, hTI, ⟨_, _, hTO⟩, ⟨h1, p.isList⟩, h2⟩ fun T vals h' tk ⟨u1, u2, hp1, ⟨ch, tu, hch, e2⟩, ev⟩ hT hTt hm hk => ?_
    have ap := W.apart i T h' hm
    refine ⟨_, rfl, W.go elts kk tpos i T { s with heap := h', toks := tk } _ _ hm fun h'' st' hk' => ?_⟩
    have eu : u1 = u := by
      have h3 : its.toArray[i]? = some u := by simpa using hu
      rw [h3] at hp1
      cases hp1
      rfl
    subst eu e2 ev
    obtain ⟨oT, hoT, cT, dT⟩ := hTt
    have hT2 : h''.get? T = some oT := hk' T oT ap hoT
    have new : ObjOk X.prog X.w (upd H T (.tup [v, .str ⟨#[ch]⟩])) h'' T (.tup [v, .str ⟨#[ch]⟩]) :=
      ⟨by show 2 ≤ sizeLine; decide, [u1, .str ⟨#[ch]⟩ tu], .cons ru (.cons ⟨tu, rfl⟩ .nil), ⟨oT, hT2, cT, dT⟩⟩
    have sub : ∀ c, c ∉ [z, TI, TO, i1, i2] → c ∉ [z, TO, i1, i2] := fun c h1 h2 => h1 (by
      have : c = z ∨ c = TO ∨ c = i1 ∨ c = i2 := by simpa using h2
      rcases this with q | q | q | q <;> simp [q])
    have I1 : Inv X pins σ (upd H T (.tup [v, .str ⟨#[ch]⟩])) { s with heap := h'', toks := tk } :=
      I.turnedNew (t' := tk) (ch := [z, TI, TO, i1, i2]) (fun c o hb q => hk' c o (sub c hb) (hk c o (sub c hb) q)) hf hT new
    refine ⟨.ref T, _, I1, rfl, ⟨T, v, ch, rfl, I.hok.fresh hT, rfl, fun l hl => by rw [I.list_inj hl hqx]; exact hx, hch⟩, ⟨st'.1, st'.2.1, st'.2.2.1, st'.2.2.2.1.1, st'.2.2.2.2⟩, fun c hcm => ?_⟩
    have hlt : c < s.heap.objs.size := by
      have e' : c = z ∨ c = TI ∨ c = TO ∨ c = i1 ∨ c = i2 := by simpa using hcm
      rcases e' with q | q | q | q | q
      · rw [q]; exact hzl
      · rw [q]; exact Heap.lt_size hTI
      · rw [q]; exact Heap.lt_size hTO
      · rw [q]; obtain ⟨_, e1, _⟩ := h1; exact Heap.lt_size e1
      · rw [q]; obtain ⟨_, e2, _⟩ := h2; exact Heap.lt_size e2
    rw [upd_ne (Nat.ne_of_lt (Nat.lt_of_lt_of_le hlt hT))]
    exact (hf c hcm).1
  done := by
    intro X hP hw hK hc i pins s σ H E I hf st hg
    subst hP hw hK
    obtain ⟨hz, hTI, ⟨x0, y0, hTO⟩, h1, h2⟩ := st
    obtain ⟨xs, hqx, hend⟩ := hg
    obtain ⟨its, rv, p, _⟩ := I.list hqx
    have l1 := rv.length
    have W := WalksT.zipD2 S (Draws.list (prog := X.prog) (w := X.w) (A := X.A.in1) (I.ok.hd hc) i1 a hai its.toArray) (Draws.text (prog := X.prog) (w := X.w) (A := X.A.in1) (I.ok.hd hc) i2 x t)
    have e3 : its.toArray.size = xs.length := by
      show its.length = xs.length
      omega
    have en : i = min its.toArray.size x.cps.size := by rw [hend, e3]
    rw [en] at h1 h2
    refine W.done s _ _ ⟨hz, hTI, ⟨_, _, hTO⟩, ⟨h1, p.isList⟩, h2⟩ fun h' tk hk => ⟨rfl, I.turnedL (t' := tk) (ch := [z, TI, TO, i1, i2]) (fun c o hb q => hk c o (fun h2 => hb (by
      have : c = z ∨ c = TO ∨ c = i1 ∨ c = i2 := by simpa using h2
      rcases this with q | q | q | q <;> simp [q])) q) hf⟩
  self := fun A i s Q E st h => wpAny_pyIter_zip st.1 h
def iZipS (K : PySem.W.Frag) (ta : TA) : TI := fun σ H R => ta σ H fun vs H1 => ∃ a x xs, vs = [.ref a, .str x] ∧ SqL K H1 a xs ∧ R (ItzS K a x) H1
theorem pi_zipS {X : Cx} {e e2 : Expr} {ta : TA} {p pos tpos : Pos} {elts : List Expr} {kk : Nat} (hg : Gl X "zip") (hm : X.mg "zip" = none) (ha : PA X [e, e2] ta)
    (hs : starEach [e, e2] X.env = (false, eval e X.env) :: starEach [e2] X.env := by rfl) (hpl : (backTo pos (starEach [e2] X.env)).any (·.1) = false := by rfl) :
    PI X (.Tuple elts kk tpos) (.Call (.Name "zip" p) [e, e2] [] pos) (iZipS X.K ta) := by
  refine ⟨fun pins s σ H R I h => ?_⟩
  refine Call_ (ld_blt I hg hm PyProof.Rows.boot_zip (PyProof.Rows.callWith_type1 (thn (ha.run pos pins s σ H _ I h) fun us s1 ⟨vs, H1, I1, r1, q1⟩ => ?_) hs hpl))
  obtain ⟨a, x, xs, ex, hqx, q⟩ := q1
  subst ex
  cases r1 with
  | cons r rr =>
    cases rr with
    | cons r' rr =>
      cases rr
      cases r
      obtain ⟨t, rfl⟩ := r'
      obtain ⟨its, rv, p1, _⟩ := I1.list hqx
      have la : a < s1.heap.objs.size := p1.lt
      refine zip_begins2 (begins_list a its.toArray) (begins_text x t) p1.isList trivial fun h' hz hTI hTO h1 h2 hsz hk => wpAny_pyIter_zip hz ?_
      have I2 : Inv X pins σ H1 { s1 with heap := h' } := I1.kept (t' := s1.toks) hk
      refine ⟨s1.heap.objs.size + 4, [s1.heap.objs.size + 4, s1.heap.objs.size + 2, s1.heap.objs.size + 3, s1.heap.objs.size, s1.heap.objs.size + 1], _, _, H1, rfl, I2, turn_zipS (t := t) (zip_sep2 (fp1 := [a]) (fp2 := []) (fun b hb => by rw [List.mem_singleton.mp hb]; exact la) (fun b hb => nomatch hb)) (Nat.ne_of_lt la), ⟨hz, hTI, ⟨_, _, hTO⟩, ⟨_, h1, rfl, rfl⟩, ⟨_, h2, rfl, rfl⟩⟩, fun c hcm => ?_, q⟩
      have e' : c = s1.heap.objs.size + 4 ∨ c = s1.heap.objs.size + 2 ∨ c = s1.heap.objs.size + 3 ∨ c = s1.heap.objs.size ∨ c = s1.heap.objs.size + 1 := by simpa using hcm
      have hle : s1.heap.objs.size ≤ c := by
        rcases e' with z | z | z | z | z
        · rw [z]; exact Nat.le_add_right _ _
        · rw [z]; exact Nat.le_add_right _ _
        · rw [z]; exact Nat.le_add_right _ _
        · rw [z]; exact Nat.le_refl _
        · rw [z]; exact Nat.le_add_right _ _
      exact I1.fpOk hle (I1.hok.fresh hle)
def qiZipS (a b : QE) : QI := fun δ Q => a δ fun m d => b δ fun _ e => ∃ ds l, d = .lst ds ∧ e = .str l ∧ Q (if m = .pk then .pk else .sh) ((ds.zip (l.map fun ch => D.str [ch])).map fun p => .tup [p.1, p.2])
section
variable {K : PySem.W.Frag} {c : Cl} {t : Option Addr} {E : XE} {Ep : XP} {te ta tb tc : TE} {qe qa qb qc : QE}
theorem yields_zipS {F1 H1 : Hp} {a : Addr} {xs : List V} {ds : List D} {l : List Nat} (s : Same F1 H1) (h : H1 a = some (.lst xs)) (r : RpL F1 ds xs) : Yields (ItzS K a (S l)) F1 H1 ((ds.zip (l.map fun ch => D.str [ch])).map fun p => .tup [p.1, p.2]) := by
  refine ⟨fun i d e => ?_, xs, uniqL h, by rw [r.len, List.length_map, List.length_zip, List.length_map]; simp⟩
  rw [List.getElem?_map] at e
  obtain ⟨p, e1, rfl⟩ := Option.map_eq_some_iff.mp e
  obtain ⟨e2, e3⟩ := List.getElem?_zip_eq_some.mp e1
  obtain ⟨x, h1, h2⟩ := r.at e2
  rw [List.getElem?_map] at e3
  obtain ⟨ch, h3, h4⟩ := Option.map_eq_some_iff.mp e3
  have hl : i < l.length := (List.getElem?_eq_some_iff.mp h3).1
  refine ⟨⟨xs, x, uniqL h, h1, by show i < (S l).cps.size; simpa using hl⟩, fun v H2 ⟨T, z, ch', e1, e2, e3, e4, e5⟩ => ?_⟩
  have z1 := e4 xs (uniqL h)
  rw [h1] at z1
  cases z1
  have z2 : l[i]? = some ch' := by simpa using e5
  rw [h3] at z2
  cases z2
  subst e1 e3
  have sm : Same F1 (upd F1 T (.tup [x, .str ⟨#[ch]⟩])) := same_upd (s.free e2)
  exact ⟨_, .new s e2, T, _, rfl, upd_same, _, _, rfl, h2.mono (.of sm), _, _, rfl, by rw [← h4]; rfl, rfl⟩
theorem si_zipS (ha : SimE K c t E Ep ta qa) (hb : SimE K c t E Ep tb qb) : SimI K c t E Ep (iZipS K (tCons ta (tCons tb tNil))) (qiZipS qa qb) := fun F0 H0 L F δ σ H R Qp er rs hq k => by
  refine ha.vw er rs hq fun x F1 H1 m d g v rp q => ?_
  refine hb.vw er (rs.grow g) q fun y F2 H2 m2 e g2 v2 rp2 q2 => ?_
  obtain ⟨ds, l, rfl, rfl, q3⟩ := q2
  have v1 := v.grow g2
  obtain ⟨a, xs, rfl, h1, h2⟩ := vw_lst g2.s v1
  refine ⟨a, S l, xs, by rw [vw_str v2], uniqL h1, k _ F2 H2 _ _ (g.trans g2 rs.st.dr) (fun F3 H3 g3 => ?_) (fun hm F3 H3 s1 s2 => ?_) q3⟩
  · obtain ⟨a', xs', e1, h5, h6⟩ := vw_lst g3.s (v1.grow g3)
    cases e1
    exact yields_zipS g3.s h5 h6
  · have m1 : m ≠ .pk := fun z => hm (if_pos z)
    obtain ⟨a', xs', e1, h5, h6⟩ := (rp m1).mono (.of (g2.f.trans s1))
    cases e1
    exact yields_zipS s2 (s2 _ _ h5) h6
theorem h_iZipS {a b : QE} {δ : DS} {QI' : Md → List D → Prop} (h : a δ fun m d => b δ fun _ e => ∃ ds l, d = .lst ds ∧ e = .str l ∧ QI' (if m = .pk then .pk else .sh) ((ds.zip (l.map fun ch => D.str [ch])).map fun p => .tup [p.1, p.2])) : qiZipS a b δ QI' := h
end
end Sw
local macro_rules | `(tactic| walk_at "go1") => `(tactic| first
  | with_reducible refine Sw.g_seqasg ?_ | with_reducible refine Sw.g_op ?_ | with_reducible refine Sw.g_var rfl ?_ | with_reducible refine Sw.g_c ?_ | with_reducible refine Sw.g_I0 ?_
  | with_reducible refine Sw.g_cons ?_ | with_reducible refine Sw.g_nil ?_ | with_reducible refine Sw.g_call ?_ | with_reducible refine Sw.g_cb ?_ | with_reducible refine Sw.g_test ?_ | with_reducible refine Sw.g_bl ?_
  | with_reducible refine Sw.g_seqdrop ?_ | with_reducible refine Sw.g_seqsub ?_ | with_reducible refine Sw.g_asg ?_ | with_reducible refine Sw.g_asgsub ?_ | with_reducible refine Sw.g_ret ?_ | with_reducible refine Sw.g_drop ?_ | with_reducible refine Sw.g_if ?_ | with_reducible refine Sw.g_next ?_ | with_reducible refine Sw.g_name ?_
  | with_reducible refine Sw.g_B ?_ | with_reducible refine Sw.g_not ?_ | with_reducible refine Sw.g_and ?_ | with_reducible refine Sw.g_or ?_ | with_reducible refine Sw.g_andV ?_ | with_reducible refine Sw.g_orV ?_ | with_reducible refine Sw.g_notV ?_
  | with_reducible refine Sw.g_ifE ?_ | with_reducible refine Sw.g_chain ?_ | with_reducible refine Sw.g_un ?_ | with_reducible refine Sw.g_tup ?_ | with_reducible refine Sw.g_lst ?_ | with_reducible refine Sw.g_sl ?_ | with_reducible refine Sw.g_part ?_ | with_reducible refine Sw.g_nopart ?_
  | with_reducible refine Sw.g_U ?_ | with_reducible refine Sw.g_eq rfl ?_ | with_reducible refine Sw.g_ne rfl ?_ | with_reducible refine Sw.g_int ?_ | with_reducible refine Sw.g_yes ?_ | with_reducible refine L2.iteT ?_ | with_reducible refine L2.iteF ?_ | with_reducible refine Sw.iteNT ?_ | with_reducible refine Sw.iteNF ?_ | with_reducible refine Sw.g_m1 ?_ | with_reducible refine Sw.g_bm ?_ | with_reducible refine ⟨Sw.ty_lst (by assumption), ?_⟩ | with_reducible refine Sw.g_sput ?_ | with_reducible refine Sw.g_put ?_ | with_reducible refine Sw.g_dget2 ?_ | with_reducible refine Sw.g_dget ?_ | with_reducible refine Sw.g_dK ?_ | with_reducible refine Sw.g_dT ?_ | with_reducible refine Sw.g_dnotin ?_ | with_reducible refine Sw.g_din ?_ | with_reducible refine Sw.g_bm0 ?_
  | with_reducible refine Sw.g_ixL (by assumption) rfl ?_ | with_reducible refine Sw.g_ixT (by assumption) rfl ?_)
local macro_rules | `(tactic| walk_at "go") => `(tactic| repeat walk_at "go1")
local macro_rules | `(tactic| walk_at "bd") => `(tactic| repeat (first | with_reducible exact Sw.all_nil | refine Sw.all_cons ⟨_, rfl, by omega, by omega⟩ ?_))
local macro_rules | `(tactic| walk_at "new") => `(tactic| (refine ⟨Nat.le_of_ble_eq_true rfl, fun p np => ?_⟩; generalize hX : L2.upd _ p _ = H'; have sm : L2.Same _ H' := hX ▸ Sw.same_upd np; have hp : H' p = some _ := hX ▸ L2.upd_same; clear hX))
namespace Sw
open PySem PySem.Spec PyProof.Rows L2 SX
/-! ### tuple * int -/
theorem tuple_mul1 (l : Addr) (items : Array Value) (n : Nat) (dd : Option Addr) (sl : Array (Option Value)) (u : Tok) :
    Meets (Builtin.«tuple.__mul__» ⟨[.ref l, .int 1 u], []⟩) (fun _ R s => s.heap.get? l = some { cls := .type "tuple", dict := dd, data := .seq items n, slots := sl } ∧ R (.ok (.ret (Value.ref l))) s) :=
  .of_wp fun prog w A R s h => by
    obtain ⟨hp, g, d, tk, os⟩ := s
    obtain ⟨hl, h⟩ := h
    have f1 := AutoSeq1.idx_int
    have c1 : (items.isEmpty || (1 : Int) == 1) = true := by simp
    wp_walk using wpAny_loadPart' hl
    exact ⟨_, rfl, h⟩
def rRepT1 (K : PySem.W.Frag) : R2 := fun x y H Q => ∃ l k xs, x = .ref l ∧ y = .int k ∧ SqT K H l xs ∧ xs ≠ [] ∧ 1 ≤ k ∧ k ≤ 1000 ∧ xs.length ≤ 1000 ∧ (k = 1 → Q (.ref l) H) ∧ (2 ≤ k → ∀ p, H p = none → Q (.ref p) (upd H p (.tup (List.replicate k.toNat xs).flatten)))
theorem op_repT1 {X : Cx} : OpR X (binaryOp .Mult) (rRepT1 X.K) := by
  intro pins s σ H x y v u Q I rx ry h
  obtain ⟨l, k, xs, rfl, rfl, hT, hne, h1, h2, hz, q1, q2⟩ := h
  by_cases e : 2 ≤ k
  · exact op_repT pins s σ H _ _ v u Q I rx ry ⟨l, k, xs, rfl, rfl, hT, hne, e, h2, hz, q2 e⟩
  · have ek : k = 1 := by omega
    subst ek
    cases rx
    obtain ⟨t, rfl⟩ := ry
    obtain ⟨its, r, ⟨⟨cls, dd, data, sl⟩, ho, hc, n, hd⟩, hs⟩ := I.tuple hT
    simp only at hc hd
    subst hc hd
    refine wpAny_binaryOp_repeat_ref (T := "tuple") (U := "int") (by decide) ⟨_, ho, rfl⟩ (fun s' => typeIs_int s' 1 t) noFill_tuple_mul F.fills_int_mul F.slot_int_rmul repeat_tuple F.slot_int_index.lookup
      (call_meets F.slot_int_rmul (typeIs_int s 1 t) F.entry_int_rmul (F.args_int_rmul_2 _ _) (int_rmul_tuple 1 t l its.toArray n dd sl)
        ⟨ho, rfl, ⟨_, ho, rfl⟩, call_meets F.slot_tuple_mul ⟨_, ho, rfl⟩ F.entry_tuple_mul (F.args_tuple_mul_2 _ _) (tuple_mul1 l its.toArray n dd sl t) ⟨ho, ?_⟩⟩)
    exact ⟨.ref l, H, I, rfl, q1 rfl⟩
def pRepT : P2 := fun d e Q => ∃ (a : D) (n : Int), d = .tup [a] ∧ e = .int n ∧ 1 ≤ n ∧ n ≤ 1000 ∧ Q .sh (.tup (List.replicate n.toNat a))
theorem o_repT {K : PySem.W.Frag} {t : Option Addr} : Sim2 t (rRepT1 K) pRepT := fun F H x y d e Q Qp s ht vx vy p k => by
  obtain ⟨a, n, rfl, rfl, n1, n2, q⟩ := p
  obtain ⟨p1, xs, rfl, h1, h2⟩ := vw_tup vx
  have hl := h2.len
  have e1 : (List.replicate n.toNat [a]).flatten = List.replicate n.toNat a := List.flatten_replicate_singleton
  refine ⟨p1, n, xs, rfl, vw_int vy, .inl (.inl (s _ _ h1)), fun z => (by rw [z] at hl; cases hl), n1, n2, by rw [hl]; exact Nat.le_of_ble_eq_true rfl, fun e => ?_, fun _ p np => ?_⟩
  · subst e
    exact k.val s (d := .tup [a]) ⟨p1, xs, rfl, h1, h2⟩ q
  · exact k.tup s np (by rw [← e1]; exact rpl_rep h2 n.toNat) q
theorem h_repT {a : D} {n : Int} {Q : Md → D → Prop} (h1 : 1 ≤ n) (h2 : n ≤ 1000) (q : Q .sh (.tup (List.replicate n.toNat a))) : pRepT (.tup [a]) (.int n) Q := ⟨a, n, rfl, rfl, h1, h2, q⟩
/-! ### text or text -/
def qOrS (a b : QE) : QE := fun δ Q => a δ fun _ d => ∃ l : List Nat, d = .str l ∧ l.length ≤ 1000000 ∧ if l = [] then b δ Q else Q .sh (.str l)
theorem s_orS {K : PySem.W.Frag} {c : Cl} {t : Option Addr} {E : XE} {Ep : XP} {ta tb : TE} {qa qb : QE} (ha : SimE K c t E Ep ta qa) (hb : SimE K c t E Ep tb qb) : SimE K c t E Ep (tOrT K ta tb) (qOrS qa qb) := fun F0 H0 L F δ σ H Q Qp er rs hq k => by
  refine ha.vw er rs hq fun x F1 H1 m1 d1 g1 v1 _ q1 => ?_
  obtain ⟨l, rfl, hl, q2⟩ := q1
  have e := vw_str v1
  subst e
  by_cases z : l = []
  · subst z
    rw [if_pos rfl] at q2
    refine ⟨false, ⟨by rw [S_len]; exact le_line6 hl, rfl⟩, ?_⟩
    rw [if_neg (by decide)]
    exact hb.then er (rs.grow g1) q2 g1 rs.st.dr k
  · rw [if_neg z] at q2
    refine ⟨true, ⟨by rw [S_len]; exact le_line6 hl, ?_⟩, ?_⟩
    · rw [S_len]
      have : l.length ≠ 0 := fun y => z (List.eq_nil_of_length_eq_zero y)
      symm
      rw [bne_iff_ne]
      omega
    · rw [if_pos rfl]
      exact k _ F1 H1 .sh (.str l) g1 rfl q2
theorem h_orS {δ : DS} {Q : Md → D → Prop} {a b : QE} (h : a δ fun _ d => ∃ l : List Nat, d = .str l ∧ l.length ≤ 1000000 ∧ if l = [] then b δ Q else Q .sh (.str l)) : qOrS a b δ Q := h
/-! ### further steps -/
section
variable {δ : DS} {P : Pn} {Q : Md → D → Prop} {i : Nat} {m : Md} {d : D} {ds : List D}
theorem h_setLE {j e : QE} (h1 : δ[i]? = some (some (.ow (.lst ds)))) (h : e δ fun m d => j δ fun _ y => ∃ ds n k, δ[i]? = some (some (.ow (.lst ds))) ∧ y = .int n ∧ m ≠ .pk ∧ ixN ds.length n = some k ∧ P.nx (δ.set i (some (.ow (.lst (ds.set k d)))))) : qSetLS i j e P δ := ⟨⟨ds, h1⟩, h⟩
theorem ixN_in {n : Nat} {z : Int} (h0 : 0 ≤ z) (h1 : z < (n : Int)) : ixN n z = some z.toNat := by
  unfold ixN
  rw [if_pos h0, if_pos (by omega)]
theorem h_setLK {n : Int} (h1 : δ[i]? = some (some (.ow (.lst ds)))) (hm : m ≠ .pk) (h0 : 0 ≤ n) (hn : n < (ds.length : Int)) (h : P.nx (δ.set i (some (.ow (.lst (ds.set n.toNat d)))))) : ∃ ds n' k, δ[i]? = some (some (.ow (.lst ds))) ∧ D.int n = .int n' ∧ m ≠ .pk ∧ ixN ds.length n' = some k ∧ P.nx (δ.set i (some (.ow (.lst (ds.set k d))))) :=
  ⟨ds, n, n.toNat, h1, rfl, hm, ixN_in h0 hn, h⟩
theorem h_varE {sv : SV} (h : δ[i]? = some (some sv)) (e : sv = .ow d ∨ sv = .sh d) (q : ∀ m, Q m d) : qVar i δ Q := by
  rcases e with e | e
  · exact ⟨_, h, by rw [e]; exact q _⟩
  · exact ⟨_, h, by rw [e]; exact q _⟩
theorem h_tupOf (q : Q .sh (.tup ds)) : pTupOf (.lst ds) Q := ⟨ds, .inl rfl, q⟩
theorem h_listOfT (q : Q .ow (.lst ds)) : pListOf (.tup ds) Q := ⟨ds, .inr rfl, q⟩
/-- one of some, drawn -/
theorem h_pick (Pr : D → Prop) {r : Int} (h0 : 0 ≤ r) (h1 : r < (ds.length : Int)) (ha : ∀ d ∈ ds, Pr d) (h : ∀ d, Pr d → Q .sh d) : pIxL (.lst ds) (.int r) Q := by
  obtain ⟨v, e, hv, _⟩ := atI_of h0 h1
  exact ⟨ds, r, v, rfl, rfl, e, h v (ha v hv)⟩
/-! calls, with what they come to -/
theorem c_draw {md : Int} {S' : Prop} {E : Nat → Prop} (h0 : 0 < md) (h1 : md < 2 ^ 300) (h : ∀ r : Int, 0 ≤ r → r < md → Q .sh (.int r)) : psp_law_draw (List.map Ar.un [.tp, .sh (.int md)]) (fun m d => (S' → scalD d = true) ∧ Q m d) E :=
  ⟨md, rfl, h0, h1, fun r r0 r1 => ⟨fun _ => rfl, h r r0 r1⟩⟩
end
end Sw
local macro_rules | `(tactic| walk_at "go1") => `(tactic| first
  | with_reducible refine Sw.g_seqasg ?_ | with_reducible refine Sw.g_op ?_ | with_reducible refine Sw.g_var rfl ?_ | with_reducible refine Sw.g_c ?_ | with_reducible refine Sw.g_I0 ?_
  | with_reducible refine Sw.g_cons ?_ | with_reducible refine Sw.g_nil ?_ | with_reducible refine Sw.g_call ?_ | with_reducible refine Sw.g_cb ?_ | with_reducible refine Sw.g_test ?_ | with_reducible refine Sw.g_bl ?_
  | with_reducible refine Sw.g_seqdrop ?_ | with_reducible refine Sw.g_seqsub ?_ | with_reducible refine Sw.g_asg ?_ | with_reducible refine Sw.g_asgsub ?_ | with_reducible refine Sw.g_ret ?_ | with_reducible refine Sw.g_drop ?_ | with_reducible refine Sw.g_if ?_ | with_reducible refine Sw.g_next ?_ | with_reducible refine Sw.g_name ?_
  | with_reducible refine Sw.g_B ?_ | with_reducible refine Sw.g_not ?_ | with_reducible refine Sw.g_and ?_ | with_reducible refine Sw.g_or ?_ | with_reducible refine Sw.g_andV ?_ | with_reducible refine Sw.g_orV ?_ | with_reducible refine Sw.g_notV ?_
  | with_reducible refine Sw.g_ifE ?_ | with_reducible refine Sw.g_chain ?_ | with_reducible refine Sw.g_un ?_ | with_reducible refine Sw.g_tup ?_ | with_reducible refine Sw.g_lst ?_ | with_reducible refine Sw.g_sl ?_ | with_reducible refine Sw.g_part ?_ | with_reducible refine Sw.g_nopart ?_
  | with_reducible refine Sw.g_U ?_ | with_reducible refine Sw.g_eq rfl ?_ | with_reducible refine Sw.g_ne rfl ?_ | with_reducible refine Sw.g_int ?_ | with_reducible refine Sw.g_yes ?_ | with_reducible refine L2.iteT ?_ | with_reducible refine L2.iteF ?_ | with_reducible refine Sw.iteNT ?_ | with_reducible refine Sw.iteNF ?_ | with_reducible refine Sw.g_m1 ?_ | with_reducible refine Sw.g_bm ?_ | with_reducible refine ⟨Sw.ty_lst (by assumption), ?_⟩ | with_reducible refine Sw.g_sput ?_ | with_reducible refine Sw.g_put ?_ | with_reducible refine Sw.g_dget2 ?_ | with_reducible refine Sw.g_dget ?_ | with_reducible refine Sw.g_dK ?_ | with_reducible refine Sw.g_dT ?_ | with_reducible refine Sw.g_dnotin ?_ | with_reducible refine Sw.g_din ?_ | with_reducible refine Sw.g_bm0 ?_
  | with_reducible refine Sw.g_ixL (by assumption) rfl ?_ | with_reducible refine Sw.g_ixT (by assumption) rfl ?_)
local macro_rules | `(tactic| walk_at "go") => `(tactic| repeat walk_at "go1")
local macro_rules | `(tactic| walk_at "bd") => `(tactic| repeat (first | with_reducible exact Sw.all_nil | refine Sw.all_cons ⟨_, rfl, by omega, by omega⟩ ?_))
local macro_rules | `(tactic| walk_at "new") => `(tactic| (refine ⟨Nat.le_of_ble_eq_true rfl, fun p np => ?_⟩; generalize hX : L2.upd _ p _ = H'; have sm : L2.Same _ H' := hX ▸ Sw.same_upd np; have hp : H' p = some _ := hX ▸ L2.upd_same; clear hX))
namespace Sw
open PySem PySem.Spec PyProof.Rows L2 SX
/-! ### all(truths) -/
def pAll : P1 := fun d Q => ∃ bs : List Bool, d = .lst (bs.map .bl) ∧ Q .sh (.bl (bs.all id))
theorem o_all {K : PySem.W.Frag} {t : Option Addr} : Sim1 t (fun x => rAll K [x]) pAll := fun F H x d Q Qp s ht vx p k => by
  obtain ⟨bs, rfl, q⟩ := p
  obtain ⟨p1, xs, rfl, h1, h2⟩ := vw_lst s vx
  have e := rpl_bls h2
  subst e
  exact ⟨p1, bs, rfl, .inl (.inl h1), k.val s (d := .bl _) rfl q⟩
theorem h_all {bs : List Bool} {Q : Md → D → Prop} (q : Q .sh (.bl (bs.all id))) : pAll (.lst (bs.map .bl)) Q := ⟨bs, rfl, q⟩
/-! ### sorted(list of data) -/
abbrev rSortD (K : PySem.W.Frag) : RC := fun vs H Q => ∃ (a : Addr) (bs : List (V × D)), vs = [.ref a] ∧ SqL K H a (bs.map (·.1)) ∧ (∀ b ∈ bs, flatD b.2 = true ∧ Rp H b.2 b.1) ∧ PySem.W.AllAlike (bs.map fun b => toPy b.2) ∧ PySem.W.Sortable (bs.map fun b => toPy b.2) ∧ bs.length ≤ 1000000 ∧ (∀ b ∈ bs, (toPy b.2).depth ≤ 60) ∧
  ∀ p, H p = none → Q (.ref p) (upd H p (.lst ((bs.mergeSort (PySem.W.dataLe false fun b => toPy b.2)).map (·.1))))
theorem each_vals {X : Cx} {pins : List (Addr × Obj)} {s : Shared} {σ : L2.St} {H : Hp} (I : Inv X pins σ H s) : ∀ {bs : List (V × D)} {its : List Value}, Vals (bs.map (·.1)) its → (∀ b ∈ bs, flatD b.2 = true ∧ Rp H b.2 b.1) → PySem.W.EachIs (fun v b => RelV b.1 v) its bs ∧ PySem.W.EachIs (fun v b => ∃ as, Reads s.heap v (toPy b.2) as) its bs
  | [], _, .nil, _ => ⟨.nil, .nil⟩
  | b :: bs, _, .cons r t, h => by
    obtain ⟨h1, h2⟩ := each_vals I t fun x hx => h x (List.mem_cons_of_mem _ hx)
    obtain ⟨f, rp⟩ := h b List.mem_cons_self
    exact ⟨.cons r h1, .cons (Dp.reads I _ _ _ (rp_dp (K := X.K) f rp) r) h2⟩
theorem vals_each : ∀ {bs : List (V × D)} {its : List Value}, PySem.W.EachIs (fun v (b : V × D) => RelV b.1 v) its bs → Vals (bs.map (·.1)) its
  | [], _, .nil => .nil
  | _ :: _, _, .cons r t => .cons r (vals_each t)
theorem cr_sortD {X : Cx} (hu : X.A.units + 64 < cLine) : CallR X (.builtin "sorted") (rSortD X.K) := by
  intro pins s σ H vs us Q I r h
  obtain ⟨a, bs, rfl, hs, hd, al, so, hl, dp, q⟩ := h
  obtain ⟨its, rv, hlst, hz⟩ := I.list hs
  rw [Vals.ref1 r]
  obtain ⟨e, er⟩ := each_vals I rv hd
  refine PySem.W.sorted_data hlst.isList e er al so (Nat.le_trans hl (by decide)) (fun b hb => by have := dp b hb; omega) fun out hlen he => ?_
  refine ⟨.ref (s.heap.objs.size + 1), upd H (s.heap.objs.size + 1) (.lst _), I.laid (t' := s.toks) (fun b o e => sortedAll_old e) (Nat.le_succ _) ⟨?_, out, ?_⟩, rfl, q _ (I.hok.fresh (Nat.le_succ _))⟩
  · rw [List.length_map, (List.mergeSort_perm _ _).length_eq]
    exact Nat.le_trans hl (by decide)
  · obtain ⟨n, hn⟩ := sortedAll_at s.heap its out.toArray
    exact ⟨n, vals_each he, hn⟩
def pSortD : P1 := fun d Q => ∃ ds, d = .lst ds ∧ flatDL ds = true ∧ PySem.W.AllAlike (ds.map toPy) ∧ PySem.W.Sortable (ds.map toPy) ∧ ds.length ≤ 1000000 ∧ (∀ d ∈ ds, (toPy d).depth ≤ 60) ∧ ∀ so : List D, so.Perm ds → so.Pairwise (fun a b => PySem.W.dataLt (toPy b) (toPy a) = false) → Q .ow (.lst so)
theorem rpl_zip {F : Hp} : ∀ {ds : List D} {xs : List V}, RpL F ds xs → ∃ bs : List (V × D), bs.map (·.1) = xs ∧ bs.map (·.2) = ds ∧ ∀ b ∈ bs, Rp F b.2 b.1
  | [], _, h => by cases h; exact ⟨[], rfl, rfl, fun _ h => nomatch h⟩
  | d :: ds, _, h => by
    obtain ⟨x, r, rfl, h1, h2⟩ := h
    obtain ⟨bs, e1, e2, e3⟩ := rpl_zip h2
    refine ⟨(x, d) :: bs, by rw [List.map_cons, e1], by rw [List.map_cons, e2], fun b hb => ?_⟩
    rcases List.mem_cons.mp hb with rfl | hb
    · exact h1
    · exact e3 b hb
theorem rpl_unzip {F : Hp} : ∀ {bs : List (V × D)}, (∀ b ∈ bs, Rp F b.2 b.1) → RpL F (bs.map (·.2)) (bs.map (·.1))
  | [], _ => rfl
  | b :: bs, h => ⟨_, _, rfl, h b List.mem_cons_self, rpl_unzip fun x hx => h x (List.mem_cons_of_mem _ hx)⟩
theorem flatDL_at : ∀ {ds : List D}, flatDL ds = true → ∀ d ∈ ds, flatD d = true
  | d :: ds, h, x, hx => by
    have h' : (flatD d && flatDL ds) = true := h
    rw [Bool.and_eq_true] at h'
    rcases List.mem_cons.mp hx with rfl | hx
    · exact h'.1
    · exact flatDL_at h'.2 x hx
theorem o_sortD {K : PySem.W.Frag} {t : Option Addr} : Sim1 t (fun x => rSortD K [x]) pSortD := fun F H x d Q Qp s ht vx p k => by
  obtain ⟨ds, rfl, fl, al, so, hl, dp, q⟩ := p
  obtain ⟨a, xs, rfl, h1, h2⟩ := vw_lst s vx
  obtain ⟨bs, rfl, rfl, h3⟩ := rpl_zip h2
  have e : bs.map (fun b => toPy b.2) = (bs.map (·.2)).map toPy := by rw [List.map_map]; rfl
  have hm : ∀ b ∈ bs, b.2 ∈ bs.map (·.2) := fun b hb => List.mem_map.mpr ⟨b, hb, rfl⟩
  refine ⟨a, bs, rfl, .inl (.inl h1), fun b hb => ⟨flatDL_at fl _ (hm b hb), Rp.mono (.of s) (h3 b hb)⟩, by rw [e]; exact al, by rw [e]; exact so, by rw [List.length_map] at hl; exact hl, fun b hb => dp _ (hm b hb), fun p np => ?_⟩
  have pe := List.mergeSort_perm bs (PySem.W.dataLe false fun b => toPy b.2)
  refine k.new s ht np (o := .lst _) (d := .lst ((bs.mergeSort (PySem.W.dataLe false fun b => toPy b.2)).map (fun b : V × D => b.2))) (show OO F (.lst _) (.lst _) from rpl_unzip fun b hb => h3 b (pe.mem_iff.mp hb)) (q _ (pe.map _) ?_)
  rw [List.pairwise_map]
  refine List.Pairwise.imp ?_ (PySem.W.sort_pairwise (PySem.W.sortLe_total _ false _) bs)
  intro x y h
  have h' : (!PySem.W.dataLt (toPy y.2) (toPy x.2)) = true := h
  simpa using h'
end Sw
local macro_rules | `(tactic| walk_at "go1") => `(tactic| first
  | with_reducible refine Sw.h_seqasg ?_
  | with_reducible refine Sw.h_op ?_
  | with_reducible refine Sw.h_varS rfl ?_
  | with_reducible refine Sw.h_varO rfl ?_
  | with_reducible refine Sw.h_c ?_
  | with_reducible refine Sw.h_I0 ?_
  | with_reducible refine Sw.h_cons ?_
  | with_reducible refine Sw.h_consT rfl ?_
  | with_reducible refine Sw.h_consC rfl ?_
  | with_reducible refine Sw.h_nil ?_
  | with_reducible refine Sw.h_call ?_
  | with_reducible refine Sw.h_un ?_
  | with_reducible refine Sw.h_test ?_
  | with_reducible refine Sw.h_bl ?_
  | with_reducible refine Sw.h_seqdrop ?_
  | with_reducible refine Sw.h_asS ?_
  | with_reducible refine Sw.h_asO ?_
  | with_reducible refine Sw.h_ne1 ?_
  | with_reducible refine Sw.h_ne2 ?_
  | with_reducible refine Sw.h_asg ?_
  | with_reducible refine Sw.h_drop ?_
  | with_reducible refine Sw.h_ret ?_
  | with_reducible refine Sw.h_retS rfl ?_
  | with_reducible refine Sw.h_retO rfl ?_
  | with_reducible refine Sw.h_retN ?_
  | with_reducible refine Sw.h_next ?_
  | with_reducible refine Sw.h_if ?_
  | with_reducible refine Sw.h_frzO rfl ?_
  | with_reducible refine Sw.h_frzS rfl ?_
  | with_reducible refine Sw.h_and ?_
  | with_reducible refine Sw.h_or ?_
  | with_reducible refine Sw.h_not ?_
  | with_reducible refine Sw.h_yes ?_
  | with_reducible refine Sw.h_andV ?_
  | with_reducible refine Sw.h_orV ?_
  | with_reducible refine Sw.h_notV ?_
  | with_reducible refine Sw.h_ifE ?_
  | with_reducible refine Sw.h_chain ?_
  | with_reducible refine Sw.h_lenC rfl ?_
  | with_reducible refine Sw.h_tup ?_
  | with_reducible refine Sw.h_lst ?_
  | with_reducible refine Sw.h_shs0 ?_
  | with_reducible refine Sw.h_shs1 ?_
  | with_reducible refine Sw.h_shs2 ?_
  | with_reducible refine Sw.h_shs3 ?_
  | with_reducible refine Sw.h_shs4 ?_
  | with_reducible refine Sw.h_sl ?_
  | with_reducible refine Sw.h_nopart ?_
  | with_reducible refine Sw.h_part ?_
  | with_reducible refine Sw.h_int ?_
  | with_reducible refine Sw.h_neg ?_
  | with_reducible refine Sw.h_S ?_
  | with_reducible refine Sw.h_inSign ?_
  | with_reducible refine Sw.h_notInSign ?_
  | with_reducible refine Sw.h_isN ?_
  | with_reducible refine Sw.h_notN ?_
  | with_reducible refine Sw.h_eq rfl ?_
  | with_reducible refine Sw.h_ne rfl ?_
  | with_reducible refine Sw.h_lenL ?_
  | with_reducible refine Sw.h_lenT ?_
  | with_reducible refine Sw.h_abs ?_
  | with_reducible refine Sw.h_max2 ?_
  | with_reducible refine Sw.h_min2 ?_
  | with_reducible refine Sw.h_int1b ?_
  | with_reducible refine Sw.h_sum ?_
  | with_reducible refine Sw.h_listOf ?_
  | with_reducible refine Sw.h_slL ?_
  | with_reducible refine Sw.h_slT ?_
  | with_reducible refine Sw.h_revL ?_
  | with_reducible refine Sw.h_newK ?_
  | with_reducible refine Sw.h_newT ?_
  | with_reducible refine Sw.h_seqfor ?_
  | with_reducible refine Sw.h_seqforD ?_
  | with_reducible refine Sw.h_dispT ?_
  | with_reducible refine Sw.h_LM ?_
  | with_reducible refine Sw.h_for ?_
  | with_reducible refine Sw.h_iList ?_
  | with_reducible refine Sw.h_iTup ?_
  | with_reducible refine Sw.h_iStr ?_
  | with_reducible refine Sw.h_iR1 ?_
  | with_reducible refine Sw.h_iR2 ?_
  | with_reducible refine Sw.h_iR3 ?_
  | with_reducible refine Sw.h_iEnum ?_
  | with_reducible refine Sw.h_iZip ?_
  | with_reducible refine Sw.h_iZipS ?_
  | with_reducible refine Sw.h_lst1 ?_
  | with_reducible refine Sw.h_tup1 ?_
  | with_reducible refine Sw.h_str1 ?_
  | with_reducible refine Sw.h_lc ?_
  | with_reducible refine Sw.h_gN ?_
  | with_reducible refine Sw.h_gT rfl ?_
  | with_reducible refine Sw.h_gC ?_
  | with_reducible refine Sw.h_gE ?_
  | with_reducible refine Sw.h_asgG ?_
  | with_reducible refine Sw.h_forD ?_
  | with_reducible refine Sw.h_raise ?_
  | with_reducible refine Sw.h_seqasgG ?_
  | with_reducible refine Sw.h_seqfrzO rfl ?_
  | with_reducible refine Sw.h_seqfrzS rfl ?_
  | with_reducible refine Sw.h_isi rfl rfl ?_
  | with_reducible refine Sw.h_ixT rfl ?_
  | with_reducible refine Sw.h_seq1 ?_
  | with_reducible refine L2.iteT ?_ | with_reducible refine L2.iteF ?_ | with_reducible refine Sw.iteNT ?_ | with_reducible refine Sw.iteNF ?_ | refine Sw.h_np rfl ?_)
local macro_rules | `(tactic| walk_at "go") => `(tactic| repeat walk_at "go1")
local macro_rules | `(tactic| walk_at "sz") => `(tactic| first
  | omega
  | decide
  | (simp only [List.length_append, List.length_map, List.length_cons, List.length_nil, List.length_take, List.length_drop, List.length_reverse, List.length_set, List.length_replicate, List.length_range]; omega)
  | (refine Nat.le_trans (Sw.cut_len _ _ _) ?_; omega))
local macro_rules | `(tactic| walk_at "gx1") => `(tactic| first
  | walk_at "go1"
  | refine Sw.c_draw (by omega) (by omega) (fun _ _ _ => ?_)
  | refine Sw.c_letters (by omega) (by omega) (by omega) (by omega) (fun _ _ _ => ?_)
  | refine Sw.c_wheel (by omega) (by omega) (fun _ _ _ _ => ?_)
  | refine Sw.c_word (by walk_at "sz") (by walk_at "sz") (by omega) (by omega) (fun _ _ _ => ?_)
  | refine Sw.c_bent (by walk_at "sz") (by assumption) (fun _ _ _ => ?_)
  | refine Sw.c_lis_word (by walk_at "sz") (by assumption) ?_
  | refine Sw.h_sc rfl ?_
  | refine Sw.h_lenS (by walk_at "sz") ?_
  | refine Sw.h_slS (by walk_at "sz") ?_
  | refine Sw.h_addS (by walk_at "sz") ?_
  | refine Sw.h_I (by omega) ?_
  | refine Sw.h_I (Sw.cm (by omega) (by omega) (by omega) (by omega)) ?_
  | refine Sw.h_I (Sw.cd (by omega) (by omega)) ?_
  | refine Sw.h_I ⟨by decide, by decide, by decide⟩ ?_
  | refine Sw.h_gT rfl ?_
  | refine Sw.h_ixT rfl ?_
  | refine Sw.h_ixL rfl ?_
  | refine Sw.h_appE rfl ?_
  | refine Sw.h_appK rfl (by decide) (by walk_at "sz") ?_
  | refine Sw.h_setLE rfl ?_
  | refine Sw.h_putTE rfl ?_
  | refine Sw.h_putKE rfl ?_
  | refine Sw.h_tupOf ?_
  | refine Sw.h_listOfT ?_
  | refine Sw.h_orS ?_
  | refine And.intro (by omega) (And.intro (by omega) ?_))
local macro_rules | `(tactic| walk_at "gx") => `(tactic| repeat walk_at "gx1")
namespace Sw
open PySem PySem.Spec PyProof.Rows L2 SX
/-! ### signs, words: plain facts -/
def Low (l : List Nat) : Prop := ∀ c ∈ l, 97 ≤ c ∧ c ≤ 122
abbrev abc : List Nat := [97, 98, 99, 100, 101, 102, 103, 104, 105, 106, 107, 108, 109, 110, 111, 112, 113, 114, 115, 116, 117, 118, 119, 120, 121, 122]
theorem low_nil : Low [] := fun _ h => nomatch h
theorem low_app {l : List Nat} {c : Nat} (h : Low l) (hc : 97 ≤ c ∧ c ≤ 122) : Low (l ++ [c]) := fun x hx => by
  rcases List.mem_append.mp hx with e | e
  · exact h x e
  · rw [List.mem_singleton.mp e]; exact hc
theorem abc_low : Low abc := by unfold Low abc; decide
theorem join_nil (l : List Nat) : Txt.join (S []) (l.map fun c => S [c]) = S l := by
  have e : (l.map fun c => S [c]) = (l.map fun c => [c]).map S := by rw [List.map_map]; rfl
  rw [e, join_S]
  refine congrArg S ?_
  clear e
  induction l with
  | nil => rfl
  | cons c l ih =>
    cases l with
    | nil => rfl
    | cons b l => 
      show [c] ++ [] ++ TL.joinL [] ((b :: l).map fun c => [c]) = c :: b :: l
      rw [ih]
      rfl
def lowB (c : Nat) : Bool := decide (97 ≤ c) && decide (c ≤ 122)
theorem lowB_iff {c : Nat} : lowB c = true ↔ 97 ≤ c ∧ c ≤ 122 := by unfold lowB; simp
theorem mem_abc (c : Nat) : decide (c ∈ abc) = lowB c := by
  by_cases h : 97 ≤ c ∧ c ≤ 122
  · rw [lowB_iff.mpr h, decide_eq_true_eq]
    unfold abc
    simp only [List.mem_cons, List.not_mem_nil, or_false]
    omega
  · have h2 : lowB c = false := by
      cases e : lowB c with
      | false => rfl
      | true => exact absurd (lowB_iff.mp e) h
    rw [h2, decide_eq_false_iff_not]
    intro hm
    exact h (abc_low c hm)
def sgn (l : List Nat) : Bool := l.all lowB
def isWord (l : List Nat) : Bool := decide (l.length ≤ 80) && sgn l
def isWheel (l : List Nat) : Bool := isWord l && (decide (1 ≤ l.length) && decide (l.length ≤ 30))
theorem sgn_low {l : List Nat} : sgn l = true ↔ Low l := by
  unfold sgn Low
  rw [List.all_eq_true]
  exact forall_congr' fun c => forall_congr' fun _ => lowB_iff
theorem isWord_iff {l : List Nat} : isWord l = true ↔ l.length ≤ 80 ∧ Low l := by
  unfold isWord
  rw [Bool.and_eq_true, decide_eq_true_eq, sgn_low]
theorem isWheel_iff {l : List Nat} : isWheel l = true ↔ 1 ≤ l.length ∧ l.length ≤ 30 ∧ Low l := by
  unfold isWheel
  rw [Bool.and_eq_true, Bool.and_eq_true, decide_eq_true_eq, decide_eq_true_eq, isWord_iff]
  constructor
  · rintro ⟨⟨_, h⟩, h1, h2⟩; exact ⟨h1, h2, h⟩
  · rintro ⟨h1, h2, h⟩; exact ⟨⟨by omega, h⟩, h1, h2⟩
theorem all_take {p : Nat → Bool} {l : List Nat} {i c : Nat} (h : l[i]? = some c) : (l.take (i + 1)).all p = ((l.take i).all p && p c) := by
  rw [List.take_add_one, h, List.all_append]
  simp
theorem take_snoc {α : Type} {l : List α} {i : Nat} {x : α} (h : l[i]? = some x) : l.take (i + 1) = l.take i ++ [x] := by rw [List.take_add_one, h]; rfl
theorem map_at' {α : Type} {f : α → D} {l : List α} {i : Nat} {d : D} (h : (l.map f)[i]? = some d) : ∃ a, l[i]? = some a ∧ d = f a := by
  rw [List.getElem?_map] at h
  obtain ⟨a, h1, rfl⟩ := Option.map_eq_some_iff.mp h
  exact ⟨a, h1, rfl⟩
theorem ite_p {P : Prop} [Decidable P] {A B : Prop} (h1 : P → A) (h2 : ¬ P → B) : if decide P = true then A else B := by
  by_cases h : P
  · rw [if_pos (decide_eq_true h)]; exact h1 h
  · rw [if_neg (by simpa using h)]; exact h2 h
/-! ### is_word, is_wheel, refusals -/
def wordD : D → Bool
  | .str l => isWord l
  | _ => false
def wheelD : D → Bool
  | .str l => isWheel l
  | _ => false
def okT : D → Prop
  | .str l => l.length ≤ 1000000
  | d => noDict d = true
def psp_are_signs : PSp := fun as Q _ => ∃ l : List Nat, as = [.sh (.str l)] ∧ Q .sh (.bl (sgn l))
theorem ln_are_signs {as : List Ar} {Q : Md → D → Prop} {E : Nat → Prop} (h : psp_are_signs as Q E) : as.length = 1 := by obtain ⟨_, rfl, _⟩ := h; rfl
def t_are_signs (K : PySem.W.Frag) (c : Cl) : TS :=
  (tSeq (tFor (iStr (tVar 0)) (gName 1)
  (tIfS (tTest (tOp rNotInSign (tVar 1) (tC (.str "abcdefghijklmnopqrstuvwxyz")))) (tRet (tC (.bl false))) tNext))
  (tRet (tC (.bl true))))
def q_are_signs : QS :=
  (qSeq (qFor (qiStr (qVar 0)) (qgName 1)
  (qIfS (qTest (qOp pNotInSign (qVar 1) (qC (.str [97, 98, 99, 100, 101, 102, 103, 104, 105, 106, 107, 108, 109, 110, 111, 112, 113, 114, 115, 116, 117, 118, 119, 120, 121, 122])))) (qRet (qC (.bl false))) qNext))
  (qRet (qC (.bl true))))
theorem sim_are_signs {K : PySem.W.Frag} {c : Cl} (t : Option Addr) (E : XK) (Ep : XP) : SimS K c t (fun _ => E) Ep (t_are_signs K c) q_are_signs :=
  (s_seq (s_for (si_str (s_var 0)) sg_name
  (s_ifS (s_test (s_op o_notInSign (s_var 1) (s_c fun _ => (congrArg V.str (by decide +kernel : (PySem.Str.ofString "abcdefghijklmnopqrstuvwxyz") = S [97, 98, 99, 100, 101, 102, 103, 104, 105, 106, 107, 108, 109, 110, 111, 112, 113, 114, 115, 116, 117, 118, 119, 120, 121, 122]))))) (s_ret (s_c fun _ => rfl)) s_next))
  (s_ret (s_c fun _ => rfl)))

theorem pr_are_signs {as : List Ar} {Q : Md → D → Prop} {E : Nat → Prop} (h : psp_are_signs as Q E) : q_are_signs { nx := fun _ => Q .sh .non, rt := Q } (dstart 2 as) := by
  obtain ⟨l, rfl, q⟩ := h
  show q_are_signs _ [some (.sh (.str l)), none]
  unfold q_are_signs
  refine h_seq ?_
  walk_at "go"
  refine loop_inv (fun i δ => (l.take i).all lowB = true ∧ ∃ v, δ = [some (.sh (.str l)), v]) ⟨rfl, _, rfl⟩ (fun i d δ' N hd hI hN => ?_) (fun δ' hI => ?_)
  · obtain ⟨ha, v, rfl⟩ := hI
    obtain ⟨c, hc, rfl⟩ := map_at' hd
    walk_at "go"
    rw [mem_abc]
    refine ite_b (fun hb => ?_) (fun hb => ?_)
    · walk_at "go"
      have e : sgn l = false := by
        unfold sgn
        rw [List.all_eq_false]
        exact ⟨c, List.mem_of_getElem? hc, by intro z; rw [z] at hb; cases hb⟩
      rw [e] at q
      exact q
    · walk_at "go"
      refine hN _ ⟨?_, _, rfl⟩
      rw [all_take hc, ha]
      simpa using hb
  · obtain ⟨ha, v, rfl⟩ := hI
    walk_at "go"
    rw [List.length_map, List.take_length] at ha
    have e : sgn l = true := ha
    rw [e] at q
    exact q
theorem rd_are_signs {K : PySem.W.Frag} {c : Cl} {vs : List V} {H : Hp} {Q : VK} {E : XK} (h : lift K c psp_are_signs vs H Q E) : t_are_signs K c { nx := fun _ H' => Q .non H', rt := Q } (start ["text", "sign"] vs) H :=
  rd_of (ts := fun _ => t_are_signs K c) (qs := fun _ => q_are_signs) (fun t e ep => sim_are_signs t e ep) (fun as Qp Ep h => Nat.le_trans (Nat.le_of_eq (ln_are_signs h)) (by decide)) (fun as Qp Ep h => pr_are_signs h) h

def psp_is_word : PSp := fun as Q _ => ∃ d, as = [.sh d] ∧ okT d ∧ Q .sh (.bl (wordD d))
theorem ln_is_word {as : List Ar} {Q : Md → D → Prop} {E : Nat → Prop} (h : psp_is_word as Q E) : as.length = 1 := by obtain ⟨_, rfl, _⟩ := h; rfl
def t_is_word (K : PySem.W.Frag) (c : Cl) : TS :=
  (tRet (tAndV (tCB (rIsi K) (tCons (tVar 0) (tCons (tC (.ty "str")) tNil))) (tAndV (tOp rLe (tCB rLenStr (tCons (tVar 0) tNil)) (tC (.int 80))) (tCall (lift K c psp_are_signs) [] E0 (tCons (tVar 0) tNil)))))
def q_is_word : QS :=
  (qRet (qAndV (qUn (pIsi "str") (qVar 0)) (qAndV (qOp pLe (qUn pLenS (qVar 0)) (qC (.int 80))) (qCall psp_are_signs P0 (qCons (qVar 0) qNil)))))
theorem sim_is_word {K : PySem.W.Frag} {c : Cl} (t : Option Addr) (E : XK) (Ep : XP) : SimS K c t (fun _ => E) Ep (t_is_word K c) q_is_word :=
  (s_ret (s_andV (s_isi (s_var 0)) (s_andV (s_op o_le (s_cb1 (r := rLenStr) o_lenS (s_var 0)) (s_c fun _ => rfl)) (s_call0 (s_cons (s_var 0) s_nil)))))

theorem pr_is_word {as : List Ar} {Q : Md → D → Prop} {E : Nat → Prop} (h : psp_is_word as Q E) : q_is_word { nx := fun _ => Q .sh .non, rt := Q } (dstart 1 as) := by
  obtain ⟨d, rfl, ok, q⟩ := h
  show q_is_word _ [some (.sh d)]
  unfold q_is_word
  walk_at "go"
  cases d with
  | str l =>
    refine h_isi rfl (b := true) (by show kitB "str" "str" = _; decide +kernel) ?_
    walk_at "go"
    refine h_lenS ok ?_
    walk_at "go"
    refine ite_p (fun h => ?_) (fun h => ?_)
    · walk_at "go"
      refine ⟨l, rfl, h_sc rfl ?_⟩
      walk_at "go"
      have e : sgn l = isWord l := by unfold isWord; rw [decide_eq_true (by omega), Bool.true_and]
      rw [e]
      exact q
    · walk_at "go"
      have e : false = isWord l := by unfold isWord; rw [decide_eq_false (by omega), Bool.false_and]
      rw [e]
      exact q
  | non => exact h_isi rfl (b := false) (by decide +kernel) (by walk_at "go"; exact q)
  | bl b => exact h_isi rfl (b := false) (by show kitB "bool" "str" = _; decide +kernel) (by walk_at "go"; exact q)
  | int i => exact h_isi rfl (b := false) (by show kitB "int" "str" = _; decide +kernel) (by walk_at "go"; exact q)
  | lst l => exact h_isi rfl (b := false) (by show kitB "list" "str" = _; decide +kernel) (by walk_at "go"; exact q)
  | tup l => exact h_isi rfl (b := false) (by show kitB "tuple" "str" = _; decide +kernel) (by walk_at "go"; exact q)
  | dK _ => cases ok
  | dT _ => cases ok
  | tape => cases ok
theorem rd_is_word {K : PySem.W.Frag} {c : Cl} {vs : List V} {H : Hp} {Q : VK} {E : XK} (h : lift K c psp_is_word vs H Q E) : t_is_word K c { nx := fun _ H' => Q .non H', rt := Q } (start ["thing"] vs) H :=
  rd_of (ts := fun _ => t_is_word K c) (qs := fun _ => q_is_word) (fun t e ep => sim_is_word t e ep) (fun as Qp Ep h => Nat.le_trans (Nat.le_of_eq (ln_is_word h)) (by decide)) (fun as Qp Ep h => pr_is_word h) h

def psp_is_wheel : PSp := fun as Q _ => ∃ d, as = [.sh d] ∧ okT d ∧ Q .sh (.bl (wheelD d))
theorem ln_is_wheel {as : List Ar} {Q : Md → D → Prop} {E : Nat → Prop} (h : psp_is_wheel as Q E) : as.length = 1 := by obtain ⟨_, rfl, _⟩ := h; rfl
def t_is_wheel (K : PySem.W.Frag) (c : Cl) : TS :=
  (tRet (tAndV (tCall (lift K c psp_is_word) [] E0 (tCons (tVar 0) tNil)) (tChain rLe rLe (tC (.int 1)) (tCB rLenStr (tCons (tVar 0) tNil)) (tC (.int 30)))))
def q_is_wheel : QS :=
  (qRet (qAndV (qCall psp_is_word P0 (qCons (qVar 0) qNil)) (qChain pLe pLe (qC (.int 1)) (qUn pLenS (qVar 0)) (qC (.int 30)))))
theorem sim_is_wheel {K : PySem.W.Frag} {c : Cl} (t : Option Addr) (E : XK) (Ep : XP) : SimS K c t (fun _ => E) Ep (t_is_wheel K c) q_is_wheel :=
  (s_ret (s_andV (s_call0 (s_cons (s_var 0) s_nil)) (s_chain o_le o_le (s_c fun _ => rfl) (s_cb1 (r := rLenStr) o_lenS (s_var 0)) (s_c fun _ => rfl))))

theorem pr_is_wheel {as : List Ar} {Q : Md → D → Prop} {E : Nat → Prop} (h : psp_is_wheel as Q E) : q_is_wheel { nx := fun _ => Q .sh .non, rt := Q } (dstart 1 as) := by
  obtain ⟨d, rfl, ok, q⟩ := h
  show q_is_wheel _ [some (.sh d)]
  unfold q_is_wheel
  walk_at "go"
  refine ⟨d, rfl, ok, h_sc rfl ⟨_, rfl, ?_⟩⟩
  cases d with
  | str l =>
    refine ite_b (fun hb => ?_) (fun hb => ?_)
    · walk_at "go"
      refine h_lenS ok ?_
      walk_at "go"
      refine ite_p (fun h => ?_) (fun h => ?_)
      · walk_at "go"
        have e : decide ((l.length : Int) ≤ 30) = wheelD (.str l) := by
          show _ = isWheel l
          unfold isWheel
          rw [show isWord l = true from hb, Bool.true_and, decide_eq_true (show 1 ≤ l.length by omega), Bool.true_and]
          exact decide_eq_decide.mpr (by omega)
        rw [e]
        exact q
      · walk_at "go"
        have e : false = wheelD (.str l) := by
          show _ = isWheel l
          unfold isWheel
          rw [decide_eq_false (show ¬ 1 ≤ l.length by omega), Bool.false_and, Bool.and_false]
        rw [e]
        exact q
    · have e : false = wheelD (.str l) := by
        show _ = isWheel l
        unfold isWheel
        rw [show isWord l = false from hb, Bool.false_and]
      walk_at "go"
      rw [e]
      exact q
  | dK _ => cases ok
  | dT _ => cases ok
  | tape => cases ok
  | _ => exact iteF (h_ne1 q)
theorem rd_is_wheel {K : PySem.W.Frag} {c : Cl} {vs : List V} {H : Hp} {Q : VK} {E : XK} (h : lift K c psp_is_wheel vs H Q E) : t_is_wheel K c { nx := fun _ H' => Q .non H', rt := Q } (start ["thing"] vs) H :=
  rd_of (ts := fun _ => t_is_wheel K c) (qs := fun _ => q_is_wheel) (fun t e ep => sim_is_wheel t e ep) (fun as Qp Ep h => Nat.le_trans (Nat.le_of_eq (ln_is_wheel h)) (by decide)) (fun as Qp Ep h => pr_is_wheel h) h

def psp_look_at_wheel : PSp := fun as Q E => ∃ d, as = [.sh d] ∧ okT d ∧ (wheelD d = true → Q .sh .non) ∧ (wheelD d = false → E 11)
theorem ln_look_at_wheel {as : List Ar} {Q : Md → D → Prop} {E : Nat → Prop} (h : psp_look_at_wheel as Q E) : as.length = 1 := by obtain ⟨_, rfl, _⟩ := h; rfl
def t_look_at_wheel (K : PySem.W.Frag) (c : Cl) (E : XK) : TS :=
  (tIfS (tNot (tB (tCall (lift K c psp_is_wheel) [] E0 (tCons (tVar 0) tNil)))) (tRaise E c.NoWheel) tNext)
def q_look_at_wheel (Ep : XP) : QS :=
  (qIfS (qNot (qTest (qCall psp_is_wheel P0 (qCons (qVar 0) qNil)))) (qRaise Ep 11) qNext)
theorem sim_look_at_wheel {K : PySem.W.Frag} {c : Cl} (t : Option Addr) (E : XK) (Ep : XP) : SimS K c t (fun _ => E) Ep (t_look_at_wheel K c E) (q_look_at_wheel Ep) :=
  (s_ifS (s_not (s_b (s_call0 (s_cons (s_var 0) s_nil)))) (s_raise (n := 11)) s_next)

theorem pr_look_at_wheel {as : List Ar} {Q : Md → D → Prop} {E : Nat → Prop} (h : psp_look_at_wheel as Q E) : q_look_at_wheel (fun _ n => E n) { nx := fun _ => Q .sh .non, rt := Q } (dstart 1 as) := by
  obtain ⟨d, rfl, ok, q, e⟩ := h
  show q_look_at_wheel _ _ [some (.sh d)]
  unfold q_look_at_wheel
  walk_at "go"
  refine ⟨d, rfl, ok, h_sc rfl ?_⟩
  walk_at "go"
  cases hb : wheelD d with
  | true => walk_at "go"; exact q hb
  | false => walk_at "go"; exact e hb
theorem rd_look_at_wheel {K : PySem.W.Frag} {c : Cl} {vs : List V} {H : Hp} {Q : VK} {E : XK} (h : lift K c psp_look_at_wheel vs H Q E) : t_look_at_wheel K c E { nx := fun _ H' => Q .non H', rt := Q } (start ["wheel"] vs) H :=
  rd_of (ts := fun e => t_look_at_wheel K c e) (qs := fun ep => q_look_at_wheel ep) (fun t e ep => sim_look_at_wheel t e ep) (fun as Qp Ep h => Nat.le_trans (Nat.le_of_eq (ln_look_at_wheel h)) (by decide)) (fun as Qp Ep h => pr_look_at_wheel h) h

def psp_look_at_word : PSp := fun as Q E => ∃ d, as = [.sh d] ∧ okT d ∧ (wordD d = true → Q .sh .non) ∧ (wordD d = false → E 12)
theorem ln_look_at_word {as : List Ar} {Q : Md → D → Prop} {E : Nat → Prop} (h : psp_look_at_word as Q E) : as.length = 1 := by obtain ⟨_, rfl, _⟩ := h; rfl
def t_look_at_word (K : PySem.W.Frag) (c : Cl) (E : XK) : TS :=
  (tIfS (tNot (tB (tCall (lift K c psp_is_word) [] E0 (tCons (tVar 0) tNil)))) (tRaise E c.NoWord) tNext)
def q_look_at_word (Ep : XP) : QS :=
  (qIfS (qNot (qTest (qCall psp_is_word P0 (qCons (qVar 0) qNil)))) (qRaise Ep 12) qNext)
theorem sim_look_at_word {K : PySem.W.Frag} {c : Cl} (t : Option Addr) (E : XK) (Ep : XP) : SimS K c t (fun _ => E) Ep (t_look_at_word K c E) (q_look_at_word Ep) :=
  (s_ifS (s_not (s_b (s_call0 (s_cons (s_var 0) s_nil)))) (s_raise (n := 12)) s_next)

theorem pr_look_at_word {as : List Ar} {Q : Md → D → Prop} {E : Nat → Prop} (h : psp_look_at_word as Q E) : q_look_at_word (fun _ n => E n) { nx := fun _ => Q .sh .non, rt := Q } (dstart 1 as) := by
  obtain ⟨d, rfl, ok, q, e⟩ := h
  show q_look_at_word _ _ [some (.sh d)]
  unfold q_look_at_word
  walk_at "go"
  refine ⟨d, rfl, ok, h_sc rfl ?_⟩
  walk_at "go"
  cases hb : wordD d with
  | true => walk_at "go"; exact q hb
  | false => walk_at "go"; exact e hb
theorem rd_look_at_word {K : PySem.W.Frag} {c : Cl} {vs : List V} {H : Hp} {Q : VK} {E : XK} (h : lift K c psp_look_at_word vs H Q E) : t_look_at_word K c E { nx := fun _ H' => Q .non H', rt := Q } (start ["word"] vs) H :=
  rd_of (ts := fun e => t_look_at_word K c e) (qs := fun ep => q_look_at_word ep) (fun t e ep => sim_look_at_word t e ep) (fun as Qp Ep h => Nat.le_trans (Nat.le_of_eq (ln_look_at_word h)) (by decide)) (fun as Qp Ep h => pr_look_at_word h) h

def psp_look_at_slack : PSp := fun as Q E => ∃ s : Int, as = [.sh (.int s)] ∧ (0 ≤ s ∧ s ≤ 9 → Q .sh .non) ∧ (¬ (0 ≤ s ∧ s ≤ 9) → E 8)
theorem ln_look_at_slack {as : List Ar} {Q : Md → D → Prop} {E : Nat → Prop} (h : psp_look_at_slack as Q E) : as.length = 1 := by obtain ⟨_, rfl, _⟩ := h; rfl
def t_look_at_slack (K : PySem.W.Frag) (c : Cl) (E : XK) : TS :=
  (tIfS (tOr (tTest (tOp rLt (tVar 0) (tC (.int 0)))) (tTest (tOp rGt (tVar 0) (tC (.int 9))))) (tRaise E c.NoSlack) tNext)
def q_look_at_slack (Ep : XP) : QS :=
  (qIfS (qOr (qTest (qOp pLt (qVar 0) (qC (.int 0)))) (qTest (qOp pGt (qVar 0) (qC (.int 9))))) (qRaise Ep 8) qNext)
theorem sim_look_at_slack {K : PySem.W.Frag} {c : Cl} (t : Option Addr) (E : XK) (Ep : XP) : SimS K c t (fun _ => E) Ep (t_look_at_slack K c E) (q_look_at_slack Ep) :=
  (s_ifS (s_or (s_test (s_op o_lt (s_var 0) (s_c fun _ => rfl))) (s_test (s_op o_gt (s_var 0) (s_c fun _ => rfl)))) (s_raise (n := 8)) s_next)

theorem pr_look_at_slack {as : List Ar} {Q : Md → D → Prop} {E : Nat → Prop} (h : psp_look_at_slack as Q E) : q_look_at_slack (fun _ n => E n) { nx := fun _ => Q .sh .non, rt := Q } (dstart 1 as) := by
  obtain ⟨s, rfl, q, e⟩ := h
  show q_look_at_slack _ _ [some (.sh (.int s))]
  unfold q_look_at_slack
  walk_at "go"
  refine ite_p (fun h => ?_) (fun h => ?_)
  · walk_at "go"
    exact e (by omega)
  · walk_at "go"
    refine ite_p (fun h => ?_) (fun h => ?_)
    · walk_at "go"
      exact e (by omega)
    · walk_at "go"
      exact q (by omega)
theorem rd_look_at_slack {K : PySem.W.Frag} {c : Cl} {vs : List V} {H : Hp} {Q : VK} {E : XK} (h : lift K c psp_look_at_slack vs H Q E) : t_look_at_slack K c E { nx := fun _ H' => Q .non H', rt := Q } (start ["slack"] vs) H :=
  rd_of (ts := fun e => t_look_at_slack K c e) (qs := fun ep => q_look_at_slack ep) (fun t e ep => sim_look_at_slack t e ep) (fun as Qp Ep h => Nat.le_trans (Nat.le_of_eq (ln_look_at_slack h)) (by decide)) (fun as Qp Ep h => pr_look_at_slack h) h

end Sw
local macro_rules | `(tactic| walk_at "go1") => `(tactic| first
  | with_reducible refine Sw.h_seqasg ?_
  | with_reducible refine Sw.h_op ?_
  | with_reducible refine Sw.h_varS rfl ?_
  | with_reducible refine Sw.h_varO rfl ?_
  | with_reducible refine Sw.h_c ?_
  | with_reducible refine Sw.h_I0 ?_
  | with_reducible refine Sw.h_cons ?_
  | with_reducible refine Sw.h_consT rfl ?_
  | with_reducible refine Sw.h_consC rfl ?_
  | with_reducible refine Sw.h_nil ?_
  | with_reducible refine Sw.h_call ?_
  | with_reducible refine Sw.h_un ?_
  | with_reducible refine Sw.h_test ?_
  | with_reducible refine Sw.h_bl ?_
  | with_reducible refine Sw.h_seqdrop ?_
  | with_reducible refine Sw.h_asS ?_
  | with_reducible refine Sw.h_asO ?_
  | with_reducible refine Sw.h_ne1 ?_
  | with_reducible refine Sw.h_ne2 ?_
  | with_reducible refine Sw.h_asg ?_
  | with_reducible refine Sw.h_drop ?_
  | with_reducible refine Sw.h_ret ?_
  | with_reducible refine Sw.h_retS rfl ?_
  | with_reducible refine Sw.h_retO rfl ?_
  | with_reducible refine Sw.h_retN ?_
  | with_reducible refine Sw.h_next ?_
  | with_reducible refine Sw.h_if ?_
  | with_reducible refine Sw.h_frzO rfl ?_
  | with_reducible refine Sw.h_frzS rfl ?_
  | with_reducible refine Sw.h_and ?_
  | with_reducible refine Sw.h_or ?_
  | with_reducible refine Sw.h_not ?_
  | with_reducible refine Sw.h_yes ?_
  | with_reducible refine Sw.h_andV ?_
  | with_reducible refine Sw.h_orV ?_
  | with_reducible refine Sw.h_notV ?_
  | with_reducible refine Sw.h_ifE ?_
  | with_reducible refine Sw.h_chain ?_
  | with_reducible refine Sw.h_lenC rfl ?_
  | with_reducible refine Sw.h_tup ?_
  | with_reducible refine Sw.h_lst ?_
  | with_reducible refine Sw.h_shs0 ?_
  | with_reducible refine Sw.h_shs1 ?_
  | with_reducible refine Sw.h_shs2 ?_
  | with_reducible refine Sw.h_shs3 ?_
  | with_reducible refine Sw.h_shs4 ?_
  | with_reducible refine Sw.h_sl ?_
  | with_reducible refine Sw.h_nopart ?_
  | with_reducible refine Sw.h_part ?_
  | with_reducible refine Sw.h_int ?_
  | with_reducible refine Sw.h_neg ?_
  | with_reducible refine Sw.h_S ?_
  | with_reducible refine Sw.h_inSign ?_
  | with_reducible refine Sw.h_notInSign ?_
  | with_reducible refine Sw.h_isN ?_
  | with_reducible refine Sw.h_notN ?_
  | with_reducible refine Sw.h_eq rfl ?_
  | with_reducible refine Sw.h_ne rfl ?_
  | with_reducible refine Sw.h_lenL ?_
  | with_reducible refine Sw.h_lenT ?_
  | with_reducible refine Sw.h_abs ?_
  | with_reducible refine Sw.h_max2 ?_
  | with_reducible refine Sw.h_min2 ?_
  | with_reducible refine Sw.h_int1b ?_
  | with_reducible refine Sw.h_sum ?_
  | with_reducible refine Sw.h_listOf ?_
  | with_reducible refine Sw.h_slL ?_
  | with_reducible refine Sw.h_slT ?_
  | with_reducible refine Sw.h_revL ?_
  | with_reducible refine Sw.h_newK ?_
  | with_reducible refine Sw.h_newT ?_
  | with_reducible refine Sw.h_seqfor ?_
  | with_reducible refine Sw.h_seqforD ?_
  | with_reducible refine Sw.h_dispT ?_
  | with_reducible refine Sw.h_LM ?_
  | with_reducible refine Sw.h_for ?_
  | with_reducible refine Sw.h_iList ?_
  | with_reducible refine Sw.h_iTup ?_
  | with_reducible refine Sw.h_iStr ?_
  | with_reducible refine Sw.h_iR1 ?_
  | with_reducible refine Sw.h_iR2 ?_
  | with_reducible refine Sw.h_iR3 ?_
  | with_reducible refine Sw.h_iEnum ?_
  | with_reducible refine Sw.h_iZip ?_
  | with_reducible refine Sw.h_iZipS ?_
  | with_reducible refine Sw.h_lst1 ?_
  | with_reducible refine Sw.h_tup1 ?_
  | with_reducible refine Sw.h_str1 ?_
  | with_reducible refine Sw.h_lc ?_
  | with_reducible refine Sw.h_gN ?_
  | with_reducible refine Sw.h_gT rfl ?_
  | with_reducible refine Sw.h_gC ?_
  | with_reducible refine Sw.h_gE ?_
  | with_reducible refine Sw.h_asgG ?_
  | with_reducible refine Sw.h_forD ?_
  | with_reducible refine Sw.h_raise ?_
  | with_reducible refine Sw.h_seqasgG ?_
  | with_reducible refine Sw.h_seqfrzO rfl ?_
  | with_reducible refine Sw.h_seqfrzS rfl ?_
  | with_reducible refine Sw.h_isi rfl rfl ?_
  | with_reducible refine Sw.h_ixT rfl ?_
  | with_reducible refine Sw.h_seq1 ?_
  | with_reducible refine L2.iteT ?_ | with_reducible refine L2.iteF ?_ | with_reducible refine Sw.iteNT ?_ | with_reducible refine Sw.iteNF ?_ | refine Sw.h_np rfl ?_)
local macro_rules | `(tactic| walk_at "go") => `(tactic| repeat walk_at "go1")
local macro_rules | `(tactic| walk_at "sz") => `(tactic| first
  | omega
  | decide
  | (simp only [List.length_append, List.length_map, List.length_cons, List.length_nil, List.length_take, List.length_drop, List.length_reverse, List.length_set, List.length_replicate, List.length_range]; omega)
  | (refine Nat.le_trans (Sw.cut_len _ _ _) ?_; omega))
local macro_rules | `(tactic| walk_at "gx1") => `(tactic| first
  | walk_at "go1"
  | refine Sw.c_draw (by omega) (by omega) (fun _ _ _ => ?_)
  | refine Sw.c_letters (by omega) (by omega) (by omega) (by omega) (fun _ _ _ => ?_)
  | refine Sw.c_wheel (by omega) (by omega) (fun _ _ _ _ => ?_)
  | refine Sw.c_word (by walk_at "sz") (by walk_at "sz") (by omega) (by omega) (fun _ _ _ => ?_)
  | refine Sw.c_bent (by walk_at "sz") (by assumption) (fun _ _ _ => ?_)
  | refine Sw.c_lis_word (by walk_at "sz") (by assumption) ?_
  | refine Sw.h_sc rfl ?_
  | refine Sw.h_lenS (by walk_at "sz") ?_
  | refine Sw.h_slS (by walk_at "sz") ?_
  | refine Sw.h_addS (by walk_at "sz") ?_
  | refine Sw.h_I (by omega) ?_
  | refine Sw.h_I (Sw.cm (by omega) (by omega) (by omega) (by omega)) ?_
  | refine Sw.h_I (Sw.cd (by omega) (by omega)) ?_
  | refine Sw.h_I ⟨by decide, by decide, by decide⟩ ?_
  | refine Sw.h_gT rfl ?_
  | refine Sw.h_ixT rfl ?_
  | refine Sw.h_ixL rfl ?_
  | refine Sw.h_appE rfl ?_
  | refine Sw.h_appK rfl (by decide) (by walk_at "sz") ?_
  | refine Sw.h_setLE rfl ?_
  | refine Sw.h_putTE rfl ?_
  | refine Sw.h_putKE rfl ?_
  | refine Sw.h_tupOf ?_
  | refine Sw.h_listOfT ?_
  | refine Sw.h_orS ?_
  | refine And.intro (by omega) (And.intro (by omega) ?_))
local macro_rules | `(tactic| walk_at "gx") => `(tactic| repeat walk_at "gx1")
namespace Sw
open PySem PySem.Spec PyProof.Rows L2 SX
/-! ### tables by keys, plain -/
def getA {κ α : Type} [DecidableEq κ] (R : List (κ × α)) (k : κ) : Option α := (R.find? fun e => decide (e.1 = k)).map (·.2)
def putA {κ α : Type} [DecidableEq κ] (R : List (κ × α)) (k : κ) (c : α) : List (κ × α) := if (R.any fun e => decide (e.1 = k)) = true then R.map (fun e => if e.1 = k then (e.1, c) else e) else R ++ [(k, c)]
section
variable {κ α : Type} [DecidableEq κ]
theorem getA_pos {e : κ × α} {R : List (κ × α)} {k : κ} (h : e.1 = k) : getA (e :: R) k = some e.2 := by unfold getA; rw [List.find?_cons_of_pos (by simpa using h)]; rfl
theorem getA_neg {e : κ × α} {R : List (κ × α)} {k : κ} (h : e.1 ≠ k) : getA (e :: R) k = getA R k := by unfold getA; rw [List.find?_cons_of_neg (by simpa using h)]
theorem getA_app (R : List (κ × α)) (k k' : κ) (c : α) (h : (R.any fun e => decide (e.1 = k)) = false) : getA (R ++ [(k, c)]) k' = if k' = k then some c else getA R k' := by
  induction R with
  | nil =>
    by_cases z : k' = k
    · subst z; rw [if_pos rfl]; exact getA_pos rfl
    · rw [if_neg z]; exact getA_neg (fun y => z y.symm)
  | cons e R ih =>
    rw [List.any_cons, Bool.or_eq_false_iff] at h
    have h1 : e.1 ≠ k := by simpa using h.1
    rw [List.cons_append]
    by_cases z : e.1 = k'
    · rw [getA_pos z, getA_pos z, if_neg (fun y => h1 (z.trans y))]
    · rw [getA_neg z, getA_neg z]; exact ih h.2
theorem getA_map (R : List (κ × α)) (k k' : κ) (c : α) (h : (R.any fun e => decide (e.1 = k)) = true) : getA (R.map fun e => if e.1 = k then (e.1, c) else e) k' = if k' = k then some c else getA R k' := by
  have key : ∀ R : List (κ × α), getA (R.map fun e => if e.1 = k then (e.1, c) else e) k' = if k' = k then (getA R k).map (fun _ => c) else getA R k' := by
    intro R
    induction R with
    | nil => by_cases z : k' = k <;> simp [getA, z]
    | cons e R ih =>
      rw [List.map_cons]
      by_cases y : e.1 = k
      · rw [if_pos y]
        by_cases z : k' = k
        · rw [if_pos z, getA_pos (show (e.1, c).1 = k' from y.trans z.symm), getA_pos y]; rfl
        · rw [if_neg z, getA_neg (show (e.1, c).1 ≠ k' from fun w => z (w.symm.trans y)), ih, if_neg z, getA_neg (fun w => z (w.symm.trans y))]
      · rw [if_neg y]
        by_cases w : e.1 = k'
        · have z : ¬ k' = k := fun z => y (w.trans z)
          rw [getA_pos w, if_neg z, getA_pos w]
        · rw [getA_neg w, ih]
          by_cases z : k' = k
          · rw [if_pos z, if_pos z, getA_neg y]
          · rw [if_neg z, if_neg z, getA_neg w]
  rw [key R]
  by_cases z : k' = k
  · rw [if_pos z, if_pos z]
    obtain ⟨e, he, hk⟩ := List.any_eq_true.mp h
    have : ∃ v, getA R k = some v := by
      cases q : getA R k with
      | some v => exact ⟨v, rfl⟩
      | none =>
        unfold getA at q
        rw [Option.map_eq_none_iff, List.find?_eq_none] at q
        exact absurd hk (q e he)
    obtain ⟨v, hv⟩ := this
    rw [hv]; rfl
  · rw [if_neg z, if_neg z]
theorem getA_put (R : List (κ × α)) (k k' : κ) (c : α) : getA (putA R k c) k' = if k' = k then some c else getA R k' := by
  unfold putA
  by_cases h : (R.any fun e => decide (e.1 = k)) = true
  · rw [if_pos h]; exact getA_map R k k' c h
  · rw [if_neg h]; exact getA_app R k k' c (by cases q : (R.any fun e => decide (e.1 = k)) with | false => rfl | true => exact absurd q h)
/-- keys and values told otherwise -/
theorem getA_enc {κ' β : Type} [DecidableEq κ'] {f : κ → κ'} (hf : ∀ a b, f a = f b → a = b) (g : α → β) (R : List (κ × α)) (k : κ) : getA (R.map fun e => (f e.1, g e.2)) (f k) = (getA R k).map g := by
  induction R with
  | nil => rfl
  | cons e R ih =>
    rw [List.map_cons]
    by_cases h : e.1 = k
    · rw [getA_pos (show (f e.1, g e.2).1 = f k by rw [h]), getA_pos h]; rfl
    · rw [getA_neg (show (f e.1, g e.2).1 ≠ f k from fun z => h (hf _ _ z)), ih, getA_neg h]
theorem putA_enc {κ' β : Type} [DecidableEq κ'] {f : κ → κ'} (hf : ∀ a b, f a = f b → a = b) (g : α → β) (R : List (κ × α)) (k : κ) (c : α) : putA (R.map fun e => (f e.1, g e.2)) (f k) (g c) = (putA R k c).map fun e => (f e.1, g e.2) := by
  have ha : ((R.map fun e => (f e.1, g e.2)).any fun e => decide (e.1 = f k)) = R.any fun e => decide (e.1 = k) := by
    rw [List.any_map]
    congr 1
    funext e
    exact decide_eq_decide.mpr ⟨fun z => hf _ _ z, fun z => congrArg f z⟩
  unfold putA
  rw [ha]
  by_cases h : (R.any fun e => decide (e.1 = k)) = true
  · rw [if_pos h, if_pos h, List.map_map, List.map_map]
    apply List.map_congr_left
    intro e _
    show (if f e.1 = f k then (f e.1, g c) else (f e.1, g e.2)) = (f (if e.1 = k then (e.1, c) else e).1, g (if e.1 = k then (e.1, c) else e).2)
    by_cases z : e.1 = k
    · rw [if_pos (show f e.1 = f k by rw [z]), if_pos z]
    · rw [if_neg (fun y => z (hf _ _ y)), if_neg z]
  · rw [if_neg h, if_neg h, List.map_append]; rfl
end
theorem getD_eq {κ : Type} [DecidableEq κ] (R : List (κ × D)) (k : κ) : getD' R k = getA R k := rfl
theorem putD_eq {κ : Type} [DecidableEq κ] (R : List (κ × D)) (k : κ) (d : D) : putD R k d = putA R k d := rfl
/-! ### ways and costs of turns -/
def wayOf (t w : Int) : Int := if 0 < t then 1 else if t < 0 then -1 else w
def absI (i : Int) : Int := if i < 0 then -i else i
def stepCost (t w s : Int) : Int := if w ≠ 0 ∧ wayOf t w ≠ w then absI t + s else absI t
def cst (s : Int) : Int → List Int → Int
  | _, [] => 0
  | w, t :: r => stepCost t w s + cst s (wayOf t w) r
def wayAll : Int → List Int → Int
  | w, [] => w
  | w, t :: r => wayAll (wayOf t w) r
theorem cst_app (s : Int) : ∀ (w : Int) (a b : List Int), cst s w (a ++ b) = cst s w a + cst s (wayAll w a) b
  | w, [], b => by simp [cst, wayAll]
  | w, t :: a, b => by
    show stepCost t w s + cst s (wayOf t w) (a ++ b) = stepCost t w s + cst s (wayOf t w) a + cst s (wayAll (wayOf t w) a) b
    rw [cst_app s _ a b]; omega
theorem wayAll_app : ∀ (w : Int) (a b : List Int), wayAll w (a ++ b) = wayAll (wayAll w a) b
  | w, [], b => rfl
  | w, t :: a, b => wayAll_app (wayOf t w) a b
theorem getD_at {w : List Nat} {z : Int} (h0 : 0 ≤ z) (h1 : z < (w.length : Int)) : atI w z = some (w.getD z.toNat 0) := by
  obtain ⟨v, e, _, e2⟩ := atI_of h0 h1
  rw [e, List.getD, e2]
  rfl
def posL (n : Nat) : Int → List Int → Int
  | p, [] => p
  | p, t :: ts => posL n ((p + t) % (n : Int)) ts
/-! ### turns to a sign, steps from a stand -/
abbrev Std := Int × Int
abbrev Stp := Int × Std × Int
def hits (w : List Nat) (p : Int) (sg : List Nat) (t : Int) : Bool := decide ([w.getD ((p + t) % (w.length : Int)).toNat 0] = sg)
def offs (n : Nat) (k : Nat) : List Int := (List.range k).map fun i : Nat => 1 - (n : Int) + (i : Int)
def turnsTo (w : List Nat) (p : Int) (sg : List Nat) : List Int := (offs w.length (2 * w.length - 1)).filter (hits w p sg)
theorem offs_succ (n k : Nat) : offs n (k + 1) = offs n k ++ [1 - (n : Int) + (k : Int)] := by unfold offs; rw [List.range_succ, List.map_append]; rfl
theorem mem_offs {n k : Nat} {t : Int} : t ∈ offs n k ↔ 1 - (n : Int) ≤ t ∧ t < 1 - (n : Int) + (k : Int) := by
  unfold offs
  rw [List.mem_map]
  constructor
  · rintro ⟨i, hi, rfl⟩
    have := List.mem_range.mp hi
    omega
  · intro h
    exact ⟨(t - (1 - (n : Int))).toNat, List.mem_range.mpr (by omega), by omega⟩
theorem mem_turnsTo {w : List Nat} {p : Int} {sg : List Nat} {t : Int} (hn : 0 < w.length) : t ∈ turnsTo w p sg ↔ -(w.length : Int) < t ∧ t < (w.length : Int) ∧ hits w p sg t = true := by
  unfold turnsTo
  rw [List.mem_filter, mem_offs]
  constructor
  · rintro ⟨h1, h2⟩; exact ⟨by omega, by omega, h2⟩
  · rintro ⟨h1, h2, h3⟩; exact ⟨by omega, h3⟩
theorem turnsTo_len (w : List Nat) (p : Int) (sg : List Nat) : (turnsTo w p sg).length ≤ 2 * w.length - 1 := by
  unfold turnsTo
  refine Nat.le_trans (List.length_filter_le _ _) ?_
  unfold offs
  simp
def stepsFrom (w : List Nat) (st : Std) (sg : List Nat) (s : Int) : List Stp := (turnsTo w st.1 sg).map fun t => (t, ((st.1 + t) % (w.length : Int), wayOf t st.2), stepCost t st.2 s)
abbrev Row := List (Std × Int)
abbrev encK (st : Std) : List Key := [.inl st.1, .inl st.2]
theorem encK_inj (a b : Std) (h : encK a = encK b) : a = b := by
  unfold encK at h
  simp only [List.cons.injEq, Sum.inl.injEq, and_true] at h
  exact Prod.ext h.1 h.2
abbrev valI (R : Row) (st : Std) : Option Int := getA R st
abbrev putI (R : Row) (st : Std) (c : Int) : Row := putA R st c
theorem valI_put (R : Row) (st st' : Std) (c : Int) : valI (putI R st c) st' = if st' = st then some c else valI R st' := getA_put R st st' c
def Nd {α : Type} (R : List (Std × α)) : Prop := (R.map (·.1)).Nodup
theorem nd_put {α : Type} {R : List (Std × α)} {st : Std} {c : α} (h : Nd R) : Nd (putA R st c) := by
  unfold Nd putA at *
  by_cases z : (R.any fun e => decide (e.1 = st)) = true
  · rw [if_pos z]
    have e : (R.map fun e => if e.1 = st then (e.1, c) else e).map (·.1) = R.map (·.1) := by
      rw [List.map_map]
      apply List.map_congr_left
      intro e _
      show (if e.1 = st then (e.1, c) else e).1 = e.1
      split <;> rfl
    rw [e]
    exact h
  · rw [if_neg z, List.map_append, List.nodup_append]
    refine ⟨h, by simp, ?_⟩
    intro a ha b hb
    have eb : b = st := by simpa using hb
    subst eb
    intro e
    subst e
    apply z
    rw [List.any_eq_true]
    obtain ⟨x, hx, ex⟩ := List.mem_map.mp ha
    exact ⟨x, hx, by simpa using ex⟩
theorem getA_mem {α : Type} {R : List (Std × α)} (h : Nd R) {st : Std} {c : α} : (st, c) ∈ R ↔ getA R st = some c := by
  induction R with
  | nil => simp [getA]
  | cons e R ih =>
    unfold Nd at h
    rw [List.map_cons, List.nodup_cons] at h
    by_cases z : e.1 = st
    · rw [getA_pos z]
      constructor
      · intro hm
        rcases List.mem_cons.mp hm with y | y
        · rw [← y]
        · exact absurd (List.mem_map.mpr ⟨_, y, z.symm⟩) h.1
      · intro hm
        have : e = (st, c) := Prod.ext z (by simpa using hm)
        rw [this]
        exact List.mem_cons_self
    · rw [getA_neg z, ← ih h.2, List.mem_cons]
      constructor
      · rintro (y | y)
        · exact absurd (by rw [← y]) z
        · exact y
      · exact Or.inr
theorem valI_mem {R : Row} (h : Nd R) {st : Std} {c : Int} : (st, c) ∈ R ↔ valI R st = some c := getA_mem h
theorem putI_len (R : Row) (st : Std) (c : Int) : (putI R st c).length ≤ R.length + 1 := by
  unfold putI putA
  split
  · rw [List.length_map]; omega
  · rw [List.length_append]; exact Nat.le_refl _
def relax (R : Row) (e : Std × Int) : Row := match valI R e.1 with
  | none => putI R e.1 e.2
  | some c => if e.2 < c then putI R e.1 e.2 else R
def relaxAll (L : List (Std × Int)) : Row := L.foldl relax []
theorem relax_nd {R : Row} {e : Std × Int} (h : Nd R) : Nd (relax R e) := by
  unfold relax
  split
  · exact nd_put h
  · split
    · exact nd_put h
    · exact h
theorem relaxAll_snoc (L : List (Std × Int)) (e : Std × Int) : relaxAll (L ++ [e]) = relax (relaxAll L) e := by unfold relaxAll; rw [List.foldl_append]; rfl
theorem foldr_nd : ∀ (L : List (Std × Int)) (R : Row), Nd R → Nd (L.foldl relax R)
  | [], _, h => h
  | e :: L, R, h => foldr_nd L (relax R e) (relax_nd h)
theorem relaxAll_nd (L : List (Std × Int)) : Nd (relaxAll L) := foldr_nd L [] (by unfold Nd; simp)
theorem relax_len (R : Row) (e : Std × Int) : (relax R e).length ≤ R.length + 1 := by
  unfold relax
  split
  · exact putI_len _ _ _
  · split
    · exact putI_len _ _ _
    · omega
def nextOf (w : List Nat) (s : Int) (sg : List Nat) (e : Std × Int) : List (Std × Int) := (stepsFrom w e.1 sg s).map fun x => (x.2.1, e.2 + x.2.2)
def nexts (w : List Nat) (s : Int) (sg : List Nat) (R : Row) : List (Std × Int) := R.flatMap (nextOf w s sg)
def rowNext (w : List Nat) (s : Int) (sg : List Nat) (R : Row) : Row := relaxAll (nexts w s sg R)
def rowI (w : List Nat) (s : Int) (p : Int) (word : List Nat) : Row := word.foldl (fun R c => rowNext w s [c] R) [((p, 0), 0)]
theorem rowI_snoc (w : List Nat) (s p : Int) (word : List Nat) (c : Nat) : rowI w s p (word ++ [c]) = rowNext w s [c] (rowI w s p word) := by unfold rowI; rw [List.foldl_append]; rfl
theorem rowI_nd (w : List Nat) (s p : Int) : ∀ word : List Nat, Nd (rowI w s p word) := fun word => by
  rcases List.eq_nil_or_concat word with rfl | ⟨l, c, rfl⟩
  · unfold Nd rowI; simp
  · rw [List.concat_eq_append, rowI_snoc]
    exact relaxAll_nd _
/-! ### the stands that may come -/
def StOk (n : Nat) (st : Std) : Prop := 0 ≤ st.1 ∧ st.1 < (n : Int) ∧ -1 ≤ st.2 ∧ st.2 ≤ 1
def RowOk (n : Nat) (R : Row) : Prop := Nd R ∧ ∀ e ∈ R, StOk n e.1
def code (n : Nat) (st : Std) : Nat := (st.1 + (st.2 + 1) * (n : Int)).toNat
theorem code_lt {n : Nat} {st : Std} (h : StOk n st) : code n st < 3 * n := by
  obtain ⟨h1, h2, h3, h4⟩ := h
  unfold code
  have : st.2 = -1 ∨ st.2 = 0 ∨ st.2 = 1 := by omega
  rcases this with e | e | e <;> rw [e] <;> omega
theorem code_inj {n : Nat} {a b : Std} (ha : StOk n a) (hb : StOk n b) (h : code n a = code n b) : a = b := by
  obtain ⟨a1, a2, a3, a4⟩ := ha
  obtain ⟨b1, b2, b3, b4⟩ := hb
  unfold code at h
  have x : a.2 = -1 ∨ a.2 = 0 ∨ a.2 = 1 := by omega
  have y : b.2 = -1 ∨ b.2 = 0 ∨ b.2 = 1 := by omega
  apply Prod.ext
  · rcases x with e | e | e <;> rcases y with e' | e' | e' <;> rw [e, e'] at h <;> omega
  · rcases x with e | e | e <;> rcases y with e' | e' | e' <;> rw [e, e'] at h <;> omega
theorem nodup_lt : ∀ (n : Nat) (l : List Nat), l.Nodup → (∀ x ∈ l, x < n) → l.length ≤ n
  | 0, l, _, h => by
    cases l with
    | nil => exact Nat.le_refl _
    | cons a l => exact absurd (h a List.mem_cons_self) (Nat.not_lt_zero _)
  | n + 1, l, nd, h => by
    by_cases hm : n ∈ l
    · have h1 := nodup_lt n (l.erase n) (nd.erase n) fun x hx => by
        have z := (List.Nodup.mem_erase_iff nd).mp hx
        have := h x z.2
        have := z.1
        omega
      rw [List.length_erase_of_mem hm] at h1
      have : 0 < l.length := List.length_pos_of_mem hm
      omega
    · have h1 := nodup_lt n l nd fun x hx => by
        have := h x hx
        have : x ≠ n := fun e => hm (e ▸ hx)
        omega
      omega
theorem row_len {n : Nat} {R : Row} (h : RowOk n R) : R.length ≤ 3 * n := by
  have hnd : (R.map fun e => code n e.1).Nodup := by
    have h1 := h.1
    unfold Nd at h1
    have e : (R.map fun e => code n e.1) = (R.map (·.1)).map (code n) := by rw [List.map_map]; rfl
    rw [e]
    have all : ∀ st ∈ R.map (·.1), StOk n st := fun st hst => by
      obtain ⟨x, hx, rfl⟩ := List.mem_map.mp hst
      exact h.2 x hx
    revert h1 all
    generalize R.map (·.1) = l
    intro h1 all
    induction l with
    | nil => simp
    | cons a l ih =>
      rw [List.nodup_cons] at h1
      rw [List.map_cons, List.nodup_cons]
      refine ⟨fun hm => ?_, ih h1.2 fun st hst => all st (List.mem_cons_of_mem _ hst)⟩
      obtain ⟨b, hb, eb⟩ := List.mem_map.mp hm
      have := code_inj (all b (List.mem_cons_of_mem _ hb)) (all a List.mem_cons_self) eb
      exact h1.1 (this ▸ hb)
  have := nodup_lt (3 * n) _ hnd fun x hx => by
    obtain ⟨e, he, rfl⟩ := List.mem_map.mp hx
    exact code_lt (h.2 e he)
  rw [List.length_map] at this
  exact this
theorem put_mem {R : Row} {st : Std} {c : Int} {e : Std × Int} (h : e ∈ putI R st c) : e ∈ R ∨ e = (st, c) := by
  unfold putI putA at h
  split at h
  · obtain ⟨x, hx, ex⟩ := List.mem_map.mp h
    by_cases z : x.1 = st
    · rw [if_pos z] at ex
      exact .inr (by rw [← ex, z])
    · rw [if_neg z] at ex
      exact .inl (ex ▸ hx)
  · rcases List.mem_append.mp h with z | z
    · exact .inl z
    · exact .inr (List.mem_singleton.mp z)
theorem relax_mem {R : Row} {x e : Std × Int} (h : e ∈ relax R x) : e ∈ R ∨ e = x := by
  unfold relax at h
  split at h
  · exact put_mem h
  · split at h
    · exact put_mem h
    · exact .inl h
theorem fold_mem : ∀ (L : List (Std × Int)) (R : Row) {e : Std × Int}, e ∈ L.foldl relax R → e ∈ R ∨ e ∈ L
  | [], _, _, h => .inl h
  | x :: L, R, e, h => by
    rcases fold_mem L (relax R x) h with z | z
    · rcases relax_mem z with y | y
      · exact .inl y
      · exact .inr (y ▸ List.mem_cons_self)
    · exact .inr (List.mem_cons_of_mem _ z)
theorem relaxAll_mem {L : List (Std × Int)} {e : Std × Int} (h : e ∈ relaxAll L) : e ∈ L := by
  rcases fold_mem L [] h with z | z
  · exact nomatch z
  · exact z
theorem wayOf_bd {t w : Int} (h1 : -1 ≤ w) (h2 : w ≤ 1) : -1 ≤ wayOf t w ∧ wayOf t w ≤ 1 := by
  unfold wayOf
  split
  · omega
  · split <;> omega
theorem nextOf_ok {w : List Nat} {s : Int} {sg : List Nat} {e x : Std × Int} (hw : 0 < w.length) (h : StOk w.length e.1) (hx : x ∈ nextOf w s sg e) : StOk w.length x.1 := by
  unfold nextOf stepsFrom at hx
  rw [List.map_map] at hx
  obtain ⟨t, _, rfl⟩ := List.mem_map.mp hx
  obtain ⟨a, b⟩ := emod_bd (z := e.1.1 + t) (m := (w.length : Int)) (by omega)
  obtain ⟨c, d⟩ := wayOf_bd (t := t) h.2.2.1 h.2.2.2
  exact ⟨a, b, c, d⟩
theorem nexts_ok {w : List Nat} {s : Int} {sg : List Nat} {R : Row} (hw : 0 < w.length) (h : ∀ e ∈ R, StOk w.length e.1) : ∀ x ∈ nexts w s sg R, StOk w.length x.1 := fun x hx => by
  unfold nexts at hx
  obtain ⟨e, he, hx⟩ := List.mem_flatMap.mp hx
  exact nextOf_ok hw (h e he) hx
theorem relaxAll_ok {n : Nat} {L : List (Std × Int)} (h : ∀ x ∈ L, StOk n x.1) : RowOk n (relaxAll L) := ⟨relaxAll_nd L, fun e he => h e (relaxAll_mem he)⟩
theorem rowI_ok {w : List Nat} {s p : Int} (hw : 0 < w.length) (h0 : 0 ≤ p) (h1 : p < (w.length : Int)) : ∀ (word : List Nat), RowOk w.length (rowI w s p word) := fun word => by
  have : ∀ (k : Nat), k ≤ word.length → RowOk w.length (rowI w s p (word.take k)) := by
    intro k
    induction k with
    | zero =>
      intro _
      refine ⟨by unfold Nd rowI; simp, fun e he => ?_⟩
      have : e = ((p, 0), 0) := by simpa [rowI] using he
      rw [this]
      exact ⟨h0, h1, by show (-1 : Int) ≤ 0; decide, by show (0 : Int) ≤ 1; decide⟩
    | succ k ih =>
      intro hk
      obtain ⟨x, hx⟩ : ∃ x, word[k]? = some x := ⟨_, List.getElem?_eq_getElem (by omega)⟩
      rw [take_snoc hx, rowI_snoc]
      exact relaxAll_ok (nexts_ok hw (ih (by omega)).2)
  have h := this word.length (Nat.le_refl _)
  rwa [List.take_length] at h
def rowsI (w : List Nat) (s p : Int) (word : List Nat) (k : Nat) : List Row := (List.range k).map fun i => rowI w s p (word.take i)
theorem rowsI_succ (w : List Nat) (s p : Int) (word : List Nat) (k : Nat) : rowsI w s p word (k + 1) = rowsI w s p word k ++ [rowI w s p (word.take k)] := by unfold rowsI; rw [List.range_succ, List.map_append]; rfl
theorem nexts_take {w : List Nat} {s : Int} {sg : List Nat} {R : Row} {k : Nat} {e : Std × Int} (h : R[k]? = some e) : nexts w s sg (R.take (k + 1)) = nexts w s sg (R.take k) ++ nextOf w s sg e := by
  unfold nexts
  rw [take_snoc h, List.flatMap_append]
  simp
/-! ### the least of some numbers -/
def IsBest (P : Int → Prop) : Option Int → Prop
  | none => ∀ c, ¬ P c
  | some c => P c ∧ ∀ c', P c' → c ≤ c'
theorem IsBest.uniq {P : Int → Prop} {o o' : Option Int} (h : IsBest P o) (h' : IsBest P o') : o = o' := by
  cases o with
  | none =>
    cases o' with
    | none => rfl
    | some c => exact absurd h'.1 (h c)
  | some c =>
    cases o' with
    | none => exact absurd h.1 (h' c)
    | some c' =>
      have h1 := h.2 c' h'.1
      have h2 := h'.2 c h.1
      have : c = c' := by omega
      rw [this]
/-- what is dominated does not matter -/
theorem IsBest.dom {P P' : Int → Prop} {o : Option Int} (h : IsBest P o) (h1 : ∀ c, P c → P' c) (h2 : ∀ c, P' c → ∃ c', c' ≤ c ∧ P c') : IsBest P' o := by
  cases o with
  | none => exact fun c hc => by obtain ⟨c', _, hc'⟩ := h2 c hc; exact h c' hc'
  | some c =>
    refine ⟨h1 c h.1, fun c' hc' => ?_⟩
    obtain ⟨d, hd, hp⟩ := h2 c' hc'
    have := h.2 d hp
    omega
theorem IsBest.congr {P P' : Int → Prop} {o : Option Int} (h : IsBest P o) (e : ∀ c, P c ↔ P' c) : IsBest P' o := h.dom (fun c => (e c).mp) fun c hc => ⟨c, Int.le_refl _, (e c).mpr hc⟩
theorem valI_relax (R : Row) (e : Std × Int) (st : Std) : valI (relax R e) st = if e.1 = st then (match valI R st with | none => some e.2 | some c => some (if e.2 < c then e.2 else c)) else valI R st := by
  unfold relax
  by_cases h : e.1 = st
  · rw [if_pos h]
    subst h
    cases hv : valI R e.1 with
    | none =>
      show valI (putI R e.1 e.2) e.1 = some e.2
      rw [valI_put, if_pos rfl]
    | some c =>
      show valI (if e.2 < c then putI R e.1 e.2 else R) e.1 = some (if e.2 < c then e.2 else c)
      by_cases z : e.2 < c
      · rw [if_pos z, if_pos z, valI_put, if_pos rfl]
      · rw [if_neg z, if_neg z, hv]
  · rw [if_neg h]
    have h' : ¬ st = e.1 := fun z => h z.symm
    split
    · rw [valI_put, if_neg h']
    · split
      · rw [valI_put, if_neg h']
      · rfl
theorem relaxAll_best (L : List (Std × Int)) (st : Std) : IsBest (fun c => (st, c) ∈ L) (valI (relaxAll L) st) := by
  have : ∀ k, k ≤ L.length → IsBest (fun c => (st, c) ∈ L.take k) (valI (relaxAll (L.take k)) st) := by
    intro k
    induction k with
    | zero =>
      intro _
      rw [List.take_zero]
      exact fun c h => nomatch h
    | succ k ih =>
      intro hk
      obtain ⟨e, he⟩ : ∃ e, L[k]? = some e := ⟨_, List.getElem?_eq_getElem (by omega)⟩
      have ih := ih (by omega)
      rw [take_snoc he, relaxAll_snoc, valI_relax]
      by_cases h : e.1 = st
      · rw [if_pos h]
        have em : ∀ c, (st, c) ∈ L.take k ++ [e] ↔ (st, c) ∈ L.take k ∨ c = e.2 := fun c => by
          rw [List.mem_append, List.mem_singleton]
          constructor
          · rintro (y | y)
            · exact .inl y
            · exact .inr (by rw [← y])
          · rintro (y | y)
            · exact .inl y
            · exact .inr (Prod.ext h.symm y)
        cases hv : valI (relaxAll (L.take k)) st with
        | none =>
          rw [hv] at ih
          exact ⟨(em _).mpr (.inr rfl), fun c' hc' => by
            rcases (em c').mp hc' with y | y
            · exact absurd y (ih c')
            · omega⟩
        | some c =>
          rw [hv] at ih
          show IsBest _ (some (if e.2 < c then e.2 else c))
          by_cases z : e.2 < c
          · rw [if_pos z]
            exact ⟨(em _).mpr (.inr rfl), fun c' hc' => by
              rcases (em c').mp hc' with y | y
              · have := ih.2 c' y; omega
              · omega⟩
          · rw [if_neg z]
            exact ⟨(em _).mpr (.inl ih.1), fun c' hc' => by
              rcases (em c').mp hc' with y | y
              · exact ih.2 c' y
              · omega⟩
      · rw [if_neg h]
        refine ih.congr fun c => ?_
        rw [List.mem_append, List.mem_singleton]
        constructor
        · exact .inl
        · rintro (y | y)
          · exact y
          · exact absurd (by rw [← y]) h
  have h := this L.length (Nat.le_refl _)
  rwa [List.take_length] at h
/-! ### plans, from a stand to a stand -/
def stepTo (w : List Nat) (a : Std) (t : Int) : Std := ((a.1 + t) % (w.length : Int), wayOf t a.2)
inductive Run (w : List Nat) (s : Int) : Std → List Nat → List Int → Std → Int → Prop where
  | nil (a : Std) : Run w s a [] [] a 0
  | cons {a b : Std} {x : Nat} {t : Int} {word : List Nat} {ts : List Int} {c : Int} (ht : t ∈ turnsTo w a.1 [x]) (r : Run w s (stepTo w a t) word ts b c) : Run w s a (x :: word) (t :: ts) b (stepCost t a.2 s + c)
theorem run_snoc {w : List Nat} {s : Int} : ∀ {a b : Std} {word : List Nat} {ts : List Int} {c : Int}, Run w s a word ts b c → ∀ {x : Nat} {t : Int}, t ∈ turnsTo w b.1 [x] → Run w s a (word ++ [x]) (ts ++ [t]) (stepTo w b t) (c + stepCost t b.2 s) := by
  intro a b word ts c r
  induction r with
  | nil a =>
    intro x t ht
    have z := Run.cons ht (Run.nil (w := w) (s := s) (stepTo w a t))
    rw [Int.add_zero] at z
    rw [Int.zero_add]
    exact z
  | cons ht r ih =>
    intro x t ht2
    have z := Run.cons ht (ih ht2)
    rw [← Int.add_assoc] at z
    exact z
theorem run_unsnoc {w : List Nat} {s : Int} : ∀ (word : List Nat) {a b : Std} {x : Nat} {ts : List Int} {c : Int}, Run w s a (word ++ [x]) ts b c → ∃ ts' t b' c', ts = ts' ++ [t] ∧ Run w s a word ts' b' c' ∧ t ∈ turnsTo w b'.1 [x] ∧ b = stepTo w b' t ∧ c = c' + stepCost t b'.2 s
  | [], a, b, x, ts, c, r => by
    cases r with
    | cons ht r =>
      cases r with
      | nil => exact ⟨[], _, a, 0, rfl, .nil a, ht, rfl, by omega⟩
  | y :: word, a, b, x, ts, c, r => by
    cases r with
    | cons ht r =>
      obtain ⟨ts', t, b', c', e1, r', ht', e2, e3⟩ := run_unsnoc word r
      exact ⟨_ :: ts', t, b', _, by rw [e1]; rfl, .cons ht r', ht', e2, by omega⟩
theorem run_len {w : List Nat} {s : Int} {a b : Std} {word : List Nat} {ts : List Int} {c : Int} (r : Run w s a word ts b c) : ts.length = word.length := by
  induction r with
  | nil => rfl
  | cons ht r ih => rw [List.length_cons, List.length_cons, ih]
theorem run_cost {w : List Nat} {s : Int} {a b : Std} {word : List Nat} {ts : List Int} {c : Int} (r : Run w s a word ts b c) : c = cst s a.2 ts := by
  induction r with
  | nil => rfl
  | cons ht r ih => rw [ih]; rfl
theorem run_way {w : List Nat} {s : Int} {a b : Std} {word : List Nat} {ts : List Int} {c : Int} (r : Run w s a word ts b c) : b.2 = wayAll a.2 ts := by
  induction r with
  | nil => rfl
  | cons ht r ih => rw [ih]; rfl
theorem run_pos {w : List Nat} {s : Int} {a b : Std} {word : List Nat} {ts : List Int} {c : Int} (r : Run w s a word ts b c) : b.1 = posL w.length a.1 ts := by
  induction r with
  | nil => rfl
  | cons ht r ih => rw [ih]; rfl
/-- some plan of the word leads there for that cost -/
def Lands (w : List Nat) (s p : Int) (word : List Nat) (st : Std) (c : Int) : Prop := ∃ ts, Run w s (p, 0) word ts st c
theorem mem_next {w : List Nat} {s : Int} {sg : List Nat} {R : Row} {st : Std} {c : Int} : (st, c) ∈ nexts w s sg R ↔ ∃ a c0 t, (a, c0) ∈ R ∧ t ∈ turnsTo w a.1 sg ∧ st = stepTo w a t ∧ c = c0 + stepCost t a.2 s := by
  unfold nexts nextOf stepsFrom
  rw [List.mem_flatMap]
  constructor
  · rintro ⟨e, he, hx⟩
    rw [List.map_map] at hx
    obtain ⟨t, ht, ex⟩ := List.mem_map.mp hx
    cases ex
    exact ⟨e.1, e.2, t, he, ht, rfl, rfl⟩
  · rintro ⟨a, c0, t, he, ht, e1, e2⟩
    refine ⟨(a, c0), he, ?_⟩
    rw [List.map_map]
    exact List.mem_map.mpr ⟨t, ht, Prod.ext e1.symm e2.symm⟩
theorem rowI_best (w : List Nat) (s p : Int) (word : List Nat) (st : Std) : IsBest (Lands w s p word st) (valI (rowI w s p word) st) := by
  have : ∀ k, k ≤ word.length → ∀ st, IsBest (Lands w s p (word.take k) st) (valI (rowI w s p (word.take k)) st) := by
    intro k
    induction k with
    | zero =>
      intro _ st
      rw [List.take_zero]
      show IsBest _ (valI [((p, 0), 0)] st)
      by_cases h : (p, 0) = st
      · subst h
        have : valI [((p, 0), (0 : Int))] (p, 0) = some 0 := getA_pos rfl
        rw [this]
        exact ⟨⟨[], .nil _⟩, fun c' ⟨ts, r⟩ => by cases r; exact Int.le_refl _⟩
      · have : valI [((p, 0), (0 : Int))] st = none := by
          exact (getA_neg h).trans rfl
        rw [this]
        exact fun c ⟨ts, r⟩ => by cases r; exact h rfl
    | succ k ih =>
      intro hk st
      have ih := ih (by omega)
      obtain ⟨x, hx⟩ : ∃ x, word[k]? = some x := ⟨_, List.getElem?_eq_getElem (by omega)⟩
      rw [take_snoc hx, rowI_snoc]
      have hnd := rowI_nd w s p (word.take k)
      refine (relaxAll_best (nexts w s [x] (rowI w s p (word.take k))) st).dom (fun c hc => ?_) (fun c hc => ?_)
      · obtain ⟨a, c0, t, hm, ht, e1, e2⟩ := mem_next.mp hc
        have hb := ih a
        rw [(valI_mem hnd).mp hm] at hb
        obtain ⟨ts, r⟩ := hb.1
        rw [e1, e2]
        exact ⟨_, run_snoc r ht⟩
      · obtain ⟨ts, r⟩ := hc
        obtain ⟨ts', t, b', c', _, r', ht, e1, e2⟩ := run_unsnoc _ r
        have hb := ih b'
        cases hv : valI (rowI w s p (word.take k)) b' with
        | none => rw [hv] at hb; exact absurd ⟨ts', r'⟩ (hb c')
        | some c0 =>
          rw [hv] at hb
          have := hb.2 c' ⟨ts', r'⟩
          exact ⟨c0 + stepCost t b'.2 s, by omega, mem_next.mpr ⟨b', c0, t, (valI_mem hnd).mpr hv, ht, e1, rfl⟩⟩
  have h := this word.length (Nat.le_refl _) st
  rwa [List.take_length] at h
end Sw
local macro_rules | `(tactic| walk_at "go1") => `(tactic| first
  | with_reducible refine Sw.h_seqasg ?_
  | with_reducible refine Sw.h_op ?_
  | with_reducible refine Sw.h_varS rfl ?_
  | with_reducible refine Sw.h_varO rfl ?_
  | with_reducible refine Sw.h_c ?_
  | with_reducible refine Sw.h_I0 ?_
  | with_reducible refine Sw.h_cons ?_
  | with_reducible refine Sw.h_consT rfl ?_
  | with_reducible refine Sw.h_consC rfl ?_
  | with_reducible refine Sw.h_nil ?_
  | with_reducible refine Sw.h_call ?_
  | with_reducible refine Sw.h_un ?_
  | with_reducible refine Sw.h_test ?_
  | with_reducible refine Sw.h_bl ?_
  | with_reducible refine Sw.h_seqdrop ?_
  | with_reducible refine Sw.h_asS ?_
  | with_reducible refine Sw.h_asO ?_
  | with_reducible refine Sw.h_ne1 ?_
  | with_reducible refine Sw.h_ne2 ?_
  | with_reducible refine Sw.h_asg ?_
  | with_reducible refine Sw.h_drop ?_
  | with_reducible refine Sw.h_ret ?_
  | with_reducible refine Sw.h_retS rfl ?_
  | with_reducible refine Sw.h_retO rfl ?_
  | with_reducible refine Sw.h_retN ?_
  | with_reducible refine Sw.h_next ?_
  | with_reducible refine Sw.h_if ?_
  | with_reducible refine Sw.h_frzO rfl ?_
  | with_reducible refine Sw.h_frzS rfl ?_
  | with_reducible refine Sw.h_and ?_
  | with_reducible refine Sw.h_or ?_
  | with_reducible refine Sw.h_not ?_
  | with_reducible refine Sw.h_yes ?_
  | with_reducible refine Sw.h_andV ?_
  | with_reducible refine Sw.h_orV ?_
  | with_reducible refine Sw.h_notV ?_
  | with_reducible refine Sw.h_ifE ?_
  | with_reducible refine Sw.h_chain ?_
  | with_reducible refine Sw.h_lenC rfl ?_
  | with_reducible refine Sw.h_tup ?_
  | with_reducible refine Sw.h_lst ?_
  | with_reducible refine Sw.h_shs0 ?_
  | with_reducible refine Sw.h_shs1 ?_
  | with_reducible refine Sw.h_shs2 ?_
  | with_reducible refine Sw.h_shs3 ?_
  | with_reducible refine Sw.h_shs4 ?_
  | with_reducible refine Sw.h_sl ?_
  | with_reducible refine Sw.h_nopart ?_
  | with_reducible refine Sw.h_part ?_
  | with_reducible refine Sw.h_int ?_
  | with_reducible refine Sw.h_neg ?_
  | with_reducible refine Sw.h_S ?_
  | with_reducible refine Sw.h_inSign ?_
  | with_reducible refine Sw.h_notInSign ?_
  | with_reducible refine Sw.h_isN ?_
  | with_reducible refine Sw.h_notN ?_
  | with_reducible refine Sw.h_eq rfl ?_
  | with_reducible refine Sw.h_ne rfl ?_
  | with_reducible refine Sw.h_lenL ?_
  | with_reducible refine Sw.h_lenT ?_
  | with_reducible refine Sw.h_abs ?_
  | with_reducible refine Sw.h_max2 ?_
  | with_reducible refine Sw.h_min2 ?_
  | with_reducible refine Sw.h_int1b ?_
  | with_reducible refine Sw.h_sum ?_
  | with_reducible refine Sw.h_listOf ?_
  | with_reducible refine Sw.h_slL ?_
  | with_reducible refine Sw.h_slT ?_
  | with_reducible refine Sw.h_revL ?_
  | with_reducible refine Sw.h_newK ?_
  | with_reducible refine Sw.h_newT ?_
  | with_reducible refine Sw.h_seqfor ?_
  | with_reducible refine Sw.h_seqforD ?_
  | with_reducible refine Sw.h_dispT ?_
  | with_reducible refine Sw.h_LM ?_
  | with_reducible refine Sw.h_for ?_
  | with_reducible refine Sw.h_iList ?_
  | with_reducible refine Sw.h_iTup ?_
  | with_reducible refine Sw.h_iStr ?_
  | with_reducible refine Sw.h_iR1 ?_
  | with_reducible refine Sw.h_iR2 ?_
  | with_reducible refine Sw.h_iR3 ?_
  | with_reducible refine Sw.h_iEnum ?_
  | with_reducible refine Sw.h_iZip ?_
  | with_reducible refine Sw.h_iZipS ?_
  | with_reducible refine Sw.h_lst1 ?_
  | with_reducible refine Sw.h_tup1 ?_
  | with_reducible refine Sw.h_str1 ?_
  | with_reducible refine Sw.h_lc ?_
  | with_reducible refine Sw.h_gN ?_
  | with_reducible refine Sw.h_gT rfl ?_
  | with_reducible refine Sw.h_gC ?_
  | with_reducible refine Sw.h_gE ?_
  | with_reducible refine Sw.h_asgG ?_
  | with_reducible refine Sw.h_forD ?_
  | with_reducible refine Sw.h_raise ?_
  | with_reducible refine Sw.h_seqasgG ?_
  | with_reducible refine Sw.h_seqfrzO rfl ?_
  | with_reducible refine Sw.h_seqfrzS rfl ?_
  | with_reducible refine Sw.h_isi rfl rfl ?_
  | with_reducible refine Sw.h_ixT rfl ?_
  | with_reducible refine Sw.h_seq1 ?_
  | with_reducible refine L2.iteT ?_ | with_reducible refine L2.iteF ?_ | with_reducible refine Sw.iteNT ?_ | with_reducible refine Sw.iteNF ?_ | refine Sw.h_np rfl ?_)
local macro_rules | `(tactic| walk_at "go") => `(tactic| repeat walk_at "go1")
local macro_rules | `(tactic| walk_at "sz") => `(tactic| first
  | omega
  | decide
  | (simp only [List.length_append, List.length_map, List.length_cons, List.length_nil, List.length_take, List.length_drop, List.length_reverse, List.length_set, List.length_replicate, List.length_range]; omega)
  | (refine Nat.le_trans (Sw.cut_len _ _ _) ?_; omega))
local macro_rules | `(tactic| walk_at "gx1") => `(tactic| first
  | walk_at "go1"
  | refine Sw.c_draw (by omega) (by omega) (fun _ _ _ => ?_)
  | refine Sw.c_letters (by omega) (by omega) (by omega) (by omega) (fun _ _ _ => ?_)
  | refine Sw.c_wheel (by omega) (by omega) (fun _ _ _ _ => ?_)
  | refine Sw.c_word (by walk_at "sz") (by walk_at "sz") (by omega) (by omega) (fun _ _ _ => ?_)
  | refine Sw.c_bent (by walk_at "sz") (by assumption) (fun _ _ _ => ?_)
  | refine Sw.c_lis_word (by walk_at "sz") (by assumption) ?_
  | refine Sw.h_sc rfl ?_
  | refine Sw.h_lenS (by walk_at "sz") ?_
  | refine Sw.h_slS (by walk_at "sz") ?_
  | refine Sw.h_addS (by walk_at "sz") ?_
  | refine Sw.h_I (by omega) ?_
  | refine Sw.h_I (Sw.cm (by omega) (by omega) (by omega) (by omega)) ?_
  | refine Sw.h_I (Sw.cd (by omega) (by omega)) ?_
  | refine Sw.h_I ⟨by decide, by decide, by decide⟩ ?_
  | refine Sw.h_gT rfl ?_
  | refine Sw.h_ixT rfl ?_
  | refine Sw.h_ixL rfl ?_
  | refine Sw.h_appE rfl ?_
  | refine Sw.h_appK rfl (by decide) (by walk_at "sz") ?_
  | refine Sw.h_setLE rfl ?_
  | refine Sw.h_putTE rfl ?_
  | refine Sw.h_putKE rfl ?_
  | refine Sw.h_tupOf ?_
  | refine Sw.h_listOfT ?_
  | refine Sw.h_orS ?_
  | refine And.intro (by omega) (And.intro (by omega) ?_))
local macro_rules | `(tactic| walk_at "gx") => `(tactic| repeat walk_at "gx1")
namespace Sw
open PySem PySem.Spec PyProof.Rows L2 SX
def encStep (x : Stp) : D := .tup [.int x.1, encP x.2.1, .int x.2.2]
def encRow (R : Row) : D := .dT (R.map fun e => (encK e.1, .int e.2))
theorem row_get (R : Row) (st : Std) : getD' (R.map fun e => (encK e.1, D.int e.2)) (encK st) = (valI R st).map D.int := getA_enc encK_inj D.int R st
theorem row_put (R : Row) (st : Std) (c : Int) : putD (R.map fun e => (encK e.1, D.int e.2)) (encK st) (.int c) = (putI R st c).map fun e => (encK e.1, D.int e.2) := putA_enc encK_inj D.int R st c
def psp_way_of : PSp := fun as Q _ => ∃ t w : Int, as = [.sh (.int t), .sh (.int w)] ∧ Q .sh (.int (wayOf t w))
theorem ln_way_of {as : List Ar} {Q : Md → D → Prop} {E : Nat → Prop} (h : psp_way_of as Q E) : as.length = 2 := by obtain ⟨_, _, rfl, _⟩ := h; rfl
def t_way_of (K : PySem.W.Frag) (c : Cl) : TS :=
  (tSeq (tIfS (tTest (tOp rGt (tVar 0) (tC (.int 0)))) (tRet (tC (.int 1))) tNext)
  (tSeq (tIfS (tTest (tOp rLt (tVar 0) (tC (.int 0)))) (tRet (tUn rNeg (tC (.int 1)))) tNext)
  (tRet (tVar 1))))
def q_way_of : QS :=
  (qSeq (qIfS (qTest (qOp pGt (qVar 0) (qC (.int 0)))) (qRet (qC (.int 1))) qNext)
  (qSeq (qIfS (qTest (qOp pLt (qVar 0) (qC (.int 0)))) (qRet (qUn pNeg (qC (.int 1)))) qNext)
  (qRetV 1)))
theorem sim_way_of {K : PySem.W.Frag} {c : Cl} (t : Option Addr) (E : XK) (Ep : XP) : SimS K c t (fun _ => E) Ep (t_way_of K c) q_way_of :=
  (s_seq (s_ifS (s_test (s_op o_gt (s_var 0) (s_c fun _ => rfl))) (s_ret (s_c fun _ => rfl)) s_next)
  (s_seq (s_ifS (s_test (s_op o_lt (s_var 0) (s_c fun _ => rfl))) (s_ret (s_un o_neg (s_c fun _ => rfl))) s_next)
  (s_retV (i := 1))))

theorem pr_way_of {as : List Ar} {Q : Md → D → Prop} {E : Nat → Prop} (h : psp_way_of as Q E) : q_way_of { nx := fun _ => Q .sh .non, rt := Q } (dstart 2 as) := by
  obtain ⟨t, w, rfl, q⟩ := h
  show q_way_of _ [some (.sh (.int t)), some (.sh (.int w))]
  unfold q_way_of
  unfold wayOf at q
  walk_at "go"
  refine ite_p (fun h => ?_) (fun h => ?_)
  · walk_at "go"
    rw [if_pos h] at q; exact q
  · walk_at "go"
    rw [if_neg h] at q
    refine ite_p (fun h => ?_) (fun h => ?_)
    · walk_at "go"
      rw [if_pos h] at q; exact q
    · walk_at "go"
      rw [if_neg h] at q; exact q
theorem rd_way_of {K : PySem.W.Frag} {c : Cl} {vs : List V} {H : Hp} {Q : VK} {E : XK} (h : lift K c psp_way_of vs H Q E) : t_way_of K c { nx := fun _ H' => Q .non H', rt := Q } (start ["turn", "way"] vs) H :=
  rd_of (ts := fun _ => t_way_of K c) (qs := fun _ => q_way_of) (fun t e ep => sim_way_of t e ep) (fun as Qp Ep h => Nat.le_trans (Nat.le_of_eq (ln_way_of h)) (by decide)) (fun as Qp Ep h => pr_way_of h) h

def psp_step_cost : PSp := fun as Q _ => ∃ t w s : Int, as = [.sh (.int t), .sh (.int w), .sh (.int s)] ∧ Q .sh (.int (stepCost t w s))
theorem ln_step_cost {as : List Ar} {Q : Md → D → Prop} {E : Nat → Prop} (h : psp_step_cost as Q E) : as.length = 3 := by obtain ⟨_, _, _, rfl, _⟩ := h; rfl
def t_step_cost (K : PySem.W.Frag) (c : Cl) : TS :=
  (tSeq (tAsg (tCall (lift K c psp_way_of) [] E0 (tCons (tVar 0) (tCons (tVar 1) tNil))) (gName 3))
  (tSeq (tIfS (tAnd (tTest (tOp rNe (tVar 1) (tC (.int 0)))) (tTest (tOp rNe (tVar 3) (tVar 1)))) (tRet (tOp rAdd (tCB rAbs (tCons (tVar 0) tNil)) (tVar 2))) tNext)
  (tRet (tCB rAbs (tCons (tVar 0) tNil)))))
def q_step_cost : QS :=
  (qSeq (qAsg (qCall psp_way_of P0 (qCons (qVar 0) (qCons (qVar 1) qNil))) 3)
  (qSeq (qIfS (qAnd (qTest (qOp pNe (qVar 1) (qC (.int 0)))) (qTest (qOp pNe (qVar 3) (qVar 1)))) (qRet (qOp pAdd (qUn pAbs (qVar 0)) (qVar 2))) qNext)
  (qRet (qUn pAbs (qVar 0)))))
theorem sim_step_cost {K : PySem.W.Frag} {c : Cl} (t : Option Addr) (E : XK) (Ep : XP) : SimS K c t (fun _ => E) Ep (t_step_cost K c) q_step_cost :=
  (s_seq (s_asg (s_call0 (s_cons (s_var 0) (s_cons (s_var 1) s_nil))))
  (s_seq (s_ifS (s_and (s_test (s_op o_ne (s_var 1) (s_c fun _ => rfl))) (s_test (s_op o_ne (s_var 3) (s_var 1)))) (s_ret (s_op o_add (s_cb1 (r := rAbs) o_abs (s_var 0)) (s_var 2))) s_next)
  (s_ret (s_cb1 (r := rAbs) o_abs (s_var 0)))))

theorem pr_step_cost {as : List Ar} {Q : Md → D → Prop} {E : Nat → Prop} (h : psp_step_cost as Q E) : q_step_cost { nx := fun _ => Q .sh .non, rt := Q } (dstart 4 as) := by
  obtain ⟨t, w, s, rfl, q⟩ := h
  show q_step_cost _ [some (.sh (.int t)), some (.sh (.int w)), some (.sh (.int s)), none]
  unfold q_step_cost
  unfold stepCost absI at q
  walk_at "go"
  refine ⟨t, w, rfl, h_sc rfl ?_⟩
  walk_at "go"
  by_cases h1 : w = 0
  · rw [decide_eq_true h1]
    walk_at "go"
    rw [if_neg (fun z => z.1 h1)] at q
    exact q
  · rw [decide_eq_false h1]
    walk_at "go"
    by_cases h2 : wayOf t w = w
    · rw [decide_eq_true h2]
      walk_at "go"
      rw [if_neg (fun z => z.2 h2)] at q
      exact q
    · rw [decide_eq_false h2]
      walk_at "go"
      rw [if_pos ⟨h1, h2⟩] at q
      exact q
theorem rd_step_cost {K : PySem.W.Frag} {c : Cl} {vs : List V} {H : Hp} {Q : VK} {E : XK} (h : lift K c psp_step_cost vs H Q E) : t_step_cost K c { nx := fun _ H' => Q .non H', rt := Q } (start ["turn", "way", "slack", "later"] vs) H :=
  rd_of (ts := fun _ => t_step_cost K c) (qs := fun _ => q_step_cost) (fun t e ep => sim_step_cost t e ep) (fun as Qp Ep h => Nat.le_trans (Nat.le_of_eq (ln_step_cost h)) (by decide)) (fun as Qp Ep h => pr_step_cost h) h

def psp_turns_to : PSp := fun as Q _ => ∃ (w : List Nat) (p : Int) (sg : List Nat), as = [.sh (.str w), .sh (.int p), .sh (.str sg)] ∧ 1 ≤ w.length ∧ w.length ≤ 1000 ∧ Q .ow (.lst ((turnsTo w p sg).map .int))
theorem ln_turns_to {as : List Ar} {Q : Md → D → Prop} {E : Nat → Prop} (h : psp_turns_to as Q E) : as.length = 3 := by obtain ⟨_, _, _, rfl, _⟩ := h; rfl
def t_turns_to (K : PySem.W.Frag) (c : Cl) : TS :=
  (tSeq (tAsg (tCB rLenStr (tCons (tVar 0) tNil)) (gName 3))
  (tSeq (tAsg (tLst tNil) (gName 4))
  (tSeq (tFor (iRng2 (tCons (tOp rSub (tC (.int 1)) (tVar 3)) (tCons (tVar 3) tNil))) (gName 5)
  (tIfS (tTest (tOp rEq (tOp rIxS (tVar 0) (tOp rMod (tOp rAdd (tVar 1) (tVar 5)) (tVar 3))) (tVar 2))) (tDrop (tBM K "list" rAppend (tVar 4) (tCons (tVar 5) tNil))) tNext))
  (tRet (tVar 4)))))
def q_turns_to : QS :=
  (qSeq (qAsg (qUn pLenS (qVar 0)) 3)
  (qSeq (qAsg (qLst qNil) 4)
  (qSeq (qFor (qiR2 (qOp pSub (qC (.int 1)) (qVar 3)) (qVar 3)) (qgName 5)
  (qIfS (qTest (qOp pEq (qOp pIxS (qVar 0) (qOp pMod (qOp pAdd (qVar 1) (qVar 5)) (qVar 3))) (qVar 2))) (qAppS 4 (qVar 5)) qNext))
  (qRetV 4))))
theorem sim_turns_to {K : PySem.W.Frag} {c : Cl} (t : Option Addr) (E : XK) (Ep : XP) : SimS K c t (fun _ => E) Ep (t_turns_to K c) q_turns_to :=
  (s_seq (s_asg (s_cb1 (r := rLenStr) o_lenS (s_var 0)))
  (s_seq (s_asg (s_lst s_nil))
  (s_seq (s_for (si_r2 (s_op o_sub (s_c fun _ => rfl) (s_var 3)) (s_var 3)) sg_name
  (s_ifS (s_test (s_op o_eq (s_op o_ixS (s_var 0) (s_op o_mod (s_op o_add (s_var 1) (s_var 5)) (s_var 3))) (s_var 2))) (s_app K (i := 4) (s_var 5)) s_next))
  (s_retV (i := 4)))))

theorem hits_eq {w : List Nat} {p : Int} {sg : List Nat} {t : Int} : eqS (.str [w.getD ((p + t) % (w.length : Int)).toNat 0]) (.str sg) = some (hits w p sg t) := rfl
theorem pr_turns_to {as : List Ar} {Q : Md → D → Prop} {E : Nat → Prop} (h : psp_turns_to as Q E) : q_turns_to { nx := fun _ => Q .sh .non, rt := Q } (dstart 6 as) := by
  obtain ⟨w, p, sg, rfl, w1, w2, q⟩ := h
  show q_turns_to _ [some (.sh (.str w)), some (.sh (.int p)), some (.sh (.str sg)), none, none, none]
  unfold q_turns_to
  walk_at "go"
  refine h_lenS (by omega) ?_
  walk_at "go"
  refine ⟨_, _, rfl, rfl, ⟨by omega, by omega, by omega, by omega⟩, h_ne1 ?_⟩
  refine loop_inv (fun i δ => ∃ v, δ = [some (.sh (.str w)), some (.sh (.int p)), some (.sh (.str sg)), some (.sh (.int (w.length : Int))), some (.ow (.lst (((offs w.length i).filter (hits w p sg)).map .int))), v]) ⟨_, rfl⟩ (fun i d δ' N hd hI hN => ?_) (fun δ' hI => ?_)
  · obtain ⟨v, rfl⟩ := hI
    obtain ⟨hi, rfl⟩ := rng_at hd
    obtain ⟨b0, b1⟩ := emod_bd (z := p + (1 - (w.length : Int) + (i : Int))) (m := (w.length : Int)) (by omega)
    walk_at "go"
    refine h_I (by omega) ?_
    refine h_ixS (by omega) (getD_at b0 b1) ?_
    walk_at "go"
    show if hits w p sg (1 - (w.length : Int) + (i : Int)) = true then _ else _
    refine ite_b (fun hb => ?_) (fun hb => ?_)
    · rw [offs_succ, List.filter_append, List.map_append, List.filter_cons_of_pos hb] at hN
      refine h_appV rfl rfl ?_ (hN _ ⟨_, rfl⟩)
      rw [List.length_map]
      refine Nat.le_trans (List.length_filter_le _ _) ?_
      unfold offs
      simp
      omega
    · rw [offs_succ, List.filter_append, List.filter_cons_of_neg (by rw [hb]; exact Bool.false_ne_true), List.filter_nil, List.append_nil] at hN
      walk_at "go"
      exact hN _ ⟨_, rfl⟩
  · obtain ⟨v, rfl⟩ := hI
    walk_at "go"
    have e : ((rng (1 - (w.length : Int)) ((w.length : Int) - (1 - (w.length : Int))).toNat).map D.int).length = 2 * w.length - 1 := by unfold rng; simp; omega
    rw [e]
    exact q
theorem rd_turns_to {K : PySem.W.Frag} {c : Cl} {vs : List V} {H : Hp} {Q : VK} {E : XK} (h : lift K c psp_turns_to vs H Q E) : t_turns_to K c { nx := fun _ H' => Q .non H', rt := Q } (start ["wheel", "place", "sign", "many", "found", "turn"] vs) H :=
  rd_of (ts := fun _ => t_turns_to K c) (qs := fun _ => q_turns_to) (fun t e ep => sim_turns_to t e ep) (fun as Qp Ep h => Nat.le_trans (Nat.le_of_eq (ln_turns_to h)) (by decide)) (fun as Qp Ep h => pr_turns_to h) h

def psp_steps_from : PSp := fun as Q _ => ∃ (w : List Nat) (st : Std) (sg : List Nat) (s : Int), as = [.sh (.str w), .sh (encP st), .sh (.str sg), .sh (.int s)] ∧ 1 ≤ w.length ∧ w.length ≤ 1000 ∧ Q .ow (.lst ((stepsFrom w st sg s).map encStep))
theorem ln_steps_from {as : List Ar} {Q : Md → D → Prop} {E : Nat → Prop} (h : psp_steps_from as Q E) : as.length = 4 := by obtain ⟨_, _, _, _, rfl, _⟩ := h; rfl
def t_steps_from (K : PySem.W.Frag) (c : Cl) : TS :=
  (tSeq (tAsg (tVar 1) (gTup K 2 (gCons (gName 4) (gCons (gName 5) gNil))))
  (tSeq (tAsg (tLst tNil) (gName 6))
  (tSeq (tFor (iList K (tCall (lift K c psp_turns_to) [] E0 (tCons (tVar 0) (tCons (tVar 4) (tCons (tVar 2) tNil))))) (gName 7)
  (tSeq (tAsg (tTup (tCons (tOp rMod (tOp rAdd (tVar 4) (tVar 7)) (tCB rLenStr (tCons (tVar 0) tNil))) (tCons (tCall (lift K c psp_way_of) [] E0 (tCons (tVar 7) (tCons (tVar 5) tNil))) tNil))) (gName 8))
  (tDrop (tBM K "list" rAppend (tVar 6) (tCons (tTup (tCons (tVar 7) (tCons (tVar 8) (tCons (tCall (lift K c psp_step_cost) [] E0 (tCons (tVar 7) (tCons (tVar 5) (tCons (tVar 3) tNil)))) tNil)))) tNil)))))
  (tRet (tVar 6)))))
def q_steps_from : QS :=
  (qSeq (qAsgG (qVar 1) (qgTup 2 (qgCons (qgName 4) (qgCons (qgName 5) qgNil))))
  (qSeq (qAsg (qLst qNil) 6)
  (qSeq (qFor (qiList (qCall psp_turns_to P0 (qCons (qVar 0) (qCons (qVar 4) (qCons (qVar 2) qNil))))) (qgName 7)
  (qSeq (qAsg (qTup (qCons (qOp pMod (qOp pAdd (qVar 4) (qVar 7)) (qUn pLenS (qVar 0))) (qCons (qCall psp_way_of P0 (qCons (qVar 7) (qCons (qVar 5) qNil))) qNil))) 8)
  (qAppS 6 (qTup (qCons (qVar 7) (qCons (qVar 8) (qCons (qCall psp_step_cost P0 (qCons (qVar 7) (qCons (qVar 5) (qCons (qVar 3) qNil)))) qNil)))))))
  (qRetV 6))))
theorem sim_steps_from {K : PySem.W.Frag} {c : Cl} (t : Option Addr) (E : XK) (Ep : XP) : SimS K c t (fun _ => E) Ep (t_steps_from K c) q_steps_from :=
  (s_seq (s_asgG (s_var 1) (sg_tup (sg_cons sg_name (sg_cons sg_name sg_nil))))
  (s_seq (s_asg (s_lst s_nil))
  (s_seq (s_for (si_list (s_call0 (s_cons (s_var 0) (s_cons (s_var 4) (s_cons (s_var 2) s_nil))))) sg_name
  (s_seq (s_asg (s_tup (s_cons (s_op o_mod (s_op o_add (s_var 4) (s_var 7)) (s_cb1 (r := rLenStr) o_lenS (s_var 0))) (s_cons (s_call0 (s_cons (s_var 7) (s_cons (s_var 5) s_nil))) s_nil))))
  (s_app K (i := 6) (s_tup (s_cons (s_var 7) (s_cons (s_var 8) (s_cons (s_call0 (s_cons (s_var 7) (s_cons (s_var 5) (s_cons (s_var 3) s_nil)))) s_nil)))))))
  (s_retV (i := 6)))))

theorem pr_steps_from {as : List Ar} {Q : Md → D → Prop} {E : Nat → Prop} (h : psp_steps_from as Q E) : q_steps_from { nx := fun _ => Q .sh .non, rt := Q } (dstart 9 as) := by
  obtain ⟨w, st, sg, s, rfl, w1, w2, q⟩ := h
  show q_steps_from _ [some (.sh (.str w)), some (.sh (.tup [.int st.1, .int st.2])), some (.sh (.str sg)), some (.sh (.int s)), none, none, none, none, none]
  unfold q_steps_from
  walk_at "go"
  refine ⟨w, st.1, sg, rfl, w1, w2, ?_⟩
  walk_at "go"
  have ltn := turnsTo_len w st.1 sg
  refine loop_inv (fun i δ => ∃ v v', δ = [some (.sh (.str w)), some (.sh (.tup [.int st.1, .int st.2])), some (.sh (.str sg)), some (.sh (.int s)), some (.sh (.int st.1)), some (.sh (.int st.2)), some (.ow (.lst (((stepsFrom w st sg s).take i).map encStep))), v, v']) ⟨_, _, rfl⟩ (fun i d δ' N hd hI hN => ?_) (fun δ' hI => ?_)
  · obtain ⟨v, v', rfl⟩ := hI
    obtain ⟨tn, htn, rfl⟩ := map_at' hd
    have hst : (stepsFrom w st sg s)[i]? = some (tn, ((st.1 + tn) % (w.length : Int), wayOf tn st.2), stepCost tn st.2 s) := by unfold stepsFrom; rw [List.getElem?_map, htn]; rfl
    walk_at "go"
    refine h_lenS (by omega) ?_
    refine h_I (by omega) ?_
    walk_at "go"
    refine ⟨tn, st.2, rfl, ?_⟩
    walk_at "go"
    refine h_appE rfl ?_
    walk_at "go"
    refine ⟨tn, st.2, s, rfl, ?_⟩
    walk_at "go"
    rw [take_snoc hst, List.map_append] at hN
    refine h_appK rfl (by decide) ?_ (hN _ ⟨_, _, rfl⟩)
    rw [List.length_map, List.length_take]
    unfold stepsFrom
    rw [List.length_map]
    omega
  · obtain ⟨v, v', rfl⟩ := hI
    walk_at "go"
    have e : ((turnsTo w st.1 sg).map D.int).length = (stepsFrom w st sg s).length := by unfold stepsFrom; rw [List.length_map, List.length_map]
    rw [e, List.take_length]
    exact q
theorem rd_steps_from {K : PySem.W.Frag} {c : Cl} {vs : List V} {H : Hp} {Q : VK} {E : XK} (h : lift K c psp_steps_from vs H Q E) : t_steps_from K c { nx := fun _ H' => Q .non H', rt := Q } (start ["wheel", "stand", "sign", "slack", "place", "way", "found", "turn", "later"] vs) H :=
  rd_of (ts := fun _ => t_steps_from K c) (qs := fun _ => q_steps_from) (fun t e ep => sim_steps_from t e ep) (fun as Qp Ep h => Nat.le_trans (Nat.le_of_eq (ln_steps_from h)) (by decide)) (fun as Qp Ep h => pr_steps_from h) h

end Sw
local macro_rules | `(tactic| walk_at "go1") => `(tactic| first
  | with_reducible refine Sw.h_seqasg ?_
  | with_reducible refine Sw.h_op ?_
  | with_reducible refine Sw.h_varS rfl ?_
  | with_reducible refine Sw.h_varO rfl ?_
  | with_reducible refine Sw.h_c ?_
  | with_reducible refine Sw.h_I0 ?_
  | with_reducible refine Sw.h_cons ?_
  | with_reducible refine Sw.h_consT rfl ?_
  | with_reducible refine Sw.h_consC rfl ?_
  | with_reducible refine Sw.h_nil ?_
  | with_reducible refine Sw.h_call ?_
  | with_reducible refine Sw.h_un ?_
  | with_reducible refine Sw.h_test ?_
  | with_reducible refine Sw.h_bl ?_
  | with_reducible refine Sw.h_seqdrop ?_
  | with_reducible refine Sw.h_asS ?_
  | with_reducible refine Sw.h_asO ?_
  | with_reducible refine Sw.h_ne1 ?_
  | with_reducible refine Sw.h_ne2 ?_
  | with_reducible refine Sw.h_asg ?_
  | with_reducible refine Sw.h_drop ?_
  | with_reducible refine Sw.h_ret ?_
  | with_reducible refine Sw.h_retS rfl ?_
  | with_reducible refine Sw.h_retO rfl ?_
  | with_reducible refine Sw.h_retN ?_
  | with_reducible refine Sw.h_next ?_
  | with_reducible refine Sw.h_if ?_
  | with_reducible refine Sw.h_frzO rfl ?_
  | with_reducible refine Sw.h_frzS rfl ?_
  | with_reducible refine Sw.h_and ?_
  | with_reducible refine Sw.h_or ?_
  | with_reducible refine Sw.h_not ?_
  | with_reducible refine Sw.h_yes ?_
  | with_reducible refine Sw.h_andV ?_
  | with_reducible refine Sw.h_orV ?_
  | with_reducible refine Sw.h_notV ?_
  | with_reducible refine Sw.h_ifE ?_
  | with_reducible refine Sw.h_chain ?_
  | with_reducible refine Sw.h_lenC rfl ?_
  | with_reducible refine Sw.h_tup ?_
  | with_reducible refine Sw.h_lst ?_
  | with_reducible refine Sw.h_shs0 ?_
  | with_reducible refine Sw.h_shs1 ?_
  | with_reducible refine Sw.h_shs2 ?_
  | with_reducible refine Sw.h_shs3 ?_
  | with_reducible refine Sw.h_shs4 ?_
  | with_reducible refine Sw.h_sl ?_
  | with_reducible refine Sw.h_nopart ?_
  | with_reducible refine Sw.h_part ?_
  | with_reducible refine Sw.h_int ?_
  | with_reducible refine Sw.h_neg ?_
  | with_reducible refine Sw.h_S ?_
  | with_reducible refine Sw.h_inSign ?_
  | with_reducible refine Sw.h_notInSign ?_
  | with_reducible refine Sw.h_isN ?_
  | with_reducible refine Sw.h_notN ?_
  | with_reducible refine Sw.h_eq rfl ?_
  | with_reducible refine Sw.h_ne rfl ?_
  | with_reducible refine Sw.h_lenL ?_
  | with_reducible refine Sw.h_lenT ?_
  | with_reducible refine Sw.h_abs ?_
  | with_reducible refine Sw.h_max2 ?_
  | with_reducible refine Sw.h_min2 ?_
  | with_reducible refine Sw.h_int1b ?_
  | with_reducible refine Sw.h_sum ?_
  | with_reducible refine Sw.h_listOf ?_
  | with_reducible refine Sw.h_slL ?_
  | with_reducible refine Sw.h_slT ?_
  | with_reducible refine Sw.h_revL ?_
  | with_reducible refine Sw.h_newK ?_
  | with_reducible refine Sw.h_newT ?_
  | with_reducible refine Sw.h_seqfor ?_
  | with_reducible refine Sw.h_seqforD ?_
  | with_reducible refine Sw.h_dispT ?_
  | with_reducible refine Sw.h_LM ?_
  | with_reducible refine Sw.h_for ?_
  | with_reducible refine Sw.h_iList ?_
  | with_reducible refine Sw.h_iTup ?_
  | with_reducible refine Sw.h_iStr ?_
  | with_reducible refine Sw.h_iR1 ?_
  | with_reducible refine Sw.h_iR2 ?_
  | with_reducible refine Sw.h_iR3 ?_
  | with_reducible refine Sw.h_iEnum ?_
  | with_reducible refine Sw.h_iZip ?_
  | with_reducible refine Sw.h_iZipS ?_
  | with_reducible refine Sw.h_lst1 ?_
  | with_reducible refine Sw.h_tup1 ?_
  | with_reducible refine Sw.h_str1 ?_
  | with_reducible refine Sw.h_lc ?_
  | with_reducible refine Sw.h_gN ?_
  | with_reducible refine Sw.h_gT rfl ?_
  | with_reducible refine Sw.h_gC ?_
  | with_reducible refine Sw.h_gE ?_
  | with_reducible refine Sw.h_asgG ?_
  | with_reducible refine Sw.h_forD ?_
  | with_reducible refine Sw.h_raise ?_
  | with_reducible refine Sw.h_seqasgG ?_
  | with_reducible refine Sw.h_seqfrzO rfl ?_
  | with_reducible refine Sw.h_seqfrzS rfl ?_
  | with_reducible refine Sw.h_isi rfl rfl ?_
  | with_reducible refine Sw.h_ixT rfl ?_
  | with_reducible refine Sw.h_seq1 ?_
  | with_reducible refine L2.iteT ?_ | with_reducible refine L2.iteF ?_ | with_reducible refine Sw.iteNT ?_ | with_reducible refine Sw.iteNF ?_ | refine Sw.h_np rfl ?_)
local macro_rules | `(tactic| walk_at "go") => `(tactic| repeat walk_at "go1")
local macro_rules | `(tactic| walk_at "sz") => `(tactic| first
  | omega
  | decide
  | (simp only [List.length_append, List.length_map, List.length_cons, List.length_nil, List.length_take, List.length_drop, List.length_reverse, List.length_set, List.length_replicate, List.length_range]; omega)
  | (refine Nat.le_trans (Sw.cut_len _ _ _) ?_; omega))
local macro_rules | `(tactic| walk_at "gx1") => `(tactic| first
  | walk_at "go1"
  | refine Sw.c_draw (by omega) (by omega) (fun _ _ _ => ?_)
  | refine Sw.c_letters (by omega) (by omega) (by omega) (by omega) (fun _ _ _ => ?_)
  | refine Sw.c_wheel (by omega) (by omega) (fun _ _ _ _ => ?_)
  | refine Sw.c_word (by walk_at "sz") (by walk_at "sz") (by omega) (by omega) (fun _ _ _ => ?_)
  | refine Sw.c_bent (by walk_at "sz") (by assumption) (fun _ _ _ => ?_)
  | refine Sw.c_lis_word (by walk_at "sz") (by assumption) ?_
  | refine Sw.h_sc rfl ?_
  | refine Sw.h_lenS (by walk_at "sz") ?_
  | refine Sw.h_slS (by walk_at "sz") ?_
  | refine Sw.h_addS (by walk_at "sz") ?_
  | refine Sw.h_I (by omega) ?_
  | refine Sw.h_I (Sw.cm (by omega) (by omega) (by omega) (by omega)) ?_
  | refine Sw.h_I (Sw.cd (by omega) (by omega)) ?_
  | refine Sw.h_I ⟨by decide, by decide, by decide⟩ ?_
  | refine Sw.h_gT rfl ?_
  | refine Sw.h_ixT rfl ?_
  | refine Sw.h_ixL rfl ?_
  | refine Sw.h_appE rfl ?_
  | refine Sw.h_appK rfl (by decide) (by walk_at "sz") ?_
  | refine Sw.h_setLE rfl ?_
  | refine Sw.h_putTE rfl ?_
  | refine Sw.h_putKE rfl ?_
  | refine Sw.h_tupOf ?_
  | refine Sw.h_listOfT ?_
  | refine Sw.h_orS ?_
  | refine And.intro (by omega) (And.intro (by omega) ?_))
local macro_rules | `(tactic| walk_at "gx") => `(tactic| repeat walk_at "gx1")
namespace Sw
open PySem PySem.Spec PyProof.Rows L2 SX
/-! ### the least of a list of ints -/
def minL : List Int → Int
  | [] => 0
  | x :: xs => xs.foldl min x
theorem fold_min_le : ∀ (xs : List Int) (a : Int), xs.foldl min a ≤ a ∧ ∀ y ∈ xs, xs.foldl min a ≤ y
  | [], a => ⟨Int.le_refl _, fun _ h => nomatch h⟩
  | x :: xs, a => by
    obtain ⟨h1, h2⟩ := fold_min_le xs (min a x)
    refine ⟨Int.le_trans h1 (Int.min_le_left a x), fun y hy => ?_⟩
    rcases List.mem_cons.mp hy with rfl | hy
    · exact Int.le_trans h1 (Int.min_le_right a _)
    · exact h2 y hy
theorem fold_min_mem : ∀ (xs : List Int) (a : Int), xs.foldl min a = a ∨ xs.foldl min a ∈ xs
  | [], a => .inl rfl
  | x :: xs, a => by
    rcases fold_min_mem xs (min a x) with h | h
    · rw [List.foldl_cons, h]
      by_cases z : a ≤ x
      · rw [Int.min_eq_left z]; exact .inl rfl
      · rw [Int.min_eq_right (by omega)]; exact .inr List.mem_cons_self
    · exact .inr (List.mem_cons_of_mem _ h)
theorem minL_mem {l : List Int} (h : l ≠ []) : minL l ∈ l := by
  cases l with
  | nil => exact absurd rfl h
  | cons x xs =>
    rcases fold_min_mem xs x with e | e
    · show xs.foldl min x ∈ x :: xs; rw [e]; exact List.mem_cons_self
    · exact List.mem_cons_of_mem _ e
theorem minL_le {l : List Int} {y : Int} (h : y ∈ l) : minL l ≤ y := by
  cases l with
  | nil => exact nomatch h
  | cons x xs =>
    obtain ⟨h1, h2⟩ := fold_min_le xs x
    rcases List.mem_cons.mp h with rfl | h
    · exact h1
    · exact h2 y h
theorem minL_uniq {l : List Int} {m : Int} (h : m ∈ l) (h' : ∀ y ∈ l, m ≤ y) : m = minL l := by
  have h1 := h' _ (minL_mem (List.ne_nil_of_mem h))
  have h2 := minL_le h
  omega
/-! ### what is left: the least cost, and in how many ways -/
def rc (w : List Nat) (s : Int) : List Nat → Std → Int
  | [], _ => 0
  | x :: word, st => minL ((stepsFrom w st [x] s).map fun e => rc w s word e.2.1 + e.2.2)
def rn (w : List Nat) (s : Int) : List Nat → Std → Int
  | [], _ => 1
  | x :: word, st => (((stepsFrom w st [x] s).filter fun e => decide (rc w s word e.2.1 + e.2.2 = rc w s (x :: word) st)).map fun e => rn w s word e.2.1).sum
theorem turnsTo_ne {w : List Nat} {c : Nat} (p : Int) (h : c ∈ w) : turnsTo w p [c] ≠ [] := by
  obtain ⟨j, hj, e⟩ := List.mem_iff_getElem.mp h
  have hn : 0 < w.length := by omega
  obtain ⟨b0, b1⟩ := emod_bd (z := (j : Int) - p) (m := (w.length : Int)) (by omega)
  refine List.ne_nil_of_mem ((mem_turnsTo (t := ((j : Int) - p) % (w.length : Int)) hn).mpr ⟨by omega, b1, ?_⟩)
  unfold hits
  rw [decide_eq_true_eq]
  have e1 : (p + ((j : Int) - p) % (w.length : Int)) % (w.length : Int) = (j : Int) := by
    rw [Int.add_emod, Int.emod_emod_of_dvd _ (Int.dvd_refl _), ← Int.add_emod, show p + ((j : Int) - p) = (j : Int) by omega]
    exact Int.emod_eq_of_lt (by omega) (by omega)
  rw [e1, Int.toNat_natCast, List.getD, List.getElem?_eq_getElem hj, e]
  rfl
theorem stepsFrom_ne {w : List Nat} {c : Nat} (st : Std) (s : Int) (h : c ∈ w) : stepsFrom w st [c] s ≠ [] := by
  unfold stepsFrom
  intro z
  exact turnsTo_ne st.1 h (List.map_eq_nil_iff.mp z)
theorem stepsFrom_len (w : List Nat) (st : Std) (sg : List Nat) (s : Int) : (stepsFrom w st sg s).length ≤ 2 * w.length - 1 := by
  unfold stepsFrom
  rw [List.length_map]
  exact turnsTo_len w st.1 sg
/-- where a step leads to is in the next row -/
theorem next_in {w : List Nat} {s : Int} {c : Nat} {R : Row} {e : Std × Int} {x : Stp} (he : e ∈ R) (hx : x ∈ stepsFrom w e.1 [c] s) : ∃ v, valI (rowNext w s [c] R) x.2.1 = some v := by
  have hb := relaxAll_best (nexts w s [c] R) x.2.1
  cases hv : valI (rowNext w s [c] R) x.2.1 with
  | some v => exact ⟨v, rfl⟩
  | none =>
    have hv' : valI (relaxAll (nexts w s [c] R)) x.2.1 = none := hv
    rw [hv'] at hb
    refine absurd ?_ (hb (e.2 + x.2.2))
    unfold nexts
    exact List.mem_flatMap.mpr ⟨e, he, by unfold nextOf; exact List.mem_map.mpr ⟨x, hx, rfl⟩⟩
abbrev RowP := List (Std × (Int × Int))
def restOf (w : List Nat) (s : Int) (word : List Nat) (R : Row) : RowP := R.map fun e => (e.1, (rc w s word e.1, rn w s word e.1))
def restRow (w : List Nat) (s : Int) (word : List Nat) (k : Nat) : RowP := restOf w s (word.drop k) (rowI w s 0 (word.take k))
def encRowP (R : RowP) : D := .dT (R.map fun e => (encK e.1, encP e.2))
theorem getA_keys {α β : Type} (f : Std → β) (R : List (Std × α)) (st : Std) : getA (R.map fun e => (e.1, f e.1)) st = (getA R st).map fun _ => f st := by
  induction R with
  | nil => rfl
  | cons e R ih =>
    rw [List.map_cons]
    by_cases h : e.1 = st
    · rw [getA_pos (show (e.1, f e.1).1 = st from h), getA_pos h, ← h]; rfl
    · rw [getA_neg (show (e.1, f e.1).1 ≠ st from h), ih, getA_neg h]
theorem putA_new {κ α : Type} [DecidableEq κ] {R : List (κ × α)} {k : κ} {v : α} (h : (R.any fun e => decide (e.1 = k)) = false) : putA R k v = R ++ [(k, v)] := by
  unfold putA
  rw [if_neg (by rw [h]; exact Bool.false_ne_true)]
/-- a table's rows are laid one by one -/
theorem lay_next {α : Type} {R : Row} {k : Nat} {e : Std × Int} (nd : Nd R) (h : R[k]? = some e) (f : Std → α) : putA ((R.take k).map fun e => (e.1, f e.1)) e.1 (f e.1) = (R.take (k + 1)).map fun e => (e.1, f e.1) := by
  rw [take_snoc h, List.map_append]
  refine putA_new ?_
  rw [List.any_eq_false]
  intro x hx z
  obtain ⟨y, hy, rfl⟩ := List.mem_map.mp hx
  have z' : y.1 = e.1 := by simpa using z
  obtain ⟨j, hj, ej⟩ := List.mem_iff_getElem.mp hy
  rw [List.length_take] at hj
  have hk : k < R.length := (List.getElem?_eq_some_iff.mp h).1
  have ey : R[j]? = some y := by rw [List.getElem_take] at ej; rw [List.getElem?_eq_getElem (by omega), ej]
  have n1 : (R.map (·.1))[j]? = some y.1 := by rw [List.getElem?_map, ey]; rfl
  have n2 : (R.map (·.1))[k]? = some e.1 := by rw [List.getElem?_map, h]; rfl
  have := (List.getElem?_inj (i := j) (j := k) (by rw [List.length_map]; omega) nd).mp (by rw [n1, n2, z'])
  omega
end Sw
local macro_rules | `(tactic| walk_at "go1") => `(tactic| first
  | with_reducible refine Sw.h_seqasg ?_
  | with_reducible refine Sw.h_op ?_
  | with_reducible refine Sw.h_varS rfl ?_
  | with_reducible refine Sw.h_varO rfl ?_
  | with_reducible refine Sw.h_c ?_
  | with_reducible refine Sw.h_I0 ?_
  | with_reducible refine Sw.h_cons ?_
  | with_reducible refine Sw.h_consT rfl ?_
  | with_reducible refine Sw.h_consC rfl ?_
  | with_reducible refine Sw.h_nil ?_
  | with_reducible refine Sw.h_call ?_
  | with_reducible refine Sw.h_un ?_
  | with_reducible refine Sw.h_test ?_
  | with_reducible refine Sw.h_bl ?_
  | with_reducible refine Sw.h_seqdrop ?_
  | with_reducible refine Sw.h_asS ?_
  | with_reducible refine Sw.h_asO ?_
  | with_reducible refine Sw.h_ne1 ?_
  | with_reducible refine Sw.h_ne2 ?_
  | with_reducible refine Sw.h_asg ?_
  | with_reducible refine Sw.h_drop ?_
  | with_reducible refine Sw.h_ret ?_
  | with_reducible refine Sw.h_retS rfl ?_
  | with_reducible refine Sw.h_retO rfl ?_
  | with_reducible refine Sw.h_retN ?_
  | with_reducible refine Sw.h_next ?_
  | with_reducible refine Sw.h_if ?_
  | with_reducible refine Sw.h_frzO rfl ?_
  | with_reducible refine Sw.h_frzS rfl ?_
  | with_reducible refine Sw.h_and ?_
  | with_reducible refine Sw.h_or ?_
  | with_reducible refine Sw.h_not ?_
  | with_reducible refine Sw.h_yes ?_
  | with_reducible refine Sw.h_andV ?_
  | with_reducible refine Sw.h_orV ?_
  | with_reducible refine Sw.h_notV ?_
  | with_reducible refine Sw.h_ifE ?_
  | with_reducible refine Sw.h_chain ?_
  | with_reducible refine Sw.h_lenC rfl ?_
  | with_reducible refine Sw.h_tup ?_
  | with_reducible refine Sw.h_lst ?_
  | with_reducible refine Sw.h_shs0 ?_
  | with_reducible refine Sw.h_shs1 ?_
  | with_reducible refine Sw.h_shs2 ?_
  | with_reducible refine Sw.h_shs3 ?_
  | with_reducible refine Sw.h_shs4 ?_
  | with_reducible refine Sw.h_sl ?_
  | with_reducible refine Sw.h_nopart ?_
  | with_reducible refine Sw.h_part ?_
  | with_reducible refine Sw.h_int ?_
  | with_reducible refine Sw.h_neg ?_
  | with_reducible refine Sw.h_S ?_
  | with_reducible refine Sw.h_inSign ?_
  | with_reducible refine Sw.h_notInSign ?_
  | with_reducible refine Sw.h_isN ?_
  | with_reducible refine Sw.h_notN ?_
  | with_reducible refine Sw.h_eq rfl ?_
  | with_reducible refine Sw.h_ne rfl ?_
  | with_reducible refine Sw.h_lenL ?_
  | with_reducible refine Sw.h_lenT ?_
  | with_reducible refine Sw.h_abs ?_
  | with_reducible refine Sw.h_max2 ?_
  | with_reducible refine Sw.h_min2 ?_
  | with_reducible refine Sw.h_int1b ?_
  | with_reducible refine Sw.h_sum ?_
  | with_reducible refine Sw.h_listOf ?_
  | with_reducible refine Sw.h_slL ?_
  | with_reducible refine Sw.h_slT ?_
  | with_reducible refine Sw.h_revL ?_
  | with_reducible refine Sw.h_newK ?_
  | with_reducible refine Sw.h_newT ?_
  | with_reducible refine Sw.h_seqfor ?_
  | with_reducible refine Sw.h_seqforD ?_
  | with_reducible refine Sw.h_dispT ?_
  | with_reducible refine Sw.h_LM ?_
  | with_reducible refine Sw.h_for ?_
  | with_reducible refine Sw.h_iList ?_
  | with_reducible refine Sw.h_iTup ?_
  | with_reducible refine Sw.h_iStr ?_
  | with_reducible refine Sw.h_iR1 ?_
  | with_reducible refine Sw.h_iR2 ?_
  | with_reducible refine Sw.h_iR3 ?_
  | with_reducible refine Sw.h_iEnum ?_
  | with_reducible refine Sw.h_iZip ?_
  | with_reducible refine Sw.h_iZipS ?_
  | with_reducible refine Sw.h_lst1 ?_
  | with_reducible refine Sw.h_tup1 ?_
  | with_reducible refine Sw.h_str1 ?_
  | with_reducible refine Sw.h_lc ?_
  | with_reducible refine Sw.h_gN ?_
  | with_reducible refine Sw.h_gT rfl ?_
  | with_reducible refine Sw.h_gC ?_
  | with_reducible refine Sw.h_gE ?_
  | with_reducible refine Sw.h_asgG ?_
  | with_reducible refine Sw.h_forD ?_
  | with_reducible refine Sw.h_raise ?_
  | with_reducible refine Sw.h_seqasgG ?_
  | with_reducible refine Sw.h_seqfrzO rfl ?_
  | with_reducible refine Sw.h_seqfrzS rfl ?_
  | with_reducible refine Sw.h_isi rfl rfl ?_
  | with_reducible refine Sw.h_ixT rfl ?_
  | with_reducible refine Sw.h_seq1 ?_
  | with_reducible refine L2.iteT ?_ | with_reducible refine L2.iteF ?_ | with_reducible refine Sw.iteNT ?_ | with_reducible refine Sw.iteNF ?_ | refine Sw.h_np rfl ?_)
local macro_rules | `(tactic| walk_at "go") => `(tactic| repeat walk_at "go1")
local macro_rules | `(tactic| walk_at "sz") => `(tactic| first
  | omega
  | decide
  | (simp only [List.length_append, List.length_map, List.length_cons, List.length_nil, List.length_take, List.length_drop, List.length_reverse, List.length_set, List.length_replicate, List.length_range]; omega)
  | (refine Nat.le_trans (Sw.cut_len _ _ _) ?_; omega))
local macro_rules | `(tactic| walk_at "gx1") => `(tactic| first
  | walk_at "go1"
  | refine Sw.c_draw (by omega) (by omega) (fun _ _ _ => ?_)
  | refine Sw.c_letters (by omega) (by omega) (by omega) (by omega) (fun _ _ _ => ?_)
  | refine Sw.c_wheel (by omega) (by omega) (fun _ _ _ _ => ?_)
  | refine Sw.c_word (by walk_at "sz") (by walk_at "sz") (by omega) (by omega) (fun _ _ _ => ?_)
  | refine Sw.c_bent (by walk_at "sz") (by assumption) (fun _ _ _ => ?_)
  | refine Sw.c_lis_word (by walk_at "sz") (by assumption) ?_
  | refine Sw.h_sc rfl ?_
  | refine Sw.h_lenS (by walk_at "sz") ?_
  | refine Sw.h_slS (by walk_at "sz") ?_
  | refine Sw.h_addS (by walk_at "sz") ?_
  | refine Sw.h_I (by omega) ?_
  | refine Sw.h_I (Sw.cm (by omega) (by omega) (by omega) (by omega)) ?_
  | refine Sw.h_I (Sw.cd (by omega) (by omega)) ?_
  | refine Sw.h_I ⟨by decide, by decide, by decide⟩ ?_
  | refine Sw.h_gT rfl ?_
  | refine Sw.h_ixT rfl ?_
  | refine Sw.h_ixL rfl ?_
  | refine Sw.h_appE rfl ?_
  | refine Sw.h_appK rfl (by decide) (by walk_at "sz") ?_
  | refine Sw.h_setLE rfl ?_
  | refine Sw.h_putTE rfl ?_
  | refine Sw.h_putKE rfl ?_
  | refine Sw.h_tupOf ?_
  | refine Sw.h_listOfT ?_
  | refine Sw.h_orS ?_
  | refine And.intro (by omega) (And.intro (by omega) ?_))
local macro_rules | `(tactic| walk_at "gx") => `(tactic| repeat walk_at "gx1")
namespace Sw
open PySem PySem.Spec PyProof.Rows L2 SX
/-- the first refusal that is due, or none -/
def errandDue (w word : List Nat) (s : Int) : Option Nat := if isWheel w = false then some 11 else if isWord word = false then some 12 else if ¬ (0 ≤ s ∧ s ≤ 9) then some 8 else if word.all (fun c => decide (c ∈ w)) = false then some 0 else none
def psp_look_at_errand : PSp := fun as Q E => ∃ (w word : List Nat) (s : Int), as = [.sh (.str w), .sh (.str word), .sh (.int s)] ∧ w.length ≤ 1000000 ∧ word.length ≤ 1000000 ∧ (match errandDue w word s with | none => Q .sh .non | some n => E n)
theorem ln_look_at_errand {as : List Ar} {Q : Md → D → Prop} {E : Nat → Prop} (h : psp_look_at_errand as Q E) : as.length = 3 := by obtain ⟨_, _, _, rfl, _⟩ := h; rfl
def t_look_at_errand (K : PySem.W.Frag) (c : Cl) (E : XK) : TS :=
  (tSeq (tDrop (tCall (lift K c psp_look_at_wheel) [] E (tCons (tVar 0) tNil)))
  (tSeq (tDrop (tCall (lift K c psp_look_at_word) [] E (tCons (tVar 1) tNil)))
  (tSeq (tDrop (tCall (lift K c psp_look_at_slack) [] E (tCons (tVar 2) tNil)))
  (tFor (iStr (tVar 1)) (gName 3)
  (tIfS (tTest (tOp rNotInSign (tVar 3) (tVar 0))) (tRaise E c.Lacks) tNext)))))
def q_look_at_errand (Ep : XP) : QS :=
  (qSeq (qDrop (qCall psp_look_at_wheel Ep (qCons (qVar 0) qNil)))
  (qSeq (qDrop (qCall psp_look_at_word Ep (qCons (qVar 1) qNil)))
  (qSeq (qDrop (qCall psp_look_at_slack Ep (qCons (qVar 2) qNil)))
  (qFor (qiStr (qVar 1)) (qgName 3)
  (qIfS (qTest (qOp pNotInSign (qVar 3) (qVar 0))) (qRaise Ep 0) qNext)))))
theorem sim_look_at_errand {K : PySem.W.Frag} {c : Cl} (t : Option Addr) (E : XK) (Ep : XP) : SimS K c t (fun _ => E) Ep (t_look_at_errand K c E) (q_look_at_errand Ep) :=
  (s_seq (s_drop (s_callX (s_cons (s_var 0) s_nil)))
  (s_seq (s_drop (s_callX (s_cons (s_var 1) s_nil)))
  (s_seq (s_drop (s_callX (s_cons (s_var 2) s_nil)))
  (s_for (si_str (s_var 1)) sg_name
  (s_ifS (s_test (s_op o_notInSign (s_var 3) (s_var 0))) (s_raise (n := 0)) s_next)))))

theorem pr_look_at_errand {as : List Ar} {Q : Md → D → Prop} {E : Nat → Prop} (h : psp_look_at_errand as Q E) : q_look_at_errand (fun _ n => E n) { nx := fun _ => Q .sh .non, rt := Q } (dstart 4 as) := by
  obtain ⟨w, word, s, rfl, l1, l2, q⟩ := h
  show q_look_at_errand _ _ [some (.sh (.str w)), some (.sh (.str word)), some (.sh (.int s)), none]
  unfold q_look_at_errand
  unfold errandDue at q
  walk_at "go"
  refine ⟨.str w, rfl, l1, fun h1 => h_sc rfl ?_, fun h1 => by rw [if_pos (show isWheel w = false from h1)] at q; exact q⟩
  rw [if_neg (by rw [show isWheel w = true from h1]; decide)] at q
  walk_at "go"
  refine ⟨.str word, rfl, l2, fun h2 => h_sc rfl ?_, fun h2 => by rw [if_pos (show isWord word = false from h2)] at q; exact q⟩
  rw [if_neg (by rw [show isWord word = true from h2]; decide)] at q
  walk_at "go"
  refine ⟨s, rfl, fun h3 => h_sc rfl ?_, fun h3 => by rw [if_pos h3] at q; exact q⟩
  rw [if_neg (fun z => z h3)] at q
  walk_at "go"
  refine loop_inv (fun i δ => (word.take i).all (fun c => decide (c ∈ w)) = true ∧ ∃ v, δ = [some (.sh (.str w)), some (.sh (.str word)), some (.sh (.int s)), v]) ⟨rfl, _, rfl⟩ (fun i d δ' N hd hI hN => ?_) (fun δ' hI => ?_)
  · obtain ⟨ha, v, rfl⟩ := hI
    obtain ⟨c, hc, rfl⟩ := map_at' hd
    walk_at "go"
    refine ite_b (fun hb => ?_) (fun hb => ?_)
    · walk_at "go"
      have e : word.all (fun c => decide (c ∈ w)) = false := by
        rw [List.all_eq_false]
        exact ⟨c, List.mem_of_getElem? hc, by intro z; rw [z] at hb; cases hb⟩
      rw [if_pos e] at q
      exact q
    · walk_at "go"
      refine hN _ ⟨?_, _, rfl⟩
      rw [all_take hc, ha]
      simpa using hb
  · obtain ⟨ha, v, rfl⟩ := hI
    rw [List.length_map, List.take_length] at ha
    rw [if_neg (by rw [ha]; decide)] at q
    exact q
theorem rd_look_at_errand {K : PySem.W.Frag} {c : Cl} {vs : List V} {H : Hp} {Q : VK} {E : XK} (h : lift K c psp_look_at_errand vs H Q E) : t_look_at_errand K c E { nx := fun _ H' => Q .non H', rt := Q } (start ["wheel", "word", "slack", "sign"] vs) H :=
  rd_of (ts := fun e => t_look_at_errand K c e) (qs := fun ep => q_look_at_errand ep) (fun t e ep => sim_look_at_errand t e ep) (fun as Qp Ep h => Nat.le_trans (Nat.le_of_eq (ln_look_at_errand h)) (by decide)) (fun as Qp Ep h => pr_look_at_errand h) h

theorem errand_ok {w word : List Nat} {s : Int} (h : errandDue w word s = none) : (1 ≤ w.length ∧ w.length ≤ 30 ∧ Low w) ∧ (word.length ≤ 80 ∧ Low word) ∧ (0 ≤ s ∧ s ≤ 9) ∧ ∀ c ∈ word, c ∈ w := by
  unfold errandDue at h
  split at h
  · cases h
  split at h
  · cases h
  split at h
  · cases h
  split at h
  · cases h
  rename_i h1 h2 h3 h4
  refine ⟨isWheel_iff.mp (by cases q : isWheel w with | true => rfl | false => exact absurd q h1), isWord_iff.mp (by cases q : isWord word with | true => rfl | false => exact absurd q h2), Classical.byContradiction h3, fun c hc => ?_⟩
  have : word.all (fun c => decide (c ∈ w)) = true := by cases q : word.all (fun c => decide (c ∈ w)) with | true => rfl | false => exact absurd q h4
  simpa using List.all_eq_true.mp this c hc
def psp_rows_from : PSp := fun as Q _ => ∃ (w word : List Nat) (s p : Int), as = [.sh (.str w), .sh (.str word), .sh (.int s), .sh (.int p)] ∧ 1 ≤ w.length ∧ w.length ≤ 1000 ∧ word.length ≤ 1000 ∧ 0 ≤ p ∧ p < (w.length : Int) ∧ Q .ow (.lst ((rowsI w s p word (word.length + 1)).map encRow))
theorem ln_rows_from {as : List Ar} {Q : Md → D → Prop} {E : Nat → Prop} (h : psp_rows_from as Q E) : as.length = 4 := by obtain ⟨_, _, _, _, rfl, _⟩ := h; rfl
def t_rows_from (K : PySem.W.Frag) (c : Cl) : TS :=
  (tSeq (tAsg (tDispT (tTup (tCons (tVar 3) (tCons (tC (.int 0)) tNil))) (tC (.int 0))) (gName 4))
  (tSeq (tAsg (tLst (tCons (tVar 4) tNil)) (gName 5))
  (tSeq (tFor (iStr (tVar 1)) (gName 6)
  (tSeq (tAsg tDNewT (gName 7))
  (tSeq (tForD (tVar 4) (gName 8)
  (tFor (iList K (tCall (lift K c psp_steps_from) [] E0 (tCons (tVar 0) (tCons (tVar 8) (tCons (tVar 6) (tCons (tVar 2) tNil)))))) (gTup K 3 (gCons (gName 9) (gCons (gName 10) (gCons (gName 11) gNil))))
  (tSeq (tAsg (tOp rAdd (tDGet (tVar 4) (tVar 8)) (tVar 11)) (gName 12))
  (tIfS (tOr (tB (tDNotIn (tVar 10) (tVar 7))) (tTest (tOp rLt (tVar 12) (tDGet (tVar 7) (tVar 10))))) (sDPut (tVar 7) (tVar 10) (tVar 12)) tNext))))
  (tSeq (tAsg (tVar 7) (gName 4))
  (tDrop (tBM K "list" rAppend (tVar 5) (tCons (tVar 4) tNil)))))))
  (tRet (tVar 5)))))
def q_rows_from : QS :=
  (qSeq (qAsg (qDispT (qTup (qCons (qVar 3) (qCons (qC (.int 0)) qNil))) (qC (.int 0))) 4)
  (qSeq (qFrz 4 (qAsg (qLst (qCons (qVar 4) qNil)) 5))
  (qSeq (qFor (qiStr (qVar 1)) (qgName 6)
  (qSeq (qAsg qNewT 7)
  (qSeq (qFrz 4 (qForD (qVar 4) (qgName 8)
  (qFor (qiList (qCall psp_steps_from P0 (qCons (qVar 0) (qCons (qVar 8) (qCons (qVar 6) (qCons (qVar 2) qNil)))))) (qgTup 3 (qgCons (qgName 9) (qgCons (qgName 10) (qgCons (qgName 11) qgNil))))
  (qSeq (qAsg (qOp pAdd (qOp pGetT (qVar 4) (qVar 8)) (qVar 11)) 12)
  (qIfS (qOr (qTest (qOp (pInT true) (qVar 10) (qVar 7))) (qTest (qOp pLt (qVar 12) (qOp pGetT (qVar 7) (qVar 10))))) (qPutTS 7 (qVar 10) (qVar 12)) qNext)))))
  (qSeq (qFrz 7 (qAsg (qVar 7) 4))
  (qFrz 4 (qAppS 5 (qVar 4)))))))
  (qRetV 5))))
theorem sim_rows_from {K : PySem.W.Frag} {c : Cl} (t : Option Addr) (E : XK) (Ep : XP) : SimS K c t (fun _ => E) Ep (t_rows_from K c) q_rows_from :=
  (s_seq (s_asg (s_dispT (s_tup (s_cons (s_var 3) (s_cons (s_c fun _ => rfl) s_nil))) (s_c fun _ => rfl)))
  (s_seq (s_frz (i := 4) (s_asg (s_lst (s_cons (s_var 4) s_nil))))
  (s_seq (s_for (si_str (s_var 1)) sg_name
  (s_seq (s_asg s_newT)
  (s_seq (s_frz (i := 4) (s_forD (pk_var 4) sg_name
  (s_for (si_list (s_call0 (s_cons (s_var 0) (s_cons (s_var 8) (s_cons (s_var 6) (s_cons (s_var 2) s_nil)))))) (sg_tup (sg_cons sg_name (sg_cons sg_name (sg_cons sg_name sg_nil))))
  (s_seq (s_asg (s_op o_add (s_dget o_getT (s_var 4) (s_var 8)) (s_var 11)))
  (s_ifS (s_or (s_b (s_dnotin o_notInT (s_var 10) (s_var 7))) (s_test (s_op o_lt (s_var 12) (s_dget o_getT (s_var 7) (s_var 10))))) (s_putT (i := 7) (s_var 12) (s_var 10)) s_next)))))
  (s_seq (s_frz (i := 7) (s_asg (s_var 7)))
  (s_frz (i := 4) (s_app K (i := 5) (s_var 4)))))))
  (s_retV (i := 5)))))

theorem pr_rows_from {as : List Ar} {Q : Md → D → Prop} {E : Nat → Prop} (h : psp_rows_from as Q E) : q_rows_from { nx := fun _ => Q .sh .non, rt := Q } (dstart 13 as) := by
  obtain ⟨w, word, s, p, rfl, w1, w2, lw, p0, p1, q⟩ := h
  show q_rows_from _ [some (.sh (.str w)), some (.sh (.str word)), some (.sh (.int s)), some (.sh (.int p)), none, none, none, none, none, none, none, none, none]
  unfold q_rows_from
  walk_at "go"
  refine ⟨encK (p, 0), rfl, ?_⟩
  walk_at "go"
  refine loop_inv (fun i δ => ∃ (v6 v7 v8 v9 v10 v11 v12 : Option SV), δ = [some (.sh (.str w)), some (.sh (.str word)), some (.sh (.int s)), some (.sh (.int p)), some (.sh (encRow (rowI w s p (word.take i)))), some (.ow (.lst ((rowsI w s p word (i + 1)).map encRow))), v6, v7, v8, v9, v10, v11, v12]) ⟨_, _, _, _, _, _, _, rfl⟩ (fun i d δ' N hd hI hN => ?_) (fun δ' hI => ?_)
  · obtain ⟨v6, v7, v8, v9, v10, v11, v12, rfl⟩ := hI
    obtain ⟨c, hc, rfl⟩ := map_at' hd
    have li : i < word.length := (List.getElem?_eq_some_iff.mp hc).1
    have hok := rowI_ok (s := s) (by omega) p0 p1 (word.take i)
    rw [rowsI_succ, take_snoc hc, rowI_snoc] at hN
    generalize hR : rowI w s p (word.take i) = R at hok hN
    walk_at "go"
    refine .inl ⟨_, rfl, ?_⟩
    refine loop_inv (fun k δ => ∃ (v8 v9 v10 v11 v12 : Option SV), δ = [some (.sh (.str w)), some (.sh (.str word)), some (.sh (.int s)), some (.sh (.int p)), some (.sh (encRow R)), some (.ow (.lst ((rowsI w s p word (i + 1)).map encRow))), some (.sh (.str [c])), some (.ow (encRow (relaxAll (nexts w s [c] (R.take k))))), v8, v9, v10, v11, v12]) ⟨_, _, _, _, _, rfl⟩ (fun k d δ' N2 hd hI hN2 => ?_) (fun δ' hI => ?_)
    · obtain ⟨v8, v9, v10, v11, v12, rfl⟩ := hI
      rw [List.map_map] at hd
      obtain ⟨e, he, rfl⟩ := map_at' hd
      have hst := hok.2 e (List.mem_of_getElem? he)
      have hL : ∀ x ∈ nexts w s [c] (R.take k), StOk w.length x.1 := nexts_ok (by omega) fun x hx => hok.2 x (List.mem_of_mem_take hx)
      have hv : valI R e.1 = some e.2 := (valI_mem hok.1).mp (List.mem_of_getElem? he)
      rw [nexts_take he] at hN2
      walk_at "go"
      refine ⟨w, e.1, [c], s, rfl, w1, w2, ?_⟩
      walk_at "go"
      refine loop_inv (fun z δ => ∃ (v9 v10 v11 v12 : Option SV), δ = [some (.sh (.str w)), some (.sh (.str word)), some (.sh (.int s)), some (.sh (.int p)), some (.sh (encRow R)), some (.ow (.lst ((rowsI w s p word (i + 1)).map encRow))), some (.sh (.str [c])), some (.ow (encRow (relaxAll (nexts w s [c] (R.take k) ++ (nextOf w s [c] e).take z)))), some (.sh (encP e.1)), v9, v10, v11, v12]) (by rw [List.take_zero, List.append_nil]; exact ⟨_, _, _, _, rfl⟩) (fun z d δ' N3 hd hI hN3 => ?_) (fun δ' hI => ?_)
      · obtain ⟨v9, v10, v11, v12, rfl⟩ := hI
        obtain ⟨x, hx, rfl⟩ := map_at' hd
        have hnx : (nextOf w s [c] e)[z]? = some (x.2.1, e.2 + x.2.2) := by unfold nextOf; rw [List.getElem?_map, hx]; rfl
        have hL5 : ∀ y ∈ nexts w s [c] (R.take k) ++ (nextOf w s [c] e).take z, StOk w.length y.1 := fun y hy => by
          rcases List.mem_append.mp hy with u | u
          · exact hL y u
          · exact nextOf_ok (by omega) hst (List.mem_of_mem_take u)
        have hlen := row_len (relaxAll_ok hL5)
        rw [take_snoc hnx, ← List.append_assoc, relaxAll_snoc] at hN3
        generalize relaxAll (nexts w s [c] (R.take k) ++ (nextOf w s [c] e).take z) = T at hlen hN3
        walk_at "go"
        refine h_gT rfl ?_
        walk_at "go"
        refine h_getT (ks := encK e.1) rfl (by rw [row_get, hv]; rfl) ?_
        walk_at "go"
        refine h_inT (ks := encK x.2.1) rfl ?_
        rw [row_get]
        walk_at "go"
        unfold relax at hN3
        cases hvt : valI T x.2.1 with
        | none =>
          rw [hvt] at hN3
          refine iteT ?_
          walk_at "go"
          refine h_putTE rfl ?_
          walk_at "go"
          refine h_putTK rfl (ks := encK x.2.1) rfl (by decide) (by rw [List.length_map]; omega) ?_
          rw [row_put]
          exact hN3 _ ⟨_, _, _, _, rfl⟩
        | some c0 =>
          rw [hvt] at hN3
          refine iteF ?_
          walk_at "go"
          refine h_getT (ks := encK x.2.1) (d' := .int c0) rfl (by rw [row_get, hvt]; rfl) ?_
          walk_at "go"
          refine ite_p (fun hlt => ?_) (fun hlt => ?_)
          · have hN4 : ∀ δ, (∃ (v9 v10 v11 v12 : Option SV), δ = [some (.sh (.str w)), some (.sh (.str word)), some (.sh (.int s)), some (.sh (.int p)), some (.sh (encRow R)), some (.ow (.lst ((rowsI w s p word (i + 1)).map encRow))), some (.sh (.str [c])), some (.ow (encRow (putI T x.2.1 (e.2 + x.2.2)))), some (.sh (encP e.1)), v9, v10, v11, v12]) → N3 δ := by
              intro δ h; exact hN3 δ (by simp only [if_pos hlt]; exact h)
            refine h_putTE rfl ?_
            walk_at "go"
            refine h_putTK rfl (ks := encK x.2.1) rfl (by decide) (by rw [List.length_map]; omega) ?_
            rw [row_put]
            exact hN4 _ ⟨_, _, _, _, rfl⟩
          · walk_at "go"
            exact hN3 _ (by simp only [if_neg hlt]; exact ⟨_, _, _, _, rfl⟩)
      · obtain ⟨v9, v10, v11, v12, rfl⟩ := hI
        have el : ((stepsFrom w e.1 [c] s).map encStep).length = (nextOf w s [c] e).length := by unfold nextOf; rw [List.length_map, List.length_map]
        rw [el, List.take_length]
        exact hN2 _ ⟨_, _, _, _, _, rfl⟩
    · obtain ⟨v8, v9, v10, v11, v12, rfl⟩ := hI
      have el : ((R.map fun e => (encK e.1, D.int e.2)).map fun e => D.tup (e.1.map dKey)).length = R.length := by rw [List.length_map, List.length_map]
      rw [el, List.take_length]
      walk_at "go"
      rw [List.map_append] at hN
      refine h_appV rfl rfl ?_ (hN _ ⟨_, _, _, _, _, _, _, rfl⟩)
      unfold rowsI
      simp
      omega
  · obtain ⟨v6, v7, v8, v9, v10, v11, v12, rfl⟩ := hI
    rw [List.length_map]
    walk_at "go"
    exact q
theorem rd_rows_from {K : PySem.W.Frag} {c : Cl} {vs : List V} {H : Hp} {Q : VK} {E : XK} (h : lift K c psp_rows_from vs H Q E) : t_rows_from K c { nx := fun _ H' => Q .non H', rt := Q } (start ["wheel", "word", "slack", "place", "row", "rows", "sign", "later", "stand", "turn", "there", "more", "least"] vs) H :=
  rd_of (ts := fun _ => t_rows_from K c) (qs := fun _ => q_rows_from) (fun t e ep => sim_rows_from t e ep) (fun as Qp Ep h => Nat.le_trans (Nat.le_of_eq (ln_rows_from h)) (by decide)) (fun as Qp Ep h => pr_rows_from h) h

end Sw
local macro_rules | `(tactic| walk_at "go1") => `(tactic| first
  | with_reducible refine Sw.h_seqasg ?_
  | with_reducible refine Sw.h_op ?_
  | with_reducible refine Sw.h_varS rfl ?_
  | with_reducible refine Sw.h_varO rfl ?_
  | with_reducible refine Sw.h_c ?_
  | with_reducible refine Sw.h_I0 ?_
  | with_reducible refine Sw.h_cons ?_
  | with_reducible refine Sw.h_consT rfl ?_
  | with_reducible refine Sw.h_consC rfl ?_
  | with_reducible refine Sw.h_nil ?_
  | with_reducible refine Sw.h_call ?_
  | with_reducible refine Sw.h_un ?_
  | with_reducible refine Sw.h_test ?_
  | with_reducible refine Sw.h_bl ?_
  | with_reducible refine Sw.h_seqdrop ?_
  | with_reducible refine Sw.h_asS ?_
  | with_reducible refine Sw.h_asO ?_
  | with_reducible refine Sw.h_ne1 ?_
  | with_reducible refine Sw.h_ne2 ?_
  | with_reducible refine Sw.h_asg ?_
  | with_reducible refine Sw.h_drop ?_
  | with_reducible refine Sw.h_ret ?_
  | with_reducible refine Sw.h_retS rfl ?_
  | with_reducible refine Sw.h_retO rfl ?_
  | with_reducible refine Sw.h_retN ?_
  | with_reducible refine Sw.h_next ?_
  | with_reducible refine Sw.h_if ?_
  | with_reducible refine Sw.h_frzO rfl ?_
  | with_reducible refine Sw.h_frzS rfl ?_
  | with_reducible refine Sw.h_and ?_
  | with_reducible refine Sw.h_or ?_
  | with_reducible refine Sw.h_not ?_
  | with_reducible refine Sw.h_yes ?_
  | with_reducible refine Sw.h_andV ?_
  | with_reducible refine Sw.h_orV ?_
  | with_reducible refine Sw.h_notV ?_
  | with_reducible refine Sw.h_ifE ?_
  | with_reducible refine Sw.h_chain ?_
  | with_reducible refine Sw.h_lenC rfl ?_
  | with_reducible refine Sw.h_tup ?_
  | with_reducible refine Sw.h_lst ?_
  | with_reducible refine Sw.h_shs0 ?_
  | with_reducible refine Sw.h_shs1 ?_
  | with_reducible refine Sw.h_shs2 ?_
  | with_reducible refine Sw.h_shs3 ?_
  | with_reducible refine Sw.h_shs4 ?_
  | with_reducible refine Sw.h_sl ?_
  | with_reducible refine Sw.h_nopart ?_
  | with_reducible refine Sw.h_part ?_
  | with_reducible refine Sw.h_int ?_
  | with_reducible refine Sw.h_neg ?_
  | with_reducible refine Sw.h_S ?_
  | with_reducible refine Sw.h_inSign ?_
  | with_reducible refine Sw.h_notInSign ?_
  | with_reducible refine Sw.h_isN ?_
  | with_reducible refine Sw.h_notN ?_
  | with_reducible refine Sw.h_eq rfl ?_
  | with_reducible refine Sw.h_ne rfl ?_
  | with_reducible refine Sw.h_lenL ?_
  | with_reducible refine Sw.h_lenT ?_
  | with_reducible refine Sw.h_abs ?_
  | with_reducible refine Sw.h_max2 ?_
  | with_reducible refine Sw.h_min2 ?_
  | with_reducible refine Sw.h_int1b ?_
  | with_reducible refine Sw.h_sum ?_
  | with_reducible refine Sw.h_listOf ?_
  | with_reducible refine Sw.h_slL ?_
  | with_reducible refine Sw.h_slT ?_
  | with_reducible refine Sw.h_revL ?_
  | with_reducible refine Sw.h_newK ?_
  | with_reducible refine Sw.h_newT ?_
  | with_reducible refine Sw.h_seqfor ?_
  | with_reducible refine Sw.h_seqforD ?_
  | with_reducible refine Sw.h_dispT ?_
  | with_reducible refine Sw.h_LM ?_
  | with_reducible refine Sw.h_for ?_
  | with_reducible refine Sw.h_iList ?_
  | with_reducible refine Sw.h_iTup ?_
  | with_reducible refine Sw.h_iStr ?_
  | with_reducible refine Sw.h_iR1 ?_
  | with_reducible refine Sw.h_iR2 ?_
  | with_reducible refine Sw.h_iR3 ?_
  | with_reducible refine Sw.h_iEnum ?_
  | with_reducible refine Sw.h_iZip ?_
  | with_reducible refine Sw.h_iZipS ?_
  | with_reducible refine Sw.h_lst1 ?_
  | with_reducible refine Sw.h_tup1 ?_
  | with_reducible refine Sw.h_str1 ?_
  | with_reducible refine Sw.h_lc ?_
  | with_reducible refine Sw.h_gN ?_
  | with_reducible refine Sw.h_gT rfl ?_
  | with_reducible refine Sw.h_gC ?_
  | with_reducible refine Sw.h_gE ?_
  | with_reducible refine Sw.h_asgG ?_
  | with_reducible refine Sw.h_forD ?_
  | with_reducible refine Sw.h_raise ?_
  | with_reducible refine Sw.h_seqasgG ?_
  | with_reducible refine Sw.h_seqfrzO rfl ?_
  | with_reducible refine Sw.h_seqfrzS rfl ?_
  | with_reducible refine Sw.h_isi rfl rfl ?_
  | with_reducible refine Sw.h_ixT rfl ?_
  | with_reducible refine Sw.h_seq1 ?_
  | with_reducible refine L2.iteT ?_ | with_reducible refine L2.iteF ?_ | with_reducible refine Sw.iteNT ?_ | with_reducible refine Sw.iteNF ?_ | refine Sw.h_np rfl ?_)
local macro_rules | `(tactic| walk_at "go") => `(tactic| repeat walk_at "go1")
local macro_rules | `(tactic| walk_at "sz") => `(tactic| first
  | omega
  | decide
  | (simp only [List.length_append, List.length_map, List.length_cons, List.length_nil, List.length_take, List.length_drop, List.length_reverse, List.length_set, List.length_replicate, List.length_range]; omega)
  | (refine Nat.le_trans (Sw.cut_len _ _ _) ?_; omega))
local macro_rules | `(tactic| walk_at "gx1") => `(tactic| first
  | walk_at "go1"
  | refine Sw.c_draw (by omega) (by omega) (fun _ _ _ => ?_)
  | refine Sw.c_letters (by omega) (by omega) (by omega) (by omega) (fun _ _ _ => ?_)
  | refine Sw.c_wheel (by omega) (by omega) (fun _ _ _ _ => ?_)
  | refine Sw.c_word (by walk_at "sz") (by walk_at "sz") (by omega) (by omega) (fun _ _ _ => ?_)
  | refine Sw.c_bent (by walk_at "sz") (by assumption) (fun _ _ _ => ?_)
  | refine Sw.c_lis_word (by walk_at "sz") (by assumption) ?_
  | refine Sw.h_sc rfl ?_
  | refine Sw.h_lenS (by walk_at "sz") ?_
  | refine Sw.h_slS (by walk_at "sz") ?_
  | refine Sw.h_addS (by walk_at "sz") ?_
  | refine Sw.h_I (by omega) ?_
  | refine Sw.h_I (Sw.cm (by omega) (by omega) (by omega) (by omega)) ?_
  | refine Sw.h_I (Sw.cd (by omega) (by omega)) ?_
  | refine Sw.h_I ⟨by decide, by decide, by decide⟩ ?_
  | refine Sw.h_gT rfl ?_
  | refine Sw.h_ixT rfl ?_
  | refine Sw.h_ixL rfl ?_
  | refine Sw.h_appE rfl ?_
  | refine Sw.h_appK rfl (by decide) (by walk_at "sz") ?_
  | refine Sw.h_setLE rfl ?_
  | refine Sw.h_putTE rfl ?_
  | refine Sw.h_putKE rfl ?_
  | refine Sw.h_tupOf ?_
  | refine Sw.h_listOfT ?_
  | refine Sw.h_orS ?_
  | refine And.intro (by omega) (And.intro (by omega) ?_))
local macro_rules | `(tactic| walk_at "gx") => `(tactic| repeat walk_at "gx1")
namespace Sw
open PySem PySem.Spec PyProof.Rows L2 SX
theorem rowP_get (R : RowP) (st : Std) : getD' (R.map fun e => (encK e.1, encP e.2)) (encK st) = (getA R st).map encP := getA_enc encK_inj encP R st
theorem rowP_put (R : RowP) (st : Std) (c : Int × Int) : putD (R.map fun e => (encK e.1, encP e.2)) (encK st) (encP c) = (putA R st c).map fun e => (encK e.1, encP e.2) := putA_enc encK_inj encP R st c
theorem rowsI_at {w : List Nat} {s p : Int} {word : List Nat} {n k : Nat} (h : k < n) : ((rowsI w s p word n).map encRow)[k]? = some (encRow (rowI w s p (word.take k))) := by
  unfold rowsI
  rw [List.getElem?_map, List.getElem?_map, List.getElem?_range h]
  rfl
theorem rowsI_len (w : List Nat) (s p : Int) (word : List Nat) (n : Nat) : ((rowsI w s p word n).map encRow).length = n := by unfold rowsI; simp
theorem atI_last {α : Type} {xs : List α} {n : Nat} {v : α} (hl : xs.length = n + 1) (h : xs[n]? = some v) : atI xs (-1) = some v := by
  unfold atI ixN
  rw [hl]
  have e : (-1 + ((n + 1 : Nat) : Int)).toNat = n := by omega
  rw [if_neg (by decide), if_pos (by omega), e]
  exact h
theorem restOf_get {w : List Nat} {s : Int} {word : List Nat} {R : Row} {st : Std} {v : Int} (h : valI R st = some v) : getA (restOf w s word R) st = some (rc w s word st, rn w s word st) := by
  unfold restOf
  rw [getA_keys (fun st => (rc w s word st, rn w s word st)) R st, show getA R st = some v from h]
  rfl
def restsI (w : List Nat) (s : Int) (word : List Nat) : List RowP := (List.range (word.length + 1)).map (restRow w s word)
def psp_rests : PSp := fun as Q _ => ∃ (w word : List Nat) (s : Int), as = [.sh (.str w), .sh (.str word), .sh (.int s)] ∧ 1 ≤ w.length ∧ w.length ≤ 1000 ∧ word.length ≤ 1000 ∧ (∀ c ∈ word, c ∈ w) ∧ Q .ow (.lst ((restsI w s word).map encRowP))
theorem ln_rests {as : List Ar} {Q : Md → D → Prop} {E : Nat → Prop} (h : psp_rests as Q E) : as.length = 3 := by obtain ⟨_, _, _, rfl, _⟩ := h; rfl
def t_rests (K : PySem.W.Frag) (c : Cl) : TS :=
  (tSeq (tAsg (tCall (lift K c psp_rows_from) [] E0 (tCons (tVar 0) (tCons (tVar 1) (tCons (tVar 2) (tCons (tC (.int 0)) tNil))))) (gName 3))
  (tSeq (tAsg tDNewT (gName 4))
  (tSeq (tForD (tOp (rIxL K) (tVar 3) (tUn rNeg (tC (.int 1)))) (gName 5)
  (sDPut (tVar 4) (tVar 5) (tTup (tCons (tC (.int 0)) (tCons (tC (.int 1)) tNil)))))
  (tSeq (tAsg (tLst (tCons (tVar 4) tNil)) (gName 6))
  (tSeq (tFor (iRng3 (tCons (tOp rSub (tCB rLenStr (tCons (tVar 1) tNil)) (tC (.int 1))) (tCons (tUn rNeg (tC (.int 1))) (tCons (tUn rNeg (tC (.int 1))) tNil)))) (gName 7)
  (tSeq (tAsg tDNewT (gName 8))
  (tSeq (tForD (tOp (rIxL K) (tVar 3) (tVar 7)) (gName 5)
  (tSeq (tAsg (tLst tNil) (gName 9))
  (tSeq (tFor (iList K (tCall (lift K c psp_steps_from) [] E0 (tCons (tVar 0) (tCons (tVar 5) (tCons (tOp rIxS (tVar 1) (tVar 7)) (tCons (tVar 2) tNil)))))) (gTup K 3 (gCons (gName 10) (gCons (gName 11) (gCons (gName 12) gNil))))
  (tDrop (tBM K "list" rAppend (tVar 9) (tCons (tTup (tCons (tOp rAdd (tOp (rIxT K) (tDGet (tVar 4) (tVar 11)) (tC (.int 0))) (tVar 12)) (tCons (tOp (rIxT K) (tDGet (tVar 4) (tVar 11)) (tC (.int 1))) tNil))) tNil))))
  (tSeq (tAsg (tOp (rIxT K) (tCB (rMinG K) (tCons (tVar 9) tNil)) (tC (.int 0))) (gName 13))
  (sDPut (tVar 8) (tVar 5) (tTup (tCons (tVar 13) (tCons (tCB (rSum K) (tCons (tLc (iList K (tVar 9)) (gTup K 2 (gCons (gName 14) (gCons (gName 15) gNil))) (tTest (tOp rEq (tVar 14) (tVar 13))) (tVar 15) [14, 15]) tNil)) tNil))))))))
  (tSeq (tAsg (tVar 8) (gName 4))
  (tDrop (tBM K "list" rAppend (tVar 6) (tCons (tVar 8) tNil)))))))
  (tRet (tRevL K (tVar 6))))))))
def q_rests : QS :=
  (qSeq (qAsg (qCall psp_rows_from P0 (qCons (qVar 0) (qCons (qVar 1) (qCons (qVar 2) (qCons (qC (.int 0)) qNil))))) 3)
  (qSeq (qAsg qNewT 4)
  (qSeq (qForD (qOp pIxL (qVar 3) (qUn pNeg (qC (.int 1)))) (qgName 5)
  (qPutTS 4 (qVar 5) (qTup (qCons (qC (.int 0)) (qCons (qC (.int 1)) qNil)))))
  (qSeq (qFrz 4 (qAsg (qLst (qCons (qVar 4) qNil)) 6))
  (qSeq (qFor (qiR3 (qOp pSub (qUn pLenS (qVar 1)) (qC (.int 1))) (qUn pNeg (qC (.int 1))) (qUn pNeg (qC (.int 1)))) (qgName 7)
  (qSeq (qAsg qNewT 8)
  (qSeq (qForD (qOp pIxL (qVar 3) (qVar 7)) (qgName 5)
  (qSeq (qAsg (qLst qNil) 9)
  (qSeq (qFor (qiList (qCall psp_steps_from P0 (qCons (qVar 0) (qCons (qVar 5) (qCons (qOp pIxS (qVar 1) (qVar 7)) (qCons (qVar 2) qNil)))))) (qgTup 3 (qgCons (qgName 10) (qgCons (qgName 11) (qgCons (qgName 12) qgNil))))
  (qAppS 9 (qTup (qCons (qOp pAdd (qOp pIxT (qOp pGetT (qVar 4) (qVar 11)) (qC (.int 0))) (qVar 12)) (qCons (qOp pIxT (qOp pGetT (qVar 4) (qVar 11)) (qC (.int 1))) qNil)))))
  (qSeq (qAsg (qOp pIxT (qUn pMinD (qVar 9)) (qC (.int 0))) 13)
  (qPutTS 8 (qVar 5) (qTup (qCons (qVar 13) (qCons (qUn pSum (qLc (qiList (qVar 9)) (qgTup 2 (qgCons (qgName 14) (qgCons (qgName 15) qgNil))) (qTest (qOp pEq (qVar 14) (qVar 13))) (qVar 15) [14, 15])) qNil))))))))
  (qSeq (qFrz 8 (qAsg (qVar 8) 4))
  (qFrz 8 (qAppS 6 (qVar 8)))))))
  (qRet (qUn pRevL (qVar 6))))))))
theorem sim_rests {K : PySem.W.Frag} {c : Cl} (t : Option Addr) (E : XK) (Ep : XP) : SimS K c t (fun _ => E) Ep (t_rests K c) q_rests :=
  (s_seq (s_asg (s_call0 (s_cons (s_var 0) (s_cons (s_var 1) (s_cons (s_var 2) (s_cons (s_c fun _ => rfl) s_nil))))))
  (s_seq (s_asg s_newT)
  (s_seq (s_forD (pk_ixL (pk_var 3) (pk_neg (pk_c fun _ => rfl))) sg_name
  (s_putT (i := 4) (s_tup (s_cons (s_c fun _ => rfl) (s_cons (s_c fun _ => rfl) s_nil))) (s_var 5)))
  (s_seq (s_frz (i := 4) (s_asg (s_lst (s_cons (s_var 4) s_nil))))
  (s_seq (s_for (si_r3 (s_op o_sub (s_cb1 (r := rLenStr) o_lenS (s_var 1)) (s_c fun _ => rfl)) (s_un o_neg (s_c fun _ => rfl)) (s_un o_neg (s_c fun _ => rfl))) sg_name
  (s_seq (s_asg s_newT)
  (s_seq (s_forD (pk_ixL (pk_var 3) (pk_var 7)) sg_name
  (s_seq (s_asg (s_lst s_nil))
  (s_seq (s_for (si_list (s_call0 (s_cons (s_var 0) (s_cons (s_var 5) (s_cons (s_op o_ixS (s_var 1) (s_var 7)) (s_cons (s_var 2) s_nil)))))) (sg_tup (sg_cons sg_name (sg_cons sg_name (sg_cons sg_name sg_nil))))
  (s_app K (i := 9) (s_tup (s_cons (s_op o_add (s_op o_ixT (s_dget o_getT (s_var 4) (s_var 11)) (s_c fun _ => rfl)) (s_var 12)) (s_cons (s_op o_ixT (s_dget o_getT (s_var 4) (s_var 11)) (s_c fun _ => rfl)) s_nil)))))
  (s_seq (s_asg (s_op o_ixT (s_cb1 (r := (rMinG K)) o_minG (s_var 9)) (s_c fun _ => rfl)))
  (s_putT (i := 8) (s_tup (s_cons (s_var 13) (s_cons (s_cb1 (r := (rSum K)) o_sum (s_lc (si_list (s_var 9)) (sg_tup (sg_cons sg_name (sg_cons sg_name sg_nil))) (by decide) (s_test (s_op o_eq (s_var 14) (s_var 13))) (s_var 15))) s_nil))) (s_var 5))))))
  (s_seq (s_frz (i := 8) (s_asg (s_var 8)))
  (s_frz (i := 8) (s_app K (i := 6) (s_var 8)))))))
  (s_ret (s_revL (s_var 6))))))))

theorem fm_pairs {f : Int × Int → Bool} {l : List (Int × Int)} : (l.map encP).filterMap (fun d => match d with | .tup [.int a, .int b] => if f (a, b) = true then some (D.int b) else none | _ => none) = ((l.filter f).map (·.2)).map D.int := by
  induction l with
  | nil => rfl
  | cons a l ih =>
    rw [List.map_cons, List.filterMap_cons]
    obtain ⟨a1, a2⟩ := a
    by_cases h : f (a1, a2) = true
    · rw [List.filter_cons_of_pos h, List.map_cons, List.map_cons, ← ih]; simp only [encP, h]; rfl
    · rw [List.filter_cons_of_neg h, ← ih]; simp only [encP, h]; rfl
def somes (w : List Nat) (s : Int) (word : List Nat) (l : List Stp) : List (Int × Int) := l.map fun x => (rc w s word x.2.1 + x.2.2, rn w s word x.2.1)
theorem least_somes {w : List Nat} {s : Int} {c : Nat} {word : List Nat} {st : Std} {p : Int × Int} {ps : List (Int × Int)} (h : somes w s word (stepsFrom w st [c] s) = p :: ps) : (minP p ps).1 = rc w s (c :: word) st := by
  refine minL_uniq ?_ ?_
  · have h1 := minP_mem p ps
    rw [← h] at h1
    obtain ⟨x, hx, e⟩ := List.mem_map.mp h1
    exact List.mem_map.mpr ⟨x, hx, by rw [← e]⟩
  · intro y hy
    obtain ⟨x, hx, rfl⟩ := List.mem_map.mp hy
    exact minP_le p ps (rc w s word x.2.1 + x.2.2, rn w s word x.2.1) (by rw [← h]; exact List.mem_map.mpr ⟨x, hx, rfl⟩)
theorem many_somes {w : List Nat} {s : Int} {c : Nat} {word : List Nat} {st : Std} : ((((somes w s word (stepsFrom w st [c] s)).filter fun p => decide (p.1 = rc w s (c :: word) st)).map (·.2)).sum) = rn w s (c :: word) st := by
  show _ = (((stepsFrom w st [c] s).filter fun e => decide (rc w s word e.2.1 + e.2.2 = rc w s (c :: word) st)).map fun e => rn w s word e.2.1).sum
  unfold somes
  rw [List.filter_map, List.map_map]
  rfl
set_option maxHeartbeats 8000000 in
theorem pr_rests {as : List Ar} {Q : Md → D → Prop} {E : Nat → Prop} (h : psp_rests as Q E) : q_rests { nx := fun _ => Q .sh .non, rt := Q } (dstart 16 as) := by
  obtain ⟨w, word, s, rfl, w1, w2, lw, hin, q⟩ := h
  show q_rests _ [some (.sh (.str w)), some (.sh (.str word)), some (.sh (.int s)), none, none, none, none, none, none, none, none, none, none, none, none, none]
  unfold q_rests
  walk_at "go"
  refine ⟨w, word, s, 0, rfl, w1, w2, lw, Int.le_refl _, by omega, ?_⟩
  walk_at "go"
  have hrow : ∀ k, RowOk w.length (rowI w s 0 (word.take k)) := fun k => rowI_ok (by omega) (Int.le_refl _) (by omega) _
  have hlast : atI ((rowsI w s 0 word (word.length + 1)).map encRow) (-1) = some (encRow (rowI w s 0 (word.take word.length))) := atI_last (rowsI_len _ _ _ _ _) (rowsI_at (by omega))
  refine h_ixL hlast ?_
  walk_at "go"
  refine .inl ⟨_, rfl, ?_⟩
  have hR0 := hrow word.length
  generalize hR : rowI w s 0 (word.take word.length) = R at hR0
  refine loop_inv (fun k δ => ∃ (v5 v6 v7 v8 v9 v10 v11 v12 v13 v14 v15 : Option SV), δ = [some (.sh (.str w)), some (.sh (.str word)), some (.sh (.int s)), some (.ow (.lst ((rowsI w s 0 word (word.length + 1)).map encRow))), some (.ow (encRowP (restOf w s [] (R.take k)))), v5, v6, v7, v8, v9, v10, v11, v12, v13, v14, v15]) ⟨_, _, _, _, _, _, _, _, _, _, _, rfl⟩ (fun k d δ' N hd hI hN => ?_) (fun δ' hI => ?_)
  · obtain ⟨v5, v6, v7, v8, v9, v10, v11, v12, v13, v14, v15, rfl⟩ := hI
    rw [List.map_map] at hd
    obtain ⟨e, he, rfl⟩ := map_at' hd
    have hlen := row_len hR0
    walk_at "go"
    refine h_putTE rfl ?_
    walk_at "go"
    refine h_putTK rfl (ks := encK e.1) rfl (by decide) ?_ ?_
    · rw [List.length_map]; unfold restOf; rw [List.length_map, List.length_take]; omega
    · rw [show D.tup [D.int 0, D.int 1] = encP (rc w s [] e.1, rn w s [] e.1) from rfl, rowP_put]
      unfold restOf at hN ⊢
      rw [lay_next hR0.1 he (fun st => (rc w s [] st, rn w s [] st))]
      exact hN _ ⟨_, _, _, _, _, _, _, _, _, _, _, rfl⟩
  obtain ⟨v5, v6, v7, v8, v9, v10, v11, v12, v13, v14, v15, rfl⟩ := hI
  have el : ((R.map fun e => (encK e.1, D.int e.2)).map fun e => D.tup (e.1.map dKey)).length = R.length := by rw [List.length_map, List.length_map]
  rw [el, List.take_length, ← hR, show restOf w s [] (rowI w s 0 (word.take word.length)) = restRow w s word word.length by unfold restRow; rw [List.drop_length]]
  walk_at "go"
  refine h_lenS (by omega) ?_
  walk_at "go"
  refine ⟨_, _, _, _, rfl, rfl, rfl, RgC.neg (by omega) (by omega) (by decide) (by decide), h_ne1 ?_⟩
  have en : ((word.length : Int) - 1 - -1).toNat = word.length := by omega
  rw [en]
  refine loop_inv (fun i δ => ∃ (v5 v7 v8 v9 v10 v11 v12 v13 v14 v15 : Option SV), δ = [some (.sh (.str w)), some (.sh (.str word)), some (.sh (.int s)), some (.ow (.lst ((rowsI w s 0 word (word.length + 1)).map encRow))), some (.sh (encRowP (restRow w s word (word.length - i)))), v5, some (.ow (.lst (((List.range (i + 1)).map fun j => restRow w s word (word.length - j)).map encRowP))), v7, v8, v9, v10, v11, v12, v13, v14, v15]) ⟨_, _, _, _, _, _, _, _, _, _, rfl⟩ (fun i d δ' N hd hI hN => ?_) (fun δ' hI => ?_)
  · obtain ⟨v5, v7, v8, v9, v10, v11, v12, v13, v14, v15, rfl⟩ := hI
    obtain ⟨hi, rfl⟩ := rngC_at hd
    obtain ⟨k, hk⟩ : ∃ k, k = word.length - (i + 1) := ⟨_, rfl⟩
    have ek : (word.length : Int) - 1 + (i : Int) * -1 = (k : Int) := by omega
    have ek2 : word.length - i = k + 1 := by omega
    have hkl : k < word.length := by omega
    obtain ⟨c, hc⟩ : ∃ c, word[k]? = some c := ⟨_, List.getElem?_eq_getElem hkl⟩
    have hcw : c ∈ w := hin c (List.mem_of_getElem? hc)
    have hdr : word.drop k = c :: word.drop (k + 1) := by
      obtain ⟨z1, z2⟩ := List.getElem?_eq_some_iff.mp hc
      rw [List.drop_eq_getElem_cons z1, z2]
    rw [List.range_succ, List.map_append, List.map_append] at hN
    have hs : [i + 1].map (fun j => restRow w s word (word.length - j)) = [restRow w s word k] := by rw [List.map_cons, List.map_nil, ← hk]
    rw [hs, ← hk] at hN
    rw [ek, ek2]
    walk_at "go"
    refine h_ixL (atI_nat (rowsI_at (by omega))) ?_
    walk_at "go"
    refine .inl ⟨_, rfl, ?_⟩
    have hRk := hrow k
    have hnext : rowI w s 0 (word.take (k + 1)) = rowNext w s [c] (rowI w s 0 (word.take k)) := by rw [take_snoc hc, rowI_snoc]
    have hget : ∀ e x, e ∈ rowI w s 0 (word.take k) → x ∈ stepsFrom w e.1 [c] s → getA (restRow w s word (k + 1)) x.2.1 = some (rc w s (word.drop (k + 1)) x.2.1, rn w s (word.drop (k + 1)) x.2.1) := fun e x he hx => by
      obtain ⟨v, hv⟩ := next_in he hx
      unfold restRow
      exact restOf_get (by rw [hnext]; exact hv)
    have hrr : restRow w s word k = restOf w s (c :: word.drop (k + 1)) (rowI w s 0 (word.take k)) := by unfold restRow; rw [hdr]
    generalize rowI w s 0 (word.take k) = R1 at hRk hget hrr
    refine loop_inv (fun z δ => ∃ (v5 v9 v10 v11 v12 v13 v14 v15 : Option SV), δ = [some (.sh (.str w)), some (.sh (.str word)), some (.sh (.int s)), some (.ow (.lst ((rowsI w s 0 word (word.length + 1)).map encRow))), some (.sh (encRowP (restRow w s word (k + 1)))), v5, some (.ow (.lst (((List.range (i + 1)).map fun j => restRow w s word (word.length - j)).map encRowP))), some (.sh (.int (k : Int))), some (.ow (encRowP (restOf w s (c :: word.drop (k + 1)) (R1.take z)))), v9, v10, v11, v12, v13, v14, v15]) ⟨_, _, _, _, _, _, _, _, rfl⟩ (fun z d δ' N2 hd hI hN2 => ?_) (fun δ' hI => ?_)
    · obtain ⟨v5, v9, v10, v11, v12, v13, v14, v15, rfl⟩ := hI
      rw [List.map_map] at hd
      obtain ⟨e, he, rfl⟩ := map_at' hd
      have hem := List.mem_of_getElem? he
      have hlen := row_len hRk
      have hsl := stepsFrom_len w e.1 [c] s
      have hne := stepsFrom_ne e.1 s hcw
      walk_at "go"
      refine h_ixS (by omega) (atI_nat hc) ?_
      walk_at "go"
      refine ⟨w, e.1, [c], s, rfl, w1, w2, ?_⟩
      walk_at "go"
      refine loop_inv (fun y δ => ∃ (v10 v11 v12 v13 v14 v15 : Option SV), δ = [some (.sh (.str w)), some (.sh (.str word)), some (.sh (.int s)), some (.ow (.lst ((rowsI w s 0 word (word.length + 1)).map encRow))), some (.sh (encRowP (restRow w s word (k + 1)))), some (.sh (encP e.1)), some (.ow (.lst (((List.range (i + 1)).map fun j => restRow w s word (word.length - j)).map encRowP))), some (.sh (.int (k : Int))), some (.ow (encRowP (restOf w s (c :: word.drop (k + 1)) (R1.take z)))), some (.ow (.lst ((somes w s (word.drop (k + 1)) ((stepsFrom w e.1 [c] s).take y)).map encP))), v10, v11, v12, v13, v14, v15]) ⟨_, _, _, _, _, _, rfl⟩ (fun y d δ' N3 hd hI hN3 => ?_) (fun δ' hI => ?_)
      · obtain ⟨v10, v11, v12, v13, v14, v15, rfl⟩ := hI
        obtain ⟨x, hx, rfl⟩ := map_at' hd
        have hg := hget e x hem (List.mem_of_getElem? hx)
        rw [take_snoc hx] at hN3
        unfold somes at hN3
        rw [List.map_append, List.map_append] at hN3
        walk_at "go"
        refine h_gT rfl ?_
        walk_at "go"
        refine h_appE rfl ?_
        walk_at "go"
        refine h_getT (ks := encK x.2.1) (d' := encP (rc w s (word.drop (k + 1)) x.2.1, rn w s (word.drop (k + 1)) x.2.1)) rfl (by rw [rowP_get, hg]; rfl) ?_
        walk_at "go"
        refine h_ixT rfl ?_
        walk_at "go"
        refine h_getT (ks := encK x.2.1) (d' := encP (rc w s (word.drop (k + 1)) x.2.1, rn w s (word.drop (k + 1)) x.2.1)) rfl (by rw [rowP_get, hg]; rfl) ?_
        walk_at "go"
        refine h_ixT rfl ?_
        walk_at "go"
        refine h_appK rfl (by decide) ?_ (hN3 _ ⟨_, _, _, _, _, _, rfl⟩)
        unfold somes
        rw [List.length_map, List.length_map, List.length_take]
        omega
      obtain ⟨v10, v11, v12, v13, v14, v15, rfl⟩ := hI
      rw [List.length_map, List.take_length]
      obtain ⟨p, ps, hps⟩ : ∃ p ps, somes w s (word.drop (k + 1)) (stepsFrom w e.1 [c] s) = p :: ps := by
        cases hq : somes w s (word.drop (k + 1)) (stepsFrom w e.1 [c] s) with
        | nil => unfold somes at hq; exact absurd (List.map_eq_nil_iff.mp hq) hne
        | cons p ps => exact ⟨p, ps, rfl⟩
      have hmin := least_somes hps
      have hmany := many_somes (w := w) (s := s) (c := c) (word := word.drop (k + 1)) (st := e.1)
      have hslen : (p :: ps).length ≤ 10000 := by rw [← hps]; unfold somes; rw [List.length_map]; omega
      rw [hps] at hmany ⊢
      walk_at "go"
      refine h_minP ?_
      walk_at "go"
      refine h_ixT (ds := [.int (minP p ps).1, .int (minP p ps).2]) rfl ?_
      walk_at "go"
      rw [hmin]
      refine h_putTE rfl ?_
      walk_at "go"
      refine lc_fm (fun d => match d with | .tup [.int a, .int b] => if decide (a = rc w s (c :: word.drop (k + 1)) e.1) = true then some (D.int b) else none | _ => none) (by rw [List.length_map]; omega) (fun d K n hd hn hk => ?_) ?_
      · obtain ⟨y, hy, rfl⟩ := List.mem_map.mp hd
        refine h_gT rfl ?_
        walk_at "go"
        by_cases hb : y.1 = rc w s (c :: word.drop (k + 1)) e.1
        · rw [decide_eq_true hb]
          walk_at "go"
          simp only [encP, hb] at hk
          exact ⟨hn, hk⟩
        · rw [decide_eq_false hb]
          walk_at "go"
          simp only [encP, hb] at hk
          exact hk
      · have e1 := fm_pairs (f := fun p => decide (p.1 = rc w s (c :: word.drop (k + 1)) e.1)) (l := p :: ps)
        rw [e1]
        refine h_sum ?_
        rw [hmany]
        walk_at "go"
        refine h_putTK rfl (ks := encK e.1) rfl (by decide) ?_ ?_
        · rw [List.length_map]; unfold restOf; rw [List.length_map, List.length_take]; omega
        · rw [show D.tup [D.int (rc w s (c :: word.drop (k + 1)) e.1), D.int (rn w s (c :: word.drop (k + 1)) e.1)] = encP (rc w s (c :: word.drop (k + 1)) e.1, rn w s (c :: word.drop (k + 1)) e.1) from rfl, rowP_put]
          unfold restOf at hN2 ⊢
          rw [lay_next hRk.1 he (fun st => (rc w s (c :: word.drop (k + 1)) st, rn w s (c :: word.drop (k + 1)) st))]
          exact hN2 _ ⟨_, _, _, _, _, _, _, _, rfl⟩
    obtain ⟨v5, v9, v10, v11, v12, v13, v14, v15, rfl⟩ := hI
    have el2 : ((R1.map fun e => (encK e.1, D.int e.2)).map fun e => D.tup (e.1.map dKey)).length = R1.length := by rw [List.length_map, List.length_map]
    rw [el2, List.take_length, ← hrr]
    walk_at "go"
    refine h_appV rfl rfl ?_ (hN _ ⟨_, _, _, _, _, _, _, _, _, _, rfl⟩)
    simp
    omega
  obtain ⟨v5, v7, v8, v9, v10, v11, v12, v13, v14, v15, rfl⟩ := hI
  have el3 : ((rngC ((word.length : Int) - 1) (-1) word.length).map D.int).length = word.length := by unfold rngC; simp
  rw [el3]
  walk_at "go"
  have erev : (((List.range (word.length + 1)).map fun j => restRow w s word (word.length - j)).map encRowP).reverse = (restsI w s word).map encRowP := by
    rw [← List.map_reverse]
    refine congrArg (List.map encRowP) ?_
    unfold restsI
    apply List.ext_getElem
    · simp
    · intro i h1 h2
      simp only [List.length_reverse, List.length_map, List.length_range] at h1
      simp only [List.getElem_reverse, List.getElem_map, List.getElem_range, List.length_map, List.length_range]
      congr 1
      omega
  rw [erev]
  exact q
theorem rd_rests {K : PySem.W.Frag} {c : Cl} {vs : List V} {H : Hp} {Q : VK} {E : XK} (h : lift K c psp_rests vs H Q E) : t_rests K c { nx := fun _ H' => Q .non H', rt := Q } (start ["wheel", "word", "slack", "rows", "behind", "stand", "found", "k", "here", "some", "turn", "there", "more", "least", "rest", "many"] vs) H :=
  rd_of (ts := fun _ => t_rests K c) (qs := fun _ => q_rests) (fun t e ep => sim_rests t e ep) (fun as Qp Ep h => Nat.le_trans (Nat.le_of_eq (ln_rests h)) (by decide)) (fun as Qp Ep h => pr_rests h) h

end Sw
local macro_rules | `(tactic| walk_at "go1") => `(tactic| first
  | with_reducible refine Sw.h_seqasg ?_
  | with_reducible refine Sw.h_op ?_
  | with_reducible refine Sw.h_varS rfl ?_
  | with_reducible refine Sw.h_varO rfl ?_
  | with_reducible refine Sw.h_c ?_
  | with_reducible refine Sw.h_I0 ?_
  | with_reducible refine Sw.h_cons ?_
  | with_reducible refine Sw.h_consT rfl ?_
  | with_reducible refine Sw.h_consC rfl ?_
  | with_reducible refine Sw.h_nil ?_
  | with_reducible refine Sw.h_call ?_
  | with_reducible refine Sw.h_un ?_
  | with_reducible refine Sw.h_test ?_
  | with_reducible refine Sw.h_bl ?_
  | with_reducible refine Sw.h_seqdrop ?_
  | with_reducible refine Sw.h_asS ?_
  | with_reducible refine Sw.h_asO ?_
  | with_reducible refine Sw.h_ne1 ?_
  | with_reducible refine Sw.h_ne2 ?_
  | with_reducible refine Sw.h_asg ?_
  | with_reducible refine Sw.h_drop ?_
  | with_reducible refine Sw.h_ret ?_
  | with_reducible refine Sw.h_retS rfl ?_
  | with_reducible refine Sw.h_retO rfl ?_
  | with_reducible refine Sw.h_retN ?_
  | with_reducible refine Sw.h_next ?_
  | with_reducible refine Sw.h_if ?_
  | with_reducible refine Sw.h_frzO rfl ?_
  | with_reducible refine Sw.h_frzS rfl ?_
  | with_reducible refine Sw.h_and ?_
  | with_reducible refine Sw.h_or ?_
  | with_reducible refine Sw.h_not ?_
  | with_reducible refine Sw.h_yes ?_
  | with_reducible refine Sw.h_andV ?_
  | with_reducible refine Sw.h_orV ?_
  | with_reducible refine Sw.h_notV ?_
  | with_reducible refine Sw.h_ifE ?_
  | with_reducible refine Sw.h_chain ?_
  | with_reducible refine Sw.h_lenC rfl ?_
  | with_reducible refine Sw.h_tup ?_
  | with_reducible refine Sw.h_lst ?_
  | with_reducible refine Sw.h_shs0 ?_
  | with_reducible refine Sw.h_shs1 ?_
  | with_reducible refine Sw.h_shs2 ?_
  | with_reducible refine Sw.h_shs3 ?_
  | with_reducible refine Sw.h_shs4 ?_
  | with_reducible refine Sw.h_sl ?_
  | with_reducible refine Sw.h_nopart ?_
  | with_reducible refine Sw.h_part ?_
  | with_reducible refine Sw.h_int ?_
  | with_reducible refine Sw.h_neg ?_
  | with_reducible refine Sw.h_S ?_
  | with_reducible refine Sw.h_inSign ?_
  | with_reducible refine Sw.h_notInSign ?_
  | with_reducible refine Sw.h_isN ?_
  | with_reducible refine Sw.h_notN ?_
  | with_reducible refine Sw.h_eq rfl ?_
  | with_reducible refine Sw.h_ne rfl ?_
  | with_reducible refine Sw.h_lenL ?_
  | with_reducible refine Sw.h_lenT ?_
  | with_reducible refine Sw.h_abs ?_
  | with_reducible refine Sw.h_max2 ?_
  | with_reducible refine Sw.h_min2 ?_
  | with_reducible refine Sw.h_int1b ?_
  | with_reducible refine Sw.h_sum ?_
  | with_reducible refine Sw.h_listOf ?_
  | with_reducible refine Sw.h_slL ?_
  | with_reducible refine Sw.h_slT ?_
  | with_reducible refine Sw.h_revL ?_
  | with_reducible refine Sw.h_newK ?_
  | with_reducible refine Sw.h_newT ?_
  | with_reducible refine Sw.h_seqfor ?_
  | with_reducible refine Sw.h_seqforD ?_
  | with_reducible refine Sw.h_dispT ?_
  | with_reducible refine Sw.h_LM ?_
  | with_reducible refine Sw.h_for ?_
  | with_reducible refine Sw.h_iList ?_
  | with_reducible refine Sw.h_iTup ?_
  | with_reducible refine Sw.h_iStr ?_
  | with_reducible refine Sw.h_iR1 ?_
  | with_reducible refine Sw.h_iR2 ?_
  | with_reducible refine Sw.h_iR3 ?_
  | with_reducible refine Sw.h_iEnum ?_
  | with_reducible refine Sw.h_iZip ?_
  | with_reducible refine Sw.h_iZipS ?_
  | with_reducible refine Sw.h_lst1 ?_
  | with_reducible refine Sw.h_tup1 ?_
  | with_reducible refine Sw.h_str1 ?_
  | with_reducible refine Sw.h_lc ?_
  | with_reducible refine Sw.h_gN ?_
  | with_reducible refine Sw.h_gT rfl ?_
  | with_reducible refine Sw.h_gC ?_
  | with_reducible refine Sw.h_gE ?_
  | with_reducible refine Sw.h_asgG ?_
  | with_reducible refine Sw.h_forD ?_
  | with_reducible refine Sw.h_raise ?_
  | with_reducible refine Sw.h_seqasgG ?_
  | with_reducible refine Sw.h_seqfrzO rfl ?_
  | with_reducible refine Sw.h_seqfrzS rfl ?_
  | with_reducible refine Sw.h_isi rfl rfl ?_
  | with_reducible refine Sw.h_ixT rfl ?_
  | with_reducible refine Sw.h_seq1 ?_
  | with_reducible refine L2.iteT ?_ | with_reducible refine L2.iteF ?_ | with_reducible refine Sw.iteNT ?_ | with_reducible refine Sw.iteNF ?_ | refine Sw.h_np rfl ?_)
local macro_rules | `(tactic| walk_at "go") => `(tactic| repeat walk_at "go1")
local macro_rules | `(tactic| walk_at "sz") => `(tactic| first
  | omega
  | decide
  | (simp only [List.length_append, List.length_map, List.length_cons, List.length_nil, List.length_take, List.length_drop, List.length_reverse, List.length_set, List.length_replicate, List.length_range]; omega)
  | (refine Nat.le_trans (Sw.cut_len _ _ _) ?_; omega))
local macro_rules | `(tactic| walk_at "gx1") => `(tactic| first
  | walk_at "go1"
  | refine Sw.c_draw (by omega) (by omega) (fun _ _ _ => ?_)
  | refine Sw.c_letters (by omega) (by omega) (by omega) (by omega) (fun _ _ _ => ?_)
  | refine Sw.c_wheel (by omega) (by omega) (fun _ _ _ _ => ?_)
  | refine Sw.c_word (by walk_at "sz") (by walk_at "sz") (by omega) (by omega) (fun _ _ _ => ?_)
  | refine Sw.c_bent (by walk_at "sz") (by assumption) (fun _ _ _ => ?_)
  | refine Sw.c_lis_word (by walk_at "sz") (by assumption) ?_
  | refine Sw.h_sc rfl ?_
  | refine Sw.h_lenS (by walk_at "sz") ?_
  | refine Sw.h_slS (by walk_at "sz") ?_
  | refine Sw.h_addS (by walk_at "sz") ?_
  | refine Sw.h_I (by omega) ?_
  | refine Sw.h_I (Sw.cm (by omega) (by omega) (by omega) (by omega)) ?_
  | refine Sw.h_I (Sw.cd (by omega) (by omega)) ?_
  | refine Sw.h_I ⟨by decide, by decide, by decide⟩ ?_
  | refine Sw.h_gT rfl ?_
  | refine Sw.h_ixT rfl ?_
  | refine Sw.h_ixL rfl ?_
  | refine Sw.h_appE rfl ?_
  | refine Sw.h_appK rfl (by decide) (by walk_at "sz") ?_
  | refine Sw.h_setLE rfl ?_
  | refine Sw.h_putTE rfl ?_
  | refine Sw.h_putKE rfl ?_
  | refine Sw.h_tupOf ?_
  | refine Sw.h_listOfT ?_
  | refine Sw.h_orS ?_
  | refine And.intro (by omega) (And.intro (by omega) ?_))
local macro_rules | `(tactic| walk_at "gx") => `(tactic| repeat walk_at "gx1")
namespace Sw
open PySem PySem.Spec PyProof.Rows L2 SX
/-! ### letters, wheels, words that are drawn -/
theorem h_draw {δ : DS} {as : List Ar} {m : Int} {Q : Md → D → Prop} {E : Nat → Prop} (e : as = [.tp, .sh (.int m)]) (m0 : 0 < m) (m1 : m < 2 ^ 300) (h : ∀ r : Int, 0 ≤ r → r < m → Q .sh (.int r)) : psp_law_draw as Q E := ⟨m, e, m0, m1, h⟩
theorem h_ixA {ds : List D} {r : Int} {Q : Md → D → Prop} (h0 : 0 ≤ r) (h1 : r < (ds.length : Int)) (h : ∀ d ∈ ds, Q .sh d) : pIxL (.lst ds) (.int r) Q := by
  obtain ⟨v, e, hv, _⟩ := atI_of h0 h1
  exact ⟨ds, r, v, rfl, rfl, e, h v hv⟩
theorem all1 {P : D → Prop} {a : D} (h : P a) : ∀ d ∈ [a], P d := fun d hd => by rw [List.mem_singleton.mp hd]; exact h
theorem all2 {P : D → Prop} {a : D} {l : List D} (h : P a) (hl : ∀ d ∈ l, P d) : ∀ d ∈ a :: l, P d := fun d hd => by
  rcases List.mem_cons.mp hd with e | e
  · rw [e]; exact h
  · exact hl d e
theorem h_joinE {l : List Nat} {Q : Md → D → Prop} (hl : l.length ≤ 1000000) (h : Q .sh (.str l)) : pJoinC [] (.lst (l.map fun c => .str [c])) Q := by
  refine ⟨l.map fun c => [c], .inl (by rw [List.map_map]; rfl), ?_, ?_⟩
  · rw [List.map_map]
    have : ∀ l : List Nat, (l.map ((·.length) ∘ fun c : Nat => [c])).sum = l.length := by
      intro l
      induction l with
      | nil => rfl
      | cons a l ih => rw [List.map_cons, List.sum_cons, ih]; show 1 + l.length = l.length + 1; omega
    rw [this]
    simp
    exact hl
  · rw [List.map_map, show (l.map (S ∘ fun c => [c])) = l.map fun c => S [c] from rfl, join_nil]
    exact h
def psp_law_letters : PSp := fun as Q _ => ∃ n kinds : Int, as = [.tp, .sh (.int n), .sh (.int kinds)] ∧ 0 ≤ n ∧ n ≤ 1000 ∧ 1 ≤ kinds ∧ kinds ≤ 26 ∧ ∀ l : List Nat, l.length = n.toNat → Low l → Q .sh (.str l)
theorem ln_law_letters {as : List Ar} {Q : Md → D → Prop} {E : Nat → Prop} (h : psp_law_letters as Q E) : as.length = 3 := by obtain ⟨_, _, rfl, _⟩ := h; rfl
def t_law_letters (K : PySem.W.Frag) (c : Cl) : TS :=
  (tSeq (tAsg (tC (.str "abcdefghijklmnopqrstuvwxyz")) (gName 3))
  (tSeq (tAsg (tCall (lift K c psp_law_draw) [] E0 (tCons (tVar 0) (tCons (tOp rSub (tC (.int 27)) (tVar 2)) tNil))) (gName 4))
  (tRet (tM1 (rJoin K) (tC (.str "")) (tLc (iRng1 (tCons (tVar 1) tNil)) (gName 5) tYes (tOp rIxS (tVar 3) (tOp rAdd (tVar 4) (tCall (lift K c psp_law_draw) [] E0 (tCons (tVar 0) (tCons (tVar 2) tNil))))) [5])))))
def q_law_letters : QS :=
  (qSeq (qAsg (qC (.str [97, 98, 99, 100, 101, 102, 103, 104, 105, 106, 107, 108, 109, 110, 111, 112, 113, 114, 115, 116, 117, 118, 119, 120, 121, 122])) 3)
  (qSeq (qAsg (qCall psp_law_draw P0 (qConsT 0 (qCons (qOp pSub (qC (.int 27)) (qVar 2)) qNil))) 4)
  (qRet (qUn (pJoinC []) (qLc (qiR1 (qVar 1)) (qgName 5) qYes (qOp pIxS (qVar 3) (qOp pAdd (qVar 4) (qCall psp_law_draw P0 (qConsT 0 (qCons (qVar 2) qNil))))) [5])))))
theorem sim_law_letters {K : PySem.W.Frag} {c : Cl} (t : Option Addr) (E : XK) (Ep : XP) : SimS K c t (fun _ => E) Ep (t_law_letters K c) q_law_letters :=
  (s_seq (s_asg (s_c fun _ => (congrArg V.str (by decide +kernel : (PySem.Str.ofString "abcdefghijklmnopqrstuvwxyz") = S [97, 98, 99, 100, 101, 102, 103, 104, 105, 106, 107, 108, 109, 110, 111, 112, 113, 114, 115, 116, 117, 118, 119, 120, 121, 122]))))
  (s_seq (s_asg (s_call0 (s_consT (s_cons (s_op o_sub (s_c fun _ => rfl) (s_var 2)) s_nil))))
  (s_ret (s_joinC (congrArg V.str (by decide +kernel : (PySem.Str.ofString "") = S [])) (s_lc (si_r1 (s_var 1)) sg_name (by decide) s_yes (s_op o_ixS (s_var 3) (s_op o_add (s_var 4) (s_call0 (s_consT (s_cons (s_var 2) s_nil))))))))))

theorem pr_law_letters {as : List Ar} {Q : Md → D → Prop} {E : Nat → Prop} (h : psp_law_letters as Q E) : q_law_letters { nx := fun _ => Q .sh .non, rt := Q } (dstart 6 as) := by
  obtain ⟨n, kinds, rfl, n0, n1, k0, k1, q⟩ := h
  show q_law_letters _ [some .tp, some (.sh (.int n)), some (.sh (.int kinds)), none, none, none]
  unfold q_law_letters
  walk_at "go"
  refine ⟨27 - kinds, rfl, by omega, by omega, fun f f0 f1 => h_sc rfl ?_⟩
  walk_at "go"
  refine ⟨by omega, by omega, ?_⟩
  refine lc_inv (fun i acc => ∃ l : List Nat, acc = l.map (fun c => .str [c]) ∧ l.length = i ∧ Low l) ⟨[], rfl, rfl, low_nil⟩ (fun i d acc N hd hI hN => ?_) (fun acc hI => ?_)
  · obtain ⟨l, rfl, hl, low⟩ := hI
    obtain ⟨hi, rfl⟩ := rng_at hd
    walk_at "go"
    refine ⟨kinds, rfl, by omega, by omega, fun r r0 r1 => h_sc rfl ?_⟩
    walk_at "go"
    obtain ⟨v, ev, hv, _⟩ := atI_of (xs := abc) (r := f + r) (by omega) (by show f + r < 26; omega)
    refine h_ixS (by decide) ev ?_
    walk_at "go"
    refine ⟨by rw [List.length_map]; omega, hN _ ⟨l ++ [v], by rw [List.map_append]; rfl, by rw [List.length_append]; show l.length + 1 = i + 1; omega, low_app low (abc_low v hv)⟩⟩
  · obtain ⟨l, rfl, hl, low⟩ := hI
    rw [List.length_map] at hl
    unfold rng at hl
    rw [List.length_map, List.length_range] at hl
    refine h_joinE (by omega) ?_
    walk_at "go"
    exact q l hl low
theorem rd_law_letters {K : PySem.W.Frag} {c : Cl} {vs : List V} {H : Hp} {Q : VK} {E : XK} (h : lift K c psp_law_letters vs H Q E) : t_law_letters K c { nx := fun _ H' => Q .non H', rt := Q } (start ["draws", "many", "kinds", "letters", "first", "k"] vs) H :=
  rd_of (ts := fun _ => t_law_letters K c) (qs := fun _ => q_law_letters) (fun t e ep => sim_law_letters t e ep) (fun as Qp Ep h => Nat.le_trans (Nat.le_of_eq (ln_law_letters h)) (by decide)) (fun as Qp Ep h => pr_law_letters h) h

theorem c_letters {n kinds : Int} {S' : Prop} {Q : Md → D → Prop} {E : Nat → Prop} (h0 : 0 ≤ n) (h1 : n ≤ 1000) (h2 : 1 ≤ kinds) (h3 : kinds ≤ 26) (h : ∀ l : List Nat, l.length = n.toNat → Low l → Q .sh (.str l)) : psp_law_letters (List.map Ar.un [.tp, .sh (.int n), .sh (.int kinds)]) (fun m d => (S' → scalD d = true) ∧ Q m d) E :=
  ⟨n, kinds, rfl, h0, h1, h2, h3, fun l hl low => ⟨fun _ => rfl, h l hl low⟩⟩
def psp_law_word : PSp := fun as Q _ => ∃ (w : List Nat) (most : Int), as = [.tp, .sh (.str w), .sh (.int most)] ∧ 1 ≤ w.length ∧ w.length ≤ 1000 ∧ 0 ≤ most ∧ most ≤ 1000 ∧ ∀ l : List Nat, (l.length : Int) ≤ most → (∀ c ∈ l, c ∈ w) → Q .sh (.str l)
theorem ln_law_word {as : List Ar} {Q : Md → D → Prop} {E : Nat → Prop} (h : psp_law_word as Q E) : as.length = 3 := by obtain ⟨_, _, rfl, _⟩ := h; rfl
def t_law_word (K : PySem.W.Frag) (c : Cl) : TS :=
  (tSeq (tAsg (tOp (rIxL K) (tLst (tCons (tCall (lift K c psp_law_draw) [] E0 (tCons (tVar 0) (tCons (tC (.int 6)) tNil))) (tCons (tCall (lift K c psp_law_draw) [] E0 (tCons (tVar 0) (tCons (tOp rAdd (tVar 2) (tC (.int 1))) tNil))) (tCons (tVar 2) tNil)))) (tCall (lift K c psp_law_draw) [] E0 (tCons (tVar 0) (tCons (tC (.int 3)) tNil)))) (gName 3))
  (tRet (tM1 (rJoin K) (tC (.str "")) (tLc (iRng1 (tCons (tCB rMin2 (tCons (tVar 3) (tCons (tVar 2) tNil))) tNil)) (gName 4) tYes (tOp rIxS (tVar 1) (tCall (lift K c psp_law_draw) [] E0 (tCons (tVar 0) (tCons (tCB rLenStr (tCons (tVar 1) tNil)) tNil)))) [4]))))
def q_law_word : QS :=
  (qSeq (qAsg (qOp pIxL (qLst (qCons (qCall psp_law_draw P0 (qConsT 0 (qCons (qC (.int 6)) qNil))) (qCons (qCall psp_law_draw P0 (qConsT 0 (qCons (qOp pAdd (qVar 2) (qC (.int 1))) qNil))) (qCons (qVar 2) qNil)))) (qCall psp_law_draw P0 (qConsT 0 (qCons (qC (.int 3)) qNil)))) 3)
  (qRet (qUn (pJoinC []) (qLc (qiR1 (qOp pMin2 (qVar 3) (qVar 2))) (qgName 4) qYes (qOp pIxS (qVar 1) (qCall psp_law_draw P0 (qConsT 0 (qCons (qUn pLenS (qVar 1)) qNil)))) [4]))))
theorem sim_law_word {K : PySem.W.Frag} {c : Cl} (t : Option Addr) (E : XK) (Ep : XP) : SimS K c t (fun _ => E) Ep (t_law_word K c) q_law_word :=
  (s_seq (s_asg (s_op o_ixL (s_lst (s_cons (s_call0 (s_consT (s_cons (s_c fun _ => rfl) s_nil))) (s_cons (s_call0 (s_consT (s_cons (s_op o_add (s_var 2) (s_c fun _ => rfl)) s_nil))) (s_cons (s_var 2) s_nil)))) (s_call0 (s_consT (s_cons (s_c fun _ => rfl) s_nil)))))
  (s_ret (s_joinC (congrArg V.str (by decide +kernel : (PySem.Str.ofString "") = S [])) (s_lc (si_r1 (s_cb2 (r := rMin2) o_min2 (s_var 3) (s_var 2))) sg_name (by decide) s_yes (s_op o_ixS (s_var 1) (s_call0 (s_consT (s_cons (s_cb1 (r := rLenStr) o_lenS (s_var 1)) s_nil))))))))

theorem pr_law_word {as : List Ar} {Q : Md → D → Prop} {E : Nat → Prop} (h : psp_law_word as Q E) : q_law_word { nx := fun _ => Q .sh .non, rt := Q } (dstart 5 as) := by
  obtain ⟨w, most, rfl, w0, w1, m0, m1, q⟩ := h
  show q_law_word _ [some .tp, some (.sh (.str w)), some (.sh (.int most)), none, none]
  unfold q_law_word
  walk_at "go"
  refine ⟨6, rfl, by omega, by omega, fun a a0 a1 => h_sc rfl ?_⟩
  walk_at "go"
  refine ⟨most + 1, rfl, by omega, by omega, fun b b0 b1 => h_sc rfl ?_⟩
  walk_at "go"
  refine ⟨3, rfl, by omega, by omega, fun r r0 r1 => h_sc rfl ?_⟩
  refine h_ixA r0 (by show r < 3; omega) ?_
  have main : ∀ m : Int, 0 ≤ m → m ≤ 2000 → (fun d => Md.sh ≠ .pk ∧ qRet (qUn (pJoinC []) (qLc (qiR1 (qOp pMin2 (qVar 3) (qVar 2))) (qgName 4) qYes (qOp pIxS (qVar 1) (qCall psp_law_draw P0 (qConsT 0 (qCons (qUn pLenS (qVar 1)) qNil)))) [4])) { nx := fun _ => Q .sh .non, rt := Q } ([some .tp, some (.sh (.str w)), some (.sh (.int most)), none, none].set 3 (some (SV.of .sh d)))) (.int m) := by
    intro m hm0 hm1
    walk_at "go"
    generalize hk : (if most < m then most else m) = k
    have hkm : 0 ≤ k ∧ k ≤ most := by rw [← hk]; split <;> omega
    refine ⟨by omega, by omega, ?_⟩
    refine lc_inv (fun i acc => ∃ l : List Nat, acc = l.map (fun c => .str [c]) ∧ l.length = i ∧ ∀ c ∈ l, c ∈ w) ⟨[], rfl, rfl, fun _ h => nomatch h⟩ (fun i d acc N hd hI hN => ?_) (fun acc hI => ?_)
    · obtain ⟨l, rfl, hl, hin⟩ := hI
      obtain ⟨hi, rfl⟩ := rng_at hd
      walk_at "go"
      refine h_lenS (by omega) ?_
      walk_at "go"
      refine ⟨(w.length : Int), rfl, by omega, by omega, fun r r0 r1 => h_sc rfl ?_⟩
      obtain ⟨v, ev, hv, _⟩ := atI_of (xs := w) r0 r1
      refine h_ixS (by omega) ev ?_
      walk_at "go"
      refine ⟨by rw [List.length_map]; omega, hN _ ⟨l ++ [v], by rw [List.map_append]; rfl, by rw [List.length_append]; show l.length + 1 = i + 1; omega, fun c hc => ?_⟩⟩
      rcases List.mem_append.mp hc with z | z
      · exact hin c z
      · rw [List.mem_singleton.mp z]; exact hv
    · obtain ⟨l, rfl, hl, hin⟩ := hI
      rw [List.length_map] at hl
      unfold rng at hl
      rw [List.length_map, List.length_range] at hl
      refine h_joinE (by omega) ?_
      walk_at "go"
      exact q l (by omega) hin
  exact all2 (main a a0 (by omega)) (all2 (main b b0 (by omega)) (all1 (main most m0 (by omega))))
theorem rd_law_word {K : PySem.W.Frag} {c : Cl} {vs : List V} {H : Hp} {Q : VK} {E : XK} (h : lift K c psp_law_word vs H Q E) : t_law_word K c { nx := fun _ H' => Q .non H', rt := Q } (start ["draws", "wheel", "most", "many", "k"] vs) H :=
  rd_of (ts := fun _ => t_law_word K c) (qs := fun _ => q_law_word) (fun t e ep => sim_law_word t e ep) (fun as Qp Ep h => Nat.le_trans (Nat.le_of_eq (ln_law_word h)) (by decide)) (fun as Qp Ep h => pr_law_word h) h

theorem c_word {w : List Nat} {most : Int} {S' : Prop} {Q : Md → D → Prop} {E : Nat → Prop} (h0 : 1 ≤ w.length) (h1 : w.length ≤ 1000) (h2 : 0 ≤ most) (h3 : most ≤ 1000) (h : ∀ l : List Nat, (l.length : Int) ≤ most → (∀ c ∈ l, c ∈ w) → Q .sh (.str l)) : psp_law_word (List.map Ar.un [.tp, .sh (.str w), .sh (.int most)]) (fun m d => (S' → scalD d = true) ∧ Q m d) E :=
  ⟨w, most, rfl, h0, h1, h2, h3, fun l hl low => ⟨fun _ => rfl, h l hl low⟩⟩
def psp_law_wheel : PSp := fun as Q _ => ∃ most : Int, as = [.tp, .sh (.int most)] ∧ 1 ≤ most ∧ most ≤ 1000 ∧ ∀ l : List Nat, 1 ≤ l.length → (l.length : Int) ≤ most → Low l → Q .sh (.str l)
theorem ln_law_wheel {as : List Ar} {Q : Md → D → Prop} {E : Nat → Prop} (h : psp_law_wheel as Q E) : as.length = 2 := by obtain ⟨_, rfl, _⟩ := h; rfl
def t_law_wheel (K : PySem.W.Frag) (c : Cl) : TS :=
  (tSeq (tAsg (tCall (lift K c psp_law_draw) [] E0 (tCons (tVar 0) (tCons (tC (.int 4)) tNil))) (gName 2))
  (tSeq (tAsg (tOp (rIxL K) (tLst (tCons (tOp rAdd (tC (.int 1)) (tCall (lift K c psp_law_draw) [] E0 (tCons (tVar 0) (tCons (tC (.int 3)) tNil)))) (tCons (tC (.int 2)) (tCons (tOp rAdd (tC (.int 3)) (tCall (lift K c psp_law_draw) [] E0 (tCons (tVar 0) (tCons (tC (.int 5)) tNil)))) (tCons (tC (.int 26)) tNil))))) (tCall (lift K c psp_law_draw) [] E0 (tCons (tVar 0) (tCons (tC (.int 4)) tNil)))) (gName 3))
  (tSeq (tAsg (tOp (rIxL K) (tLst (tCons (tOp rAdd (tC (.int 1)) (tCall (lift K c psp_law_draw) [] E0 (tCons (tVar 0) (tCons (tC (.int 4)) tNil)))) (tCons (tOp rAdd (tC (.int 1)) (tCall (lift K c psp_law_draw) [] E0 (tCons (tVar 0) (tCons (tVar 1) tNil)))) (tCons (tVar 1) (tCons (tOp rAdd (tC (.int 1)) (tCall (lift K c psp_law_draw) [] E0 (tCons (tVar 0) (tCons (tC (.int 9)) tNil)))) tNil))))) (tVar 2)) (gName 4))
  (tRet (tCall (lift K c psp_law_letters) [] E0 (tCons (tVar 0) (tCons (tCB rMin2 (tCons (tVar 4) (tCons (tVar 1) tNil))) (tCons (tVar 3) tNil))))))))
def q_law_wheel : QS :=
  (qSeq (qAsg (qCall psp_law_draw P0 (qConsT 0 (qCons (qC (.int 4)) qNil))) 2)
  (qSeq (qAsg (qOp pIxL (qLst (qCons (qOp pAdd (qC (.int 1)) (qCall psp_law_draw P0 (qConsT 0 (qCons (qC (.int 3)) qNil)))) (qCons (qC (.int 2)) (qCons (qOp pAdd (qC (.int 3)) (qCall psp_law_draw P0 (qConsT 0 (qCons (qC (.int 5)) qNil)))) (qCons (qC (.int 26)) qNil))))) (qCall psp_law_draw P0 (qConsT 0 (qCons (qC (.int 4)) qNil)))) 3)
  (qSeq (qAsg (qOp pIxL (qLst (qCons (qOp pAdd (qC (.int 1)) (qCall psp_law_draw P0 (qConsT 0 (qCons (qC (.int 4)) qNil)))) (qCons (qOp pAdd (qC (.int 1)) (qCall psp_law_draw P0 (qConsT 0 (qCons (qVar 1) qNil)))) (qCons (qVar 1) (qCons (qOp pAdd (qC (.int 1)) (qCall psp_law_draw P0 (qConsT 0 (qCons (qC (.int 9)) qNil)))) qNil))))) (qVar 2)) 4)
  (qRet (qCall psp_law_letters P0 (qConsT 0 (qCons (qOp pMin2 (qVar 4) (qVar 1)) (qCons (qVar 3) qNil))))))))
theorem sim_law_wheel {K : PySem.W.Frag} {c : Cl} (t : Option Addr) (E : XK) (Ep : XP) : SimS K c t (fun _ => E) Ep (t_law_wheel K c) q_law_wheel :=
  (s_seq (s_asg (s_call0 (s_consT (s_cons (s_c fun _ => rfl) s_nil))))
  (s_seq (s_asg (s_op o_ixL (s_lst (s_cons (s_op o_add (s_c fun _ => rfl) (s_call0 (s_consT (s_cons (s_c fun _ => rfl) s_nil)))) (s_cons (s_c fun _ => rfl) (s_cons (s_op o_add (s_c fun _ => rfl) (s_call0 (s_consT (s_cons (s_c fun _ => rfl) s_nil)))) (s_cons (s_c fun _ => rfl) s_nil))))) (s_call0 (s_consT (s_cons (s_c fun _ => rfl) s_nil)))))
  (s_seq (s_asg (s_op o_ixL (s_lst (s_cons (s_op o_add (s_c fun _ => rfl) (s_call0 (s_consT (s_cons (s_c fun _ => rfl) s_nil)))) (s_cons (s_op o_add (s_c fun _ => rfl) (s_call0 (s_consT (s_cons (s_var 1) s_nil)))) (s_cons (s_var 1) (s_cons (s_op o_add (s_c fun _ => rfl) (s_call0 (s_consT (s_cons (s_c fun _ => rfl) s_nil)))) s_nil))))) (s_var 2)))
  (s_ret (s_call0 (s_consT (s_cons (s_cb2 (r := rMin2) o_min2 (s_var 4) (s_var 1)) (s_cons (s_var 3) s_nil))))))))

theorem pr_law_wheel {as : List Ar} {Q : Md → D → Prop} {E : Nat → Prop} (h : psp_law_wheel as Q E) : q_law_wheel { nx := fun _ => Q .sh .non, rt := Q } (dstart 5 as) := by
  obtain ⟨most, rfl, m0, m1, q⟩ := h
  show q_law_wheel _ [some .tp, some (.sh (.int most)), none, none, none]
  unfold q_law_wheel
  walk_at "go"
  refine ⟨4, rfl, by omega, by omega, fun a a0 a1 => h_sc rfl ?_⟩
  walk_at "go"
  refine ⟨3, rfl, by omega, by omega, fun k1 k10 k11 => h_sc rfl ?_⟩
  walk_at "go"
  refine ⟨5, rfl, by omega, by omega, fun k2 k20 k21 => h_sc rfl ?_⟩
  walk_at "go"
  refine ⟨4, rfl, by omega, by omega, fun r r0 r1 => h_sc rfl ?_⟩
  obtain ⟨v, ev, hv, _⟩ := atI_of (xs := [D.int (1 + k1), .int 2, .int (3 + k2), .int 26]) r0 (by show r < 4; omega)
  refine h_ixL ev ?_
  have hk : ∃ k : Int, v = .int k ∧ 1 ≤ k ∧ k ≤ 26 := all2 (P := fun v => ∃ k : Int, v = .int k ∧ 1 ≤ k ∧ k ≤ 26) ⟨_, rfl, by omega, by omega⟩ (all2 ⟨_, rfl, by omega, by omega⟩ (all2 ⟨_, rfl, by omega, by omega⟩ (all1 ⟨_, rfl, by omega, by omega⟩))) v hv
  obtain ⟨k, rfl, k0, k1'⟩ := hk
  walk_at "go"
  refine ⟨4, rfl, by omega, by omega, fun n1 n10 n11 => h_sc rfl ?_⟩
  walk_at "go"
  refine ⟨most, rfl, by omega, by omega, fun n2 n20 n21 => h_sc rfl ?_⟩
  walk_at "go"
  refine ⟨9, rfl, by omega, by omega, fun n3 n30 n31 => h_sc rfl ?_⟩
  walk_at "go"
  obtain ⟨v, ev, hv, _⟩ := atI_of (xs := [D.int (1 + n1), .int (1 + n2), .int most, .int (1 + n3)]) a0 (by show a < 4; omega)
  refine h_ixL ev ?_
  have hn : ∃ n : Int, v = .int n ∧ 1 ≤ n := all2 (P := fun v => ∃ n : Int, v = .int n ∧ 1 ≤ n) ⟨_, rfl, by omega⟩ (all2 ⟨_, rfl, by omega⟩ (all2 ⟨_, rfl, by omega⟩ (all1 ⟨_, rfl, by omega⟩))) v hv
  obtain ⟨n, rfl, n0⟩ := hn
  walk_at "go"
  generalize hj : (if most < n then most else n) = j
  have hjm : 1 ≤ j ∧ j ≤ most := by rw [← hj]; split <;> omega
  refine ⟨j, k, rfl, by omega, by omega, k0, k1', fun l hl low => h_sc rfl ?_⟩
  walk_at "go"
  exact q l (by omega) (by omega) low
theorem rd_law_wheel {K : PySem.W.Frag} {c : Cl} {vs : List V} {H : Hp} {Q : VK} {E : XK} (h : lift K c psp_law_wheel vs H Q E) : t_law_wheel K c { nx := fun _ H' => Q .non H', rt := Q } (start ["draws", "most", "way", "kinds", "many"] vs) H :=
  rd_of (ts := fun _ => t_law_wheel K c) (qs := fun _ => q_law_wheel) (fun t e ep => sim_law_wheel t e ep) (fun as Qp Ep h => Nat.le_trans (Nat.le_of_eq (ln_law_wheel h)) (by decide)) (fun as Qp Ep h => pr_law_wheel h) h

theorem c_wheel {most : Int} {S' : Prop} {Q : Md → D → Prop} {E : Nat → Prop} (h0 : 1 ≤ most) (h1 : most ≤ 1000) (h : ∀ l : List Nat, 1 ≤ l.length → (l.length : Int) ≤ most → Low l → Q .sh (.str l)) : psp_law_wheel (List.map Ar.un [.tp, .sh (.int most)]) (fun m d => (S' → scalD d = true) ∧ Q m d) E :=
  ⟨most, rfl, h0, h1, fun l h1 h2 low => ⟨fun _ => rfl, h l h1 h2 low⟩⟩
/-! ### the law's own steps and costs -/
def psp_law_step : PSp := fun as Q _ => ∃ t w s : Int, as = [.sh (.int t), .sh (.int w), .sh (.int s)] ∧ 0 ≤ s ∧ s ≤ 1000 ∧ Q .sh (encP (wayOf t w, stepCost t w s))
theorem ln_law_step {as : List Ar} {Q : Md → D → Prop} {E : Nat → Prop} (h : psp_law_step as Q E) : as.length = 3 := by obtain ⟨_, _, _, rfl, _⟩ := h; rfl
def t_law_step (K : PySem.W.Frag) (c : Cl) : TS :=
  (tSeq (tAsg (tOp (rIxL K) (tLst (tCons (tVar 1) (tCons (tC (.int 1)) (tCons (tUn rNeg (tC (.int 1))) tNil)))) (tOp rAdd (tCB rInt1 (tCons (tOp rGt (tVar 0) (tC (.int 0))) tNil)) (tOp rMulW (tC (.int 2)) (tCB rInt1 (tCons (tOp rLt (tVar 0) (tC (.int 0))) tNil))))) (gName 3))
  (tRet (tTup (tCons (tVar 3) (tCons (tOp rAdd (tCB rMax2 (tCons (tVar 0) (tCons (tOp rSub (tC (.int 0)) (tVar 0)) tNil))) (tOp rMulW (tVar 2) (tCB rInt1 (tCons (tAndV (tOp rNe (tVar 3) (tVar 1)) (tOp rNe (tVar 1) (tC (.int 0)))) tNil)))) tNil)))))
def q_law_step : QS :=
  (qSeq (qAsg (qOp pIxL (qLst (qCons (qVar 1) (qCons (qC (.int 1)) (qCons (qUn pNeg (qC (.int 1))) qNil)))) (qOp pAdd (qUn pInt1 (qOp pGt (qVar 0) (qC (.int 0)))) (qOp pMulW (qC (.int 2)) (qUn pInt1 (qOp pLt (qVar 0) (qC (.int 0))))))) 3)
  (qRet (qTup (qCons (qVar 3) (qCons (qOp pAdd (qOp pMax2 (qVar 0) (qOp pSub (qC (.int 0)) (qVar 0))) (qOp pMulW (qVar 2) (qUn pInt1 (qAndV (qOp pNe (qVar 3) (qVar 1)) (qOp pNe (qVar 1) (qC (.int 0))))))) qNil)))))
theorem sim_law_step {K : PySem.W.Frag} {c : Cl} (t : Option Addr) (E : XK) (Ep : XP) : SimS K c t (fun _ => E) Ep (t_law_step K c) q_law_step :=
  (s_seq (s_asg (s_op o_ixL (s_lst (s_cons (s_var 1) (s_cons (s_c fun _ => rfl) (s_cons (s_un o_neg (s_c fun _ => rfl)) s_nil)))) (s_op o_add (s_cb1 (r := rInt1) o_int1 (s_op o_gt (s_var 0) (s_c fun _ => rfl))) (s_op o_mulW (s_c fun _ => rfl) (s_cb1 (r := rInt1) o_int1 (s_op o_lt (s_var 0) (s_c fun _ => rfl)))))))
  (s_ret (s_tup (s_cons (s_var 3) (s_cons (s_op o_add (s_cb2 (r := rMax2) o_max2 (s_var 0) (s_op o_sub (s_c fun _ => rfl) (s_var 0))) (s_op o_mulW (s_var 2) (s_cb1 (r := rInt1) o_int1 (s_andV (s_op o_ne (s_var 3) (s_var 1)) (s_op o_ne (s_var 1) (s_c fun _ => rfl)))))) s_nil)))))

theorem pr_law_step {as : List Ar} {Q : Md → D → Prop} {E : Nat → Prop} (h : psp_law_step as Q E) : q_law_step { nx := fun _ => Q .sh .non, rt := Q } (dstart 4 as) := by
  obtain ⟨t, w, s, rfl, s0, s1, q⟩ := h
  show q_law_step _ [some (.sh (.int t)), some (.sh (.int w)), some (.sh (.int s)), none]
  unfold q_law_step
  walk_at "go"
  refine h_I (cm (by omega) (by omega) (by split <;> omega) (by split <;> omega)) ?_
  walk_at "go"
  have hx : atI [D.int w, .int 1, .int (-1)] ((if decide (0 < t) = true then 1 else 0) + 2 * (if decide (t < 0) = true then 1 else 0)) = some (.int (wayOf t w)) := by
    unfold wayOf
    by_cases h1 : 0 < t
    · rw [decide_eq_true h1, decide_eq_false (by omega), if_pos h1]; rfl
    · rw [decide_eq_false h1, if_neg h1]
      by_cases h2 : t < 0
      · rw [decide_eq_true h2, if_pos h2]; rfl
      · rw [decide_eq_false h2, if_neg h2]; rfl
  refine h_ixL hx ?_
  walk_at "go"
  have fin : ∀ b : Bool, b = decide (w ≠ 0 ∧ wayOf t w ≠ w) → Q .sh (.tup [.int (wayOf t w), .int ((if 0 - t > t then 0 - t else t) + s * (if b = true then 1 else 0))]) := by
    intro b hb
    have e : (if 0 - t > t then 0 - t else t) + s * (if b = true then 1 else 0) = stepCost t w s := by
      unfold stepCost absI
      by_cases hc : w ≠ 0 ∧ wayOf t w ≠ w
      · have : b = true := by rw [hb]; exact decide_eq_true hc
        rw [this, if_pos hc]
        show (if 0 - t > t then 0 - t else t) + s * 1 = _
        rw [Int.mul_one]
        split <;> split <;> omega
      · have : b = false := by rw [hb]; exact decide_eq_false hc
        rw [this, if_neg hc]
        show (if 0 - t > t then 0 - t else t) + s * 0 = _
        rw [Int.mul_zero]
        split <;> split <;> omega
    rw [e]
    exact q
  have cs : ∀ b : Bool, CMulW s (if b = true then 1 else 0) := fun b => cm (by omega) (by omega) (by split <;> omega) (by split <;> omega)
  by_cases h1 : wayOf t w = w
  · rw [decide_eq_true h1]
    walk_at "go"
    refine h_I (cs false) ?_
    walk_at "go"
    exact fin false (by rw [decide_eq_false (fun z => z.2 h1)])
  · rw [decide_eq_false h1]
    walk_at "go"
    refine h_I (cs _) ?_
    walk_at "go"
    refine fin _ ?_
    by_cases h2 : w = 0
    · rw [decide_eq_true h2, decide_eq_false (fun z => z.1 h2)]; rfl
    · rw [decide_eq_false h2, decide_eq_true ⟨h2, h1⟩]; rfl
theorem rd_law_step {K : PySem.W.Frag} {c : Cl} {vs : List V} {H : Hp} {Q : VK} {E : XK} (h : lift K c psp_law_step vs H Q E) : t_law_step K c { nx := fun _ H' => Q .non H', rt := Q } (start ["turn", "way", "slack", "later"] vs) H :=
  rd_of (ts := fun _ => t_law_step K c) (qs := fun _ => q_law_step) (fun t e ep => sim_law_step t e ep) (fun as Qp Ep h => Nat.le_trans (Nat.le_of_eq (ln_law_step h)) (by decide)) (fun as Qp Ep h => pr_law_step h) h

def psp_law_cost : PSp := fun as Q _ => ∃ (ts : List Int) (s : Int), as = [.sh (.lst (ts.map .int)), .sh (.int s)] ∧ 0 ≤ s ∧ s ≤ 1000 ∧ Q .sh (.int (cst s 0 ts))
theorem ln_law_cost {as : List Ar} {Q : Md → D → Prop} {E : Nat → Prop} (h : psp_law_cost as Q E) : as.length = 2 := by obtain ⟨_, _, rfl, _⟩ := h; rfl
def t_law_cost (K : PySem.W.Frag) (c : Cl) : TS :=
  (tSeq (tAsg (tC (.int 0)) (gName 2))
  (tSeq (tAsg (tC (.int 0)) (gName 3))
  (tSeq (tFor (iList K (tVar 0)) (gName 4)
  (tSeq (tAsg (tCall (lift K c psp_law_step) [] E0 (tCons (tVar 4) (tCons (tVar 3) (tCons (tVar 1) tNil)))) (gTup K 2 (gCons (gName 3) (gCons (gName 5) gNil))))
  (tAsg (tOp rAdd (tVar 2) (tVar 5)) (gName 2))))
  (tRet (tVar 2)))))
def q_law_cost : QS :=
  (qSeq (qAsg (qC (.int 0)) 2)
  (qSeq (qAsg (qC (.int 0)) 3)
  (qSeq (qFor (qiList (qVar 0)) (qgName 4)
  (qSeq (qAsgG (qCall psp_law_step P0 (qCons (qVar 4) (qCons (qVar 3) (qCons (qVar 1) qNil)))) (qgTup 2 (qgCons (qgName 3) (qgCons (qgName 5) qgNil))))
  (qAsg (qOp pAdd (qVar 2) (qVar 5)) 2)))
  (qRetV 2))))
theorem sim_law_cost {K : PySem.W.Frag} {c : Cl} (t : Option Addr) (E : XK) (Ep : XP) : SimS K c t (fun _ => E) Ep (t_law_cost K c) q_law_cost :=
  (s_seq (s_asg (s_c fun _ => rfl))
  (s_seq (s_asg (s_c fun _ => rfl))
  (s_seq (s_for (si_list (s_var 0)) sg_name
  (s_seq (s_asgG (s_call0 (s_cons (s_var 4) (s_cons (s_var 3) (s_cons (s_var 1) s_nil)))) (sg_tup (sg_cons sg_name (sg_cons sg_name sg_nil))))
  (s_asg (s_op o_add (s_var 2) (s_var 5)))))
  (s_retV (i := 2)))))

theorem pr_law_cost {as : List Ar} {Q : Md → D → Prop} {E : Nat → Prop} (h : psp_law_cost as Q E) : q_law_cost { nx := fun _ => Q .sh .non, rt := Q } (dstart 6 as) := by
  obtain ⟨ts, s, rfl, s0, s1, q⟩ := h
  show q_law_cost _ [some (.sh (.lst (ts.map .int))), some (.sh (.int s)), none, none, none, none]
  unfold q_law_cost
  walk_at "go"
  refine loop_inv (fun i δ => ∃ (v4 v5 : Option SV), δ = [some (.sh (.lst (ts.map .int))), some (.sh (.int s)), some (.sh (.int (cst s 0 (ts.take i)))), some (.sh (.int (wayAll 0 (ts.take i)))), v4, v5]) ⟨_, _, rfl⟩ (fun i d δ' N hd hI hN => ?_) (fun δ' hI => ?_)
  · obtain ⟨v4, v5, rfl⟩ := hI
    obtain ⟨t, ht, rfl⟩ := map_at' hd
    rw [take_snoc ht, cst_app, wayAll_app] at hN
    walk_at "go"
    refine ⟨t, _, s, rfl, s0, s1, ?_⟩
    walk_at "go"
    refine h_gT rfl ?_
    walk_at "go"
    have e : cst s (wayAll 0 (ts.take i)) [t] = stepCost t (wayAll 0 (ts.take i)) s := by show _ + (0 : Int) = _; omega
    rw [e] at hN
    exact hN _ ⟨_, _, rfl⟩
  · obtain ⟨v4, v5, rfl⟩ := hI
    rw [List.length_map, List.take_length]
    walk_at "go"
    exact q
theorem rd_law_cost {K : PySem.W.Frag} {c : Cl} {vs : List V} {H : Hp} {Q : VK} {E : XK} (h : lift K c psp_law_cost vs H Q E) : t_law_cost K c { nx := fun _ H' => Q .non H', rt := Q } (start ["turns", "slack", "total", "way", "turn", "more"] vs) H :=
  rd_of (ts := fun _ => t_law_cost K c) (qs := fun _ => q_law_cost) (fun t e ep => sim_law_cost t e ep) (fun as Qp Ep h => Nat.le_trans (Nat.le_of_eq (ln_law_cost h)) (by decide)) (fun as Qp Ep h => pr_law_cost h) h

end Sw
local macro_rules | `(tactic| walk_at "go1") => `(tactic| first
  | with_reducible refine Sw.h_seqasg ?_
  | with_reducible refine Sw.h_op ?_
  | with_reducible refine Sw.h_varS rfl ?_
  | with_reducible refine Sw.h_varO rfl ?_
  | with_reducible refine Sw.h_c ?_
  | with_reducible refine Sw.h_I0 ?_
  | with_reducible refine Sw.h_cons ?_
  | with_reducible refine Sw.h_consT rfl ?_
  | with_reducible refine Sw.h_consC rfl ?_
  | with_reducible refine Sw.h_nil ?_
  | with_reducible refine Sw.h_call ?_
  | with_reducible refine Sw.h_un ?_
  | with_reducible refine Sw.h_test ?_
  | with_reducible refine Sw.h_bl ?_
  | with_reducible refine Sw.h_seqdrop ?_
  | with_reducible refine Sw.h_asS ?_
  | with_reducible refine Sw.h_asO ?_
  | with_reducible refine Sw.h_ne1 ?_
  | with_reducible refine Sw.h_ne2 ?_
  | with_reducible refine Sw.h_asg ?_
  | with_reducible refine Sw.h_drop ?_
  | with_reducible refine Sw.h_ret ?_
  | with_reducible refine Sw.h_retS rfl ?_
  | with_reducible refine Sw.h_retO rfl ?_
  | with_reducible refine Sw.h_retN ?_
  | with_reducible refine Sw.h_next ?_
  | with_reducible refine Sw.h_if ?_
  | with_reducible refine Sw.h_frzO rfl ?_
  | with_reducible refine Sw.h_frzS rfl ?_
  | with_reducible refine Sw.h_and ?_
  | with_reducible refine Sw.h_or ?_
  | with_reducible refine Sw.h_not ?_
  | with_reducible refine Sw.h_yes ?_
  | with_reducible refine Sw.h_andV ?_
  | with_reducible refine Sw.h_orV ?_
  | with_reducible refine Sw.h_notV ?_
  | with_reducible refine Sw.h_ifE ?_
  | with_reducible refine Sw.h_chain ?_
  | with_reducible refine Sw.h_lenC rfl ?_
  | with_reducible refine Sw.h_tup ?_
  | with_reducible refine Sw.h_lst ?_
  | with_reducible refine Sw.h_shs0 ?_
  | with_reducible refine Sw.h_shs1 ?_
  | with_reducible refine Sw.h_shs2 ?_
  | with_reducible refine Sw.h_shs3 ?_
  | with_reducible refine Sw.h_shs4 ?_
  | with_reducible refine Sw.h_sl ?_
  | with_reducible refine Sw.h_nopart ?_
  | with_reducible refine Sw.h_part ?_
  | with_reducible refine Sw.h_int ?_
  | with_reducible refine Sw.h_neg ?_
  | with_reducible refine Sw.h_S ?_
  | with_reducible refine Sw.h_inSign ?_
  | with_reducible refine Sw.h_notInSign ?_
  | with_reducible refine Sw.h_isN ?_
  | with_reducible refine Sw.h_notN ?_
  | with_reducible refine Sw.h_eq rfl ?_
  | with_reducible refine Sw.h_ne rfl ?_
  | with_reducible refine Sw.h_lenL ?_
  | with_reducible refine Sw.h_lenT ?_
  | with_reducible refine Sw.h_abs ?_
  | with_reducible refine Sw.h_max2 ?_
  | with_reducible refine Sw.h_min2 ?_
  | with_reducible refine Sw.h_int1b ?_
  | with_reducible refine Sw.h_sum ?_
  | with_reducible refine Sw.h_listOf ?_
  | with_reducible refine Sw.h_slL ?_
  | with_reducible refine Sw.h_slT ?_
  | with_reducible refine Sw.h_revL ?_
  | with_reducible refine Sw.h_newK ?_
  | with_reducible refine Sw.h_newT ?_
  | with_reducible refine Sw.h_seqfor ?_
  | with_reducible refine Sw.h_seqforD ?_
  | with_reducible refine Sw.h_dispT ?_
  | with_reducible refine Sw.h_LM ?_
  | with_reducible refine Sw.h_for ?_
  | with_reducible refine Sw.h_iList ?_
  | with_reducible refine Sw.h_iTup ?_
  | with_reducible refine Sw.h_iStr ?_
  | with_reducible refine Sw.h_iR1 ?_
  | with_reducible refine Sw.h_iR2 ?_
  | with_reducible refine Sw.h_iR3 ?_
  | with_reducible refine Sw.h_iEnum ?_
  | with_reducible refine Sw.h_iZip ?_
  | with_reducible refine Sw.h_iZipS ?_
  | with_reducible refine Sw.h_lst1 ?_
  | with_reducible refine Sw.h_tup1 ?_
  | with_reducible refine Sw.h_str1 ?_
  | with_reducible refine Sw.h_lc ?_
  | with_reducible refine Sw.h_gN ?_
  | with_reducible refine Sw.h_gT rfl ?_
  | with_reducible refine Sw.h_gC ?_
  | with_reducible refine Sw.h_gE ?_
  | with_reducible refine Sw.h_asgG ?_
  | with_reducible refine Sw.h_forD ?_
  | with_reducible refine Sw.h_raise ?_
  | with_reducible refine Sw.h_seqasgG ?_
  | with_reducible refine Sw.h_seqfrzO rfl ?_
  | with_reducible refine Sw.h_seqfrzS rfl ?_
  | with_reducible refine Sw.h_isi rfl rfl ?_
  | with_reducible refine Sw.h_ixT rfl ?_
  | with_reducible refine Sw.h_seq1 ?_
  | with_reducible refine L2.iteT ?_ | with_reducible refine L2.iteF ?_ | with_reducible refine Sw.iteNT ?_ | with_reducible refine Sw.iteNF ?_ | refine Sw.h_np rfl ?_)
local macro_rules | `(tactic| walk_at "go") => `(tactic| repeat walk_at "go1")
local macro_rules | `(tactic| walk_at "sz") => `(tactic| first
  | omega
  | decide
  | (simp only [List.length_append, List.length_map, List.length_cons, List.length_nil, List.length_take, List.length_drop, List.length_reverse, List.length_set, List.length_replicate, List.length_range]; omega)
  | (refine Nat.le_trans (Sw.cut_len _ _ _) ?_; omega))
local macro_rules | `(tactic| walk_at "gx1") => `(tactic| first
  | walk_at "go1"
  | refine Sw.c_draw (by omega) (by omega) (fun _ _ _ => ?_)
  | refine Sw.c_letters (by omega) (by omega) (by omega) (by omega) (fun _ _ _ => ?_)
  | refine Sw.c_wheel (by omega) (by omega) (fun _ _ _ _ => ?_)
  | refine Sw.c_word (by walk_at "sz") (by walk_at "sz") (by omega) (by omega) (fun _ _ _ => ?_)
  | refine Sw.c_bent (by walk_at "sz") (by assumption) (fun _ _ _ => ?_)
  | refine Sw.c_lis_word (by walk_at "sz") (by assumption) ?_
  | refine Sw.h_sc rfl ?_
  | refine Sw.h_lenS (by walk_at "sz") ?_
  | refine Sw.h_slS (by walk_at "sz") ?_
  | refine Sw.h_addS (by walk_at "sz") ?_
  | refine Sw.h_I (by omega) ?_
  | refine Sw.h_I (Sw.cm (by omega) (by omega) (by omega) (by omega)) ?_
  | refine Sw.h_I (Sw.cd (by omega) (by omega)) ?_
  | refine Sw.h_I ⟨by decide, by decide, by decide⟩ ?_
  | refine Sw.h_gT rfl ?_
  | refine Sw.h_ixT rfl ?_
  | refine Sw.h_ixL rfl ?_
  | refine Sw.h_appE rfl ?_
  | refine Sw.h_appK rfl (by decide) (by walk_at "sz") ?_
  | refine Sw.h_setLE rfl ?_
  | refine Sw.h_putTE rfl ?_
  | refine Sw.h_putKE rfl ?_
  | refine Sw.h_tupOf ?_
  | refine Sw.h_listOfT ?_
  | refine Sw.h_orS ?_
  | refine And.intro (by omega) (And.intro (by omega) ?_))
local macro_rules | `(tactic| walk_at "gx") => `(tactic| repeat walk_at "gx1")
namespace Sw
open PySem PySem.Spec PyProof.Rows L2 SX
/-! ### the least cost is that of a plan, and of no plan less -/
theorem mem_steps {w : List Nat} {st : Std} {sg : List Nat} {s : Int} {x : Stp} : x ∈ stepsFrom w st sg s ↔ x.1 ∈ turnsTo w st.1 sg ∧ x.2.1 = stepTo w st x.1 ∧ x.2.2 = stepCost x.1 st.2 s := by
  unfold stepsFrom
  rw [List.mem_map]
  constructor
  · rintro ⟨t, ht, rfl⟩; exact ⟨ht, rfl, rfl⟩
  · rintro ⟨h1, h2, h3⟩; exact ⟨x.1, h1, Prod.ext rfl (Prod.ext h2.symm h3.symm)⟩
theorem rc_le {w : List Nat} {s : Int} : ∀ {st b : Std} {word : List Nat} {ts : List Int} {c : Int}, Run w s st word ts b c → rc w s word st ≤ c := by
  intro st b word ts c r
  induction r with
  | nil a => exact Int.le_refl _
  | @cons a b x t word ts c ht r ih =>
    have h : rc w s word (stepTo w a t) + stepCost t a.2 s ∈ (stepsFrom w a [x] s).map fun e => rc w s word e.2.1 + e.2.2 := List.mem_map.mpr ⟨(t, stepTo w a t, stepCost t a.2 s), mem_steps.mpr ⟨ht, rfl, rfl⟩, rfl⟩
    have := minL_le h
    show minL _ ≤ _
    omega
/-- the first of the steps by which nothing is lost -/
def firstStep (w : List Nat) (s : Int) (x : Nat) (word : List Nat) (st : Std) : Option Stp := (stepsFrom w st [x] s).find? fun e => decide (rc w s word e.2.1 + e.2.2 = rc w s (x :: word) st)
theorem firstStep_some {w : List Nat} {s : Int} {x : Nat} {word : List Nat} {st : Std} (h : x ∈ w) : ∃ e, firstStep w s x word st = some e ∧ e ∈ stepsFrom w st [x] s ∧ rc w s word e.2.1 + e.2.2 = rc w s (x :: word) st := by
  have hne : ((stepsFrom w st [x] s).map fun e => rc w s word e.2.1 + e.2.2) ≠ [] := fun z => stepsFrom_ne st s h (List.map_eq_nil_iff.mp z)
  obtain ⟨e, he, ee⟩ := List.mem_map.mp (minL_mem hne)
  cases hf : firstStep w s x word st with
  | some e' =>
    refine ⟨e', rfl, List.mem_of_find?_eq_some hf, ?_⟩
    have := List.find?_some hf
    simpa using this
  | none =>
    unfold firstStep at hf
    rw [List.find?_eq_none] at hf
    exact absurd (decide_eq_true ee) (hf e he)
def planI (w : List Nat) (s : Int) : List Nat → Std → List Int
  | [], _ => []
  | x :: word, st => match firstStep w s x word st with
    | some e => e.1 :: planI w s word e.2.1
    | none => []
theorem planI_run {w : List Nat} {s : Int} : ∀ (word : List Nat) (st : Std), (∀ c ∈ word, c ∈ w) → ∃ b, Run w s st word (planI w s word st) b (rc w s word st)
  | [], st, _ => ⟨st, .nil st⟩
  | x :: word, st, h => by
    obtain ⟨e, h1, h2, h3⟩ := firstStep_some (s := s) (word := word) (st := st) (h x List.mem_cons_self)
    obtain ⟨e1, e2, e3⟩ := mem_steps.mp h2
    obtain ⟨b, r⟩ := planI_run word e.2.1 fun c hc => h c (List.mem_cons_of_mem _ hc)
    refine ⟨b, ?_⟩
    show Run w s st (x :: word) (match firstStep w s x word st with | some e => e.1 :: planI w s word e.2.1 | none => []) b _
    rw [h1]
    show Run w s st (x :: word) (e.1 :: planI w s word e.2.1) b _
    rw [← h3, e3, Int.add_comm, e2]
    rw [e2] at r
    exact Run.cons e1 r
theorem rc_run {w : List Nat} {s : Int} (word : List Nat) (st : Std) (h : ∀ c ∈ word, c ∈ w) : ∃ ts b, Run w s st word ts b (rc w s word st) := by
  obtain ⟨b, r⟩ := planI_run (s := s) word st h
  exact ⟨_, b, r⟩
theorem planI_cost {w : List Nat} {s : Int} {word : List Nat} {st : Std} (h : ∀ c ∈ word, c ∈ w) : cst s st.2 (planI w s word st) = rc w s word st := by
  obtain ⟨b, r⟩ := planI_run (s := s) word st h
  exact (run_cost r).symm
theorem planI_len {w : List Nat} {s : Int} {word : List Nat} {st : Std} (h : ∀ c ∈ word, c ∈ w) : (planI w s word st).length = word.length := by
  obtain ⟨b, r⟩ := planI_run (s := s) word st h
  exact run_len r
/-- the least number of the last row -/
theorem row_min {w : List Nat} {s p : Int} {word : List Nat} {m : Int} (hin : ∀ c ∈ word, c ∈ w) (h : m ∈ (rowI w s p word).map (·.2)) (h' : ∀ j ∈ (rowI w s p word).map (·.2), m ≤ j) : m = rc w s word (p, 0) := by
  obtain ⟨e, he, rfl⟩ := List.mem_map.mp h
  have hb := rowI_best w s p word e.1
  rw [(valI_mem (rowI_nd w s p word)).mp he] at hb
  obtain ⟨ts, r⟩ := hb.1
  have h1 := rc_le r
  obtain ⟨ts2, b, r2⟩ := rc_run (w := w) (s := s) word (p, 0) hin
  have hb2 := rowI_best w s p word b
  cases hv : valI (rowI w s p word) b with
  | none => rw [hv] at hb2; exact absurd ⟨ts2, r2⟩ (hb2 _)
  | some v =>
    rw [hv] at hb2
    have h2 := hb2.2 _ ⟨ts2, r2⟩
    have h3 := h' v (List.mem_map.mpr ⟨(b, v), (valI_mem (rowI_nd w s p word)).mpr hv, rfl⟩)
    omega
theorem row_ne {w : List Nat} {s p : Int} {word : List Nat} (hin : ∀ c ∈ word, c ∈ w) : rowI w s p word ≠ [] := by
  obtain ⟨ts2, b, r2⟩ := rc_run (w := w) (s := s) word (p, 0) hin
  have hb2 := rowI_best w s p word b
  intro z
  rw [z] at hb2
  exact hb2 _ ⟨ts2, r2⟩
theorem find_take {α : Type} {l : List α} {i : Nat} {x : α} {f : α → Bool} (h : l[i]? = some x) : (l.take (i + 1)).find? f = ((l.take i).find? f).or (if f x = true then some x else none) := by
  rw [take_snoc h, List.find?_append]
  congr 1
  by_cases hf : f x = true
  · rw [if_pos hf, List.find?_cons_of_pos hf]
  · rw [if_neg hf, List.find?_cons_of_neg hf]; rfl
/-- stands that come -/
theorem plan_in {w : List Nat} {s p : Int} {word : List Nat} {k : Nat} {c : Nat} {st : Std} {e : Stp} (hc : word[k]? = some c) (h : ∃ v, valI (rowI w s p (word.take k)) st = some v) (he : e ∈ stepsFrom w st [c] s) : ∃ v, valI (rowI w s p (word.take (k + 1))) e.2.1 = some v := by
  obtain ⟨v, hv⟩ := h
  rw [take_snoc hc, rowI_snoc]
  exact next_in (e := (st, v)) ((valI_mem (rowI_nd w s p _)).mpr hv) he
end Sw
local macro_rules | `(tactic| walk_at "go1") => `(tactic| first
  | with_reducible refine Sw.h_seqasg ?_
  | with_reducible refine Sw.h_op ?_
  | with_reducible refine Sw.h_varS rfl ?_
  | with_reducible refine Sw.h_varO rfl ?_
  | with_reducible refine Sw.h_c ?_
  | with_reducible refine Sw.h_I0 ?_
  | with_reducible refine Sw.h_cons ?_
  | with_reducible refine Sw.h_consT rfl ?_
  | with_reducible refine Sw.h_consC rfl ?_
  | with_reducible refine Sw.h_nil ?_
  | with_reducible refine Sw.h_call ?_
  | with_reducible refine Sw.h_un ?_
  | with_reducible refine Sw.h_test ?_
  | with_reducible refine Sw.h_bl ?_
  | with_reducible refine Sw.h_seqdrop ?_
  | with_reducible refine Sw.h_asS ?_
  | with_reducible refine Sw.h_asO ?_
  | with_reducible refine Sw.h_ne1 ?_
  | with_reducible refine Sw.h_ne2 ?_
  | with_reducible refine Sw.h_asg ?_
  | with_reducible refine Sw.h_drop ?_
  | with_reducible refine Sw.h_ret ?_
  | with_reducible refine Sw.h_retS rfl ?_
  | with_reducible refine Sw.h_retO rfl ?_
  | with_reducible refine Sw.h_retN ?_
  | with_reducible refine Sw.h_next ?_
  | with_reducible refine Sw.h_if ?_
  | with_reducible refine Sw.h_frzO rfl ?_
  | with_reducible refine Sw.h_frzS rfl ?_
  | with_reducible refine Sw.h_and ?_
  | with_reducible refine Sw.h_or ?_
  | with_reducible refine Sw.h_not ?_
  | with_reducible refine Sw.h_yes ?_
  | with_reducible refine Sw.h_andV ?_
  | with_reducible refine Sw.h_orV ?_
  | with_reducible refine Sw.h_notV ?_
  | with_reducible refine Sw.h_ifE ?_
  | with_reducible refine Sw.h_chain ?_
  | with_reducible refine Sw.h_lenC rfl ?_
  | with_reducible refine Sw.h_tup ?_
  | with_reducible refine Sw.h_lst ?_
  | with_reducible refine Sw.h_shs0 ?_
  | with_reducible refine Sw.h_shs1 ?_
  | with_reducible refine Sw.h_shs2 ?_
  | with_reducible refine Sw.h_shs3 ?_
  | with_reducible refine Sw.h_shs4 ?_
  | with_reducible refine Sw.h_sl ?_
  | with_reducible refine Sw.h_nopart ?_
  | with_reducible refine Sw.h_part ?_
  | with_reducible refine Sw.h_int ?_
  | with_reducible refine Sw.h_neg ?_
  | with_reducible refine Sw.h_S ?_
  | with_reducible refine Sw.h_inSign ?_
  | with_reducible refine Sw.h_notInSign ?_
  | with_reducible refine Sw.h_isN ?_
  | with_reducible refine Sw.h_notN ?_
  | with_reducible refine Sw.h_eq rfl ?_
  | with_reducible refine Sw.h_ne rfl ?_
  | with_reducible refine Sw.h_lenL ?_
  | with_reducible refine Sw.h_lenT ?_
  | with_reducible refine Sw.h_abs ?_
  | with_reducible refine Sw.h_max2 ?_
  | with_reducible refine Sw.h_min2 ?_
  | with_reducible refine Sw.h_int1b ?_
  | with_reducible refine Sw.h_sum ?_
  | with_reducible refine Sw.h_listOf ?_
  | with_reducible refine Sw.h_slL ?_
  | with_reducible refine Sw.h_slT ?_
  | with_reducible refine Sw.h_revL ?_
  | with_reducible refine Sw.h_newK ?_
  | with_reducible refine Sw.h_newT ?_
  | with_reducible refine Sw.h_seqfor ?_
  | with_reducible refine Sw.h_seqforD ?_
  | with_reducible refine Sw.h_dispT ?_
  | with_reducible refine Sw.h_LM ?_
  | with_reducible refine Sw.h_for ?_
  | with_reducible refine Sw.h_iList ?_
  | with_reducible refine Sw.h_iTup ?_
  | with_reducible refine Sw.h_iStr ?_
  | with_reducible refine Sw.h_iR1 ?_
  | with_reducible refine Sw.h_iR2 ?_
  | with_reducible refine Sw.h_iR3 ?_
  | with_reducible refine Sw.h_iEnum ?_
  | with_reducible refine Sw.h_iZip ?_
  | with_reducible refine Sw.h_iZipS ?_
  | with_reducible refine Sw.h_lst1 ?_
  | with_reducible refine Sw.h_tup1 ?_
  | with_reducible refine Sw.h_str1 ?_
  | with_reducible refine Sw.h_lc ?_
  | with_reducible refine Sw.h_gN ?_
  | with_reducible refine Sw.h_gT rfl ?_
  | with_reducible refine Sw.h_gC ?_
  | with_reducible refine Sw.h_gE ?_
  | with_reducible refine Sw.h_asgG ?_
  | with_reducible refine Sw.h_forD ?_
  | with_reducible refine Sw.h_raise ?_
  | with_reducible refine Sw.h_seqasgG ?_
  | with_reducible refine Sw.h_seqfrzO rfl ?_
  | with_reducible refine Sw.h_seqfrzS rfl ?_
  | with_reducible refine Sw.h_isi rfl rfl ?_
  | with_reducible refine Sw.h_ixT rfl ?_
  | with_reducible refine Sw.h_seq1 ?_
  | with_reducible refine L2.iteT ?_ | with_reducible refine L2.iteF ?_ | with_reducible refine Sw.iteNT ?_ | with_reducible refine Sw.iteNF ?_ | refine Sw.h_np rfl ?_)
local macro_rules | `(tactic| walk_at "go") => `(tactic| repeat walk_at "go1")
local macro_rules | `(tactic| walk_at "sz") => `(tactic| first
  | omega
  | decide
  | (simp only [List.length_append, List.length_map, List.length_cons, List.length_nil, List.length_take, List.length_drop, List.length_reverse, List.length_set, List.length_replicate, List.length_range]; omega)
  | (refine Nat.le_trans (Sw.cut_len _ _ _) ?_; omega))
local macro_rules | `(tactic| walk_at "gx1") => `(tactic| first
  | walk_at "go1"
  | refine Sw.c_draw (by omega) (by omega) (fun _ _ _ => ?_)
  | refine Sw.c_letters (by omega) (by omega) (by omega) (by omega) (fun _ _ _ => ?_)
  | refine Sw.c_wheel (by omega) (by omega) (fun _ _ _ _ => ?_)
  | refine Sw.c_word (by walk_at "sz") (by walk_at "sz") (by omega) (by omega) (fun _ _ _ => ?_)
  | refine Sw.c_bent (by walk_at "sz") (by assumption) (fun _ _ _ => ?_)
  | refine Sw.c_lis_word (by walk_at "sz") (by assumption) ?_
  | refine Sw.h_sc rfl ?_
  | refine Sw.h_lenS (by walk_at "sz") ?_
  | refine Sw.h_slS (by walk_at "sz") ?_
  | refine Sw.h_addS (by walk_at "sz") ?_
  | refine Sw.h_I (by omega) ?_
  | refine Sw.h_I (Sw.cm (by omega) (by omega) (by omega) (by omega)) ?_
  | refine Sw.h_I (Sw.cd (by omega) (by omega)) ?_
  | refine Sw.h_I ⟨by decide, by decide, by decide⟩ ?_
  | refine Sw.h_gT rfl ?_
  | refine Sw.h_ixT rfl ?_
  | refine Sw.h_ixL rfl ?_
  | refine Sw.h_appE rfl ?_
  | refine Sw.h_appK rfl (by decide) (by walk_at "sz") ?_
  | refine Sw.h_setLE rfl ?_
  | refine Sw.h_putTE rfl ?_
  | refine Sw.h_putKE rfl ?_
  | refine Sw.h_tupOf ?_
  | refine Sw.h_listOfT ?_
  | refine Sw.h_orS ?_
  | refine And.intro (by omega) (And.intro (by omega) ?_))
local macro_rules | `(tactic| walk_at "gx") => `(tactic| repeat walk_at "gx1")
namespace Sw
open PySem PySem.Spec PyProof.Rows L2 SX
theorem restsI_at {w : List Nat} {s : Int} {word : List Nat} {k : Nat} (h : k ≤ word.length) : ((restsI w s word).map encRowP)[k]? = some (encRowP (restRow w s word k)) := by
  unfold restsI
  rw [List.getElem?_map, List.getElem?_map, List.getElem?_range (by omega)]
  rfl
theorem rest_get {w : List Nat} {s : Int} {word : List Nat} {k : Nat} {st : Std} (h : ∃ v, valI (rowI w s 0 (word.take k)) st = some v) : getD' ((restRow w s word k).map fun e => (encK e.1, encP e.2)) (encK st) = some (encP (rc w s (word.drop k) st, rn w s (word.drop k) st)) := by
  obtain ⟨v, hv⟩ := h
  rw [rowP_get]
  unfold restRow
  rw [restOf_get hv]
  rfl
def psp_least_plan : PSp := fun as Q E => ∃ (w word : List Nat) (s : Int), as = [.sh (.str w), .sh (.str word), .sh (.int s)] ∧ w.length ≤ 1000000 ∧ word.length ≤ 1000000 ∧ (match errandDue w word s with | none => Q .ow (.lst ((planI w s word (0, 0)).map .int)) | some n => E n)
theorem ln_least_plan {as : List Ar} {Q : Md → D → Prop} {E : Nat → Prop} (h : psp_least_plan as Q E) : as.length = 3 := by obtain ⟨_, _, _, rfl, _⟩ := h; rfl
def t_least_plan (K : PySem.W.Frag) (c : Cl) (E : XK) : TS :=
  (tSeq (tDrop (tCall (lift K c psp_look_at_errand) [] E (tCons (tVar 0) (tCons (tVar 1) (tCons (tVar 2) tNil)))))
  (tSeq (tAsg (tCall (lift K c psp_rests) [] E0 (tCons (tVar 0) (tCons (tVar 1) (tCons (tVar 2) tNil)))) (gName 3))
  (tSeq (tAsg (tTup (tCons (tC (.int 0)) (tCons (tC (.int 0)) tNil))) (gName 4))
  (tSeq (tAsg (tLst tNil) (gName 5))
  (tSeq (tFor (iRng1 (tCons (tCB rLenStr (tCons (tVar 1) tNil)) tNil)) (gName 6)
  (tSeq (tFor (iList K (tCall (lift K c psp_steps_from) [] E0 (tCons (tVar 0) (tCons (tVar 4) (tCons (tOp rIxS (tVar 1) (tVar 6)) (tCons (tVar 2) tNil)))))) (gTup K 3 (gCons (gName 7) (gCons (gName 8) (gCons (gName 9) gNil))))
  (tIfS (tAnd (tTest (tOp rEq (tCB (rLenSq K) (tCons (tVar 5) tNil)) (tVar 6))) (tTest (tOp rEq (tOp rAdd (tOp (rIxT K) (tDGet (tOp (rIxL K) (tVar 3) (tOp rAdd (tVar 6) (tC (.int 1)))) (tVar 8)) (tC (.int 0))) (tVar 9)) (tOp (rIxT K) (tDGet (tOp (rIxL K) (tVar 3) (tVar 6)) (tVar 4)) (tC (.int 0)))))) (tSeq (tDrop (tBM K "list" rAppend (tVar 5) (tCons (tVar 7) tNil)))
  (tAsg (tVar 8) (gName 10))) tNext))
  (tAsg (tVar 10) (gName 4))))
  (tRet (tVar 5)))))))
def q_least_plan (Ep : XP) : QS :=
  (qSeq (qDrop (qCall psp_look_at_errand Ep (qCons (qVar 0) (qCons (qVar 1) (qCons (qVar 2) qNil)))))
  (qSeq (qAsg (qCall psp_rests P0 (qCons (qVar 0) (qCons (qVar 1) (qCons (qVar 2) qNil)))) 3)
  (qSeq (qAsg (qTup (qCons (qC (.int 0)) (qCons (qC (.int 0)) qNil))) 4)
  (qSeq (qAsg (qLst qNil) 5)
  (qSeq (qFor (qiR1 (qUn pLenS (qVar 1))) (qgName 6)
  (qSeq (qFor (qiList (qCall psp_steps_from P0 (qCons (qVar 0) (qCons (qVar 4) (qCons (qOp pIxS (qVar 1) (qVar 6)) (qCons (qVar 2) qNil)))))) (qgTup 3 (qgCons (qgName 7) (qgCons (qgName 8) (qgCons (qgName 9) qgNil))))
  (qIfS (qAnd (qTest (qOp pEq (qUn pLenL (qVar 5)) (qVar 6))) (qTest (qOp pEq (qOp pAdd (qOp pIxT (qOp pGetT (qOp pIxL (qVar 3) (qOp pAdd (qVar 6) (qC (.int 1)))) (qVar 8)) (qC (.int 0))) (qVar 9)) (qOp pIxT (qOp pGetT (qOp pIxL (qVar 3) (qVar 6)) (qVar 4)) (qC (.int 0)))))) (qSeq (qAppS 5 (qVar 7))
  (qAsg (qVar 8) 10)) qNext))
  (qAsg (qVar 10) 4)))
  (qRetV 5))))))
theorem sim_least_plan {K : PySem.W.Frag} {c : Cl} (t : Option Addr) (E : XK) (Ep : XP) : SimS K c t (fun _ => E) Ep (t_least_plan K c E) (q_least_plan Ep) :=
  (s_seq (s_drop (s_callX (s_cons (s_var 0) (s_cons (s_var 1) (s_cons (s_var 2) s_nil)))))
  (s_seq (s_asg (s_call0 (s_cons (s_var 0) (s_cons (s_var 1) (s_cons (s_var 2) s_nil)))))
  (s_seq (s_asg (s_tup (s_cons (s_c fun _ => rfl) (s_cons (s_c fun _ => rfl) s_nil))))
  (s_seq (s_asg (s_lst s_nil))
  (s_seq (s_for (si_r1 (s_cb1 (r := rLenStr) o_lenS (s_var 1))) sg_name
  (s_seq (s_for (si_list (s_call0 (s_cons (s_var 0) (s_cons (s_var 4) (s_cons (s_op o_ixS (s_var 1) (s_var 6)) (s_cons (s_var 2) s_nil)))))) (sg_tup (sg_cons sg_name (sg_cons sg_name (sg_cons sg_name sg_nil))))
  (s_ifS (s_and (s_test (s_op o_eq (s_cb1 (r := (rLenSq K)) o_lenL (s_var 5)) (s_var 6))) (s_test (s_op o_eq (s_op o_add (s_op o_ixT (s_dget o_getT (s_op o_ixL (s_var 3) (s_op o_add (s_var 6) (s_c fun _ => rfl))) (s_var 8)) (s_c fun _ => rfl)) (s_var 9)) (s_op o_ixT (s_dget o_getT (s_op o_ixL (s_var 3) (s_var 6)) (s_var 4)) (s_c fun _ => rfl))))) (s_seq (s_app K (i := 5) (s_var 7))
  (s_asg (s_var 8))) s_next))
  (s_asg (s_var 10))))
  (s_retV (i := 5)))))))

theorem pr_least_plan {as : List Ar} {Q : Md → D → Prop} {E : Nat → Prop} (h : psp_least_plan as Q E) : q_least_plan (fun _ n => E n) { nx := fun _ => Q .sh .non, rt := Q } (dstart 11 as) := by
  obtain ⟨w, word, s, rfl, l1, l2, q⟩ := h
  show q_least_plan _ _ [some (.sh (.str w)), some (.sh (.str word)), some (.sh (.int s)), none, none, none, none, none, none, none, none]
  unfold q_least_plan
  walk_at "go"
  refine ⟨w, word, s, rfl, l1, l2, ?_⟩
  cases hdue : errandDue w word s with
  | some n => rw [hdue] at q; exact q
  | none =>
    rw [hdue] at q
    obtain ⟨⟨w0, w1, _⟩, ⟨d1, _⟩, _, hin⟩ := errand_ok hdue
    show _ ∧ _
    refine h_sc rfl ?_
    walk_at "go"
    refine ⟨w, word, s, rfl, w0, by omega, by omega, hin, ?_⟩
    walk_at "go"
    refine h_lenS (by omega) ?_
    walk_at "go"
    refine ⟨by omega, by omega, h_ne1 ?_⟩
    refine loop_inv (fun k δ => ∃ (st : Std) (pl : List Int), pl.length = k ∧ (∃ v, valI (rowI w s 0 (word.take k)) st = some v) ∧ planI w s word (0, 0) = pl ++ planI w s (word.drop k) st ∧ ∃ (v6 v7 v8 v9 v10 : Option SV), δ = [some (.sh (.str w)), some (.sh (.str word)), some (.sh (.int s)), some (.ow (.lst ((restsI w s word).map encRowP))), some (.sh (encP st)), some (.ow (.lst (pl.map .int))), v6, v7, v8, v9, v10]) ⟨(0, 0), [], rfl, ⟨0, getA_pos rfl⟩, rfl, _, _, _, _, _, rfl⟩ (fun k d δ' N hd hI hN => ?_) (fun δ' hI => ?_)
    · obtain ⟨st, pl, hpl, hst, hplan, v6, v7, v8, v9, v10, rfl⟩ := hI
      obtain ⟨hk, rfl⟩ := rng_at hd
      have hkl : k < word.length := by omega
      obtain ⟨c, hc⟩ : ∃ c, word[k]? = some c := ⟨_, List.getElem?_eq_getElem hkl⟩
      have hcw : c ∈ w := hin c (List.mem_of_getElem? hc)
      have hdr : word.drop k = c :: word.drop (k + 1) := by
        obtain ⟨z1, z2⟩ := List.getElem?_eq_some_iff.mp hc
        rw [List.drop_eq_getElem_cons z1, z2]
      obtain ⟨e, hf, hmem, hrc⟩ := firstStep_some (s := s) (word := word.drop (k + 1)) (st := st) hcw
      rw [Int.zero_add]
      walk_at "go"
      refine h_ixS (by omega) (atI_nat hc) ?_
      walk_at "go"
      refine ⟨w, st, [c], s, rfl, w0, by omega, ?_⟩
      walk_at "go"
      refine loop_inv (fun z δ => match ((stepsFrom w st [c] s).take z).find? (fun e => decide (rc w s (word.drop (k + 1)) e.2.1 + e.2.2 = rc w s (c :: word.drop (k + 1)) st)) with
        | none => ∃ (v7 v8 v9 v10 : Option SV), δ = [some (.sh (.str w)), some (.sh (.str word)), some (.sh (.int s)), some (.ow (.lst ((restsI w s word).map encRowP))), some (.sh (encP st)), some (.ow (.lst (pl.map .int))), some (.sh (.int (k : Int))), v7, v8, v9, v10]
        | some x => ∃ (v7 v8 v9 : Option SV), δ = [some (.sh (.str w)), some (.sh (.str word)), some (.sh (.int s)), some (.ow (.lst ((restsI w s word).map encRowP))), some (.sh (encP st)), some (.ow (.lst (pl.map .int ++ [.int x.1]))), some (.sh (.int (k : Int))), v7, v8, v9, some (.sh (encP x.2.1))]) ?_ (fun z d δ' N2 hd hI hN2 => ?_) (fun δ' hI => ?_)
      · rw [List.take_zero]
        exact ⟨_, _, _, _, rfl⟩
      · obtain ⟨x, hx, rfl⟩ := map_at' hd
        have hxm := List.mem_of_getElem? hx
        have hin2 := plan_in hc hst hxm
        rw [find_take hx] at hN2
        cases hfz : ((stepsFrom w st [c] s).take z).find? (fun e => decide (rc w s (word.drop (k + 1)) e.2.1 + e.2.2 = rc w s (c :: word.drop (k + 1)) st)) with
        | some x0 =>
          rw [hfz] at hI hN2
          obtain ⟨v7, v8, v9, rfl⟩ := hI
          refine h_gT rfl ?_
          walk_at "go"
          have hne : decide (((List.map D.int pl ++ [D.int x0.1]).length : Int) = (k : Int)) = false := decide_eq_false (by rw [List.length_append, List.length_map]; simp; omega)
          rw [hne]
          walk_at "go"
          exact hN2 _ ⟨_, _, _, rfl⟩
        | none =>
          rw [hfz] at hI hN2
          obtain ⟨v7, v8, v9, v10, rfl⟩ := hI
          refine h_gT rfl ?_
          walk_at "go"
          have heq : decide (((List.map D.int pl).length : Int) = (k : Int)) = true := decide_eq_true (by rw [List.length_map, hpl])
          rw [heq]
          walk_at "go"
          refine h_ixL (atI_nat (j := k + 1) (restsI_at (by omega))) ?_
          walk_at "go"
          refine h_getT (ks := encK x.2.1) rfl (rest_get hin2) ?_
          walk_at "go"
          refine h_ixT rfl ?_
          walk_at "go"
          refine h_ixL (atI_nat (restsI_at (by omega))) ?_
          walk_at "go"
          refine h_getT (ks := encK st) rfl (rest_get hst) ?_
          walk_at "go"
          refine h_ixT rfl ?_
          walk_at "go"
          rw [hdr]
          refine ite_p (fun hb => ?_) (fun hb => ?_)
          · rw [if_pos (decide_eq_true hb)] at hN2
            refine h_seq (h_appV rfl rfl (by rw [List.length_map]; omega) ?_)
            walk_at "go"
            exact hN2 _ ⟨_, _, _, rfl⟩
          · rw [if_neg (by simpa using hb)] at hN2
            walk_at "go"
            exact hN2 _ ⟨_, _, _, _, rfl⟩
      · rw [List.length_map, List.take_length, show (stepsFrom w st [c] s).find? (fun e => decide (rc w s (word.drop (k + 1)) e.2.1 + e.2.2 = rc w s (c :: word.drop (k + 1)) st)) = some e from hf] at hI
        obtain ⟨v7, v8, v9, rfl⟩ := hI
        walk_at "go"
        refine hN _ ⟨e.2.1, pl ++ [e.1], by rw [List.length_append, hpl]; rfl, plan_in hc hst hmem, ?_, by rw [List.map_append]; exact ⟨_, _, _, _, _, rfl⟩⟩
        rw [hplan, hdr, List.append_assoc]
        congr 1
        show (match firstStep w s c (word.drop (k + 1)) st with | some e => e.1 :: planI w s (word.drop (k + 1)) e.2.1 | none => []) = _
        rw [hf]
        rfl
    · obtain ⟨st, pl, hpl, hst, hplan, v6, v7, v8, v9, v10, rfl⟩ := hI
      have el : ((rng 0 (word.length : Int).toNat).map D.int).length = word.length := by unfold rng; simp
      rw [el, List.drop_length] at hplan
      have hplan' : planI w s word (0, 0) = pl := by rw [hplan]; exact List.append_nil _
      rw [hplan'] at q
      walk_at "go"
      exact q
theorem rd_least_plan {K : PySem.W.Frag} {c : Cl} {vs : List V} {H : Hp} {Q : VK} {E : XK} (h : lift K c psp_least_plan vs H Q E) : t_least_plan K c E { nx := fun _ H' => Q .non H', rt := Q } (start ["wheel", "word", "slack", "left", "stand", "plan", "k", "turn", "there", "more", "later"] vs) H :=
  rd_of (ts := fun e => t_least_plan K c e) (qs := fun ep => q_least_plan ep) (fun t e ep => sim_least_plan t e ep) (fun as Qp Ep h => Nat.le_trans (Nat.le_of_eq (ln_least_plan h)) (by decide)) (fun as Qp Ep h => pr_least_plan h) h

def psp_many_least : PSp := fun as Q E => ∃ (w word : List Nat) (s : Int), as = [.sh (.str w), .sh (.str word), .sh (.int s)] ∧ w.length ≤ 1000000 ∧ word.length ≤ 1000000 ∧ (match errandDue w word s with | none => Q .sh (.int (rn w s word (0, 0))) | some n => E n)
theorem ln_many_least {as : List Ar} {Q : Md → D → Prop} {E : Nat → Prop} (h : psp_many_least as Q E) : as.length = 3 := by obtain ⟨_, _, _, rfl, _⟩ := h; rfl
def t_many_least (K : PySem.W.Frag) (c : Cl) (E : XK) : TS :=
  (tSeq (tDrop (tCall (lift K c psp_look_at_errand) [] E (tCons (tVar 0) (tCons (tVar 1) (tCons (tVar 2) tNil)))))
  (tRet (tOp (rIxT K) (tDGet (tOp (rIxL K) (tCall (lift K c psp_rests) [] E0 (tCons (tVar 0) (tCons (tVar 1) (tCons (tVar 2) tNil)))) (tC (.int 0))) (tTup (tCons (tC (.int 0)) (tCons (tC (.int 0)) tNil)))) (tC (.int 1)))))
def q_many_least (Ep : XP) : QS :=
  (qSeq (qDrop (qCall psp_look_at_errand Ep (qCons (qVar 0) (qCons (qVar 1) (qCons (qVar 2) qNil)))))
  (qRet (qOp pIxT (qOp pGetT (qOp pIxL (qCall psp_rests P0 (qCons (qVar 0) (qCons (qVar 1) (qCons (qVar 2) qNil)))) (qC (.int 0))) (qTup (qCons (qC (.int 0)) (qCons (qC (.int 0)) qNil)))) (qC (.int 1)))))
theorem sim_many_least {K : PySem.W.Frag} {c : Cl} (t : Option Addr) (E : XK) (Ep : XP) : SimS K c t (fun _ => E) Ep (t_many_least K c E) (q_many_least Ep) :=
  (s_seq (s_drop (s_callX (s_cons (s_var 0) (s_cons (s_var 1) (s_cons (s_var 2) s_nil)))))
  (s_ret (s_op o_ixT (s_dget o_getT (s_op o_ixL (s_call0 (s_cons (s_var 0) (s_cons (s_var 1) (s_cons (s_var 2) s_nil)))) (s_c fun _ => rfl)) (s_tup (s_cons (s_c fun _ => rfl) (s_cons (s_c fun _ => rfl) s_nil)))) (s_c fun _ => rfl))))

theorem pr_many_least {as : List Ar} {Q : Md → D → Prop} {E : Nat → Prop} (h : psp_many_least as Q E) : q_many_least (fun _ n => E n) { nx := fun _ => Q .sh .non, rt := Q } (dstart 3 as) := by
  obtain ⟨w, word, s, rfl, l1, l2, q⟩ := h
  show q_many_least _ _ [some (.sh (.str w)), some (.sh (.str word)), some (.sh (.int s))]
  unfold q_many_least
  walk_at "go"
  refine ⟨w, word, s, rfl, l1, l2, ?_⟩
  cases hdue : errandDue w word s with
  | some n => rw [hdue] at q; exact q
  | none =>
    rw [hdue] at q
    obtain ⟨⟨w0, w1, _⟩, ⟨d1, _⟩, _, hin⟩ := errand_ok hdue
    show _ ∧ _
    refine h_sc rfl ?_
    walk_at "go"
    refine ⟨w, word, s, rfl, w0, by omega, by omega, hin, ?_⟩
    walk_at "go"
    refine h_ixL (atI_nat (j := 0) (restsI_at (by omega))) ?_
    walk_at "go"
    refine h_getT (ks := encK (0, 0)) rfl (rest_get ⟨0, getA_pos rfl⟩) ?_
    walk_at "go"
    refine h_ixT rfl ?_
    walk_at "go"
    exact q
theorem rd_many_least {K : PySem.W.Frag} {c : Cl} {vs : List V} {H : Hp} {Q : VK} {E : XK} (h : lift K c psp_many_least vs H Q E) : t_many_least K c E { nx := fun _ H' => Q .non H', rt := Q } (start ["wheel", "word", "slack"] vs) H :=
  rd_of (ts := fun e => t_many_least K c e) (qs := fun ep => q_many_least ep) (fun t e ep => sim_many_least t e ep) (fun as Qp Ep h => Nat.le_trans (Nat.le_of_eq (ln_many_least h)) (by decide)) (fun as Qp Ep h => pr_many_least h) h

def psp_least_cost : PSp := fun as Q E => ∃ (w word : List Nat) (s : Int), as = [.sh (.str w), .sh (.str word), .sh (.int s)] ∧ w.length ≤ 1000000 ∧ word.length ≤ 1000000 ∧ (match errandDue w word s with | none => Q .sh (.int (rc w s word (0, 0))) | some n => E n)
theorem ln_least_cost {as : List Ar} {Q : Md → D → Prop} {E : Nat → Prop} (h : psp_least_cost as Q E) : as.length = 3 := by obtain ⟨_, _, _, rfl, _⟩ := h; rfl
def t_least_cost (K : PySem.W.Frag) (c : Cl) (E : XK) : TS :=
  (tSeq (tDrop (tCall (lift K c psp_look_at_errand) [] E (tCons (tVar 0) (tCons (tVar 1) (tCons (tVar 2) tNil)))))
  (tRet (tMinValsT (tOp (rIxL K) (tCall (lift K c psp_rows_from) [] E0 (tCons (tVar 0) (tCons (tVar 1) (tCons (tVar 2) (tCons (tC (.int 0)) tNil))))) (tUn rNeg (tC (.int 1)))))))
def q_least_cost (Ep : XP) : QS :=
  (qSeq (qDrop (qCall psp_look_at_errand Ep (qCons (qVar 0) (qCons (qVar 1) (qCons (qVar 2) qNil)))))
  (qRet (qUn pMinV (qOp pIxL (qCall psp_rows_from P0 (qCons (qVar 0) (qCons (qVar 1) (qCons (qVar 2) (qCons (qC (.int 0)) qNil))))) (qUn pNeg (qC (.int 1)))))))
theorem sim_least_cost {K : PySem.W.Frag} {c : Cl} (t : Option Addr) (E : XK) (Ep : XP) : SimS K c t (fun _ => E) Ep (t_least_cost K c E) (q_least_cost Ep) :=
  (s_seq (s_drop (s_callX (s_cons (s_var 0) (s_cons (s_var 1) (s_cons (s_var 2) s_nil)))))
  (s_ret (s_un (r := rMinV) o_minV (s_op o_ixL (s_call0 (s_cons (s_var 0) (s_cons (s_var 1) (s_cons (s_var 2) (s_cons (s_c fun _ => rfl) s_nil))))) (s_un o_neg (s_c fun _ => rfl))))))

theorem min_row {w : List Nat} {s p : Int} {word : List Nat} {Q : Md → D → Prop} (hin : ∀ c ∈ word, c ∈ w) (q : Q .sh (.int (rc w s word (p, 0)))) : pMinV (encRow (rowI w s p word)) Q := by
  refine ⟨(rowI w s p word).map fun e => (encK e.1, e.2), by rw [List.map_map]; rfl, fun z => row_ne hin (List.map_eq_nil_iff.mp z), fun m hm hj => ?_⟩
  rw [List.map_map] at hm hj
  rw [row_min hin hm hj]
  exact q
theorem pr_least_cost {as : List Ar} {Q : Md → D → Prop} {E : Nat → Prop} (h : psp_least_cost as Q E) : q_least_cost (fun _ n => E n) { nx := fun _ => Q .sh .non, rt := Q } (dstart 3 as) := by
  obtain ⟨w, word, s, rfl, l1, l2, q⟩ := h
  show q_least_cost _ _ [some (.sh (.str w)), some (.sh (.str word)), some (.sh (.int s))]
  unfold q_least_cost
  walk_at "go"
  refine ⟨w, word, s, rfl, l1, l2, ?_⟩
  cases hdue : errandDue w word s with
  | some n => rw [hdue] at q; exact q
  | none =>
    rw [hdue] at q
    obtain ⟨⟨w0, w1, _⟩, ⟨d1, _⟩, _, hin⟩ := errand_ok hdue
    show _ ∧ _
    refine h_sc rfl ?_
    walk_at "go"
    refine ⟨w, word, s, 0, rfl, w0, by omega, by omega, Int.le_refl _, by omega, ?_⟩
    walk_at "go"
    refine h_ixL (atI_last (rowsI_len _ _ _ _ _) (rowsI_at (by omega))) ?_
    rw [List.take_length]
    refine min_row hin ?_
    walk_at "go"
    exact q
theorem rd_least_cost {K : PySem.W.Frag} {c : Cl} {vs : List V} {H : Hp} {Q : VK} {E : XK} (h : lift K c psp_least_cost vs H Q E) : t_least_cost K c E { nx := fun _ H' => Q .non H', rt := Q } (start ["wheel", "word", "slack"] vs) H :=
  rd_of (ts := fun e => t_least_cost K c e) (qs := fun ep => q_least_cost ep) (fun t e ep => sim_least_cost t e ep) (fun as Qp Ep h => Nat.le_trans (Nat.le_of_eq (ln_least_cost h)) (by decide)) (fun as Qp Ep h => pr_least_cost h) h

def encT3 (e : Std × Int) : D := .tup [.int e.1.1, .int e.1.2, .int e.2]
/-- the rows of the table, rising -/
structure IsTab (w : List Nat) (s : Int) (word : List Nat) (T : List Row) : Prop where
  len : T.length = word.length + 1
  perm : ∀ (k : Nat) (R : Row), T[k]? = some R → R.Perm (rowI w s 0 (word.take k))
  asc : ∀ (k : Nat) (R : Row), T[k]? = some R → (R.map (·.1)).Pairwise lexLe
def psp_table : PSp := fun as Q E => ∃ (w word : List Nat) (s : Int), as = [.sh (.str w), .sh (.str word), .sh (.int s)] ∧ w.length ≤ 1000000 ∧ word.length ≤ 1000000 ∧ (match errandDue w word s with | none => ∀ T, IsTab w s word T → Q .ow (.lst (T.map fun R => .lst (R.map encT3))) | some n => E n)
theorem ln_table {as : List Ar} {Q : Md → D → Prop} {E : Nat → Prop} (h : psp_table as Q E) : as.length = 3 := by obtain ⟨_, _, _, rfl, _⟩ := h; rfl
def t_table (K : PySem.W.Frag) (c : Cl) (E : XK) : TS :=
  (tSeq (tDrop (tCall (lift K c psp_look_at_errand) [] E (tCons (tVar 0) (tCons (tVar 1) (tCons (tVar 2) tNil)))))
  (tSeq (tAsg (tLst tNil) (gName 3))
  (tSeq (tFor (iList K (tCall (lift K c psp_rows_from) [] E0 (tCons (tVar 0) (tCons (tVar 1) (tCons (tVar 2) (tCons (tC (.int 0)) tNil)))))) (gName 4)
  (tDrop (tBM K "list" rAppend (tVar 3) (tCons (tLc (iList K (tCB (rSortedPO K) (tCons (tCB rListT (tCons (tVar 4) tNil)) tNil))) (gName 5) tYes (tOp (rCatA K) (tVar 5) (tTup (tCons (tDGet (tVar 4) (tVar 5)) tNil))) [5]) tNil))))
  (tRet (tVar 3)))))
def q_table (Ep : XP) : QS :=
  (qSeq (qDrop (qCall psp_look_at_errand Ep (qCons (qVar 0) (qCons (qVar 1) (qCons (qVar 2) qNil)))))
  (qSeq (qAsg (qLst qNil) 3)
  (qSeq (qFor (qiList (qCall psp_rows_from P0 (qCons (qVar 0) (qCons (qVar 1) (qCons (qVar 2) (qCons (qC (.int 0)) qNil)))))) (qgName 4)
  (qAppS 3 (qLc (qiList (qUn pSortP (qUn pListT (qVar 4)))) (qgName 5) qYes (qOp pCatT (qVar 5) (qTup (qCons (qOp pGetT (qVar 4) (qVar 5)) qNil))) [5])))
  (qRetV 3))))
theorem sim_table {K : PySem.W.Frag} {c : Cl} (t : Option Addr) (E : XK) (Ep : XP) : SimS K c t (fun _ => E) Ep (t_table K c E) (q_table Ep) :=
  (s_seq (s_drop (s_callX (s_cons (s_var 0) (s_cons (s_var 1) (s_cons (s_var 2) s_nil)))))
  (s_seq (s_asg (s_lst s_nil))
  (s_seq (s_for (si_list (s_call0 (s_cons (s_var 0) (s_cons (s_var 1) (s_cons (s_var 2) (s_cons (s_c fun _ => rfl) s_nil)))))) sg_name
  (s_app K (i := 3) (s_lc (si_list (s_cb1 (r := (rSortedPO K)) o_sortP (s_cb1 (r := rListT) o_listT (s_var 4)))) sg_name (by decide) s_yes (s_op o_catT (s_var 5) (s_tup (s_cons (s_dget o_getT (s_var 4) (s_var 5)) s_nil))))))
  (s_retV (i := 3)))))

theorem look_perm {R : Row} (nd : Nd R) : ∀ {so : List Std}, (∀ st ∈ so, st ∈ R.map (·.1)) → ∃ R' : Row, R'.map (·.1) = so ∧ ∀ e ∈ R', valI R e.1 = some e.2
  | [], _ => ⟨[], rfl, fun _ h => nomatch h⟩
  | st :: so, h => by
    obtain ⟨R', h1, h2⟩ := look_perm nd (so := so) fun x hx => h x (List.mem_cons_of_mem _ hx)
    obtain ⟨e, he, rfl⟩ := List.mem_map.mp (h st List.mem_cons_self)
    refine ⟨e :: R', by rw [List.map_cons, h1], fun x hx => ?_⟩
    rcases List.mem_cons.mp hx with rfl | hx
    · exact (valI_mem nd).mp he
    · exact h2 x hx
theorem perm_of_keys {R R' : Row} (nd : Nd R) (hk : (R'.map (·.1)).Perm (R.map (·.1))) (hv : ∀ e ∈ R', valI R e.1 = some e.2) : R'.Perm R := by
  have nd' : (R'.map (·.1)).Nodup := hk.nodup_iff.mpr nd
  have n1 : R'.Nodup := List.Pairwise.of_map (·.1) (fun a b h => fun z => h (by rw [z])) nd'
  have n2 : R.Nodup := List.Pairwise.of_map (·.1) (fun a b h => fun z => h (by rw [z])) nd
  refine (List.perm_ext_iff_of_nodup n1 n2).mpr fun e => ⟨fun he => (valI_mem nd).mpr (hv e he), fun he => ?_⟩
  have : e.1 ∈ R'.map (·.1) := hk.mem_iff.mpr (List.mem_map.mpr ⟨e, he, rfl⟩)
  obtain ⟨e', he', ee⟩ := List.mem_map.mp this
  have h1 := hv e' he'
  have h2 := (valI_mem nd).mp he
  rw [ee, h2] at h1
  have : e' = e := Prod.ext ee (Option.some.inj h1).symm
  rw [← this]; exact he'
theorem pr_table {as : List Ar} {Q : Md → D → Prop} {E : Nat → Prop} (h : psp_table as Q E) : q_table (fun _ n => E n) { nx := fun _ => Q .sh .non, rt := Q } (dstart 6 as) := by
  obtain ⟨w, word, s, rfl, l1, l2, q⟩ := h
  show q_table _ _ [some (.sh (.str w)), some (.sh (.str word)), some (.sh (.int s)), none, none, none]
  unfold q_table
  walk_at "go"
  refine ⟨w, word, s, rfl, l1, l2, ?_⟩
  cases hdue : errandDue w word s with
  | some n => rw [hdue] at q; exact q
  | none =>
    rw [hdue] at q
    obtain ⟨⟨w0, w1, _⟩, ⟨d1, _⟩, _, hin⟩ := errand_ok hdue
    show _ ∧ _
    refine h_sc rfl ?_
    walk_at "go"
    refine ⟨w, word, s, 0, rfl, w0, by omega, by omega, Int.le_refl _, by omega, ?_⟩
    walk_at "go"
    refine loop_inv (fun i δ => ∃ T : List Row, T.length = i ∧ (∀ (k : Nat) (R : Row), T[k]? = some R → R.Perm (rowI w s 0 (word.take k)) ∧ (R.map (·.1)).Pairwise lexLe) ∧ ∃ (v4 v5 : Option SV), δ = [some (.sh (.str w)), some (.sh (.str word)), some (.sh (.int s)), some (.ow (.lst (T.map fun R => .lst (R.map encT3)))), v4, v5]) ⟨[], rfl, fun k R h => by simp at h, _, _, rfl⟩ (fun i d δ' N hd hI hN => ?_) (fun δ' hI => ?_)
    · obtain ⟨T, hT, hTk, v4, v5, rfl⟩ := hI
      have hi : i < word.length + 1 := by
        have := (List.getElem?_eq_some_iff.mp hd).1
        rw [rowsI_len] at this
        exact this
      rw [rowsI_at hi] at hd
      cases hd
      have hok := rowI_ok (w := w) (s := s) (p := 0) (by omega) (Int.le_refl 0) (by omega) (word.take i)
      have hlen := row_len hok
      generalize hR : rowI w s 0 (word.take i) = R at hok hlen
      walk_at "go"
      refine h_appE rfl ?_
      walk_at "go"
      refine ⟨_, rfl, ?_⟩
      refine ⟨R.map (·.1), by rw [List.map_map, List.map_map]; rfl, fun so hso hasc => ?_⟩
      walk_at "go"
      obtain ⟨R', hk, hv⟩ := look_perm hok.1 (so := so) fun st hst => hso.mem_iff.mp hst
      have hp : R'.Perm R := perm_of_keys hok.1 (by rw [hk]; exact hso) hv
      subst hk
      have hl' : R'.length = R.length := hp.length_eq
      refine lc_inv (fun z acc => acc = (R'.take z).map encT3) rfl (fun z d acc N2 hd hI hN2 => ?_) (fun acc hI => ?_)
      · subst hI
        rw [List.map_map] at hd
        obtain ⟨e, he, rfl⟩ := map_at' hd
        rw [take_snoc he, List.map_append] at hN2
        walk_at "go"
        refine h_getT (ks := encK e.1) rfl (by rw [row_get, hv e (List.mem_of_getElem? he)]; rfl) ?_
        walk_at "go"
        refine h_catT (ds := [.int e.1.1, .int e.1.2]) (es := [.int e.2]) (Nat.le_of_ble_eq_true rfl) ?_
        walk_at "go"
        refine ⟨by rw [List.length_map, List.length_take]; omega, hN2 _ rfl⟩
      · rw [List.length_map, List.length_map, List.take_length] at hI
        subst hI
        refine h_appK rfl (by decide) (by rw [List.length_map]; omega) (hN _ ⟨T ++ [R'], by rw [List.length_append, hT]; rfl, fun k R2 h2 => ?_, ?_⟩)
        · by_cases hk : k < T.length
          · rw [List.getElem?_append_left hk] at h2
            exact hTk k R2 h2
          · rw [List.getElem?_append_right (by omega)] at h2
            have hk0 : k - T.length = 0 := by
              have := (List.getElem?_eq_some_iff.mp h2).1
              simp at this
              omega
            rw [hk0] at h2
            cases h2
            have : k = i := by omega
            subst this
            rw [hR]
            exact ⟨hp, hasc⟩
        · rw [List.map_append]
          exact ⟨_, _, rfl⟩
    · obtain ⟨T, hT, hTk, v4, v5, rfl⟩ := hI
      rw [rowsI_len] at hT
      walk_at "go"
      exact q T ⟨hT, fun k R h => (hTk k R h).1, fun k R h => (hTk k R h).2⟩
theorem rd_table {K : PySem.W.Frag} {c : Cl} {vs : List V} {H : Hp} {Q : VK} {E : XK} (h : lift K c psp_table vs H Q E) : t_table K c E { nx := fun _ H' => Q .non H', rt := Q } (start ["wheel", "word", "slack", "told", "row", "stand"] vs) H :=
  rd_of (ts := fun e => t_table K c e) (qs := fun ep => q_table ep) (fun t e ep => sim_table t e ep) (fun as Qp Ep h => Nat.le_trans (Nat.le_of_eq (ln_table h)) (by decide)) (fun as Qp Ep h => pr_table h) h

end Sw
local macro_rules | `(tactic| walk_at "go1") => `(tactic| first
  | with_reducible refine Sw.h_seqasg ?_
  | with_reducible refine Sw.h_op ?_
  | with_reducible refine Sw.h_varS rfl ?_
  | with_reducible refine Sw.h_varO rfl ?_
  | with_reducible refine Sw.h_c ?_
  | with_reducible refine Sw.h_I0 ?_
  | with_reducible refine Sw.h_cons ?_
  | with_reducible refine Sw.h_consT rfl ?_
  | with_reducible refine Sw.h_consC rfl ?_
  | with_reducible refine Sw.h_nil ?_
  | with_reducible refine Sw.h_call ?_
  | with_reducible refine Sw.h_un ?_
  | with_reducible refine Sw.h_test ?_
  | with_reducible refine Sw.h_bl ?_
  | with_reducible refine Sw.h_seqdrop ?_
  | with_reducible refine Sw.h_asS ?_
  | with_reducible refine Sw.h_asO ?_
  | with_reducible refine Sw.h_ne1 ?_
  | with_reducible refine Sw.h_ne2 ?_
  | with_reducible refine Sw.h_asg ?_
  | with_reducible refine Sw.h_drop ?_
  | with_reducible refine Sw.h_ret ?_
  | with_reducible refine Sw.h_retS rfl ?_
  | with_reducible refine Sw.h_retO rfl ?_
  | with_reducible refine Sw.h_retN ?_
  | with_reducible refine Sw.h_next ?_
  | with_reducible refine Sw.h_if ?_
  | with_reducible refine Sw.h_frzO rfl ?_
  | with_reducible refine Sw.h_frzS rfl ?_
  | with_reducible refine Sw.h_and ?_
  | with_reducible refine Sw.h_or ?_
  | with_reducible refine Sw.h_not ?_
  | with_reducible refine Sw.h_yes ?_
  | with_reducible refine Sw.h_andV ?_
  | with_reducible refine Sw.h_orV ?_
  | with_reducible refine Sw.h_notV ?_
  | with_reducible refine Sw.h_ifE ?_
  | with_reducible refine Sw.h_chain ?_
  | with_reducible refine Sw.h_lenC rfl ?_
  | with_reducible refine Sw.h_tup ?_
  | with_reducible refine Sw.h_lst ?_
  | with_reducible refine Sw.h_shs0 ?_
  | with_reducible refine Sw.h_shs1 ?_
  | with_reducible refine Sw.h_shs2 ?_
  | with_reducible refine Sw.h_shs3 ?_
  | with_reducible refine Sw.h_shs4 ?_
  | with_reducible refine Sw.h_sl ?_
  | with_reducible refine Sw.h_nopart ?_
  | with_reducible refine Sw.h_part ?_
  | with_reducible refine Sw.h_int ?_
  | with_reducible refine Sw.h_neg ?_
  | with_reducible refine Sw.h_S ?_
  | with_reducible refine Sw.h_inSign ?_
  | with_reducible refine Sw.h_notInSign ?_
  | with_reducible refine Sw.h_isN ?_
  | with_reducible refine Sw.h_notN ?_
  | with_reducible refine Sw.h_eq rfl ?_
  | with_reducible refine Sw.h_ne rfl ?_
  | with_reducible refine Sw.h_lenL ?_
  | with_reducible refine Sw.h_lenT ?_
  | with_reducible refine Sw.h_abs ?_
  | with_reducible refine Sw.h_max2 ?_
  | with_reducible refine Sw.h_min2 ?_
  | with_reducible refine Sw.h_int1b ?_
  | with_reducible refine Sw.h_sum ?_
  | with_reducible refine Sw.h_listOf ?_
  | with_reducible refine Sw.h_slL ?_
  | with_reducible refine Sw.h_slT ?_
  | with_reducible refine Sw.h_revL ?_
  | with_reducible refine Sw.h_newK ?_
  | with_reducible refine Sw.h_newT ?_
  | with_reducible refine Sw.h_seqfor ?_
  | with_reducible refine Sw.h_seqforD ?_
  | with_reducible refine Sw.h_dispT ?_
  | with_reducible refine Sw.h_LM ?_
  | with_reducible refine Sw.h_for ?_
  | with_reducible refine Sw.h_iList ?_
  | with_reducible refine Sw.h_iTup ?_
  | with_reducible refine Sw.h_iStr ?_
  | with_reducible refine Sw.h_iR1 ?_
  | with_reducible refine Sw.h_iR2 ?_
  | with_reducible refine Sw.h_iR3 ?_
  | with_reducible refine Sw.h_iEnum ?_
  | with_reducible refine Sw.h_iZip ?_
  | with_reducible refine Sw.h_iZipS ?_
  | with_reducible refine Sw.h_lst1 ?_
  | with_reducible refine Sw.h_tup1 ?_
  | with_reducible refine Sw.h_str1 ?_
  | with_reducible refine Sw.h_lc ?_
  | with_reducible refine Sw.h_gN ?_
  | with_reducible refine Sw.h_gT rfl ?_
  | with_reducible refine Sw.h_gC ?_
  | with_reducible refine Sw.h_gE ?_
  | with_reducible refine Sw.h_asgG ?_
  | with_reducible refine Sw.h_forD ?_
  | with_reducible refine Sw.h_raise ?_
  | with_reducible refine Sw.h_seqasgG ?_
  | with_reducible refine Sw.h_seqfrzO rfl ?_
  | with_reducible refine Sw.h_seqfrzS rfl ?_
  | with_reducible refine Sw.h_isi rfl rfl ?_
  | with_reducible refine Sw.h_ixT rfl ?_
  | with_reducible refine Sw.h_seq1 ?_
  | with_reducible refine L2.iteT ?_ | with_reducible refine L2.iteF ?_ | with_reducible refine Sw.iteNT ?_ | with_reducible refine Sw.iteNF ?_ | refine Sw.h_np rfl ?_)
local macro_rules | `(tactic| walk_at "go") => `(tactic| repeat walk_at "go1")
local macro_rules | `(tactic| walk_at "sz") => `(tactic| first
  | omega
  | decide
  | (simp only [List.length_append, List.length_map, List.length_cons, List.length_nil, List.length_take, List.length_drop, List.length_reverse, List.length_set, List.length_replicate, List.length_range]; omega)
  | (refine Nat.le_trans (Sw.cut_len _ _ _) ?_; omega))
local macro_rules | `(tactic| walk_at "gx1") => `(tactic| first
  | walk_at "go1"
  | refine Sw.c_draw (by omega) (by omega) (fun _ _ _ => ?_)
  | refine Sw.c_letters (by omega) (by omega) (by omega) (by omega) (fun _ _ _ => ?_)
  | refine Sw.c_wheel (by omega) (by omega) (fun _ _ _ _ => ?_)
  | refine Sw.c_word (by walk_at "sz") (by walk_at "sz") (by omega) (by omega) (fun _ _ _ => ?_)
  | refine Sw.c_bent (by walk_at "sz") (by assumption) (fun _ _ _ => ?_)
  | refine Sw.c_lis_word (by walk_at "sz") (by assumption) ?_
  | refine Sw.h_sc rfl ?_
  | refine Sw.h_lenS (by walk_at "sz") ?_
  | refine Sw.h_slS (by walk_at "sz") ?_
  | refine Sw.h_addS (by walk_at "sz") ?_
  | refine Sw.h_I (by omega) ?_
  | refine Sw.h_I (Sw.cm (by omega) (by omega) (by omega) (by omega)) ?_
  | refine Sw.h_I (Sw.cd (by omega) (by omega)) ?_
  | refine Sw.h_I ⟨by decide, by decide, by decide⟩ ?_
  | refine Sw.h_gT rfl ?_
  | refine Sw.h_ixT rfl ?_
  | refine Sw.h_ixL rfl ?_
  | refine Sw.h_appE rfl ?_
  | refine Sw.h_appK rfl (by decide) (by walk_at "sz") ?_
  | refine Sw.h_setLE rfl ?_
  | refine Sw.h_putTE rfl ?_
  | refine Sw.h_putKE rfl ?_
  | refine Sw.h_tupOf ?_
  | refine Sw.h_listOfT ?_
  | refine Sw.h_orS ?_
  | refine And.intro (by omega) (And.intro (by omega) ?_))
local macro_rules | `(tactic| walk_at "gx") => `(tactic| repeat walk_at "gx1")
namespace Sw
open PySem PySem.Spec PyProof.Rows L2 SX
/-! ### the same data compared -/
theorem toPyL_ints : ∀ ns : List Int, toPyL (ns.map .int) = ns.map PyData.int
  | [] => rfl
  | n :: ns => by show toPy (.int n) :: toPyL (ns.map .int) = _; rw [toPyL_ints ns]; rfl
theorem flat_dints : ∀ ns : List Int, flatDL (ns.map .int) = true
  | [] => rfl
  | n :: ns => by show (flatD (.int n) && flatDL (ns.map .int)) = true; rw [flat_dints ns]; rfl
theorem ok_ints (ns : List Int) : Ok 1 (toPy (.lst (ns.map .int))) := by
  show Ok 1 (.list (toPyL (ns.map .int)))
  rw [toPyL_ints]
  exact ok_lst (n := 0) (ok_dI ns)
theorem h_neSame {d : D} {n : Nat} {Q : Md → D → Prop} (f : flatD d = true) (ok : Ok n (toPy d)) (hn : n ≤ 64) (q : Q .sh (.bl false)) : pNeD d d Q := ⟨f, f, ok.shaped hn, ok.shaped hn, by rw [SeqAt.eqv_refl _ ok.1]; exact q⟩
theorem h_eqSame {d : D} {n : Nat} {Q : Md → D → Prop} (f : flatD d = true) (ok : Ok n (toPy d)) (hn : n ≤ 64) (q : Q .sh (.bl true)) : pEqD d d Q := ⟨f, f, ok.shaped hn, ok.shaped hn, by rw [SeqAt.eqv_refl _ ok.1]; exact q⟩
theorem h_neI {ns : List Int} {Q : Md → D → Prop} (q : Q .sh (.bl false)) : pNeD (.lst (ns.map .int)) (.lst (ns.map .int)) Q := h_neSame (flat_dints ns) (ok_ints ns) (by decide) q
theorem h_eqI {ns : List Int} {Q : Md → D → Prop} (q : Q .sh (.bl true)) : pEqD (.lst (ns.map .int)) (.lst (ns.map .int)) Q := h_eqSame (flat_dints ns) (ok_ints ns) (by decide) q
theorem h_minL' {ns : List Int} {Q : Md → D → Prop} (hn : ns ≠ []) (q : Q .sh (.int (minL ns))) : pMinL (.lst (ns.map .int)) Q := ⟨ns, rfl, hn, fun m hm hy => by rw [minL_uniq hm hy]; exact q⟩
end Sw
local macro_rules | `(tactic| walk_at "go1") => `(tactic| first
  | with_reducible refine Sw.h_seqasg ?_
  | with_reducible refine Sw.h_op ?_
  | with_reducible refine Sw.h_varS rfl ?_
  | with_reducible refine Sw.h_varO rfl ?_
  | with_reducible refine Sw.h_c ?_
  | with_reducible refine Sw.h_I0 ?_
  | with_reducible refine Sw.h_cons ?_
  | with_reducible refine Sw.h_consT rfl ?_
  | with_reducible refine Sw.h_consC rfl ?_
  | with_reducible refine Sw.h_nil ?_
  | with_reducible refine Sw.h_call ?_
  | with_reducible refine Sw.h_un ?_
  | with_reducible refine Sw.h_test ?_
  | with_reducible refine Sw.h_bl ?_
  | with_reducible refine Sw.h_seqdrop ?_
  | with_reducible refine Sw.h_asS ?_
  | with_reducible refine Sw.h_asO ?_
  | with_reducible refine Sw.h_ne1 ?_
  | with_reducible refine Sw.h_ne2 ?_
  | with_reducible refine Sw.h_asg ?_
  | with_reducible refine Sw.h_drop ?_
  | with_reducible refine Sw.h_ret ?_
  | with_reducible refine Sw.h_retS rfl ?_
  | with_reducible refine Sw.h_retO rfl ?_
  | with_reducible refine Sw.h_retN ?_
  | with_reducible refine Sw.h_next ?_
  | with_reducible refine Sw.h_if ?_
  | with_reducible refine Sw.h_frzO rfl ?_
  | with_reducible refine Sw.h_frzS rfl ?_
  | with_reducible refine Sw.h_and ?_
  | with_reducible refine Sw.h_or ?_
  | with_reducible refine Sw.h_not ?_
  | with_reducible refine Sw.h_yes ?_
  | with_reducible refine Sw.h_andV ?_
  | with_reducible refine Sw.h_orV ?_
  | with_reducible refine Sw.h_notV ?_
  | with_reducible refine Sw.h_ifE ?_
  | with_reducible refine Sw.h_chain ?_
  | with_reducible refine Sw.h_lenC rfl ?_
  | with_reducible refine Sw.h_tup ?_
  | with_reducible refine Sw.h_lst ?_
  | with_reducible refine Sw.h_shs0 ?_
  | with_reducible refine Sw.h_shs1 ?_
  | with_reducible refine Sw.h_shs2 ?_
  | with_reducible refine Sw.h_shs3 ?_
  | with_reducible refine Sw.h_shs4 ?_
  | with_reducible refine Sw.h_sl ?_
  | with_reducible refine Sw.h_nopart ?_
  | with_reducible refine Sw.h_part ?_
  | with_reducible refine Sw.h_int ?_
  | with_reducible refine Sw.h_neg ?_
  | with_reducible refine Sw.h_S ?_
  | with_reducible refine Sw.h_inSign ?_
  | with_reducible refine Sw.h_notInSign ?_
  | with_reducible refine Sw.h_isN ?_
  | with_reducible refine Sw.h_notN ?_
  | with_reducible refine Sw.h_eq rfl ?_
  | with_reducible refine Sw.h_ne rfl ?_
  | with_reducible refine Sw.h_lenL ?_
  | with_reducible refine Sw.h_lenT ?_
  | with_reducible refine Sw.h_abs ?_
  | with_reducible refine Sw.h_max2 ?_
  | with_reducible refine Sw.h_min2 ?_
  | with_reducible refine Sw.h_int1b ?_
  | with_reducible refine Sw.h_sum ?_
  | with_reducible refine Sw.h_listOf ?_
  | with_reducible refine Sw.h_slL ?_
  | with_reducible refine Sw.h_slT ?_
  | with_reducible refine Sw.h_revL ?_
  | with_reducible refine Sw.h_newK ?_
  | with_reducible refine Sw.h_newT ?_
  | with_reducible refine Sw.h_seqfor ?_
  | with_reducible refine Sw.h_seqforD ?_
  | with_reducible refine Sw.h_dispT ?_
  | with_reducible refine Sw.h_LM ?_
  | with_reducible refine Sw.h_for ?_
  | with_reducible refine Sw.h_iList ?_
  | with_reducible refine Sw.h_iTup ?_
  | with_reducible refine Sw.h_iStr ?_
  | with_reducible refine Sw.h_iR1 ?_
  | with_reducible refine Sw.h_iR2 ?_
  | with_reducible refine Sw.h_iR3 ?_
  | with_reducible refine Sw.h_iEnum ?_
  | with_reducible refine Sw.h_iZip ?_
  | with_reducible refine Sw.h_iZipS ?_
  | with_reducible refine Sw.h_lst1 ?_
  | with_reducible refine Sw.h_tup1 ?_
  | with_reducible refine Sw.h_str1 ?_
  | with_reducible refine Sw.h_lc ?_
  | with_reducible refine Sw.h_gN ?_
  | with_reducible refine Sw.h_gT rfl ?_
  | with_reducible refine Sw.h_gC ?_
  | with_reducible refine Sw.h_gE ?_
  | with_reducible refine Sw.h_asgG ?_
  | with_reducible refine Sw.h_forD ?_
  | with_reducible refine Sw.h_raise ?_
  | with_reducible refine Sw.h_seqasgG ?_
  | with_reducible refine Sw.h_seqfrzO rfl ?_
  | with_reducible refine Sw.h_seqfrzS rfl ?_
  | with_reducible refine Sw.h_isi rfl rfl ?_
  | with_reducible refine Sw.h_ixT rfl ?_
  | with_reducible refine Sw.h_seq1 ?_
  | with_reducible refine L2.iteT ?_ | with_reducible refine L2.iteF ?_ | with_reducible refine Sw.iteNT ?_ | with_reducible refine Sw.iteNF ?_ | refine Sw.h_np rfl ?_)
local macro_rules | `(tactic| walk_at "go") => `(tactic| repeat walk_at "go1")
local macro_rules | `(tactic| walk_at "sz") => `(tactic| first
  | omega
  | decide
  | (simp only [List.length_append, List.length_map, List.length_cons, List.length_nil, List.length_take, List.length_drop, List.length_reverse, List.length_set, List.length_replicate, List.length_range]; omega)
  | (refine Nat.le_trans (Sw.cut_len _ _ _) ?_; omega))
local macro_rules | `(tactic| walk_at "gx1") => `(tactic| first
  | walk_at "go1"
  | refine Sw.c_draw (by omega) (by omega) (fun _ _ _ => ?_)
  | refine Sw.c_letters (by omega) (by omega) (by omega) (by omega) (fun _ _ _ => ?_)
  | refine Sw.c_wheel (by omega) (by omega) (fun _ _ _ _ => ?_)
  | refine Sw.c_word (by walk_at "sz") (by walk_at "sz") (by omega) (by omega) (fun _ _ _ => ?_)
  | refine Sw.c_bent (by walk_at "sz") (by assumption) (fun _ _ _ => ?_)
  | refine Sw.c_lis_word (by walk_at "sz") (by assumption) ?_
  | refine Sw.h_sc rfl ?_
  | refine Sw.h_lenS (by walk_at "sz") ?_
  | refine Sw.h_slS (by walk_at "sz") ?_
  | refine Sw.h_addS (by walk_at "sz") ?_
  | refine Sw.h_I (by omega) ?_
  | refine Sw.h_I (Sw.cm (by omega) (by omega) (by omega) (by omega)) ?_
  | refine Sw.h_I (Sw.cd (by omega) (by omega)) ?_
  | refine Sw.h_I ⟨by decide, by decide, by decide⟩ ?_
  | refine Sw.h_gT rfl ?_
  | refine Sw.h_ixT rfl ?_
  | refine Sw.h_ixL rfl ?_
  | refine Sw.h_appE rfl ?_
  | refine Sw.h_appK rfl (by decide) (by walk_at "sz") ?_
  | refine Sw.h_setLE rfl ?_
  | refine Sw.h_putTE rfl ?_
  | refine Sw.h_putKE rfl ?_
  | refine Sw.h_tupOf ?_
  | refine Sw.h_listOfT ?_
  | refine Sw.h_orS ?_
  | refine And.intro (by omega) (And.intro (by omega) ?_))
local macro_rules | `(tactic| walk_at "gx") => `(tactic| repeat walk_at "gx1")
namespace Sw
open PySem PySem.Spec PyProof.Rows L2 SX
/-- a stand that has struck so much -/
def Valid (w word : List Nat) (k p : Nat) : Prop := k = 0 ∨ w.getD p 0 = word.getD (k - 1) 0
def WayOk (y : Int) : Prop := y = -1 ∨ y = 0 ∨ y = 1
def RowAll (w word : List Nat) (s : Int) (k n : Nat) (R : Row) : Prop := ∀ (p : Nat) (y : Int), p < n → Valid w word k p → WayOk y → valI R ((p : Int), y) = some (rc w s (word.drop k) ((p : Int), y))
theorem wayOf_ok {t y : Int} (h : WayOk y) : WayOk (wayOf t y) := by
  unfold wayOf WayOk at *
  split
  · omega
  · split <;> omega
theorem turn_valid {w word : List Nat} {p : Int} {k c : Nat} {t : Int} (hn : 0 < w.length) (hc : word[k]? = some c) (ht : t ∈ turnsTo w p [c]) : ∃ q : Nat, (q : Int) = (p + t) % (w.length : Int) ∧ q < w.length ∧ Valid w word (k + 1) q := by
  obtain ⟨b0, b1⟩ := emod_bd (z := p + t) (m := (w.length : Int)) (by omega)
  obtain ⟨_, _, h⟩ := (mem_turnsTo hn).mp ht
  refine ⟨((p + t) % (w.length : Int)).toNat, by omega, by omega, .inr ?_⟩
  unfold hits at h
  have h2 := of_decide_eq_true h
  rw [Nat.add_sub_cancel, List.getD_eq_getElem?_getD (l := word), hc]
  exact (List.cons.inj h2).1
theorem rc_turns {w : List Nat} {s : Int} {c : Nat} {word : List Nat} {st : Std} : rc w s (c :: word) st = minL ((turnsTo w st.1 [c]).map fun t => rc w s word (stepTo w st t) + stepCost t st.2 s) := by
  show minL ((stepsFrom w st [c] s).map fun e => rc w s word e.2.1 + e.2.2) = _
  unfold stepsFrom
  rw [List.map_map]
  rfl
/-- one more stand is laid -/
theorem all_put {w word : List Nat} {s : Int} {k n : Nat} {R : Row} (hR : RowAll w word s k n R) {st : Std} : RowAll w word s k n (putI R st (rc w s (word.drop k) st)) := fun p y hp hv hy => by
  rw [valI_put]
  by_cases z : ((p : Int), y) = st
  · rw [if_pos z, z]
  · rw [if_neg z]; exact hR p y hp hv hy
end Sw
local macro_rules | `(tactic| walk_at "go1") => `(tactic| first
  | with_reducible refine Sw.h_seqasg ?_
  | with_reducible refine Sw.h_op ?_
  | with_reducible refine Sw.h_varS rfl ?_
  | with_reducible refine Sw.h_varO rfl ?_
  | with_reducible refine Sw.h_c ?_
  | with_reducible refine Sw.h_I0 ?_
  | with_reducible refine Sw.h_cons ?_
  | with_reducible refine Sw.h_consT rfl ?_
  | with_reducible refine Sw.h_consC rfl ?_
  | with_reducible refine Sw.h_nil ?_
  | with_reducible refine Sw.h_call ?_
  | with_reducible refine Sw.h_un ?_
  | with_reducible refine Sw.h_test ?_
  | with_reducible refine Sw.h_bl ?_
  | with_reducible refine Sw.h_seqdrop ?_
  | with_reducible refine Sw.h_asS ?_
  | with_reducible refine Sw.h_asO ?_
  | with_reducible refine Sw.h_ne1 ?_
  | with_reducible refine Sw.h_ne2 ?_
  | with_reducible refine Sw.h_asg ?_
  | with_reducible refine Sw.h_drop ?_
  | with_reducible refine Sw.h_ret ?_
  | with_reducible refine Sw.h_retS rfl ?_
  | with_reducible refine Sw.h_retO rfl ?_
  | with_reducible refine Sw.h_retN ?_
  | with_reducible refine Sw.h_next ?_
  | with_reducible refine Sw.h_if ?_
  | with_reducible refine Sw.h_frzO rfl ?_
  | with_reducible refine Sw.h_frzS rfl ?_
  | with_reducible refine Sw.h_and ?_
  | with_reducible refine Sw.h_or ?_
  | with_reducible refine Sw.h_not ?_
  | with_reducible refine Sw.h_yes ?_
  | with_reducible refine Sw.h_andV ?_
  | with_reducible refine Sw.h_orV ?_
  | with_reducible refine Sw.h_notV ?_
  | with_reducible refine Sw.h_ifE ?_
  | with_reducible refine Sw.h_chain ?_
  | with_reducible refine Sw.h_lenC rfl ?_
  | with_reducible refine Sw.h_tup ?_
  | with_reducible refine Sw.h_lst ?_
  | with_reducible refine Sw.h_shs0 ?_
  | with_reducible refine Sw.h_shs1 ?_
  | with_reducible refine Sw.h_shs2 ?_
  | with_reducible refine Sw.h_shs3 ?_
  | with_reducible refine Sw.h_shs4 ?_
  | with_reducible refine Sw.h_sl ?_
  | with_reducible refine Sw.h_nopart ?_
  | with_reducible refine Sw.h_part ?_
  | with_reducible refine Sw.h_int ?_
  | with_reducible refine Sw.h_neg ?_
  | with_reducible refine Sw.h_S ?_
  | with_reducible refine Sw.h_inSign ?_
  | with_reducible refine Sw.h_notInSign ?_
  | with_reducible refine Sw.h_isN ?_
  | with_reducible refine Sw.h_notN ?_
  | with_reducible refine Sw.h_eq rfl ?_
  | with_reducible refine Sw.h_ne rfl ?_
  | with_reducible refine Sw.h_lenL ?_
  | with_reducible refine Sw.h_lenT ?_
  | with_reducible refine Sw.h_abs ?_
  | with_reducible refine Sw.h_max2 ?_
  | with_reducible refine Sw.h_min2 ?_
  | with_reducible refine Sw.h_int1b ?_
  | with_reducible refine Sw.h_sum ?_
  | with_reducible refine Sw.h_listOf ?_
  | with_reducible refine Sw.h_slL ?_
  | with_reducible refine Sw.h_slT ?_
  | with_reducible refine Sw.h_revL ?_
  | with_reducible refine Sw.h_newK ?_
  | with_reducible refine Sw.h_newT ?_
  | with_reducible refine Sw.h_seqfor ?_
  | with_reducible refine Sw.h_seqforD ?_
  | with_reducible refine Sw.h_dispT ?_
  | with_reducible refine Sw.h_LM ?_
  | with_reducible refine Sw.h_for ?_
  | with_reducible refine Sw.h_iList ?_
  | with_reducible refine Sw.h_iTup ?_
  | with_reducible refine Sw.h_iStr ?_
  | with_reducible refine Sw.h_iR1 ?_
  | with_reducible refine Sw.h_iR2 ?_
  | with_reducible refine Sw.h_iR3 ?_
  | with_reducible refine Sw.h_iEnum ?_
  | with_reducible refine Sw.h_iZip ?_
  | with_reducible refine Sw.h_iZipS ?_
  | with_reducible refine Sw.h_lst1 ?_
  | with_reducible refine Sw.h_tup1 ?_
  | with_reducible refine Sw.h_str1 ?_
  | with_reducible refine Sw.h_lc ?_
  | with_reducible refine Sw.h_gN ?_
  | with_reducible refine Sw.h_gT rfl ?_
  | with_reducible refine Sw.h_gC ?_
  | with_reducible refine Sw.h_gE ?_
  | with_reducible refine Sw.h_asgG ?_
  | with_reducible refine Sw.h_forD ?_
  | with_reducible refine Sw.h_raise ?_
  | with_reducible refine Sw.h_seqasgG ?_
  | with_reducible refine Sw.h_seqfrzO rfl ?_
  | with_reducible refine Sw.h_seqfrzS rfl ?_
  | with_reducible refine Sw.h_isi rfl rfl ?_
  | with_reducible refine Sw.h_ixT rfl ?_
  | with_reducible refine Sw.h_seq1 ?_
  | with_reducible refine L2.iteT ?_ | with_reducible refine L2.iteF ?_ | with_reducible refine Sw.iteNT ?_ | with_reducible refine Sw.iteNF ?_ | refine Sw.h_np rfl ?_)
local macro_rules | `(tactic| walk_at "go") => `(tactic| repeat walk_at "go1")
local macro_rules | `(tactic| walk_at "sz") => `(tactic| first
  | omega
  | decide
  | (simp only [List.length_append, List.length_map, List.length_cons, List.length_nil, List.length_take, List.length_drop, List.length_reverse, List.length_set, List.length_replicate, List.length_range]; omega)
  | (refine Nat.le_trans (Sw.cut_len _ _ _) ?_; omega))
local macro_rules | `(tactic| walk_at "gx1") => `(tactic| first
  | walk_at "go1"
  | refine Sw.c_draw (by omega) (by omega) (fun _ _ _ => ?_)
  | refine Sw.c_letters (by omega) (by omega) (by omega) (by omega) (fun _ _ _ => ?_)
  | refine Sw.c_wheel (by omega) (by omega) (fun _ _ _ _ => ?_)
  | refine Sw.c_word (by walk_at "sz") (by walk_at "sz") (by omega) (by omega) (fun _ _ _ => ?_)
  | refine Sw.c_bent (by walk_at "sz") (by assumption) (fun _ _ _ => ?_)
  | refine Sw.c_lis_word (by walk_at "sz") (by assumption) ?_
  | refine Sw.h_sc rfl ?_
  | refine Sw.h_lenS (by walk_at "sz") ?_
  | refine Sw.h_slS (by walk_at "sz") ?_
  | refine Sw.h_addS (by walk_at "sz") ?_
  | refine Sw.h_I (by omega) ?_
  | refine Sw.h_I (Sw.cm (by omega) (by omega) (by omega) (by omega)) ?_
  | refine Sw.h_I (Sw.cd (by omega) (by omega)) ?_
  | refine Sw.h_I ⟨by decide, by decide, by decide⟩ ?_
  | refine Sw.h_gT rfl ?_
  | refine Sw.h_ixT rfl ?_
  | refine Sw.h_ixL rfl ?_
  | refine Sw.h_appE rfl ?_
  | refine Sw.h_appK rfl (by decide) (by walk_at "sz") ?_
  | refine Sw.h_setLE rfl ?_
  | refine Sw.h_putTE rfl ?_
  | refine Sw.h_putKE rfl ?_
  | refine Sw.h_tupOf ?_
  | refine Sw.h_listOfT ?_
  | refine Sw.h_orS ?_
  | refine And.intro (by omega) (And.intro (by omega) ?_))
local macro_rules | `(tactic| walk_at "gx") => `(tactic| repeat walk_at "gx1")
namespace Sw
open PySem PySem.Spec PyProof.Rows L2 SX
def startCosts (w : List Nat) (s : Int) (word : List Nat) : List Int := (List.range w.length).map fun p : Nat => rc w s word ((p : Int), 0)
def psp_costs_from_all : PSp := fun as Q _ => ∃ (w word : List Nat) (s : Int), as = [.sh (.str w), .sh (.str word), .sh (.int s)] ∧ 1 ≤ w.length ∧ w.length ≤ 1000 ∧ word.length ≤ 1000 ∧ (∀ c ∈ word, c ∈ w) ∧ Q .ow (.lst ((startCosts w s word).map .int))
theorem ln_costs_from_all {as : List Ar} {Q : Md → D → Prop} {E : Nat → Prop} (h : psp_costs_from_all as Q E) : as.length = 3 := by obtain ⟨_, _, _, rfl, _⟩ := h; rfl
def t_costs_from_all (K : PySem.W.Frag) (c : Cl) : TS :=
  (tSeq (tAsg tDNewT (gName 3))
  (tSeq (tFor (iRng3 (tCons (tCB rLenStr (tCons (tVar 1) tNil)) (tCons (tUn rNeg (tC (.int 1))) (tCons (tUn rNeg (tC (.int 1))) tNil)))) (gName 4)
  (tSeq (tAsg tDNewT (gName 5))
  (tSeq (tFor (iRng1 (tCons (tCB rLenStr (tCons (tVar 0) tNil)) tNil)) (gName 6)
  (tFor (iTup K (tTup (tCons (tUn rNeg (tC (.int 1))) (tCons (tC (.int 0)) (tCons (tC (.int 1)) tNil))))) (gName 7)
  (tIfS (tOr (tTest (tOp rEq (tVar 4) (tC (.int 0)))) (tTest (tOp rEq (tOp rIxS (tVar 0) (tVar 6)) (tOp rIxS (tVar 1) (tOp rSub (tVar 4) (tC (.int 1))))))) (tSeq (sDPut (tVar 5) (tTup (tCons (tVar 6) (tCons (tVar 7) tNil))) (tC (.int 0)))
  (tIfS (tTest (tOp rLt (tVar 4) (tCB rLenStr (tCons (tVar 1) tNil)))) (tSeq (tAsg (tCall (lift K c psp_steps_from) [] E0 (tCons (tVar 0) (tCons (tTup (tCons (tVar 6) (tCons (tVar 7) tNil))) (tCons (tOp rIxS (tVar 1) (tVar 4)) (tCons (tVar 2) tNil))))) (gName 8))
  (sDPut (tVar 5) (tTup (tCons (tVar 6) (tCons (tVar 7) tNil))) (tCB (rMin K) (tCons (tLc (iList K (tVar 8)) (gTup K 3 (gCons (gName 9) (gCons (gName 10) (gCons (gName 11) gNil)))) tYes (tOp rAdd (tDGet (tVar 3) (tVar 10)) (tVar 11)) [9, 10, 11]) tNil)))) tNext)) tNext)))
  (tAsg (tVar 5) (gName 3)))))
  (tRet (tLc (iRng1 (tCons (tCB rLenStr (tCons (tVar 0) tNil)) tNil)) (gName 6) tYes (tDGet (tVar 3) (tTup (tCons (tVar 6) (tCons (tC (.int 0)) tNil)))) [6]))))
def q_costs_from_all : QS :=
  (qSeq (qAsg qNewT 3)
  (qSeq (qFor (qiR3 (qUn pLenS (qVar 1)) (qUn pNeg (qC (.int 1))) (qUn pNeg (qC (.int 1)))) (qgName 4)
  (qSeq (qAsg qNewT 5)
  (qSeq (qFor (qiR1 (qUn pLenS (qVar 0))) (qgName 6)
  (qFor (qiTup (qTup (qCons (qUn pNeg (qC (.int 1))) (qCons (qC (.int 0)) (qCons (qC (.int 1)) qNil))))) (qgName 7)
  (qIfS (qOr (qTest (qOp pEq (qVar 4) (qC (.int 0)))) (qTest (qOp pEq (qOp pIxS (qVar 0) (qVar 6)) (qOp pIxS (qVar 1) (qOp pSub (qVar 4) (qC (.int 1))))))) (qSeq (qPutTS 5 (qTup (qCons (qVar 6) (qCons (qVar 7) qNil))) (qC (.int 0)))
  (qIfS (qTest (qOp pLt (qVar 4) (qUn pLenS (qVar 1)))) (qSeq (qAsg (qCall psp_steps_from P0 (qCons (qVar 0) (qCons (qTup (qCons (qVar 6) (qCons (qVar 7) qNil))) (qCons (qOp pIxS (qVar 1) (qVar 4)) (qCons (qVar 2) qNil))))) 8)
  (qPutTS 5 (qTup (qCons (qVar 6) (qCons (qVar 7) qNil))) (qUn pMinL (qLc (qiList (qVar 8)) (qgTup 3 (qgCons (qgName 9) (qgCons (qgName 10) (qgCons (qgName 11) qgNil)))) qYes (qOp pAdd (qOp pGetT (qVar 3) (qVar 10)) (qVar 11)) [9, 10, 11])))) qNext)) qNext)))
  (qFrz 5 (qAsg (qVar 5) 3)))))
  (qRet (qLc (qiR1 (qUn pLenS (qVar 0))) (qgName 6) qYes (qOp pGetT (qVar 3) (qTup (qCons (qVar 6) (qCons (qC (.int 0)) qNil)))) [6]))))
theorem sim_costs_from_all {K : PySem.W.Frag} {c : Cl} (t : Option Addr) (E : XK) (Ep : XP) : SimS K c t (fun _ => E) Ep (t_costs_from_all K c) q_costs_from_all :=
  (s_seq (s_asg s_newT)
  (s_seq (s_for (si_r3 (s_cb1 (r := rLenStr) o_lenS (s_var 1)) (s_un o_neg (s_c fun _ => rfl)) (s_un o_neg (s_c fun _ => rfl))) sg_name
  (s_seq (s_asg s_newT)
  (s_seq (s_for (si_r1 (s_cb1 (r := rLenStr) o_lenS (s_var 0))) sg_name
  (s_for (si_tup (s_tup (s_cons (s_un o_neg (s_c fun _ => rfl)) (s_cons (s_c fun _ => rfl) (s_cons (s_c fun _ => rfl) s_nil))))) sg_name
  (s_ifS (s_or (s_test (s_op o_eq (s_var 4) (s_c fun _ => rfl))) (s_test (s_op o_eq (s_op o_ixS (s_var 0) (s_var 6)) (s_op o_ixS (s_var 1) (s_op o_sub (s_var 4) (s_c fun _ => rfl)))))) (s_seq (s_putT (i := 5) (s_c fun _ => rfl) (s_tup (s_cons (s_var 6) (s_cons (s_var 7) s_nil))))
  (s_ifS (s_test (s_op o_lt (s_var 4) (s_cb1 (r := rLenStr) o_lenS (s_var 1)))) (s_seq (s_asg (s_call0 (s_cons (s_var 0) (s_cons (s_tup (s_cons (s_var 6) (s_cons (s_var 7) s_nil))) (s_cons (s_op o_ixS (s_var 1) (s_var 4)) (s_cons (s_var 2) s_nil))))))
  (s_putT (i := 5) (s_cb1 (r := (rMin K)) o_minL (s_lc (si_list (s_var 8)) (sg_tup (sg_cons sg_name (sg_cons sg_name (sg_cons sg_name sg_nil)))) (by decide) s_yes (s_op o_add (s_dget o_getT (s_var 3) (s_var 10)) (s_var 11)))) (s_tup (s_cons (s_var 6) (s_cons (s_var 7) s_nil))))) s_next)) s_next)))
  (s_frz (i := 5) (s_asg (s_var 5))))))
  (s_ret (s_lc (si_r1 (s_cb1 (r := rLenStr) o_lenS (s_var 0))) sg_name (by decide) s_yes (s_dget o_getT (s_var 3) (s_tup (s_cons (s_var 6) (s_cons (s_c fun _ => rfl) s_nil))))))))

set_option maxHeartbeats 8000000 in
theorem pr_costs_from_all {as : List Ar} {Q : Md → D → Prop} {E : Nat → Prop} (h : psp_costs_from_all as Q E) : q_costs_from_all { nx := fun _ => Q .sh .non, rt := Q } (dstart 12 as) := by
  obtain ⟨w, word, s, rfl, w1, w2, lw, hin, q⟩ := h
  show q_costs_from_all _ [some (.sh (.str w)), some (.sh (.str word)), some (.sh (.int s)), none, none, none, none, none, none, none, none, none]
  unfold q_costs_from_all
  walk_at "go"
  refine h_lenS (by omega) ?_
  walk_at "go"
  refine ⟨_, _, _, _, rfl, rfl, rfl, RgC.neg (by omega) (by omega) (by decide) (by decide), h_ne1 ?_⟩
  have en : ((word.length : Int) - -1).toNat = word.length + 1 := by omega
  rw [en]
  refine loop_inv (fun i δ => ∃ (B : Row) (m : SV), (m = .sh (encRow B) ∨ m = .ow (encRow B)) ∧ (0 < i → m = .sh (encRow B) ∧ RowAll w word s (word.length + 1 - i) w.length B) ∧ ∃ (v4 v5 v6 v7 v8 v9 v10 v11 : Option SV), δ = [some (.sh (.str w)), some (.sh (.str word)), some (.sh (.int s)), some (m), v4, v5, v6, v7, v8, v9, v10, v11]) ⟨[], _, .inr rfl, fun z => absurd z (Nat.lt_irrefl _), _, _, _, _, _, _, _, _, rfl⟩ (fun i d δ' N hd hI hN => ?_) (fun δ' hI => ?_)
  · obtain ⟨B, mB, hmB, hB, v4, v5, v6, v7, v8, v9, v10, v11, rfl⟩ := hI
    obtain ⟨hi, rfl⟩ := rngC_at hd
    obtain ⟨k, hk⟩ : ∃ k, k = word.length - i := ⟨_, rfl⟩
    have ek : (word.length : Int) + (i : Int) * -1 = (k : Int) := by omega
    rw [ek]
    walk_at "go"
    refine h_lenS (by omega) ?_
    walk_at "go"
    refine ⟨by omega, by omega, h_ne1 ?_⟩
    refine loop_inv (fun p δ => ∃ R : Row, R.length ≤ 3 * p ∧ RowAll w word s k p R ∧ ∃ (v6 v7 v8 v9 v10 v11 : Option SV), δ = [some (.sh (.str w)), some (.sh (.str word)), some (.sh (.int s)), some (mB), some (.sh (.int (k : Int))), some (.ow (encRow R)), v6, v7, v8, v9, v10, v11]) ⟨[], Nat.zero_le _, fun p y hp => absurd hp (Nat.not_lt_zero _), _, _, _, _, _, _, rfl⟩ (fun p d δ' N2 hd hI hN2 => ?_) (fun δ' hI => ?_)
    · obtain ⟨R, hRl, hR, v6, v7, v8, v9, v10, v11, rfl⟩ := hI
      obtain ⟨hp, rfl⟩ := rng_at hd
      have hpl : p < w.length := by omega
      rw [Int.zero_add]
      walk_at "go"
      refine loop_inv (fun z δ => ∃ R : Row, R.length ≤ 3 * p + z ∧ RowAll w word s k p R ∧ (Valid w word k p → ∀ y : Int, WayOk y → y < (z : Int) - 1 → valI R ((p : Int), y) = some (rc w s (word.drop k) ((p : Int), y))) ∧ ∃ (v7 v8 v9 v10 v11 : Option SV), δ = [some (.sh (.str w)), some (.sh (.str word)), some (.sh (.int s)), some (mB), some (.sh (.int (k : Int))), some (.ow (encRow R)), some (.sh (.int (p : Int))), v7, v8, v9, v10, v11]) ⟨R, by omega, hR, fun _ y hy hlt => by unfold WayOk at hy; omega, _, _, _, _, _, rfl⟩ (fun z d δ' N3 hd hI hN3 => ?_) (fun δ' hI => ?_)
      · obtain ⟨R, hRl, hR, hRz, v7, v8, v9, v10, v11, rfl⟩ := hI
        have hz : z < 3 := (List.getElem?_eq_some_iff.mp hd).1
        obtain ⟨y, hyd, hy, hyz⟩ : ∃ y : Int, d = .int y ∧ WayOk y ∧ y = (z : Int) - 1 := by
          have : z = 0 ∨ z = 1 ∨ z = 2 := by omega
          rcases this with rfl | rfl | rfl
          · cases hd; exact ⟨-1, rfl, .inl rfl, rfl⟩
          · cases hd; exact ⟨0, rfl, .inr (.inl rfl), rfl⟩
          · cases hd; exact ⟨1, rfl, .inr (.inr rfl), rfl⟩
        subst hyd
        -- what stands in the end at this stand
        have fin : ∀ (R2 : Row) (u8 u9 u10 u11 : Option SV), R2.length ≤ 3 * p + (z + 1) → RowAll w word s k p R2 → (∀ y' : Int, WayOk y' → y' ≠ y → valI R2 ((p : Int), y') = valI R ((p : Int), y')) → (Valid w word k p → valI R2 ((p : Int), y) = some (rc w s (word.drop k) ((p : Int), y))) → N3 [some (.sh (.str w)), some (.sh (.str word)), some (.sh (.int s)), some mB, some (.sh (.int (k : Int))), some (.ow (encRow R2)), some (.sh (.int (p : Int))), some (.sh (.int y)), u8, u9, u10, u11] := by
          intro R2 u8 u9 u10 u11 hl hall ho hv
          refine hN3 _ ⟨R2, hl, hall, fun hva y' hy' hlt => ?_, _, _, _, _, _, rfl⟩
          by_cases e : y' = y
          · rw [e]; exact hv hva
          · rw [ho y' hy' e]; exact hRz hva y' hy' (by omega)
        have body : Valid w word k p → ∀ P : Pn, P.nx = N3 → qSeq (qPutTS 5 (qTup (qCons (qVar 6) (qCons (qVar 7) qNil))) (qC (.int 0)))
            (qIfS (qTest (qOp pLt (qVar 4) (qUn pLenS (qVar 1)))) (qSeq (qAsg (qCall psp_steps_from P0 (qCons (qVar 0) (qCons (qTup (qCons (qVar 6) (qCons (qVar 7) qNil))) (qCons (qOp pIxS (qVar 1) (qVar 4)) (qCons (qVar 2) qNil))))) 8)
            (qPutTS 5 (qTup (qCons (qVar 6) (qCons (qVar 7) qNil))) (qUn pMinL (qLc (qiList (qVar 8)) (qgTup 3 (qgCons (qgName 9) (qgCons (qgName 10) (qgCons (qgName 11) qgNil)))) qYes (qOp pAdd (qOp pGetT (qVar 3) (qVar 10)) (qVar 11)) [9, 10, 11])))) qNext) P [some (.sh (.str w)), some (.sh (.str word)), some (.sh (.int s)), some mB, some (.sh (.int (k : Int))), some (.ow (encRow R)), some (.sh (.int (p : Int))), some (.sh (.int y)), v8, v9, v10, v11] := by
          intro hv P hP
          have hl1 := putI_len R ((p : Int), y) 0
          refine h_seq (h_putTE rfl ?_)
          walk_at "go"
          refine h_putTK rfl (ks := encK ((p : Int), y)) rfl (by decide) (by rw [List.length_map]; omega) ?_
          rw [row_put]
          walk_at "go"
          refine h_lenS (by omega) ?_
          walk_at "go"
          have other : ∀ (v v' : Int) (y' : Int), y' ≠ y → valI (putI (putI R ((p : Int), y) v) ((p : Int), y) v') ((p : Int), y') = valI R ((p : Int), y') := fun v v' y' hne => by
            rw [valI_put, if_neg (fun u => hne (congrArg Prod.snd u)), valI_put, if_neg (fun u => hne (congrArg Prod.snd u))]
          have allp : ∀ (R' : Row) (v : Int), RowAll w word s k p R' → RowAll w word s k p (putI R' ((p : Int), y) v) := fun R' v h p' y' hp' hv' hy' => by
            rw [valI_put, if_neg (fun u => by have := congrArg Prod.fst u; simp at this; omega)]
            exact h p' y' hp' hv' hy'
          refine ite_p (fun hkl => ?_) (fun hkl => ?_)
          · have hkl' : k < word.length := by omega
            obtain ⟨c, hc⟩ : ∃ c, word[k]? = some c := ⟨_, List.getElem?_eq_getElem hkl'⟩
            have hdr : word.drop k = c :: word.drop (k + 1) := by
              obtain ⟨z1, z2⟩ := List.getElem?_eq_some_iff.mp hc
              rw [List.drop_eq_getElem_cons z1, z2]
            have hcw := hin c (List.mem_of_getElem? hc)
            have hsl := stepsFrom_len w ((p : Int), y) [c] s
            obtain ⟨rfl, hBall⟩ := hB (by omega)
            rw [show word.length + 1 - i = k + 1 by omega] at hBall
            walk_at "go"
            refine h_ixS (by omega) (atI_nat hc) ?_
            walk_at "go"
            refine ⟨w, ((p : Int), y), [c], s, rfl, w1, w2, ?_⟩
            walk_at "go"
            refine h_putTE rfl ?_
            walk_at "go"
            have hget : ∀ x ∈ stepsFrom w ((p : Int), y) [c] s, valI B x.2.1 = some (rc w s (word.drop (k + 1)) x.2.1) := fun x hx => by
              obtain ⟨e1, e2, _⟩ := mem_steps.mp hx
              obtain ⟨q', hq, hql, hqv⟩ := turn_valid (p := (p : Int)) (by omega) hc e1
              have e3 : x.2.1 = ((q' : Int), wayOf x.1 y) := by rw [e2]; exact Prod.ext hq.symm rfl
              rw [e3]
              exact hBall q' _ hql hqv (wayOf_ok hy)
            refine lc_inv (fun a acc => acc = (((stepsFrom w ((p : Int), y) [c] s).take a).map fun e => rc w s (word.drop (k + 1)) e.2.1 + e.2.2).map .int) rfl (fun a d acc N4 hd hI hN4 => ?_) (fun acc hI => ?_)
            · subst hI
              obtain ⟨x, hx, rfl⟩ := map_at' hd
              rw [take_snoc hx, List.map_append, List.map_append] at hN4
              refine h_gT rfl ?_
              walk_at "go"
              refine h_getT (ks := encK x.2.1) rfl (by rw [row_get, hget x (List.mem_of_getElem? hx)]; rfl) ?_
              walk_at "go"
              exact ⟨by rw [List.length_map, List.length_map, List.length_take]; omega, hN4 _ rfl⟩
            · rw [List.length_map, List.take_length] at hI
              subst hI
              refine h_minL' (fun u => stepsFrom_ne ((p : Int), y) s hcw (List.map_eq_nil_iff.mp u)) ?_
              walk_at "go"
              have hm : minL ((stepsFrom w ((p : Int), y) [c] s).map fun e => rc w s (word.drop (k + 1)) e.2.1 + e.2.2) = rc w s (word.drop k) ((p : Int), y) := by rw [hdr]; rfl
              rw [hm]
              refine h_putTK rfl (ks := encK ((p : Int), y)) rfl (by decide) (by rw [List.length_map]; omega) ?_
              rw [row_put, hP]
              refine fin _ _ _ _ _ ?_ (allp _ _ (allp _ _ hR)) (fun y' hy' hne => other _ _ y' hne) (fun _ => by rw [valI_put, if_pos rfl])
              -- the second put keeps the length
              have : (putI (putI R ((p : Int), y) 0) ((p : Int), y) (rc w s (word.drop k) ((p : Int), y))).length = (putI R ((p : Int), y) 0).length := by
                show (putA (putA R ((p : Int), y) 0) ((p : Int), y) _).length = _
                have hany : ((putA R ((p : Int), y) (0 : Int)).any fun e => decide (e.1 = ((p : Int), y))) = true := by
                  cases hq : (putA R ((p : Int), y) (0 : Int)).any fun e => decide (e.1 = ((p : Int), y)) with
                  | true => rfl
                  | false =>
                    have h1 := getA_put R ((p : Int), y) ((p : Int), y) (0 : Int)
                    rw [if_pos rfl] at h1
                    rw [List.any_eq_false] at hq
                    unfold getA at h1
                    obtain ⟨e, he, _⟩ := Option.map_eq_some_iff.mp h1
                    exact absurd (List.find?_some he) (hq e (List.mem_of_find?_eq_some he))
                rw [show putA (putA R ((p : Int), y) (0 : Int)) ((p : Int), y) (rc w s (word.drop k) ((p : Int), y)) = (putA R ((p : Int), y) (0 : Int)).map (fun e => if e.1 = ((p : Int), y) then (e.1, rc w s (word.drop k) ((p : Int), y)) else e) from if_pos hany, List.length_map]
              omega
          · walk_at "go"
            rw [hP]
            refine fin _ _ _ _ _ (by omega) (allp _ _ hR) (fun y' hy' hne => by rw [valI_put, if_neg (fun u => hne (congrArg Prod.snd u))]) (fun _ => ?_)
            rw [valI_put, if_pos rfl, List.drop_eq_nil_of_le (by omega)]
            rfl
        walk_at "go"
        by_cases hk0 : k = 0
        · rw [decide_eq_true (show (k : Int) = 0 by omega)]
          exact iteT (iteT (body (.inl hk0) _ rfl))
        · rw [decide_eq_false (show ¬ (k : Int) = 0 by omega)]
          walk_at "go"
          refine h_ixS (by omega) (getD_at (w := w) (z := (p : Int)) (by omega) (by omega)) ?_
          walk_at "go"
          refine h_ixS (by omega) (getD_at (w := word) (z := (k : Int) - 1) (by omega) (by omega)) ?_
          walk_at "go"
          have e1 : (p : Int).toNat = p := by omega
          have e2 : ((k : Int) - 1).toNat = k - 1 := by omega
          rw [e1, e2]
          refine ite_p (fun hv => ?_) (fun hv => ?_)
          · exact body (.inr (List.cons.inj hv).1) _ rfl
          · walk_at "go"
            refine fin R _ _ _ _ (by omega) hR (fun _ _ _ => rfl) fun hva => ?_
            rcases hva with u | u
            · exact absurd u hk0
            · exact absurd (by rw [u]) hv
      · obtain ⟨R, hRl, hR, hRz, v7, v8, v9, v10, v11, rfl⟩ := hI
        refine hN2 _ ⟨R, by simp at hRl; omega, fun p' y hp' hv' hy => ?_, _, _, _, _, _, _, rfl⟩
        by_cases e : p' < p
        · exact hR p' y e hv' hy
        · have : p' = p := by omega
          subst this
          exact hRz hv' y hy (by unfold WayOk at hy; simp; omega)
    · obtain ⟨R, hRl, hR, v6, v7, v8, v9, v10, v11, rfl⟩ := hI
      have el : ((rng 0 (w.length : Int).toNat).map D.int).length = w.length := by unfold rng; simp
      rw [el] at hRl hR
      walk_at "go"
      refine hN _ ⟨R, _, .inl rfl, fun _ => ⟨rfl, by rw [show word.length + 1 - (i + 1) = k by omega]; exact hR⟩, _, _, _, _, _, _, _, _, rfl⟩
  · obtain ⟨B, mB, hmB, hB, v4, v5, v6, v7, v8, v9, v10, v11, rfl⟩ := hI
    have el : ((rngC (word.length : Int) (-1) (word.length + 1)).map D.int).length = word.length + 1 := by unfold rngC; simp
    rw [el] at hB
    obtain ⟨rfl, hBall⟩ := hB (by omega)
    rw [Nat.sub_self] at hBall
    walk_at "go"
    refine h_lenS (by omega) ?_
    walk_at "go"
    refine ⟨by omega, by omega, ?_⟩
    refine lc_inv (fun a acc => acc = ((startCosts w s word).take a).map .int) rfl (fun a d acc N4 hd hI hN4 => ?_) (fun acc hI => ?_)
    · subst hI
      obtain ⟨ha, rfl⟩ := rng_at hd
      have hal : a < w.length := by omega
      have hst : (startCosts w s word)[a]? = some (rc w s word ((a : Int), 0)) := by unfold startCosts; rw [List.getElem?_map, List.getElem?_range hal]; rfl
      rw [take_snoc hst, List.map_append] at hN4
      have hg := hBall a 0 hal (.inl rfl) (.inr (.inl rfl))
      rw [List.drop_zero] at hg
      rw [Int.zero_add]
      walk_at "go"
      refine h_getT (ks := encK ((a : Int), 0)) rfl (by rw [row_get, hg]; rfl) ?_
      walk_at "go"
      exact ⟨by rw [List.length_map, List.length_take]; omega, hN4 _ rfl⟩
    · have el2 : ((rng 0 (w.length : Int).toNat).map D.int).length = (startCosts w s word).length := by unfold rng startCosts; simp
      rw [el2, List.take_length] at hI
      subst hI
      walk_at "go"
      exact q
theorem rd_costs_from_all {K : PySem.W.Frag} {c : Cl} {vs : List V} {H : Hp} {Q : VK} {E : XK} (h : lift K c psp_costs_from_all vs H Q E) : t_costs_from_all K c { nx := fun _ H' => Q .non H', rt := Q } (start ["wheel", "word", "slack", "behind", "k", "here", "place", "way", "some", "turn", "there", "more"] vs) H :=
  rd_of (ts := fun _ => t_costs_from_all K c) (qs := fun _ => q_costs_from_all) (fun t e ep => sim_costs_from_all t e ep) (fun as Qp Ep h => Nat.le_trans (Nat.le_of_eq (ln_costs_from_all h)) (by decide)) (fun as Qp Ep h => pr_costs_from_all h) h

def psp_best_start : PSp := fun as Q E => ∃ (w word : List Nat) (s : Int), as = [.sh (.str w), .sh (.str word), .sh (.int s)] ∧ w.length ≤ 1000000 ∧ word.length ≤ 1000000 ∧ (match errandDue w word s with | none => Q .sh (encP (((startCosts w s word).idxOf (minL (startCosts w s word)) : Nat), minL (startCosts w s word))) | some n => E n)
theorem ln_best_start {as : List Ar} {Q : Md → D → Prop} {E : Nat → Prop} (h : psp_best_start as Q E) : as.length = 3 := by obtain ⟨_, _, _, rfl, _⟩ := h; rfl
def t_best_start (K : PySem.W.Frag) (c : Cl) (E : XK) : TS :=
  (tSeq (tDrop (tCall (lift K c psp_look_at_errand) [] E (tCons (tVar 0) (tCons (tVar 1) (tCons (tVar 2) tNil)))))
  (tSeq (tAsg (tCall (lift K c psp_costs_from_all) [] E0 (tCons (tVar 0) (tCons (tVar 1) (tCons (tVar 2) tNil)))) (gName 3))
  (tRet (tTup (tCons (tBM K "list" (rIndex K) (tVar 3) (tCons (tCB (rMin K) (tCons (tVar 3) tNil)) tNil)) (tCons (tCB (rMin K) (tCons (tVar 3) tNil)) tNil))))))
def q_best_start (Ep : XP) : QS :=
  (qSeq (qDrop (qCall psp_look_at_errand Ep (qCons (qVar 0) (qCons (qVar 1) (qCons (qVar 2) qNil)))))
  (qSeq (qAsg (qCall psp_costs_from_all P0 (qCons (qVar 0) (qCons (qVar 1) (qCons (qVar 2) qNil)))) 3)
  (qRet (qTup (qCons (qLM pIndex (qVar 3) (qUn pMinL (qVar 3))) (qCons (qUn pMinL (qVar 3)) qNil))))))
theorem sim_best_start {K : PySem.W.Frag} {c : Cl} (t : Option Addr) (E : XK) (Ep : XP) : SimS K c t (fun _ => E) Ep (t_best_start K c E) (q_best_start Ep) :=
  (s_seq (s_drop (s_callX (s_cons (s_var 0) (s_cons (s_var 1) (s_cons (s_var 2) s_nil)))))
  (s_seq (s_asg (s_call0 (s_cons (s_var 0) (s_cons (s_var 1) (s_cons (s_var 2) s_nil)))))
  (s_ret (s_tup (s_cons (s_index (s_var 3) (s_cb1 (r := (rMin K)) o_minL (s_var 3))) (s_cons (s_cb1 (r := (rMin K)) o_minL (s_var 3)) s_nil))))))

theorem pr_best_start {as : List Ar} {Q : Md → D → Prop} {E : Nat → Prop} (h : psp_best_start as Q E) : q_best_start (fun _ n => E n) { nx := fun _ => Q .sh .non, rt := Q } (dstart 4 as) := by
  obtain ⟨w, word, s, rfl, l1, l2, q⟩ := h
  show q_best_start _ _ [some (.sh (.str w)), some (.sh (.str word)), some (.sh (.int s)), none]
  unfold q_best_start
  walk_at "go"
  refine ⟨w, word, s, rfl, l1, l2, ?_⟩
  cases hdue : errandDue w word s with
  | some n => rw [hdue] at q; exact q
  | none =>
    rw [hdue] at q
    obtain ⟨⟨w0, w1, _⟩, ⟨d1, _⟩, _, hin⟩ := errand_ok hdue
    show _ ∧ _
    refine h_sc rfl ?_
    walk_at "go"
    refine ⟨w, word, s, rfl, w0, by omega, by omega, hin, ?_⟩
    have hne : startCosts w s word ≠ [] := fun z => by
      have := congrArg List.length z
      unfold startCosts at this
      simp at this
      rw [this] at w0
      simp at w0
    walk_at "go"
    refine ⟨⟨_, rfl⟩, ?_⟩
    walk_at "go"
    refine h_minL' hne ?_
    refine ⟨_, _, rfl, rfl, minL_mem hne, ?_⟩
    walk_at "go"
    refine h_minL' hne ?_
    walk_at "go"
    exact q
theorem rd_best_start {K : PySem.W.Frag} {c : Cl} {vs : List V} {H : Hp} {Q : VK} {E : XK} (h : lift K c psp_best_start vs H Q E) : t_best_start K c E { nx := fun _ H' => Q .non H', rt := Q } (start ["wheel", "word", "slack", "costs"] vs) H :=
  rd_of (ts := fun e => t_best_start K c e) (qs := fun ep => q_best_start ep) (fun t e ep => sim_best_start t e ep) (fun as Qp Ep h => Nat.le_trans (Nat.le_of_eq (ln_best_start h)) (by decide)) (fun as Qp Ep h => pr_best_start h) h

end Sw
local macro_rules | `(tactic| walk_at "go1") => `(tactic| first
  | with_reducible refine Sw.h_seqasg ?_
  | with_reducible refine Sw.h_op ?_
  | with_reducible refine Sw.h_varS rfl ?_
  | with_reducible refine Sw.h_varO rfl ?_
  | with_reducible refine Sw.h_c ?_
  | with_reducible refine Sw.h_I0 ?_
  | with_reducible refine Sw.h_cons ?_
  | with_reducible refine Sw.h_consT rfl ?_
  | with_reducible refine Sw.h_consC rfl ?_
  | with_reducible refine Sw.h_nil ?_
  | with_reducible refine Sw.h_call ?_
  | with_reducible refine Sw.h_un ?_
  | with_reducible refine Sw.h_test ?_
  | with_reducible refine Sw.h_bl ?_
  | with_reducible refine Sw.h_seqdrop ?_
  | with_reducible refine Sw.h_asS ?_
  | with_reducible refine Sw.h_asO ?_
  | with_reducible refine Sw.h_ne1 ?_
  | with_reducible refine Sw.h_ne2 ?_
  | with_reducible refine Sw.h_asg ?_
  | with_reducible refine Sw.h_drop ?_
  | with_reducible refine Sw.h_ret ?_
  | with_reducible refine Sw.h_retS rfl ?_
  | with_reducible refine Sw.h_retO rfl ?_
  | with_reducible refine Sw.h_retN ?_
  | with_reducible refine Sw.h_next ?_
  | with_reducible refine Sw.h_if ?_
  | with_reducible refine Sw.h_frzO rfl ?_
  | with_reducible refine Sw.h_frzS rfl ?_
  | with_reducible refine Sw.h_and ?_
  | with_reducible refine Sw.h_or ?_
  | with_reducible refine Sw.h_not ?_
  | with_reducible refine Sw.h_yes ?_
  | with_reducible refine Sw.h_andV ?_
  | with_reducible refine Sw.h_orV ?_
  | with_reducible refine Sw.h_notV ?_
  | with_reducible refine Sw.h_ifE ?_
  | with_reducible refine Sw.h_chain ?_
  | with_reducible refine Sw.h_lenC rfl ?_
  | with_reducible refine Sw.h_tup ?_
  | with_reducible refine Sw.h_lst ?_
  | with_reducible refine Sw.h_shs0 ?_
  | with_reducible refine Sw.h_shs1 ?_
  | with_reducible refine Sw.h_shs2 ?_
  | with_reducible refine Sw.h_shs3 ?_
  | with_reducible refine Sw.h_shs4 ?_
  | with_reducible refine Sw.h_sl ?_
  | with_reducible refine Sw.h_nopart ?_
  | with_reducible refine Sw.h_part ?_
  | with_reducible refine Sw.h_int ?_
  | with_reducible refine Sw.h_neg ?_
  | with_reducible refine Sw.h_S ?_
  | with_reducible refine Sw.h_inSign ?_
  | with_reducible refine Sw.h_notInSign ?_
  | with_reducible refine Sw.h_isN ?_
  | with_reducible refine Sw.h_notN ?_
  | with_reducible refine Sw.h_eq rfl ?_
  | with_reducible refine Sw.h_ne rfl ?_
  | with_reducible refine Sw.h_lenL ?_
  | with_reducible refine Sw.h_lenT ?_
  | with_reducible refine Sw.h_abs ?_
  | with_reducible refine Sw.h_max2 ?_
  | with_reducible refine Sw.h_min2 ?_
  | with_reducible refine Sw.h_int1b ?_
  | with_reducible refine Sw.h_sum ?_
  | with_reducible refine Sw.h_listOf ?_
  | with_reducible refine Sw.h_slL ?_
  | with_reducible refine Sw.h_slT ?_
  | with_reducible refine Sw.h_revL ?_
  | with_reducible refine Sw.h_newK ?_
  | with_reducible refine Sw.h_newT ?_
  | with_reducible refine Sw.h_seqfor ?_
  | with_reducible refine Sw.h_seqforD ?_
  | with_reducible refine Sw.h_dispT ?_
  | with_reducible refine Sw.h_LM ?_
  | with_reducible refine Sw.h_for ?_
  | with_reducible refine Sw.h_iList ?_
  | with_reducible refine Sw.h_iTup ?_
  | with_reducible refine Sw.h_iStr ?_
  | with_reducible refine Sw.h_iR1 ?_
  | with_reducible refine Sw.h_iR2 ?_
  | with_reducible refine Sw.h_iR3 ?_
  | with_reducible refine Sw.h_iEnum ?_
  | with_reducible refine Sw.h_iZip ?_
  | with_reducible refine Sw.h_iZipS ?_
  | with_reducible refine Sw.h_lst1 ?_
  | with_reducible refine Sw.h_tup1 ?_
  | with_reducible refine Sw.h_str1 ?_
  | with_reducible refine Sw.h_lc ?_
  | with_reducible refine Sw.h_gN ?_
  | with_reducible refine Sw.h_gT rfl ?_
  | with_reducible refine Sw.h_gC ?_
  | with_reducible refine Sw.h_gE ?_
  | with_reducible refine Sw.h_asgG ?_
  | with_reducible refine Sw.h_forD ?_
  | with_reducible refine Sw.h_raise ?_
  | with_reducible refine Sw.h_seqasgG ?_
  | with_reducible refine Sw.h_seqfrzO rfl ?_
  | with_reducible refine Sw.h_seqfrzS rfl ?_
  | with_reducible refine Sw.h_isi rfl rfl ?_
  | with_reducible refine Sw.h_ixT rfl ?_
  | with_reducible refine Sw.h_seq1 ?_
  | with_reducible refine L2.iteT ?_ | with_reducible refine L2.iteF ?_ | with_reducible refine Sw.iteNT ?_ | with_reducible refine Sw.iteNF ?_ | refine Sw.h_np rfl ?_)
local macro_rules | `(tactic| walk_at "go") => `(tactic| repeat walk_at "go1")
local macro_rules | `(tactic| walk_at "sz") => `(tactic| first
  | omega
  | decide
  | (simp only [List.length_append, List.length_map, List.length_cons, List.length_nil, List.length_take, List.length_drop, List.length_reverse, List.length_set, List.length_replicate, List.length_range]; omega)
  | (refine Nat.le_trans (Sw.cut_len _ _ _) ?_; omega))
local macro_rules | `(tactic| walk_at "gx1") => `(tactic| first
  | walk_at "go1"
  | refine Sw.c_draw (by omega) (by omega) (fun _ _ _ => ?_)
  | refine Sw.c_letters (by omega) (by omega) (by omega) (by omega) (fun _ _ _ => ?_)
  | refine Sw.c_wheel (by omega) (by omega) (fun _ _ _ _ => ?_)
  | refine Sw.c_word (by walk_at "sz") (by walk_at "sz") (by omega) (by omega) (fun _ _ _ => ?_)
  | refine Sw.c_bent (by walk_at "sz") (by assumption) (fun _ _ _ => ?_)
  | refine Sw.c_lis_word (by walk_at "sz") (by assumption) ?_
  | refine Sw.h_sc rfl ?_
  | refine Sw.h_lenS (by walk_at "sz") ?_
  | refine Sw.h_slS (by walk_at "sz") ?_
  | refine Sw.h_addS (by walk_at "sz") ?_
  | refine Sw.h_I (by omega) ?_
  | refine Sw.h_I (Sw.cm (by omega) (by omega) (by omega) (by omega)) ?_
  | refine Sw.h_I (Sw.cd (by omega) (by omega)) ?_
  | refine Sw.h_I ⟨by decide, by decide, by decide⟩ ?_
  | refine Sw.h_gT rfl ?_
  | refine Sw.h_ixT rfl ?_
  | refine Sw.h_ixL rfl ?_
  | refine Sw.h_appE rfl ?_
  | refine Sw.h_appK rfl (by decide) (by walk_at "sz") ?_
  | refine Sw.h_setLE rfl ?_
  | refine Sw.h_putTE rfl ?_
  | refine Sw.h_putKE rfl ?_
  | refine Sw.h_tupOf ?_
  | refine Sw.h_listOfT ?_
  | refine Sw.h_orS ?_
  | refine And.intro (by omega) (And.intro (by omega) ?_))
local macro_rules | `(tactic| walk_at "gx") => `(tactic| repeat walk_at "gx1")
namespace Sw
open PySem PySem.Spec PyProof.Rows L2 SX
theorem cut_len {α : Type} (l : List α) (lo hi : Option Int) : (cut l lo hi).length ≤ l.length := by
  unfold cut
  rw [List.length_take, List.length_drop]
  omega
def Asc (l : List Nat) : Prop := ∀ c ∈ l, c < 128
theorem cut_asc {l : List Nat} {lo hi : Option Int} (h : Asc l) : Asc (cut l lo hi) := fun c hc => by
  unfold cut at hc
  exact h c (List.mem_of_mem_drop (List.mem_of_mem_take hc))
theorem app_asc {a b : List Nat} (ha : Asc a) (hb : Asc b) : Asc (a ++ b) := fun c hc => by
  rcases List.mem_append.mp hc with h | h
  · exact ha c h
  · exact hb c h
theorem low_asc {l : List Nat} (h : Low l) : Asc l := fun c hc => by have := h c hc; omega
theorem one_asc {c : Nat} (h : c < 128) : Asc [c] := fun d hd => by rw [List.mem_singleton.mp hd]; exact h
/-- a list of signs against none -/
theorem toPyL_strs : ∀ ls : List (List Nat), toPyL (ls.map .str) = ls.map fun l => PyData.str (S l)
  | [] => rfl
  | l :: ls => by show toPy (.str l) :: toPyL (ls.map .str) = _; rw [toPyL_strs ls]; rfl
theorem flat_dstrs : ∀ ls : List (List Nat), flatDL (ls.map .str) = true
  | [] => rfl
  | l :: ls => by show (flatD (.str l) && flatDL (ls.map .str)) = true; rw [flat_dstrs ls]; rfl
theorem ok_strs {ls : List (List Nat)} (h : ∀ l ∈ ls, PyData.strOk (S l) = true) : Ok 1 (toPy (.lst (ls.map .str))) := by
  show Ok 1 (.list (toPyL (ls.map .str)))
  rw [toPyL_strs]
  refine ok_lst (n := 0) fun x hx => ?_
  obtain ⟨l, hl, rfl⟩ := List.mem_map.mp hx
  exact ok_str (h l hl)
theorem ok_empty : Ok 1 (toPy (.lst [])) := ok_lst (n := 0) ok_nil
theorem eqv_nil (ls : List D) : PyData.eqv (toPy (.lst ls)) (toPy (.lst [])) = decide (ls = []) := by
  cases ls with
  | nil => rfl
  | cons a l => rfl
def signF (f : Nat → Bool) : D → Option D := fun d => match d with | .str [ch] => if f ch = true then some (.str [ch]) else none | _ => none
theorem signF_one (f : Nat → Bool) (c : Nat) : signF f (.str [c]) = if f c = true then some (.str [c]) else none := rfl
theorem fm_signs {f : Nat → Bool} {l : List Nat} : (l.map fun ch => D.str [ch]).filterMap (signF f) = ((l.filter f).map fun ch => [ch]).map D.str := by
  induction l with
  | nil => rfl
  | cons a l ih =>
    rw [List.map_cons, List.filterMap_cons]
    by_cases h : f a = true
    · rw [List.filter_cons_of_pos h, List.map_cons, List.map_cons, ← ih, signF_one, if_pos h]
    · rw [List.filter_cons_of_neg h, ← ih, signF_one, if_neg h]
theorem signs_empty {f : Nat → Bool} {l : List Nat} : decide (((l.filter f).map fun ch => [ch]).map D.str = []) = l.all fun c => !f c := by
  induction l with
  | nil => rfl
  | cons a l ih =>
    by_cases h : f a = true
    · rw [List.filter_cons_of_pos h, List.all_cons, h]; rfl
    · rw [List.filter_cons_of_neg h, List.all_cons, ih]; simp [h]
theorem strOk_one {c : Nat} (h : c < 128) : PyData.strOk (S [c]) = true := by
  have : ∀ c : Fin 128, PyData.strOk (S [c.1]) = true := by decide +kernel
  exact this ⟨c, h⟩
theorem ok_signs {l : List Nat} (h : Asc l) : Ok 1 (toPy (.lst ((l.map fun ch => [ch]).map D.str))) := ok_strs fun x hx => by
  obtain ⟨c, hc, rfl⟩ := List.mem_map.mp hx
  exact strOk_one (h c hc)
theorem filter_asc {l : List Nat} {f : Nat → Bool} (h : Asc l) : Asc (l.filter f) := fun c hc => h c (List.mem_filter.mp hc).1
end Sw
local macro_rules | `(tactic| walk_at "go1") => `(tactic| first
  | with_reducible refine Sw.h_seqasg ?_
  | with_reducible refine Sw.h_op ?_
  | with_reducible refine Sw.h_varS rfl ?_
  | with_reducible refine Sw.h_varO rfl ?_
  | with_reducible refine Sw.h_c ?_
  | with_reducible refine Sw.h_I0 ?_
  | with_reducible refine Sw.h_cons ?_
  | with_reducible refine Sw.h_consT rfl ?_
  | with_reducible refine Sw.h_consC rfl ?_
  | with_reducible refine Sw.h_nil ?_
  | with_reducible refine Sw.h_call ?_
  | with_reducible refine Sw.h_un ?_
  | with_reducible refine Sw.h_test ?_
  | with_reducible refine Sw.h_bl ?_
  | with_reducible refine Sw.h_seqdrop ?_
  | with_reducible refine Sw.h_asS ?_
  | with_reducible refine Sw.h_asO ?_
  | with_reducible refine Sw.h_ne1 ?_
  | with_reducible refine Sw.h_ne2 ?_
  | with_reducible refine Sw.h_asg ?_
  | with_reducible refine Sw.h_drop ?_
  | with_reducible refine Sw.h_ret ?_
  | with_reducible refine Sw.h_retS rfl ?_
  | with_reducible refine Sw.h_retO rfl ?_
  | with_reducible refine Sw.h_retN ?_
  | with_reducible refine Sw.h_next ?_
  | with_reducible refine Sw.h_if ?_
  | with_reducible refine Sw.h_frzO rfl ?_
  | with_reducible refine Sw.h_frzS rfl ?_
  | with_reducible refine Sw.h_and ?_
  | with_reducible refine Sw.h_or ?_
  | with_reducible refine Sw.h_not ?_
  | with_reducible refine Sw.h_yes ?_
  | with_reducible refine Sw.h_andV ?_
  | with_reducible refine Sw.h_orV ?_
  | with_reducible refine Sw.h_notV ?_
  | with_reducible refine Sw.h_ifE ?_
  | with_reducible refine Sw.h_chain ?_
  | with_reducible refine Sw.h_lenC rfl ?_
  | with_reducible refine Sw.h_tup ?_
  | with_reducible refine Sw.h_lst ?_
  | with_reducible refine Sw.h_shs0 ?_
  | with_reducible refine Sw.h_shs1 ?_
  | with_reducible refine Sw.h_shs2 ?_
  | with_reducible refine Sw.h_shs3 ?_
  | with_reducible refine Sw.h_shs4 ?_
  | with_reducible refine Sw.h_sl ?_
  | with_reducible refine Sw.h_nopart ?_
  | with_reducible refine Sw.h_part ?_
  | with_reducible refine Sw.h_int ?_
  | with_reducible refine Sw.h_neg ?_
  | with_reducible refine Sw.h_S ?_
  | with_reducible refine Sw.h_inSign ?_
  | with_reducible refine Sw.h_notInSign ?_
  | with_reducible refine Sw.h_isN ?_
  | with_reducible refine Sw.h_notN ?_
  | with_reducible refine Sw.h_eq rfl ?_
  | with_reducible refine Sw.h_ne rfl ?_
  | with_reducible refine Sw.h_lenL ?_
  | with_reducible refine Sw.h_lenT ?_
  | with_reducible refine Sw.h_abs ?_
  | with_reducible refine Sw.h_max2 ?_
  | with_reducible refine Sw.h_min2 ?_
  | with_reducible refine Sw.h_int1b ?_
  | with_reducible refine Sw.h_sum ?_
  | with_reducible refine Sw.h_listOf ?_
  | with_reducible refine Sw.h_slL ?_
  | with_reducible refine Sw.h_slT ?_
  | with_reducible refine Sw.h_revL ?_
  | with_reducible refine Sw.h_newK ?_
  | with_reducible refine Sw.h_newT ?_
  | with_reducible refine Sw.h_seqfor ?_
  | with_reducible refine Sw.h_seqforD ?_
  | with_reducible refine Sw.h_dispT ?_
  | with_reducible refine Sw.h_LM ?_
  | with_reducible refine Sw.h_for ?_
  | with_reducible refine Sw.h_iList ?_
  | with_reducible refine Sw.h_iTup ?_
  | with_reducible refine Sw.h_iStr ?_
  | with_reducible refine Sw.h_iR1 ?_
  | with_reducible refine Sw.h_iR2 ?_
  | with_reducible refine Sw.h_iR3 ?_
  | with_reducible refine Sw.h_iEnum ?_
  | with_reducible refine Sw.h_iZip ?_
  | with_reducible refine Sw.h_iZipS ?_
  | with_reducible refine Sw.h_lst1 ?_
  | with_reducible refine Sw.h_tup1 ?_
  | with_reducible refine Sw.h_str1 ?_
  | with_reducible refine Sw.h_lc ?_
  | with_reducible refine Sw.h_gN ?_
  | with_reducible refine Sw.h_gT rfl ?_
  | with_reducible refine Sw.h_gC ?_
  | with_reducible refine Sw.h_gE ?_
  | with_reducible refine Sw.h_asgG ?_
  | with_reducible refine Sw.h_forD ?_
  | with_reducible refine Sw.h_raise ?_
  | with_reducible refine Sw.h_seqasgG ?_
  | with_reducible refine Sw.h_seqfrzO rfl ?_
  | with_reducible refine Sw.h_seqfrzS rfl ?_
  | with_reducible refine Sw.h_isi rfl rfl ?_
  | with_reducible refine Sw.h_ixT rfl ?_
  | with_reducible refine Sw.h_seq1 ?_
  | with_reducible refine L2.iteT ?_ | with_reducible refine L2.iteF ?_ | with_reducible refine Sw.iteNT ?_ | with_reducible refine Sw.iteNF ?_ | refine Sw.h_np rfl ?_)
local macro_rules | `(tactic| walk_at "go") => `(tactic| repeat walk_at "go1")
local macro_rules | `(tactic| walk_at "sz") => `(tactic| first
  | omega
  | decide
  | (simp only [List.length_append, List.length_map, List.length_cons, List.length_nil, List.length_take, List.length_drop, List.length_reverse, List.length_set, List.length_replicate, List.length_range]; omega)
  | (refine Nat.le_trans (Sw.cut_len _ _ _) ?_; omega))
local macro_rules | `(tactic| walk_at "gx1") => `(tactic| first
  | walk_at "go1"
  | refine Sw.c_draw (by omega) (by omega) (fun _ _ _ => ?_)
  | refine Sw.c_letters (by omega) (by omega) (by omega) (by omega) (fun _ _ _ => ?_)
  | refine Sw.c_wheel (by omega) (by omega) (fun _ _ _ _ => ?_)
  | refine Sw.c_word (by walk_at "sz") (by walk_at "sz") (by omega) (by omega) (fun _ _ _ => ?_)
  | refine Sw.c_bent (by walk_at "sz") (by assumption) (fun _ _ _ => ?_)
  | refine Sw.c_lis_word (by walk_at "sz") (by assumption) ?_
  | refine Sw.h_sc rfl ?_
  | refine Sw.h_lenS (by walk_at "sz") ?_
  | refine Sw.h_slS (by walk_at "sz") ?_
  | refine Sw.h_addS (by walk_at "sz") ?_
  | refine Sw.h_I (by omega) ?_
  | refine Sw.h_I (Sw.cm (by omega) (by omega) (by omega) (by omega)) ?_
  | refine Sw.h_I (Sw.cd (by omega) (by omega)) ?_
  | refine Sw.h_I ⟨by decide, by decide, by decide⟩ ?_
  | refine Sw.h_gT rfl ?_
  | refine Sw.h_ixT rfl ?_
  | refine Sw.h_ixL rfl ?_
  | refine Sw.h_appE rfl ?_
  | refine Sw.h_appK rfl (by decide) (by walk_at "sz") ?_
  | refine Sw.h_setLE rfl ?_
  | refine Sw.h_putTE rfl ?_
  | refine Sw.h_putKE rfl ?_
  | refine Sw.h_tupOf ?_
  | refine Sw.h_listOfT ?_
  | refine Sw.h_orS ?_
  | refine And.intro (by omega) (And.intro (by omega) ?_))
local macro_rules | `(tactic| walk_at "gx") => `(tactic| repeat walk_at "gx1")
namespace Sw
open PySem PySem.Spec PyProof.Rows L2 SX
/-! ### plain data compared: no truths in it, of little depth -/
def Nc : Nat → D → Prop
  | _, .non => True
  | _, .int _ => True
  | _, .str l => ∀ c ∈ l, c < 1114112
  | n + 1, .lst ds => ∀ d ∈ ds, Nc n d
  | n + 1, .tup ds => ∀ d ∈ ds, Nc n d
  | _, _ => False
theorem flatDL_all : ∀ {ds : List D}, (∀ d ∈ ds, flatD d = true) → flatDL ds = true
  | [], _ => rfl
  | d :: ds, h => by
    show (flatD d && flatDL ds) = true
    rw [h d List.mem_cons_self, flatDL_all fun x hx => h x (List.mem_cons_of_mem _ hx)]
    rfl
theorem Nc.flat : ∀ {n : Nat} {d : D}, Nc n d → flatD d = true
  | _, .non, _ => by rfl
  | _, .int _, _ => by rfl
  | _, .str _, _ => by rfl
  | n + 1, .lst ds, h => flatDL_all fun d hd => Nc.flat (h d hd)
  | n + 1, .tup ds, h => flatDL_all fun d hd => Nc.flat (h d hd)
  | 0, .lst _, h => False.elim h
  | 0, .tup _, h => False.elim h
  | _, .bl _, h => by cases ‹Nat› <;> exact False.elim h
  | _, .dK _, h => by cases ‹Nat› <;> exact False.elim h
  | _, .dT _, h => by cases ‹Nat› <;> exact False.elim h
  | _, .tape, h => by cases ‹Nat› <;> exact False.elim h
theorem strOk_S {l : List Nat} (h : ∀ c ∈ l, c < 1114112) : PyData.strOk (S l) = true := by
  unfold PyData.strOk S
  rw [List.all_toArray, List.all_eq_true]
  intro c hc
  exact decide_eq_true (h c hc)
theorem toPyL_mem : ∀ {ds : List D} {x : PyData}, x ∈ toPyL ds → ∃ d ∈ ds, x = toPy d
  | d :: ds, x, h => by
    rcases List.mem_cons.mp (show x ∈ toPy d :: toPyL ds from h) with e | e
    · exact ⟨d, List.mem_cons_self, e⟩
    · obtain ⟨d', hd', e'⟩ := toPyL_mem e
      exact ⟨d', List.mem_cons_of_mem _ hd', e'⟩
theorem Nc.ok : ∀ {n : Nat} {d : D}, Nc n d → Ok n (toPy d)
  | _, .non, _ => ok_non
  | _, .int _, _ => ok_int _
  | _, .str _, h => ok_str (strOk_S (by cases ‹Nat› <;> exact h))
  | n + 1, .lst ds, h => ok_lst fun x hx => by obtain ⟨d, hd, rfl⟩ := toPyL_mem hx; exact Nc.ok (h d hd)
  | n + 1, .tup ds, h => ok_tup fun x hx => by obtain ⟨d, hd, rfl⟩ := toPyL_mem hx; exact Nc.ok (h d hd)
  | 0, .lst _, h => False.elim h
  | 0, .tup _, h => False.elim h
  | _, .bl _, h => by cases ‹Nat› <;> exact False.elim h
  | _, .dK _, h => by cases ‹Nat› <;> exact False.elim h
  | _, .dT _, h => by cases ‹Nat› <;> exact False.elim h
  | _, .tape, h => by cases ‹Nat› <;> exact False.elim h
theorem eqvAll_iff {n m : Nat} (ih : ∀ d e, Nc n d → Nc m e → (PyData.eqv (toPy d) (toPy e) = true ↔ d = e)) : ∀ {ds es : List D}, (∀ d ∈ ds, Nc n d) → (∀ e ∈ es, Nc m e) → (PyData.eqvAll (toPyL ds) (toPyL es) = true ↔ ds = es)
  | [], [], _, _ => ⟨fun _ => rfl, fun _ => rfl⟩
  | [], _ :: _, _, _ => ⟨fun h => (by cases h), fun h => (by cases h)⟩
  | _ :: _, [], _, _ => ⟨fun h => (by cases h), fun h => (by cases h)⟩
  | d :: ds, e :: es, h, h' => by
    show (PyData.eqv (toPy d) (toPy e) && PyData.eqvAll (toPyL ds) (toPyL es)) = true ↔ _
    rw [Bool.and_eq_true, ih d e (h d List.mem_cons_self) (h' e List.mem_cons_self), eqvAll_iff ih (fun x hx => h x (List.mem_cons_of_mem _ hx)) (fun x hx => h' x (List.mem_cons_of_mem _ hx)), List.cons.injEq]
theorem nc_lst0 {ds : List D} (h : Nc 0 (.lst ds)) : False := h
theorem Nc.eqv : ∀ (n m : Nat) (d e : D), Nc n d → Nc m e → (PyData.eqv (toPy d) (toPy e) = true ↔ d = e) := by
  intro n
  induction n with
  | zero =>
    intro m d e hd he
    cases d <;> cases e <;> first
      | exact False.elim hd
      | (cases m <;> exact False.elim he)
      | exact ⟨fun _ => rfl, fun _ => rfl⟩
      | exact ⟨fun h => (by cases h), fun h => (by cases h)⟩
      | (rename_i a b; exact ⟨fun h => congrArg D.int (eq_of_beq h), fun h => by cases h; exact beq_self_eq_true _⟩)
      | (rename_i a b; exact ⟨fun h => congrArg D.str (S_inj (eq_of_beq h)), fun h => by cases h; exact beq_self_eq_true _⟩)
  | succ n ih =>
    intro m d e hd he
    cases m with
    | zero =>
      cases d <;> cases e <;> first
        | exact False.elim hd
        | exact False.elim he
        | exact ⟨fun _ => rfl, fun _ => rfl⟩
        | exact ⟨fun h => (by cases h), fun h => (by cases h)⟩
        | (rename_i a b; exact ⟨fun h => congrArg D.int (eq_of_beq h), fun h => by cases h; exact beq_self_eq_true _⟩)
        | (rename_i a b; exact ⟨fun h => congrArg D.str (S_inj (eq_of_beq h)), fun h => by cases h; exact beq_self_eq_true _⟩)
    | succ m =>
      cases d <;> cases e <;> first
        | exact False.elim hd
        | exact False.elim he
        | exact ⟨fun _ => rfl, fun _ => rfl⟩
        | exact ⟨fun h => (by cases h), fun h => (by cases h)⟩
        | (rename_i a b; exact ⟨fun h => congrArg D.int (eq_of_beq h), fun h => by cases h; exact beq_self_eq_true _⟩)
        | (rename_i a b; exact ⟨fun h => congrArg D.str (S_inj (eq_of_beq h)), fun h => by cases h; exact beq_self_eq_true _⟩)
        | (rename_i a b; exact (eqvAll_iff (ih m) hd he).trans ⟨fun h => congrArg D.lst h, fun h => D.lst.inj h⟩)
        | (rename_i a b; exact (eqvAll_iff (ih m) hd he).trans ⟨fun h => congrArg D.tup h, fun h => D.tup.inj h⟩)
section
variable {n m : Nat} {d e : D} {Q : Md → D → Prop}
theorem h_neN (hd : Nc n d) (he : Nc m e) (hn : n ≤ 64) (hm : m ≤ 64) (h1 : d = e → Q .sh (.bl false)) (h2 : d ≠ e → Q .sh (.bl true)) : pNeD d e Q := by
  refine ⟨hd.flat, he.flat, hd.ok.shaped hn, he.ok.shaped hm, ?_⟩
  cases hv : PyData.eqv (toPy d) (toPy e) with
  | true => exact h1 ((Nc.eqv _ _ _ _ hd he).mp hv)
  | false => exact h2 fun z => by rw [(Nc.eqv _ _ _ _ hd he).mpr z] at hv; cases hv
theorem h_eqN (hd : Nc n d) (he : Nc m e) (hn : n ≤ 64) (hm : m ≤ 64) (h1 : d = e → Q .sh (.bl true)) (h2 : d ≠ e → Q .sh (.bl false)) : pEqD d e Q := by
  refine ⟨hd.flat, he.flat, hd.ok.shaped hn, he.ok.shaped hm, ?_⟩
  cases hv : PyData.eqv (toPy d) (toPy e) with
  | true => exact h1 ((Nc.eqv _ _ _ _ hd he).mp hv)
  | false => exact h2 fun z => by rw [(Nc.eqv _ _ _ _ hd he).mpr z] at hv; cases hv
/-- the same -/
theorem h_neR (hd : Nc n d) (hn : n ≤ 64) (q : Q .sh (.bl false)) : pNeD d d Q := h_neN hd hd hn hn (fun _ => q) (fun z => absurd rfl z)
theorem h_eqR (hd : Nc n d) (hn : n ≤ 64) (q : Q .sh (.bl true)) : pEqD d d Q := h_eqN hd hd hn hn (fun _ => q) (fun z => absurd rfl z)
end
theorem nc_ints (n : Nat) (ns : List Int) : Nc (n + 1) (.lst (ns.map .int)) := fun d hd => by obtain ⟨i, _, rfl⟩ := List.mem_map.mp hd; cases n <;> exact True.intro
theorem nc_intsT (n : Nat) (ns : List Int) : Nc (n + 1) (.tup (ns.map .int)) := fun d hd => by obtain ⟨i, _, rfl⟩ := List.mem_map.mp hd; cases n <;> exact True.intro
theorem nc_int (n : Nat) (i : Int) : Nc n (.int i) := by cases n <;> exact True.intro
theorem nc_non (n : Nat) : Nc n .non := by cases n <;> exact True.intro
theorem nc_str (n : Nat) {l : List Nat} (h : Asc l) : Nc n (.str l) := by cases n <;> exact fun c hc => Nat.lt_trans (h c hc) (by decide)
theorem nc_nil (n : Nat) : Nc (n + 1) (.lst []) := fun _ h => nomatch h
theorem nc_strs (n : Nat) {ls : List (List Nat)} (h : ∀ l ∈ ls, Asc l) : Nc (n + 1) (.lst (ls.map .str)) := fun d hd => by obtain ⟨l, hl, rfl⟩ := List.mem_map.mp hd; exact nc_str n (h l hl)
theorem nc_lst {n : Nat} {α : Type} {f : α → D} {l : List α} (h : ∀ a ∈ l, Nc n (f a)) : Nc (n + 1) (.lst (l.map f)) := fun d hd => by obtain ⟨a, ha, rfl⟩ := List.mem_map.mp hd; exact h a ha
theorem nc_tup0 {n : Nat} : Nc (n + 1) (.tup []) := fun _ h => nomatch h
theorem nc_tupC {n : Nat} {d : D} {ds : List D} (h : Nc n d) (hs : Nc (n + 1) (.tup ds)) : Nc (n + 1) (.tup (d :: ds)) := fun x hx => by
  rcases List.mem_cons.mp hx with e | e
  · rw [e]; exact h
  · exact hs x e
theorem nc_lstC {n : Nat} {d : D} {ds : List D} (h : Nc n d) (hs : Nc (n + 1) (.lst ds)) : Nc (n + 1) (.lst (d :: ds)) := fun x hx => by
  rcases List.mem_cons.mp hx with e | e
  · rw [e]; exact h
  · exact hs x e
theorem nc_encP (n : Nat) (p : Int × Int) : Nc (n + 1) (encP p) := nc_tupC (nc_int _ _) (nc_tupC (nc_int _ _) nc_tup0)
theorem nc_pairs (n : Nat) (ps : List (Int × Int)) : Nc (n + 2) (.lst (ps.map encP)) := nc_lst fun p _ => nc_encP n p
theorem map_int_inj {a b : List Int} (h : a.map D.int = b.map D.int) : a = b := (List.map_inj_right (fun x y z => by cases z; rfl)).mp h
theorem map_str_inj {a b : List (List Nat)} (h : a.map D.str = b.map D.str) : a = b := (List.map_inj_right (fun x y z => by cases z; rfl)).mp h
theorem encP_inj {p q : Int × Int} (h : encP p = encP q) : p = q := by
  unfold encP at h
  simp only [D.tup.injEq, List.cons.injEq, D.int.injEq, and_true] at h
  exact Prod.ext h.1 h.2
theorem map_encP_inj {a b : List (Int × Int)} (h : a.map encP = b.map encP) : a = b := (List.map_inj_right (fun x y z => encP_inj z)).mp h
theorem atI_map {α β : Type} (f : α → β) (xs : List α) (i : Int) : atI (xs.map f) i = (atI xs i).map f := by
  unfold atI
  rw [List.length_map]
  cases ixN xs.length i with
  | none => rfl
  | some j => exact List.getElem?_map
theorem low_one {c : Nat} (h : 97 ≤ c ∧ c ≤ 122) : Low [c] := fun d hd => by rw [List.mem_singleton.mp hd]; exact h
theorem asc_nil : Asc [] := fun _ h => nomatch h
end Sw
local macro_rules | `(tactic| walk_at "go1") => `(tactic| first
  | with_reducible refine Sw.h_seqasg ?_
  | with_reducible refine Sw.h_op ?_
  | with_reducible refine Sw.h_varS rfl ?_
  | with_reducible refine Sw.h_varO rfl ?_
  | with_reducible refine Sw.h_c ?_
  | with_reducible refine Sw.h_I0 ?_
  | with_reducible refine Sw.h_cons ?_
  | with_reducible refine Sw.h_consT rfl ?_
  | with_reducible refine Sw.h_consC rfl ?_
  | with_reducible refine Sw.h_nil ?_
  | with_reducible refine Sw.h_call ?_
  | with_reducible refine Sw.h_un ?_
  | with_reducible refine Sw.h_test ?_
  | with_reducible refine Sw.h_bl ?_
  | with_reducible refine Sw.h_seqdrop ?_
  | with_reducible refine Sw.h_asS ?_
  | with_reducible refine Sw.h_asO ?_
  | with_reducible refine Sw.h_ne1 ?_
  | with_reducible refine Sw.h_ne2 ?_
  | with_reducible refine Sw.h_asg ?_
  | with_reducible refine Sw.h_drop ?_
  | with_reducible refine Sw.h_ret ?_
  | with_reducible refine Sw.h_retS rfl ?_
  | with_reducible refine Sw.h_retO rfl ?_
  | with_reducible refine Sw.h_retN ?_
  | with_reducible refine Sw.h_next ?_
  | with_reducible refine Sw.h_if ?_
  | with_reducible refine Sw.h_frzO rfl ?_
  | with_reducible refine Sw.h_frzS rfl ?_
  | with_reducible refine Sw.h_and ?_
  | with_reducible refine Sw.h_or ?_
  | with_reducible refine Sw.h_not ?_
  | with_reducible refine Sw.h_yes ?_
  | with_reducible refine Sw.h_andV ?_
  | with_reducible refine Sw.h_orV ?_
  | with_reducible refine Sw.h_notV ?_
  | with_reducible refine Sw.h_ifE ?_
  | with_reducible refine Sw.h_chain ?_
  | with_reducible refine Sw.h_lenC rfl ?_
  | with_reducible refine Sw.h_tup ?_
  | with_reducible refine Sw.h_lst ?_
  | with_reducible refine Sw.h_shs0 ?_
  | with_reducible refine Sw.h_shs1 ?_
  | with_reducible refine Sw.h_shs2 ?_
  | with_reducible refine Sw.h_shs3 ?_
  | with_reducible refine Sw.h_shs4 ?_
  | with_reducible refine Sw.h_sl ?_
  | with_reducible refine Sw.h_nopart ?_
  | with_reducible refine Sw.h_part ?_
  | with_reducible refine Sw.h_int ?_
  | with_reducible refine Sw.h_neg ?_
  | with_reducible refine Sw.h_S ?_
  | with_reducible refine Sw.h_inSign ?_
  | with_reducible refine Sw.h_notInSign ?_
  | with_reducible refine Sw.h_isN ?_
  | with_reducible refine Sw.h_notN ?_
  | with_reducible refine Sw.h_eq rfl ?_
  | with_reducible refine Sw.h_ne rfl ?_
  | with_reducible refine Sw.h_lenL ?_
  | with_reducible refine Sw.h_lenT ?_
  | with_reducible refine Sw.h_abs ?_
  | with_reducible refine Sw.h_max2 ?_
  | with_reducible refine Sw.h_min2 ?_
  | with_reducible refine Sw.h_int1b ?_
  | with_reducible refine Sw.h_sum ?_
  | with_reducible refine Sw.h_listOf ?_
  | with_reducible refine Sw.h_slL ?_
  | with_reducible refine Sw.h_slT ?_
  | with_reducible refine Sw.h_revL ?_
  | with_reducible refine Sw.h_newK ?_
  | with_reducible refine Sw.h_newT ?_
  | with_reducible refine Sw.h_seqfor ?_
  | with_reducible refine Sw.h_seqforD ?_
  | with_reducible refine Sw.h_dispT ?_
  | with_reducible refine Sw.h_LM ?_
  | with_reducible refine Sw.h_for ?_
  | with_reducible refine Sw.h_iList ?_
  | with_reducible refine Sw.h_iTup ?_
  | with_reducible refine Sw.h_iStr ?_
  | with_reducible refine Sw.h_iR1 ?_
  | with_reducible refine Sw.h_iR2 ?_
  | with_reducible refine Sw.h_iR3 ?_
  | with_reducible refine Sw.h_iEnum ?_
  | with_reducible refine Sw.h_iZip ?_
  | with_reducible refine Sw.h_iZipS ?_
  | with_reducible refine Sw.h_lst1 ?_
  | with_reducible refine Sw.h_tup1 ?_
  | with_reducible refine Sw.h_str1 ?_
  | with_reducible refine Sw.h_lc ?_
  | with_reducible refine Sw.h_gN ?_
  | with_reducible refine Sw.h_gT rfl ?_
  | with_reducible refine Sw.h_gC ?_
  | with_reducible refine Sw.h_gE ?_
  | with_reducible refine Sw.h_asgG ?_
  | with_reducible refine Sw.h_forD ?_
  | with_reducible refine Sw.h_raise ?_
  | with_reducible refine Sw.h_seqasgG ?_
  | with_reducible refine Sw.h_seqfrzO rfl ?_
  | with_reducible refine Sw.h_seqfrzS rfl ?_
  | with_reducible refine Sw.h_isi rfl rfl ?_
  | with_reducible refine Sw.h_ixT rfl ?_
  | with_reducible refine Sw.h_seq1 ?_
  | with_reducible refine L2.iteT ?_ | with_reducible refine L2.iteF ?_ | with_reducible refine Sw.iteNT ?_ | with_reducible refine Sw.iteNF ?_ | refine Sw.h_np rfl ?_)
local macro_rules | `(tactic| walk_at "go") => `(tactic| repeat walk_at "go1")
local macro_rules | `(tactic| walk_at "sz") => `(tactic| first
  | omega
  | decide
  | (simp only [List.length_append, List.length_map, List.length_cons, List.length_nil, List.length_take, List.length_drop, List.length_reverse, List.length_set, List.length_replicate, List.length_range]; omega)
  | (refine Nat.le_trans (Sw.cut_len _ _ _) ?_; omega))
local macro_rules | `(tactic| walk_at "gx1") => `(tactic| first
  | walk_at "go1"
  | refine Sw.c_draw (by omega) (by omega) (fun _ _ _ => ?_)
  | refine Sw.c_letters (by omega) (by omega) (by omega) (by omega) (fun _ _ _ => ?_)
  | refine Sw.c_wheel (by omega) (by omega) (fun _ _ _ _ => ?_)
  | refine Sw.c_word (by walk_at "sz") (by walk_at "sz") (by omega) (by omega) (fun _ _ _ => ?_)
  | refine Sw.c_bent (by walk_at "sz") (by assumption) (fun _ _ _ => ?_)
  | refine Sw.c_lis_word (by walk_at "sz") (by assumption) ?_
  | refine Sw.h_sc rfl ?_
  | refine Sw.h_lenS (by walk_at "sz") ?_
  | refine Sw.h_slS (by walk_at "sz") ?_
  | refine Sw.h_addS (by walk_at "sz") ?_
  | refine Sw.h_I (by omega) ?_
  | refine Sw.h_I (Sw.cm (by omega) (by omega) (by omega) (by omega)) ?_
  | refine Sw.h_I (Sw.cd (by omega) (by omega)) ?_
  | refine Sw.h_I ⟨by decide, by decide, by decide⟩ ?_
  | refine Sw.h_gT rfl ?_
  | refine Sw.h_ixT rfl ?_
  | refine Sw.h_ixL rfl ?_
  | refine Sw.h_appE rfl ?_
  | refine Sw.h_appK rfl (by decide) (by walk_at "sz") ?_
  | refine Sw.h_setLE rfl ?_
  | refine Sw.h_putTE rfl ?_
  | refine Sw.h_putKE rfl ?_
  | refine Sw.h_tupOf ?_
  | refine Sw.h_listOfT ?_
  | refine Sw.h_orS ?_
  | refine And.intro (by omega) (And.intro (by omega) ?_))
local macro_rules | `(tactic| walk_at "gx") => `(tactic| repeat walk_at "gx1")
namespace Sw
open PySem PySem.Spec PyProof.Rows L2 SX
/-! ### least costs step by step, whatever the stands and steps are -/
section
variable {σ β : Type} (st : Nat → σ → List (β × σ × Int))
def gc : List Nat → σ → Int
  | [], _ => 0
  | x :: w, a => minL ((st x a).map fun e => gc w e.2.1 + e.2.2)
def gn : List Nat → σ → Int
  | [], _ => 1
  | x :: w, a => (((st x a).filter fun e => decide (gc st w e.2.1 + e.2.2 = gc st (x :: w) a)).map fun e => gn w e.2.1).sum
def gfirst (x : Nat) (w : List Nat) (a : σ) : Option (β × σ × Int) := (st x a).find? fun e => decide (gc st w e.2.1 + e.2.2 = gc st (x :: w) a)
def gplan : List Nat → σ → List β
  | [], _ => []
  | x :: w, a => match gfirst st x w a with
    | some e => e.1 :: gplan w e.2.1
    | none => []
def gsome (w : List Nat) (l : List (β × σ × Int)) : List (Int × Int) := l.map fun e => (gc st w e.2.1 + e.2.2, gn st w e.2.1)
end
section
variable {σ β : Type} {st : Nat → σ → List (β × σ × Int)}
theorem gfirst_some {x : Nat} {w : List Nat} {a : σ} (h : st x a ≠ []) : ∃ e, gfirst st x w a = some e ∧ e ∈ st x a ∧ gc st w e.2.1 + e.2.2 = gc st (x :: w) a := by
  have hne : ((st x a).map fun e => gc st w e.2.1 + e.2.2) ≠ [] := fun z => h (List.map_eq_nil_iff.mp z)
  obtain ⟨e, he, ee⟩ := List.mem_map.mp (minL_mem hne)
  cases hf : gfirst st x w a with
  | some e' =>
    refine ⟨e', rfl, List.mem_of_find?_eq_some hf, ?_⟩
    have := List.find?_some hf
    simpa using this
  | none =>
    unfold gfirst at hf
    rw [List.find?_eq_none] at hf
    exact absurd (decide_eq_true ee) (hf e he)
theorem gleast {x : Nat} {w : List Nat} {a : σ} {p : Int × Int} {ps : List (Int × Int)} (h : gsome st w (st x a) = p :: ps) : (minP p ps).1 = gc st (x :: w) a := by
  refine minL_uniq ?_ ?_
  · have h1 := minP_mem p ps
    rw [← h] at h1
    obtain ⟨e, he, ee⟩ := List.mem_map.mp h1
    exact List.mem_map.mpr ⟨e, he, by rw [← ee]⟩
  · intro y hy
    obtain ⟨e, he, rfl⟩ := List.mem_map.mp hy
    exact minP_le p ps (gc st w e.2.1 + e.2.2, gn st w e.2.1) (by rw [← h]; exact List.mem_map.mpr ⟨e, he, rfl⟩)
theorem gmany {x : Nat} {w : List Nat} {a : σ} : (((gsome st w (st x a)).filter fun p => decide (p.1 = gc st (x :: w) a)).map (·.2)).sum = gn st (x :: w) a := by
  show _ = (((st x a).filter fun e => decide (gc st w e.2.1 + e.2.2 = gc st (x :: w) a)).map fun e => gn st w e.2.1).sum
  unfold gsome
  rw [List.filter_map, List.map_map]
  rfl
end
/-! ### stands that come -/
section
variable {σ β : Type} [DecidableEq σ] (st : Nat → σ → List (β × σ × Int))
def insN (R : List σ) (a : σ) : List σ := if a ∈ R then R else R ++ [a]
def insL (L : List σ) : List σ := L.foldl insN []
def goTo (x : Nat) (R : List σ) : List σ := R.flatMap fun a => (st x a).map (·.2.1)
def rowG (a : σ) (word : List Nat) : List σ := word.foldl (fun R x => insL (goTo st x R)) [a]
end
section
variable {σ β : Type} [DecidableEq σ] {st : Nat → σ → List (β × σ × Int)}
theorem insL_snoc (L : List σ) (a : σ) : insL (L ++ [a]) = insN (insL L) a := by unfold insL; rw [List.foldl_append]; rfl
theorem mem_insN {R : List σ} {a b : σ} : b ∈ insN R a ↔ b ∈ R ∨ b = a := by
  unfold insN
  by_cases h : a ∈ R
  · rw [if_pos h]
    exact ⟨.inl, fun z => z.elim id fun e => e ▸ h⟩
  · rw [if_neg h, List.mem_append, List.mem_singleton]
theorem nd_insN {R : List σ} {a : σ} (h : R.Nodup) : (insN R a).Nodup := by
  unfold insN
  by_cases z : a ∈ R
  · rw [if_pos z]; exact h
  · rw [if_neg z]
    refine List.nodup_append.mpr ⟨h, by simp, fun x hx y hy => ?_⟩
    rw [List.mem_singleton.mp hy]
    exact fun e => z (e ▸ hx)
theorem insL_ok : ∀ (L R : List σ), R.Nodup → (L.foldl insN R).Nodup ∧ ∀ b, b ∈ L.foldl insN R ↔ b ∈ R ∨ b ∈ L
  | [], R, h => ⟨h, fun b => ⟨.inl, fun z => z.elim id fun y => nomatch y⟩⟩
  | a :: L, R, h => by
    obtain ⟨h1, h2⟩ := insL_ok L (insN R a) (nd_insN h)
    refine ⟨h1, fun b => ?_⟩
    rw [List.foldl_cons, h2, mem_insN, List.mem_cons]
    constructor
    · rintro ((h | h) | h)
      · exact .inl h
      · exact .inr (.inl h)
      · exact .inr (.inr h)
    · rintro (h | h | h)
      · exact .inl (.inl h)
      · exact .inl (.inr h)
      · exact .inr h
theorem nd_insL (L : List σ) : (insL L).Nodup := (insL_ok L [] List.nodup_nil).1
theorem mem_insL {L : List σ} {b : σ} : b ∈ insL L ↔ b ∈ L := by
  rw [show insL L = L.foldl insN [] from rfl, (insL_ok L [] List.nodup_nil).2]
  exact ⟨fun z => z.elim (fun y => nomatch y) id, .inr⟩
theorem mem_goTo {x : Nat} {R : List σ} {b : σ} : b ∈ goTo st x R ↔ ∃ a ∈ R, ∃ e ∈ st x a, e.2.1 = b := by
  unfold goTo
  rw [List.mem_flatMap]
  constructor
  · rintro ⟨a, ha, hb⟩
    obtain ⟨e, he, ee⟩ := List.mem_map.mp hb
    exact ⟨a, ha, e, he, ee⟩
  · rintro ⟨a, ha, e, he, ee⟩
    exact ⟨a, ha, List.mem_map.mpr ⟨e, he, ee⟩⟩
theorem rowG_snoc (a : σ) (word : List Nat) (x : Nat) : rowG st a (word ++ [x]) = insL (goTo st x (rowG st a word)) := by unfold rowG; rw [List.foldl_append]; rfl
theorem rowG_nd (a : σ) : ∀ word : List Nat, (rowG st a word).Nodup := fun word => by
  rcases List.eq_nil_or_concat word with h | ⟨l, x, h⟩
  · subst h; show ([a] : List σ).Nodup; simp
  · rw [h, List.concat_eq_append, rowG_snoc]; exact nd_insL _
/-- what holds of the first stand and stays by each step holds of all that come -/
theorem rowG_all {P : σ → Prop} {a : σ} (h0 : P a) (hs : ∀ x b, P b → ∀ e ∈ st x b, P e.2.1) : ∀ (word : List Nat), ∀ b ∈ rowG st a word, P b := fun word => by
  have : ∀ (k : Nat), k ≤ word.length → ∀ b ∈ rowG st a (word.take k), P b := by
    intro k
    induction k with
    | zero =>
      intro _ b hb
      rw [List.take_zero] at hb
      rw [List.mem_singleton.mp (show b ∈ [a] from hb)]
      exact h0
    | succ k ih =>
      intro hk b hb
      obtain ⟨c, hc⟩ : ∃ c, word[k]? = some c := ⟨_, List.getElem?_eq_getElem (by omega)⟩
      rw [take_snoc hc, rowG_snoc, mem_insL, mem_goTo] at hb
      obtain ⟨a', ha, e, he, rfl⟩ := hb
      exact hs c a' (ih (by omega) a' ha) e he
  have h := this word.length (Nat.le_refl _)
  rw [List.take_length] at h
  exact h
theorem row_next {a b : σ} {word : List Nat} {k c : Nat} {e : β × σ × Int} (hc : word[k]? = some c) (hb : b ∈ rowG st a (word.take k)) (he : e ∈ st c b) : e.2.1 ∈ rowG st a (word.take (k + 1)) := by
  rw [take_snoc hc, rowG_snoc, mem_insL, mem_goTo]
  exact ⟨b, hb, e, he, rfl⟩
end
theorem nodup_len {α : Type} [DecidableEq α] : ∀ (l m : List α), l.Nodup → (∀ x ∈ l, x ∈ m) → l.length ≤ m.length
  | [], _, _, _ => Nat.zero_le _
  | a :: l, m, nd, h => by
    have hn := List.nodup_cons.mp nd
    have ha := h a List.mem_cons_self
    have h1 := nodup_len l (m.erase a) hn.2 fun x hx => (List.mem_erase_of_ne (a := x) (fun e => hn.1 (by rw [← e]; exact hx))).mpr (h x (List.mem_cons_of_mem _ hx))
    rw [List.length_erase_of_mem ha] at h1
    have : 0 < m.length := List.length_pos_of_mem ha
    rw [List.length_cons]
    omega
/-! dicts by stands: the value is a function of the key -/
section
variable {σ : Type} [DecidableEq σ]
def dicG (enc : σ → List Key) (f : σ → D) (R : List σ) : List (List Key × D) := R.map fun a => (enc a, f a)
theorem dicG_len (enc : σ → List Key) (f : σ → D) (R : List σ) : (dicG enc f R).length = R.length := List.length_map _
theorem dicG_get {enc : σ → List Key} (inj : ∀ a b, enc a = enc b → a = b) (f : σ → D) {R : List σ} {a : σ} (h : a ∈ R) : getD' (dicG enc f R) (enc a) = some (f a) := by
  induction R with
  | nil => exact nomatch h
  | cons b R ih =>
    rw [getD_eq]
    by_cases e : b = a
    · subst e
      exact getA_pos (e := (enc b, f b)) rfl
    · rw [show dicG enc f (b :: R) = (enc b, f b) :: dicG enc f R from rfl, getA_neg (show (enc b, f b).1 ≠ enc a from fun z => e (inj _ _ z))]
      rcases List.mem_cons.mp h with z | z
      · exact absurd z.symm e
      · exact ih z
theorem any_dicG {enc : σ → List Key} (inj : ∀ a b, enc a = enc b → a = b) (f : σ → D) (R : List σ) (a : σ) : ((dicG enc f R).any fun e => decide (e.1 = enc a)) = decide (a ∈ R) := by
  induction R with
  | nil => rfl
  | cons b R ih =>
    rw [show dicG enc f (b :: R) = (enc b, f b) :: dicG enc f R from rfl, List.any_cons, ih]
    by_cases e : b = a
    · subst e
      rw [decide_eq_true (show (enc b, f b).1 = enc b from rfl), decide_eq_true List.mem_cons_self]
      rfl
    · rw [decide_eq_false (show ¬ (enc b, f b).1 = enc a from fun z => e (inj _ _ z)), Bool.false_or]
      refine decide_eq_decide.mpr ⟨List.mem_cons_of_mem _, fun z => ?_⟩
      rcases List.mem_cons.mp z with y | y
      · exact absurd y.symm e
      · exact y
theorem dicG_put {enc : σ → List Key} (inj : ∀ a b, enc a = enc b → a = b) (f : σ → D) (R : List σ) (a : σ) : putD (dicG enc f R) (enc a) (f a) = dicG enc f (insN R a) := by
  unfold putD insN
  rw [any_dicG inj]
  by_cases h : a ∈ R
  · rw [if_pos (decide_eq_true h), if_pos h]
    unfold dicG
    rw [List.map_map]
    refine List.map_congr_left fun b _ => ?_
    show (if enc b = enc a then (enc b, f a) else (enc b, f b)) = (enc b, f b)
    by_cases e : enc b = enc a
    · rw [if_pos e, inj _ _ e]
    · rw [if_neg e]
  · rw [if_neg (by rw [decide_eq_false h]; exact Bool.false_ne_true), if_neg h]
    unfold dicG
    rw [List.map_append]
    rfl
theorem insN_new {R : List σ} {k : Nat} {a : σ} (nd : R.Nodup) (h : R[k]? = some a) : insN (R.take k) a = R.take (k + 1) := by
  rw [take_snoc h]
  unfold insN
  rw [if_neg]
  intro hm
  obtain ⟨j, hj, ej⟩ := List.mem_iff_getElem.mp hm
  rw [List.length_take] at hj
  have hk : k < R.length := (List.getElem?_eq_some_iff.mp h).1
  have ey : R[j]? = some a := by rw [List.getElem_take] at ej; rw [List.getElem?_eq_getElem (by omega), ej]
  have := (List.getElem?_inj (i := j) (j := k) (by omega) nd).mp (by rw [ey, h])
  omega
end
end Sw
local macro_rules | `(tactic| walk_at "go1") => `(tactic| first
  | with_reducible refine Sw.h_seqasg ?_
  | with_reducible refine Sw.h_op ?_
  | with_reducible refine Sw.h_varS rfl ?_
  | with_reducible refine Sw.h_varO rfl ?_
  | with_reducible refine Sw.h_c ?_
  | with_reducible refine Sw.h_I0 ?_
  | with_reducible refine Sw.h_cons ?_
  | with_reducible refine Sw.h_consT rfl ?_
  | with_reducible refine Sw.h_consC rfl ?_
  | with_reducible refine Sw.h_nil ?_
  | with_reducible refine Sw.h_call ?_
  | with_reducible refine Sw.h_un ?_
  | with_reducible refine Sw.h_test ?_
  | with_reducible refine Sw.h_bl ?_
  | with_reducible refine Sw.h_seqdrop ?_
  | with_reducible refine Sw.h_asS ?_
  | with_reducible refine Sw.h_asO ?_
  | with_reducible refine Sw.h_ne1 ?_
  | with_reducible refine Sw.h_ne2 ?_
  | with_reducible refine Sw.h_asg ?_
  | with_reducible refine Sw.h_drop ?_
  | with_reducible refine Sw.h_ret ?_
  | with_reducible refine Sw.h_retS rfl ?_
  | with_reducible refine Sw.h_retO rfl ?_
  | with_reducible refine Sw.h_retN ?_
  | with_reducible refine Sw.h_next ?_
  | with_reducible refine Sw.h_if ?_
  | with_reducible refine Sw.h_frzO rfl ?_
  | with_reducible refine Sw.h_frzS rfl ?_
  | with_reducible refine Sw.h_and ?_
  | with_reducible refine Sw.h_or ?_
  | with_reducible refine Sw.h_not ?_
  | with_reducible refine Sw.h_yes ?_
  | with_reducible refine Sw.h_andV ?_
  | with_reducible refine Sw.h_orV ?_
  | with_reducible refine Sw.h_notV ?_
  | with_reducible refine Sw.h_ifE ?_
  | with_reducible refine Sw.h_chain ?_
  | with_reducible refine Sw.h_lenC rfl ?_
  | with_reducible refine Sw.h_tup ?_
  | with_reducible refine Sw.h_lst ?_
  | with_reducible refine Sw.h_shs0 ?_
  | with_reducible refine Sw.h_shs1 ?_
  | with_reducible refine Sw.h_shs2 ?_
  | with_reducible refine Sw.h_shs3 ?_
  | with_reducible refine Sw.h_shs4 ?_
  | with_reducible refine Sw.h_sl ?_
  | with_reducible refine Sw.h_nopart ?_
  | with_reducible refine Sw.h_part ?_
  | with_reducible refine Sw.h_int ?_
  | with_reducible refine Sw.h_neg ?_
  | with_reducible refine Sw.h_S ?_
  | with_reducible refine Sw.h_inSign ?_
  | with_reducible refine Sw.h_notInSign ?_
  | with_reducible refine Sw.h_isN ?_
  | with_reducible refine Sw.h_notN ?_
  | with_reducible refine Sw.h_eq rfl ?_
  | with_reducible refine Sw.h_ne rfl ?_
  | with_reducible refine Sw.h_lenL ?_
  | with_reducible refine Sw.h_lenT ?_
  | with_reducible refine Sw.h_abs ?_
  | with_reducible refine Sw.h_max2 ?_
  | with_reducible refine Sw.h_min2 ?_
  | with_reducible refine Sw.h_int1b ?_
  | with_reducible refine Sw.h_sum ?_
  | with_reducible refine Sw.h_listOf ?_
  | with_reducible refine Sw.h_slL ?_
  | with_reducible refine Sw.h_slT ?_
  | with_reducible refine Sw.h_revL ?_
  | with_reducible refine Sw.h_newK ?_
  | with_reducible refine Sw.h_newT ?_
  | with_reducible refine Sw.h_seqfor ?_
  | with_reducible refine Sw.h_seqforD ?_
  | with_reducible refine Sw.h_dispT ?_
  | with_reducible refine Sw.h_LM ?_
  | with_reducible refine Sw.h_for ?_
  | with_reducible refine Sw.h_iList ?_
  | with_reducible refine Sw.h_iTup ?_
  | with_reducible refine Sw.h_iStr ?_
  | with_reducible refine Sw.h_iR1 ?_
  | with_reducible refine Sw.h_iR2 ?_
  | with_reducible refine Sw.h_iR3 ?_
  | with_reducible refine Sw.h_iEnum ?_
  | with_reducible refine Sw.h_iZip ?_
  | with_reducible refine Sw.h_iZipS ?_
  | with_reducible refine Sw.h_lst1 ?_
  | with_reducible refine Sw.h_tup1 ?_
  | with_reducible refine Sw.h_str1 ?_
  | with_reducible refine Sw.h_lc ?_
  | with_reducible refine Sw.h_gN ?_
  | with_reducible refine Sw.h_gT rfl ?_
  | with_reducible refine Sw.h_gC ?_
  | with_reducible refine Sw.h_gE ?_
  | with_reducible refine Sw.h_asgG ?_
  | with_reducible refine Sw.h_forD ?_
  | with_reducible refine Sw.h_raise ?_
  | with_reducible refine Sw.h_seqasgG ?_
  | with_reducible refine Sw.h_seqfrzO rfl ?_
  | with_reducible refine Sw.h_seqfrzS rfl ?_
  | with_reducible refine Sw.h_isi rfl rfl ?_
  | with_reducible refine Sw.h_ixT rfl ?_
  | with_reducible refine Sw.h_seq1 ?_
  | with_reducible refine L2.iteT ?_ | with_reducible refine L2.iteF ?_ | with_reducible refine Sw.iteNT ?_ | with_reducible refine Sw.iteNF ?_ | refine Sw.h_np rfl ?_)
local macro_rules | `(tactic| walk_at "go") => `(tactic| repeat walk_at "go1")
local macro_rules | `(tactic| walk_at "sz") => `(tactic| first
  | omega
  | decide
  | (simp only [List.length_append, List.length_map, List.length_cons, List.length_nil, List.length_take, List.length_drop, List.length_reverse, List.length_set, List.length_replicate, List.length_range]; omega)
  | (refine Nat.le_trans (Sw.cut_len _ _ _) ?_; omega))
local macro_rules | `(tactic| walk_at "gx1") => `(tactic| first
  | walk_at "go1"
  | refine Sw.c_draw (by omega) (by omega) (fun _ _ _ => ?_)
  | refine Sw.c_letters (by omega) (by omega) (by omega) (by omega) (fun _ _ _ => ?_)
  | refine Sw.c_wheel (by omega) (by omega) (fun _ _ _ _ => ?_)
  | refine Sw.c_word (by walk_at "sz") (by walk_at "sz") (by omega) (by omega) (fun _ _ _ => ?_)
  | refine Sw.c_bent (by walk_at "sz") (by assumption) (fun _ _ _ => ?_)
  | refine Sw.c_lis_word (by walk_at "sz") (by assumption) ?_
  | refine Sw.h_sc rfl ?_
  | refine Sw.h_lenS (by walk_at "sz") ?_
  | refine Sw.h_slS (by walk_at "sz") ?_
  | refine Sw.h_addS (by walk_at "sz") ?_
  | refine Sw.h_I (by omega) ?_
  | refine Sw.h_I (Sw.cm (by omega) (by omega) (by omega) (by omega)) ?_
  | refine Sw.h_I (Sw.cd (by omega) (by omega)) ?_
  | refine Sw.h_I ⟨by decide, by decide, by decide⟩ ?_
  | refine Sw.h_gT rfl ?_
  | refine Sw.h_ixT rfl ?_
  | refine Sw.h_ixL rfl ?_
  | refine Sw.h_appE rfl ?_
  | refine Sw.h_appK rfl (by decide) (by walk_at "sz") ?_
  | refine Sw.h_setLE rfl ?_
  | refine Sw.h_putTE rfl ?_
  | refine Sw.h_putKE rfl ?_
  | refine Sw.h_tupOf ?_
  | refine Sw.h_listOfT ?_
  | refine Sw.h_orS ?_
  | refine And.intro (by omega) (And.intro (by omega) ?_))
local macro_rules | `(tactic| walk_at "gx") => `(tactic| repeat walk_at "gx1")
namespace Sw
open PySem PySem.Spec PyProof.Rows L2 SX
/-! ### banks: plain -/
def prodN : List Nat → Nat
  | [] => 1
  | n :: ns => n * prodN ns
theorem prodN_snoc : ∀ (l : List Nat) (n : Nat), prodN (l ++ [n]) = prodN l * n
  | [], n => by show n * 1 = 1 * n; omega
  | a :: l, n => by show a * prodN (l ++ [n]) = a * prodN l * n; rw [prodN_snoc l n, Nat.mul_assoc]
theorem prodN_le : ∀ (l : List Nat), (∀ n ∈ l, n ≤ 30) → prodN l ≤ 30 ^ l.length
  | [], _ => Nat.le_refl _
  | a :: l, h => by
    have h1 := prodN_le l fun n hn => h n (List.mem_cons_of_mem _ hn)
    have h2 := Nat.mul_le_mul (h a List.mem_cons_self) h1
    rw [List.length_cons, Nat.pow_succ, Nat.mul_comm (30 ^ l.length)]
    exact h2
theorem pow_small {k : Nat} (h : k ≤ 50) : 30 ^ k < 2 ^ 499 := Nat.lt_of_le_of_lt (Nat.pow_le_pow_right (by decide) h) (by decide +kernel)
def lens (bank : List (List Nat)) : List Nat := bank.map (·.length)
def isBank (bank : List (List Nat)) : Bool := bank.all isWheel && ((decide (1 ≤ bank.length) && decide (bank.length ≤ 3)) && decide (prodN (lens bank) ≤ 400))
abbrev encB (bank : List (List Nat)) : D := .lst (bank.map .str)
structure BankOk (bank : List (List Nat)) : Prop where
  w : ∀ l ∈ bank, 1 ≤ l.length ∧ l.length ≤ 30 ∧ Low l
  n1 : 1 ≤ bank.length
  n3 : bank.length ≤ 3
  p : prodN (lens bank) ≤ 400
theorem bank_ok {bank : List (List Nat)} (h : isBank bank = true) : BankOk bank := by
  unfold isBank at h
  rw [Bool.and_eq_true, Bool.and_eq_true, Bool.and_eq_true, List.all_eq_true, decide_eq_true_eq, decide_eq_true_eq, decide_eq_true_eq] at h
  exact ⟨fun l hl => isWheel_iff.mp (h.1 l hl), h.2.1.1, h.2.1.2, h.2.2⟩
theorem joinL_nil : ∀ ls : List (List Nat), TL.joinL [] ls = ls.flatten
  | [] => rfl
  | [l] => by show l = [l].flatten; simp
  | a :: b :: ls => by
    show a ++ ([] ++ TL.joinL [] (b :: ls)) = (a :: b :: ls).flatten
    rw [joinL_nil (b :: ls)]
    rfl
theorem join_flat (ls : List (List Nat)) : (Txt.join (S []) (ls.map S)).cps.toList = ls.flatten := by
  rw [join_S, joinL_nil]
theorem h_joinF {ls : List (List Nat)} {Q : Md → D → Prop} (hl : (ls.map (·.length)).sum ≤ 1000000) (h : Q .sh (.str ls.flatten)) : pJoinC [] (.lst (ls.map .str)) Q :=
  ⟨ls, .inl rfl, by simpa using hl, by rw [join_flat]; exact h⟩
theorem sum_le {l : List Nat} {b : Nat} (h : ∀ n ∈ l, n ≤ b) : l.sum ≤ l.length * b := by
  induction l with
  | nil => simp
  | cons a l ih =>
    have h1 := ih fun n hn => h n (List.mem_cons_of_mem _ hn)
    have h2 := h a List.mem_cons_self
    rw [List.sum_cons, List.length_cons, Nat.add_mul]
    omega
theorem BankOk.sum {bank : List (List Nat)} (h : BankOk bank) : (bank.map (·.length)).sum ≤ 1000 := by
  have h1 := sum_le (l := bank.map (·.length)) (b := 30) fun n hn => by
    obtain ⟨l, hl, rfl⟩ := List.mem_map.mp hn
    exact (h.w l hl).2.1
  rw [List.length_map] at h1
  have := h.n3
  omega
def hasAll (word signs : List Nat) : Bool := word.all fun c => decide (c ∈ signs)
theorem hasAll_iff {word signs : List Nat} : hasAll word signs = true ↔ ∀ c ∈ word, c ∈ signs := by unfold hasAll; rw [List.all_eq_true]; simp
def jointDue (bank : List (List Nat)) (word : List Nat) : Option Nat := if isBank bank = false then some 1 else if isWord word = false then some 12 else if hasAll word bank.flatten = false then some 0 else none
theorem joint_ok {bank : List (List Nat)} {word : List Nat} (h : jointDue bank word = none) : BankOk bank ∧ (word.length ≤ 80 ∧ Low word) ∧ ∀ c ∈ word, c ∈ bank.flatten := by
  unfold jointDue at h
  cases h1 : isBank bank with
  | false => rw [h1, if_pos rfl] at h; cases h
  | true =>
    rw [h1, if_neg (by decide)] at h
    cases h2 : isWord word with
    | false => rw [h2, if_pos rfl] at h; cases h
    | true =>
      rw [h2, if_neg (by decide)] at h
      cases h3 : hasAll word bank.flatten with
      | false => rw [h3, if_pos rfl] at h; cases h
      | true => exact ⟨bank_ok h1, isWord_iff.mp h2, hasAll_iff.mp h3⟩
end Sw
local macro_rules | `(tactic| walk_at "go1") => `(tactic| first
  | with_reducible refine Sw.h_seqasg ?_
  | with_reducible refine Sw.h_op ?_
  | with_reducible refine Sw.h_varS rfl ?_
  | with_reducible refine Sw.h_varO rfl ?_
  | with_reducible refine Sw.h_c ?_
  | with_reducible refine Sw.h_I0 ?_
  | with_reducible refine Sw.h_cons ?_
  | with_reducible refine Sw.h_consT rfl ?_
  | with_reducible refine Sw.h_consC rfl ?_
  | with_reducible refine Sw.h_nil ?_
  | with_reducible refine Sw.h_call ?_
  | with_reducible refine Sw.h_un ?_
  | with_reducible refine Sw.h_test ?_
  | with_reducible refine Sw.h_bl ?_
  | with_reducible refine Sw.h_seqdrop ?_
  | with_reducible refine Sw.h_asS ?_
  | with_reducible refine Sw.h_asO ?_
  | with_reducible refine Sw.h_ne1 ?_
  | with_reducible refine Sw.h_ne2 ?_
  | with_reducible refine Sw.h_asg ?_
  | with_reducible refine Sw.h_drop ?_
  | with_reducible refine Sw.h_ret ?_
  | with_reducible refine Sw.h_retS rfl ?_
  | with_reducible refine Sw.h_retO rfl ?_
  | with_reducible refine Sw.h_retN ?_
  | with_reducible refine Sw.h_next ?_
  | with_reducible refine Sw.h_if ?_
  | with_reducible refine Sw.h_frzO rfl ?_
  | with_reducible refine Sw.h_frzS rfl ?_
  | with_reducible refine Sw.h_and ?_
  | with_reducible refine Sw.h_or ?_
  | with_reducible refine Sw.h_not ?_
  | with_reducible refine Sw.h_yes ?_
  | with_reducible refine Sw.h_andV ?_
  | with_reducible refine Sw.h_orV ?_
  | with_reducible refine Sw.h_notV ?_
  | with_reducible refine Sw.h_ifE ?_
  | with_reducible refine Sw.h_chain ?_
  | with_reducible refine Sw.h_lenC rfl ?_
  | with_reducible refine Sw.h_tup ?_
  | with_reducible refine Sw.h_lst ?_
  | with_reducible refine Sw.h_shs0 ?_
  | with_reducible refine Sw.h_shs1 ?_
  | with_reducible refine Sw.h_shs2 ?_
  | with_reducible refine Sw.h_shs3 ?_
  | with_reducible refine Sw.h_shs4 ?_
  | with_reducible refine Sw.h_sl ?_
  | with_reducible refine Sw.h_nopart ?_
  | with_reducible refine Sw.h_part ?_
  | with_reducible refine Sw.h_int ?_
  | with_reducible refine Sw.h_neg ?_
  | with_reducible refine Sw.h_S ?_
  | with_reducible refine Sw.h_inSign ?_
  | with_reducible refine Sw.h_notInSign ?_
  | with_reducible refine Sw.h_isN ?_
  | with_reducible refine Sw.h_notN ?_
  | with_reducible refine Sw.h_eq rfl ?_
  | with_reducible refine Sw.h_ne rfl ?_
  | with_reducible refine Sw.h_lenL ?_
  | with_reducible refine Sw.h_lenT ?_
  | with_reducible refine Sw.h_abs ?_
  | with_reducible refine Sw.h_max2 ?_
  | with_reducible refine Sw.h_min2 ?_
  | with_reducible refine Sw.h_int1b ?_
  | with_reducible refine Sw.h_sum ?_
  | with_reducible refine Sw.h_listOf ?_
  | with_reducible refine Sw.h_slL ?_
  | with_reducible refine Sw.h_slT ?_
  | with_reducible refine Sw.h_revL ?_
  | with_reducible refine Sw.h_newK ?_
  | with_reducible refine Sw.h_newT ?_
  | with_reducible refine Sw.h_seqfor ?_
  | with_reducible refine Sw.h_seqforD ?_
  | with_reducible refine Sw.h_dispT ?_
  | with_reducible refine Sw.h_LM ?_
  | with_reducible refine Sw.h_for ?_
  | with_reducible refine Sw.h_iList ?_
  | with_reducible refine Sw.h_iTup ?_
  | with_reducible refine Sw.h_iStr ?_
  | with_reducible refine Sw.h_iR1 ?_
  | with_reducible refine Sw.h_iR2 ?_
  | with_reducible refine Sw.h_iR3 ?_
  | with_reducible refine Sw.h_iEnum ?_
  | with_reducible refine Sw.h_iZip ?_
  | with_reducible refine Sw.h_iZipS ?_
  | with_reducible refine Sw.h_lst1 ?_
  | with_reducible refine Sw.h_tup1 ?_
  | with_reducible refine Sw.h_str1 ?_
  | with_reducible refine Sw.h_lc ?_
  | with_reducible refine Sw.h_gN ?_
  | with_reducible refine Sw.h_gT rfl ?_
  | with_reducible refine Sw.h_gC ?_
  | with_reducible refine Sw.h_gE ?_
  | with_reducible refine Sw.h_asgG ?_
  | with_reducible refine Sw.h_forD ?_
  | with_reducible refine Sw.h_raise ?_
  | with_reducible refine Sw.h_seqasgG ?_
  | with_reducible refine Sw.h_seqfrzO rfl ?_
  | with_reducible refine Sw.h_seqfrzS rfl ?_
  | with_reducible refine Sw.h_isi rfl rfl ?_
  | with_reducible refine Sw.h_ixT rfl ?_
  | with_reducible refine Sw.h_seq1 ?_
  | with_reducible refine L2.iteT ?_ | with_reducible refine L2.iteF ?_ | with_reducible refine Sw.iteNT ?_ | with_reducible refine Sw.iteNF ?_ | refine Sw.h_np rfl ?_)
local macro_rules | `(tactic| walk_at "go") => `(tactic| repeat walk_at "go1")
local macro_rules | `(tactic| walk_at "sz") => `(tactic| first
  | omega
  | decide
  | (simp only [List.length_append, List.length_map, List.length_cons, List.length_nil, List.length_take, List.length_drop, List.length_reverse, List.length_set, List.length_replicate, List.length_range]; omega)
  | (refine Nat.le_trans (Sw.cut_len _ _ _) ?_; omega))
local macro_rules | `(tactic| walk_at "gx1") => `(tactic| first
  | walk_at "go1"
  | refine Sw.c_draw (by omega) (by omega) (fun _ _ _ => ?_)
  | refine Sw.c_letters (by omega) (by omega) (by omega) (by omega) (fun _ _ _ => ?_)
  | refine Sw.c_wheel (by omega) (by omega) (fun _ _ _ _ => ?_)
  | refine Sw.c_word (by walk_at "sz") (by walk_at "sz") (by omega) (by omega) (fun _ _ _ => ?_)
  | refine Sw.c_bent (by walk_at "sz") (by assumption) (fun _ _ _ => ?_)
  | refine Sw.c_lis_word (by walk_at "sz") (by assumption) ?_
  | refine Sw.h_sc rfl ?_
  | refine Sw.h_lenS (by walk_at "sz") ?_
  | refine Sw.h_slS (by walk_at "sz") ?_
  | refine Sw.h_addS (by walk_at "sz") ?_
  | refine Sw.h_I (by omega) ?_
  | refine Sw.h_I (Sw.cm (by omega) (by omega) (by omega) (by omega)) ?_
  | refine Sw.h_I (Sw.cd (by omega) (by omega)) ?_
  | refine Sw.h_I ⟨by decide, by decide, by decide⟩ ?_
  | refine Sw.h_gT rfl ?_
  | refine Sw.h_ixT rfl ?_
  | refine Sw.h_ixL rfl ?_
  | refine Sw.h_appE rfl ?_
  | refine Sw.h_appK rfl (by decide) (by walk_at "sz") ?_
  | refine Sw.h_setLE rfl ?_
  | refine Sw.h_putTE rfl ?_
  | refine Sw.h_putKE rfl ?_
  | refine Sw.h_tupOf ?_
  | refine Sw.h_listOfT ?_
  | refine Sw.h_orS ?_
  | refine And.intro (by omega) (And.intro (by omega) ?_))
local macro_rules | `(tactic| walk_at "gx") => `(tactic| repeat walk_at "gx1")
namespace Sw
open PySem PySem.Spec PyProof.Rows L2 SX
/-! ### deeds of several heads -/
abbrev Pl := List Int
abbrev JS := (Int × Int) × Pl × Int
def jone (w : List Nat) (n : Nat) (p : Pl) (sg : List Nat) : List JS := (turnsTo w (p.getD n 0) sg).map fun t => (((n : Int), t), p.set n ((p.getD n 0 + t) % (w.length : Int)), absI t)
def jpre (bank : List (List Nat)) (p : Pl) (x : Nat) (i : Nat) : List JS := (bank.zipIdx.take i).flatMap fun e => jone e.1 e.2 p [x]
def jsteps (bank : List (List Nat)) (x : Nat) (p : Pl) : List JS := bank.zipIdx.flatMap fun e => jone e.1 e.2 p [x]
def encJ (e : JS) : D := .tup [encP e.1, .tup (e.2.1.map .int), .int e.2.2]
theorem jone_len (w : List Nat) (n : Nat) (p : Pl) (sg : List Nat) : (jone w n p sg).length ≤ 2 * w.length - 1 := by unfold jone; rw [List.length_map]; exact turnsTo_len ..
theorem flat_len {α β : Type} {f : α → List β} {b : Nat} : ∀ l : List α, (∀ a ∈ l, (f a).length ≤ b) → (l.flatMap f).length ≤ l.length * b
  | [], _ => by simp
  | a :: l, h => by
    rw [List.flatMap_cons, List.length_append, List.length_cons, Nat.add_mul]
    have h1 := flat_len l fun x hx => h x (List.mem_cons_of_mem _ hx)
    have h2 := h a List.mem_cons_self
    omega
theorem zip_mem {α : Type} {l : List α} {e : α × Nat} (h : e ∈ l.zipIdx) : e.1 ∈ l := by
  obtain ⟨i, hi, ei⟩ := List.mem_iff_getElem.mp h
  rw [List.getElem_zipIdx] at ei
  rw [← ei]
  exact List.getElem_mem _
theorem jpre_len {bank : List (List Nat)} {p : Pl} {x i : Nat} (hw : ∀ w ∈ bank, w.length ≤ 1000) (hb : bank.length ≤ 50) : (jpre bank p x i).length ≤ 100000 := by
  unfold jpre
  have h := flat_len (f := fun e : List Nat × Nat => jone e.1 e.2 p [x]) (b := 2000) (bank.zipIdx.take i) fun e he => by
    have h1 := hw e.1 (zip_mem (List.mem_of_mem_take he))
    have h2 := jone_len e.1 e.2 p [x]
    omega
  rw [List.length_take, List.length_zipIdx] at h
  have h3 : min i bank.length * 2000 ≤ 50 * 2000 := Nat.mul_le_mul_right _ (by omega)
  omega
theorem jsteps_pre (bank : List (List Nat)) (x : Nat) (p : Pl) : jpre bank p x bank.length = jsteps bank x p := by
  unfold jpre jsteps
  have : bank.zipIdx.take bank.length = bank.zipIdx := List.take_of_length_le (by rw [List.length_zipIdx]; exact Nat.le_refl _)
  rw [this]
theorem jpre_succ {bank : List (List Nat)} {p : Pl} {x i : Nat} {w : List Nat} (h : bank[i]? = some w) : jpre bank p x (i + 1) = jpre bank p x i ++ jone w i p [x] := by
  have h2 : bank.zipIdx[i]? = some (w, i) := by rw [List.getElem?_zipIdx, h]; show some (w, 0 + i) = _; rw [Nat.zero_add]
  unfold jpre
  rw [take_snoc h2, List.flatMap_append]
  simp
theorem pl_at {p : Pl} {i : Nat} (h : i < p.length) : atI (p.map D.int) (i : Int) = some (.int (p.getD i 0)) := by
  refine atI_nat ?_
  rw [List.getElem?_map, List.getElem?_eq_getElem h, List.getD, List.getElem?_eq_getElem h]
  rfl
def encPl (p : Pl) : List Key := p.map Sum.inl
theorem encPl_inj (a b : Pl) (h : encPl a = encPl b) : a = b := by
  unfold encPl at h
  exact (List.map_inj_right (fun x y z => by cases z; rfl)).mp h
theorem tup_pl (p : Pl) : D.tup (p.map .int) = .tup ((encPl p).map dKey) := by unfold encPl; rw [List.map_map]; rfl
/-! ### places that come -/
def InBox : List Nat → Pl → Prop
  | [], [] => True
  | n :: ns, p :: ps => (0 ≤ p ∧ p < (n : Int)) ∧ InBox ns ps
  | _, _ => False
def box : List Nat → List Pl
  | [] => [[]]
  | n :: ns => (List.range n).flatMap fun (i : Nat) => (box ns).map fun r => (i : Int) :: r
theorem mem_box : ∀ {ns : List Nat} {p : Pl}, InBox ns p → p ∈ box ns
  | [], [], _ => List.mem_singleton.mpr rfl
  | [], _ :: _, h => False.elim h
  | _ :: _, [], h => False.elim h
  | n :: ns, p :: ps, h => by
    obtain ⟨⟨h0, h1⟩, h2⟩ := h
    refine List.mem_flatMap.mpr ⟨p.toNat, List.mem_range.mpr (by omega), List.mem_map.mpr ⟨ps, mem_box h2, ?_⟩⟩
    rw [show ((p.toNat : Nat) : Int) = p by omega]
theorem box_len : ∀ ns : List Nat, (box ns).length ≤ prodN ns
  | [] => Nat.le_refl _
  | n :: ns => by
    have h := flat_len (f := fun i : Nat => (box ns).map fun r => (i : Int) :: r) (b := prodN ns) (List.range n) fun i _ => by rw [List.length_map]; exact box_len ns
    rw [List.length_range] at h
    exact h
theorem inBox_len : ∀ {ns : List Nat} {p : Pl}, InBox ns p → p.length = ns.length
  | [], [], _ => rfl
  | [], _ :: _, h => False.elim h
  | _ :: _, [], h => False.elim h
  | n :: ns, p :: ps, h => by rw [List.length_cons, List.length_cons, inBox_len h.2]
theorem inBox_set : ∀ {ns : List Nat} {p : Pl} {i n : Nat} {v : Int}, InBox ns p → ns[i]? = some n → 0 ≤ v → v < (n : Int) → InBox ns (p.set i v)
  | [], [], _, _, _, _, e, _, _ => by simp at e
  | [], _ :: _, _, _, _, h, _, _, _ => False.elim h
  | _ :: _, [], _, _, _, h, _, _, _ => False.elim h
  | n :: ns, p :: ps, 0, m, v, h, e, h0, h1 => by
    cases e
    exact ⟨⟨h0, h1⟩, h.2⟩
  | n :: ns, p :: ps, i + 1, m, v, h, e, h0, h1 => ⟨h.1, inBox_set h.2 (by simpa using e) h0 h1⟩
theorem inBox_zero : ∀ {ns : List Nat}, (∀ n ∈ ns, 1 ≤ n) → InBox ns (List.replicate ns.length 0)
  | [], _ => True.intro
  | n :: ns, h => ⟨⟨Int.le_refl _, by have := h n List.mem_cons_self; omega⟩, inBox_zero fun m hm => h m (List.mem_cons_of_mem _ hm)⟩
theorem mem_jsteps {bank : List (List Nat)} {p : Pl} {x : Nat} {e : JS} (h : e ∈ jsteps bank x p) : ∃ i w t, bank[i]? = some w ∧ t ∈ turnsTo w (p.getD i 0) [x] ∧ e = (((i : Int), t), p.set i ((p.getD i 0 + t) % (w.length : Int)), absI t) := by
  obtain ⟨z, hz, he⟩ := List.mem_flatMap.mp h
  obtain ⟨i, hi⟩ := List.mem_iff_getElem?.mp hz
  obtain ⟨t, ht, rfl⟩ := List.mem_map.mp he
  have hz2 := hi
  rw [List.getElem?_zipIdx] at hz2
  obtain ⟨w, hw, rfl⟩ := Option.map_eq_some_iff.mp hz2
  refine ⟨i, w, t, hw, ?_, ?_⟩
  · simpa using ht
  · simp
theorem jstep_in {bank : List (List Nat)} {p : Pl} {x : Nat} {e : JS} (hw : ∀ w ∈ bank, 1 ≤ w.length) (hp : InBox (lens bank) p) (h : e ∈ jsteps bank x p) : InBox (lens bank) e.2.1 := by
  obtain ⟨i, w, t, hi, ht, rfl⟩ := mem_jsteps h
  have hw1 := hw w (List.mem_of_getElem? hi)
  obtain ⟨b0, b1⟩ := emod_bd (z := p.getD i 0 + t) (m := (w.length : Int)) (by omega)
  exact inBox_set hp (n := w.length) (by unfold lens; rw [List.getElem?_map, hi]; rfl) b0 b1
def zeros (bank : List (List Nat)) : Pl := List.replicate bank.length 0
def jrow (bank : List (List Nat)) (word : List Nat) : List Pl := rowG (jsteps bank) (zeros bank) word
theorem jrow_in {bank : List (List Nat)} (h : BankOk bank) (word : List Nat) : ∀ p ∈ jrow bank word, InBox (lens bank) p :=
  rowG_all (by
    have := inBox_zero (ns := lens bank) fun n hn => by obtain ⟨l, hl, rfl⟩ := List.mem_map.mp hn; exact (h.w l hl).1
    unfold lens at this ⊢
    rw [List.length_map] at this
    exact this) (fun x b hb e he => jstep_in (fun w hw => (h.w w hw).1) hb he) word
theorem jnodup_len {bank : List (List Nat)} (h : BankOk bank) {R : List Pl} (nd : R.Nodup) (hR : ∀ p ∈ R, InBox (lens bank) p) : R.length ≤ 400 :=
  Nat.le_trans (nodup_len R (box (lens bank)) nd fun p hp => mem_box (hR p hp)) (Nat.le_trans (box_len _) h.p)
theorem jsteps_len {bank : List (List Nat)} (h : BankOk bank) (x : Nat) (p : Pl) : (jsteps bank x p).length ≤ 1000 := by
  have h1 := flat_len (f := fun e : List Nat × Nat => jone e.1 e.2 p [x]) (b := 60) bank.zipIdx fun e he => by
    have h1 := h.w e.1 (zip_mem he)
    have h2 := jone_len e.1 e.2 p [x]
    omega
  rw [List.length_zipIdx] at h1
  have h3 := Nat.mul_le_mul_right 60 h.n3
  unfold jsteps
  omega
theorem jsteps_ne {bank : List (List Nat)} {x : Nat} (p : Pl) (h : x ∈ bank.flatten) : jsteps bank x p ≠ [] := by
  obtain ⟨w, hw, hx⟩ := List.mem_flatten.mp h
  obtain ⟨i, hi⟩ := List.mem_iff_getElem?.mp hw
  obtain ⟨t, ht⟩ := List.exists_mem_of_ne_nil _ (turnsTo_ne (p.getD i 0) hx)
  have hz : (w, i) ∈ bank.zipIdx := List.mem_iff_getElem?.mpr ⟨i, by rw [List.getElem?_zipIdx, hi]; simp⟩
  exact List.ne_nil_of_mem (List.mem_flatMap.mpr ⟨(w, i), hz, List.mem_map.mpr ⟨t, ht, rfl⟩⟩)
def encJR (R : List Pl) : D := .dT (dicG encPl (fun _ => .bl true) R)
def jrows (bank : List (List Nat)) (word : List Nat) (n : Nat) : List (List Pl) := (List.range n).map fun k => jrow bank (word.take k)
theorem jrows_succ (bank : List (List Nat)) (word : List Nat) (n : Nat) : jrows bank word (n + 1) = jrows bank word n ++ [jrow bank (word.take n)] := by unfold jrows; rw [List.range_succ, List.map_append]; rfl
theorem jrows_at {bank : List (List Nat)} {word : List Nat} {n k : Nat} (h : k < n) : ((jrows bank word n).map encJR)[k]? = some (encJR (jrow bank (word.take k))) := by
  unfold jrows
  rw [List.getElem?_map, List.getElem?_map, List.getElem?_range h]
  rfl
theorem jrows_len (bank : List (List Nat)) (word : List Nat) (n : Nat) : ((jrows bank word n).map encJR).length = n := by unfold jrows; simp
theorem rep_zero (bank : List (List Nat)) : D.tup (List.replicate (((bank.map D.str).length : Nat) : Int).toNat (.int 0)) = .tup ((encPl (zeros bank)).map dKey) := by
  rw [← tup_pl, List.length_map, Int.toNat_natCast]
  unfold zeros
  rw [List.map_replicate]
theorem goTo_snoc {bank : List (List Nat)} {x : Nat} {R : List Pl} {k : Nat} {a : Pl} (h : R[k]? = some a) : goTo (jsteps bank) x (R.take (k + 1)) = goTo (jsteps bank) x (R.take k) ++ (jsteps bank x a).map (·.2.1) := by
  unfold goTo
  rw [take_snoc h, List.flatMap_append]
  simp
end Sw
local macro_rules | `(tactic| walk_at "go1") => `(tactic| first
  | with_reducible refine Sw.h_seqasg ?_
  | with_reducible refine Sw.h_op ?_
  | with_reducible refine Sw.h_varS rfl ?_
  | with_reducible refine Sw.h_varO rfl ?_
  | with_reducible refine Sw.h_c ?_
  | with_reducible refine Sw.h_I0 ?_
  | with_reducible refine Sw.h_cons ?_
  | with_reducible refine Sw.h_consT rfl ?_
  | with_reducible refine Sw.h_consC rfl ?_
  | with_reducible refine Sw.h_nil ?_
  | with_reducible refine Sw.h_call ?_
  | with_reducible refine Sw.h_un ?_
  | with_reducible refine Sw.h_test ?_
  | with_reducible refine Sw.h_bl ?_
  | with_reducible refine Sw.h_seqdrop ?_
  | with_reducible refine Sw.h_asS ?_
  | with_reducible refine Sw.h_asO ?_
  | with_reducible refine Sw.h_ne1 ?_
  | with_reducible refine Sw.h_ne2 ?_
  | with_reducible refine Sw.h_asg ?_
  | with_reducible refine Sw.h_drop ?_
  | with_reducible refine Sw.h_ret ?_
  | with_reducible refine Sw.h_retS rfl ?_
  | with_reducible refine Sw.h_retO rfl ?_
  | with_reducible refine Sw.h_retN ?_
  | with_reducible refine Sw.h_next ?_
  | with_reducible refine Sw.h_if ?_
  | with_reducible refine Sw.h_frzO rfl ?_
  | with_reducible refine Sw.h_frzS rfl ?_
  | with_reducible refine Sw.h_and ?_
  | with_reducible refine Sw.h_or ?_
  | with_reducible refine Sw.h_not ?_
  | with_reducible refine Sw.h_yes ?_
  | with_reducible refine Sw.h_andV ?_
  | with_reducible refine Sw.h_orV ?_
  | with_reducible refine Sw.h_notV ?_
  | with_reducible refine Sw.h_ifE ?_
  | with_reducible refine Sw.h_chain ?_
  | with_reducible refine Sw.h_lenC rfl ?_
  | with_reducible refine Sw.h_tup ?_
  | with_reducible refine Sw.h_lst ?_
  | with_reducible refine Sw.h_shs0 ?_
  | with_reducible refine Sw.h_shs1 ?_
  | with_reducible refine Sw.h_shs2 ?_
  | with_reducible refine Sw.h_shs3 ?_
  | with_reducible refine Sw.h_shs4 ?_
  | with_reducible refine Sw.h_sl ?_
  | with_reducible refine Sw.h_nopart ?_
  | with_reducible refine Sw.h_part ?_
  | with_reducible refine Sw.h_int ?_
  | with_reducible refine Sw.h_neg ?_
  | with_reducible refine Sw.h_S ?_
  | with_reducible refine Sw.h_inSign ?_
  | with_reducible refine Sw.h_notInSign ?_
  | with_reducible refine Sw.h_isN ?_
  | with_reducible refine Sw.h_notN ?_
  | with_reducible refine Sw.h_eq rfl ?_
  | with_reducible refine Sw.h_ne rfl ?_
  | with_reducible refine Sw.h_lenL ?_
  | with_reducible refine Sw.h_lenT ?_
  | with_reducible refine Sw.h_abs ?_
  | with_reducible refine Sw.h_max2 ?_
  | with_reducible refine Sw.h_min2 ?_
  | with_reducible refine Sw.h_int1b ?_
  | with_reducible refine Sw.h_sum ?_
  | with_reducible refine Sw.h_listOf ?_
  | with_reducible refine Sw.h_slL ?_
  | with_reducible refine Sw.h_slT ?_
  | with_reducible refine Sw.h_revL ?_
  | with_reducible refine Sw.h_newK ?_
  | with_reducible refine Sw.h_newT ?_
  | with_reducible refine Sw.h_seqfor ?_
  | with_reducible refine Sw.h_seqforD ?_
  | with_reducible refine Sw.h_dispT ?_
  | with_reducible refine Sw.h_LM ?_
  | with_reducible refine Sw.h_for ?_
  | with_reducible refine Sw.h_iList ?_
  | with_reducible refine Sw.h_iTup ?_
  | with_reducible refine Sw.h_iStr ?_
  | with_reducible refine Sw.h_iR1 ?_
  | with_reducible refine Sw.h_iR2 ?_
  | with_reducible refine Sw.h_iR3 ?_
  | with_reducible refine Sw.h_iEnum ?_
  | with_reducible refine Sw.h_iZip ?_
  | with_reducible refine Sw.h_iZipS ?_
  | with_reducible refine Sw.h_lst1 ?_
  | with_reducible refine Sw.h_tup1 ?_
  | with_reducible refine Sw.h_str1 ?_
  | with_reducible refine Sw.h_lc ?_
  | with_reducible refine Sw.h_gN ?_
  | with_reducible refine Sw.h_gT rfl ?_
  | with_reducible refine Sw.h_gC ?_
  | with_reducible refine Sw.h_gE ?_
  | with_reducible refine Sw.h_asgG ?_
  | with_reducible refine Sw.h_forD ?_
  | with_reducible refine Sw.h_raise ?_
  | with_reducible refine Sw.h_seqasgG ?_
  | with_reducible refine Sw.h_seqfrzO rfl ?_
  | with_reducible refine Sw.h_seqfrzS rfl ?_
  | with_reducible refine Sw.h_isi rfl rfl ?_
  | with_reducible refine Sw.h_ixT rfl ?_
  | with_reducible refine Sw.h_seq1 ?_
  | with_reducible refine L2.iteT ?_ | with_reducible refine L2.iteF ?_ | with_reducible refine Sw.iteNT ?_ | with_reducible refine Sw.iteNF ?_ | refine Sw.h_np rfl ?_)
local macro_rules | `(tactic| walk_at "go") => `(tactic| repeat walk_at "go1")
local macro_rules | `(tactic| walk_at "sz") => `(tactic| first
  | omega
  | decide
  | (simp only [List.length_append, List.length_map, List.length_cons, List.length_nil, List.length_take, List.length_drop, List.length_reverse, List.length_set, List.length_replicate, List.length_range]; omega)
  | (refine Nat.le_trans (Sw.cut_len _ _ _) ?_; omega))
local macro_rules | `(tactic| walk_at "gx1") => `(tactic| first
  | walk_at "go1"
  | refine Sw.c_draw (by omega) (by omega) (fun _ _ _ => ?_)
  | refine Sw.c_letters (by omega) (by omega) (by omega) (by omega) (fun _ _ _ => ?_)
  | refine Sw.c_wheel (by omega) (by omega) (fun _ _ _ _ => ?_)
  | refine Sw.c_word (by walk_at "sz") (by walk_at "sz") (by omega) (by omega) (fun _ _ _ => ?_)
  | refine Sw.c_bent (by walk_at "sz") (by assumption) (fun _ _ _ => ?_)
  | refine Sw.c_lis_word (by walk_at "sz") (by assumption) ?_
  | refine Sw.h_sc rfl ?_
  | refine Sw.h_lenS (by walk_at "sz") ?_
  | refine Sw.h_slS (by walk_at "sz") ?_
  | refine Sw.h_addS (by walk_at "sz") ?_
  | refine Sw.h_I (by omega) ?_
  | refine Sw.h_I (Sw.cm (by omega) (by omega) (by omega) (by omega)) ?_
  | refine Sw.h_I (Sw.cd (by omega) (by omega)) ?_
  | refine Sw.h_I ⟨by decide, by decide, by decide⟩ ?_
  | refine Sw.h_gT rfl ?_
  | refine Sw.h_ixT rfl ?_
  | refine Sw.h_ixL rfl ?_
  | refine Sw.h_appE rfl ?_
  | refine Sw.h_appK rfl (by decide) (by walk_at "sz") ?_
  | refine Sw.h_setLE rfl ?_
  | refine Sw.h_putTE rfl ?_
  | refine Sw.h_putKE rfl ?_
  | refine Sw.h_tupOf ?_
  | refine Sw.h_listOfT ?_
  | refine Sw.h_orS ?_
  | refine And.intro (by omega) (And.intro (by omega) ?_))
local macro_rules | `(tactic| walk_at "gx") => `(tactic| repeat walk_at "gx1")
namespace Sw
open PySem PySem.Spec PyProof.Rows L2 SX
/-! ### costs by other stands -/
theorem minL_mono {α β : Type} {l : List α} {m : List β} {f : α → Int} {g : β → Int} (hm : m ≠ []) (h : ∀ b ∈ m, ∃ a ∈ l, f a ≤ g b) : minL (l.map f) ≤ minL (m.map g) := by
  obtain ⟨b, hb, e⟩ := List.mem_map.mp (minL_mem (l := m.map g) fun z => hm (List.map_eq_nil_iff.mp z))
  obtain ⟨a, ha, hle⟩ := h b hb
  have := minL_le (List.mem_map.mpr ⟨a, ha, rfl⟩ : f a ∈ l.map f)
  omega
theorem gc_sim {σ τ β γ : Type} {s1 : Nat → σ → List (β × σ × Int)} {s2 : Nat → τ → List (γ × τ × Int)} {R : σ → τ → Prop} {S : Nat → Prop}
    (hne : ∀ x b, S x → s2 x b ≠ []) (h : ∀ x a b, R a b → ∀ e ∈ s2 x b, ∃ e' ∈ s1 x a, e'.2.2 ≤ e.2.2 ∧ R e'.2.1 e.2.1) : ∀ (w : List Nat) (a : σ) (b : τ), (∀ x ∈ w, S x) → R a b → gc s1 w a ≤ gc s2 w b
  | [], _, _, _, _ => Int.le_refl _
  | x :: w, a, b, hS, hR => by
    refine minL_mono (hne x b (hS x List.mem_cons_self)) fun e he => ?_
    obtain ⟨e', he', hc, hR'⟩ := h x a b hR e he
    refine ⟨e', he', ?_⟩
    have := gc_sim hne h w e'.2.1 e.2.1 (fun y hy => hS y (List.mem_cons_of_mem _ hy)) hR'
    omega
theorem minL_perm {l m : List Int} (h : l.Perm m) : minL l = minL m := by
  cases l with
  | nil => rw [List.nil_perm.mp h]
  | cons a l =>
    refine minL_uniq (h.mem_iff.mp (minL_mem (fun z => nomatch z))) fun y hy => minL_le (h.mem_iff.mpr hy)
theorem sum_perm {l m : List Int} (h : l.Perm m) : l.sum = m.sum := by
  induction h with
  | nil => rfl
  | cons a _ ih => rw [List.sum_cons, List.sum_cons, ih]
  | swap a b l => rw [List.sum_cons, List.sum_cons, List.sum_cons, List.sum_cons]; omega
  | trans _ _ ih1 ih2 => exact ih1.trans ih2
theorem map_erase {α β : Type} (f : α → β) : ∀ (l : List α) (k : Nat), (l.map f).eraseIdx k = (l.eraseIdx k).map f
  | [], _ => rfl
  | _ :: _, 0 => rfl
  | a :: l, k + 1 => congrArg (f a :: ·) (map_erase f l k)
theorem gcn_iso {σ τ β γ : Type} {s1 : Nat → σ → List (β × σ × Int)} {s2 : Nat → τ → List (γ × τ × Int)} {P : τ → Prop} {f : τ → σ}
    (hP : ∀ x b, P b → ∀ e ∈ s2 x b, P e.2.1) (h : ∀ x b, P b → ((s1 x (f b)).map fun e => (e.2.1, e.2.2)).Perm ((s2 x b).map fun e => (f e.2.1, e.2.2))) : ∀ (w : List Nat) (b : τ), P b → gc s1 w (f b) = gc s2 w b ∧ gn s1 w (f b) = gn s2 w b
  | [], _, _ => ⟨rfl, rfl⟩
  | x :: w, b, hb => by
    have ih := gcn_iso hP h w
    have e1 : (s1 x (f b)).map (fun e => gc s1 w e.2.1 + e.2.2) = ((s1 x (f b)).map fun e => (e.2.1, e.2.2)).map fun p => gc s1 w p.1 + p.2 := by rw [List.map_map]; rfl
    have e2 : ((s2 x b).map fun e => (f e.2.1, e.2.2)).map (fun p => gc s1 w p.1 + p.2) = (s2 x b).map fun e => gc s2 w e.2.1 + e.2.2 := by
      rw [List.map_map]
      refine List.map_congr_left fun e he => ?_
      show gc s1 w (f e.2.1) + e.2.2 = _
      rw [(ih e.2.1 (hP x b hb e he)).1]
    have hc : gc s1 (x :: w) (f b) = gc s2 (x :: w) b := by
      show minL _ = minL _
      rw [e1, ← e2]
      exact minL_perm ((h x b hb).map _)
    refine ⟨hc, ?_⟩
    show (((s1 x (f b)).filter fun e => decide (gc s1 w e.2.1 + e.2.2 = gc s1 (x :: w) (f b))).map fun e => gn s1 w e.2.1).sum = (((s2 x b).filter fun e => decide (gc s2 w e.2.1 + e.2.2 = gc s2 (x :: w) b)).map fun e => gn s2 w e.2.1).sum
    have k1 : ((s1 x (f b)).filter fun e => decide (gc s1 w e.2.1 + e.2.2 = gc s1 (x :: w) (f b))).map (fun e => gn s1 w e.2.1) = ((((s1 x (f b)).map fun e => (e.2.1, e.2.2)).filter fun p => decide (gc s1 w p.1 + p.2 = gc s2 (x :: w) b)).map fun p => gn s1 w p.1) := by
      rw [List.filter_map, List.map_map, hc]
      rfl
    have k2 : ((((s2 x b).map fun e => (f e.2.1, e.2.2)).filter fun p => decide (gc s1 w p.1 + p.2 = gc s2 (x :: w) b)).map fun p => gn s1 w p.1) = ((s2 x b).filter fun e => decide (gc s2 w e.2.1 + e.2.2 = gc s2 (x :: w) b)).map fun e => gn s2 w e.2.1 := by
      rw [List.filter_map, List.map_map]
      have k3 : (s2 x b).filter ((fun p => decide (gc s1 w p.1 + p.2 = gc s2 (x :: w) b)) ∘ fun e => (f e.2.1, e.2.2)) = (s2 x b).filter fun e => decide (gc s2 w e.2.1 + e.2.2 = gc s2 (x :: w) b) := by
        refine List.filter_congr fun e he => ?_
        show decide (gc s1 w (f e.2.1) + e.2.2 = _) = _
        rw [(ih e.2.1 (hP x b hb e he)).1]
      rw [k3]
      refine List.map_congr_left fun e he => ?_
      exact (ih e.2.1 (hP x b hb e (List.mem_filter.mp he).1)).2
    rw [k1, ← k2]
    exact sum_perm (((h x b hb).filter _).map _)
theorem gc_nonneg {σ β : Type} {st : Nat → σ → List (β × σ × Int)} (h : ∀ x a, ∀ e ∈ st x a, 0 ≤ e.2.2) : ∀ (w : List Nat) (a : σ), 0 ≤ gc st w a
  | [], _ => Int.le_refl _
  | x :: w, a => by
    show 0 ≤ minL _
    by_cases z : st x a = []
    · rw [z]; exact Int.le_refl _
    · obtain ⟨e, he, ee⟩ := List.mem_map.mp (minL_mem (l := (st x a).map fun e => gc st w e.2.1 + e.2.2) fun y => z (List.map_eq_nil_iff.mp y))
      rw [← ee]
      have h1 := h x a e he
      have h2 := gc_nonneg h w e.2.1
      omega
theorem gc_take {σ β : Type} {st : Nat → σ → List (β × σ × Int)} (h : ∀ x a, ∀ e ∈ st x a, 0 ≤ e.2.2) : ∀ (w : List Nat) (j : Nat) (a : σ), gc st (w.take j) a ≤ gc st w a
  | [], j, a => by rw [List.take_nil]; exact Int.le_refl _
  | x :: w, 0, a => gc_nonneg h (x :: w) a
  | x :: w, j + 1, a => by
    show minL _ ≤ minL _
    by_cases z : st x a = []
    · rw [z]; exact Int.le_refl _
    · refine minL_mono z fun e he => ⟨e, he, ?_⟩
      have := gc_take h w j e.2.1
      omega
/-! ### banks -/
theorem jstep_cost {bank : List (List Nat)} {x : Nat} {p : Pl} : ∀ e ∈ jsteps bank x p, 0 ≤ e.2.2 := fun e he => by
  obtain ⟨i, w, t, _, _, rfl⟩ := mem_jsteps he
  show 0 ≤ absI t
  unfold absI
  split <;> omega
theorem jsteps_mem {bank : List (List Nat)} {p : Pl} {x i : Nat} {w : List Nat} {t : Int} (hi : bank[i]? = some w) (ht : t ∈ turnsTo w (p.getD i 0) [x]) : (((i : Int), t), p.set i ((p.getD i 0 + t) % (w.length : Int)), absI t) ∈ jsteps bank x p := by
  have hz : (w, i) ∈ bank.zipIdx := List.mem_iff_getElem?.mpr ⟨i, by rw [List.getElem?_zipIdx, hi]; simp⟩
  exact List.mem_flatMap.mpr ⟨(w, i), hz, List.mem_map.mpr ⟨t, ht, rfl⟩⟩
theorem rc_gc (w : List Nat) (s : Int) : ∀ (word : List Nat) (st : Std), rc w s word st = gc (fun x a => stepsFrom w a [x] s) word st ∧ rn w s word st = gn (fun x a => stepsFrom w a [x] s) word st
  | [], _ => ⟨rfl, rfl⟩
  | x :: word, st => by
    have h1 : rc w s (x :: word) st = gc (fun x a => stepsFrom w a [x] s) (x :: word) st := by
      show minL _ = minL _
      refine congrArg minL (List.map_congr_left fun e _ => ?_)
      rw [(rc_gc w s word e.2.1).1]
    refine ⟨h1, ?_⟩
    show (((stepsFrom w st [x] s).filter fun e => decide (rc w s word e.2.1 + e.2.2 = rc w s (x :: word) st)).map fun e => rn w s word e.2.1).sum = (((stepsFrom w st [x] s).filter fun e => decide (gc (fun x a => stepsFrom w a [x] s) word e.2.1 + e.2.2 = gc (fun x a => stepsFrom w a [x] s) (x :: word) st)).map fun e => gn (fun x a => stepsFrom w a [x] s) word e.2.1).sum
    rw [h1]
    have k3 : (stepsFrom w st [x] s).filter (fun e => decide (rc w s word e.2.1 + e.2.2 = gc (fun x a => stepsFrom w a [x] s) (x :: word) st)) = (stepsFrom w st [x] s).filter fun e => decide (gc (fun x a => stepsFrom w a [x] s) word e.2.1 + e.2.2 = gc (fun x a => stepsFrom w a [x] s) (x :: word) st) := by
      refine List.filter_congr fun e _ => ?_
      rw [(rc_gc w s word e.2.1).1]
    rw [k3]
    refine congrArg List.sum (List.map_congr_left fun e _ => ?_)
    exact (rc_gc w s word e.2.1).2
theorem cost0 (t way : Int) : stepCost t way 0 = absI t := by
  unfold stepCost
  split
  · exact Int.add_zero _
  · rfl
/-- one wheel alone -/
theorem joint_one (w word : List Nat) : gc (jsteps [w]) word (zeros [w]) = rc w 0 word (0, 0) ∧ gn (jsteps [w]) word (zeros [w]) = rn w 0 word (0, 0) := by
  obtain ⟨h1, h2⟩ := rc_gc w 0 word (0, 0)
  rw [h1, h2]
  refine gcn_iso (s2 := fun x a => stepsFrom w a [x] 0) (P := fun _ => True) (f := fun st => [st.1]) (fun _ _ _ _ _ => True.intro) (fun x b _ => ?_) word (0, 0) True.intro
  refine List.Perm.of_eq ?_
  unfold jsteps stepsFrom
  rw [List.map_map]
  show (List.map _ (jone w 0 [b.1] [x] ++ [])) = _
  rw [List.append_nil]
  unfold jone
  rw [List.map_map]
  refine List.map_congr_left fun t _ => ?_
  show (([(b.1 + t) % (w.length : Int)] : Pl), absI t) = ([(stepTo w b t).1], stepCost t b.2 0)
  rw [cost0]
  rfl
/-- a bank costs no more than one of its wheels that has all signs -/
theorem joint_le_one {bank : List (List Nat)} {k : Nat} {w word : List Nat} (hk : bank[k]? = some w) (hall : ∀ c ∈ word, c ∈ w) : gc (jsteps bank) word (zeros bank) ≤ rc w 0 word (0, 0) := by
  rw [(rc_gc w 0 word (0, 0)).1]
  have hkl : k < bank.length := (List.getElem?_eq_some_iff.mp hk).1
  refine gc_sim (R := fun a b => a.length = bank.length ∧ a.getD k 0 = b.1) (S := fun x => x ∈ w) (fun x b h => stepsFrom_ne b 0 h) (fun x a b hR e he => ?_) word _ _ hall ⟨by unfold zeros; rw [List.length_replicate], by unfold zeros; simp [List.getD, hkl]⟩
  obtain ⟨h1, h2, h3⟩ := mem_steps.mp he
  rw [← hR.2] at h1
  refine ⟨_, jsteps_mem hk h1, by rw [h3, cost0]; exact Int.le_refl _, by rw [List.length_set]; exact hR.1, ?_⟩
  rw [h2]
  show (a.set k _).getD k 0 = (b.1 + e.1) % _
  rw [List.getD, List.getElem?_set_self (by rw [hR.1]; exact hkl), hR.2]
  rfl
/-- nor than without one of its wheels -/
theorem joint_le_rest {bank : List (List Nat)} {k : Nat} {word : List Nat} (hk : k < bank.length) (hall : ∀ c ∈ word, c ∈ (bank.eraseIdx k).flatten) : gc (jsteps bank) word (zeros bank) ≤ gc (jsteps (bank.eraseIdx k)) word (zeros (bank.eraseIdx k)) := by
  have hlen : (bank.eraseIdx k).length = bank.length - 1 := by rw [List.length_eraseIdx_of_lt hk]
  refine gc_sim (R := fun a b => a.length = bank.length ∧ a.eraseIdx k = b) (S := fun x => x ∈ (bank.eraseIdx k).flatten) (fun x b h => jsteps_ne b h) (fun x a b hR e he => ?_) word _ _ hall ⟨by unfold zeros; rw [List.length_replicate], ?_⟩
  · obtain ⟨hl, rfl⟩ := hR
    obtain ⟨i, w, t, hi, ht, rfl⟩ := mem_jsteps he
    have hil : i < (bank.eraseIdx k).length := (List.getElem?_eq_some_iff.mp hi).1
    rw [List.getElem?_eraseIdx] at hi
    have hg : ∀ j : Nat, (a.eraseIdx k).getD j 0 = if j < k then a.getD j 0 else a.getD (j + 1) 0 := fun j => by
      rw [List.getD, List.getElem?_eraseIdx]
      split <;> rfl
    by_cases h : i < k
    · rw [if_pos h] at hi
      rw [hg, if_pos h] at ht
      refine ⟨_, jsteps_mem hi ht, Int.le_refl _, by rw [List.length_set]; exact hl, ?_⟩
      show (a.set i _).eraseIdx k = (a.eraseIdx k).set i ((((a.eraseIdx k).getD i 0) + t) % _)
      rw [hg, if_pos h, List.eraseIdx_set_gt h]
    · rw [if_neg h] at hi
      rw [hg, if_neg h] at ht
      refine ⟨_, jsteps_mem hi ht, Int.le_refl _, by rw [List.length_set]; exact hl, ?_⟩
      show (a.set (i + 1) _).eraseIdx k = (a.eraseIdx k).set i ((((a.eraseIdx k).getD i 0) + t) % _)
      rw [hg, if_neg h, List.eraseIdx_set_lt (by omega)]
      rfl
  · unfold zeros
    apply List.ext_getElem?
    intro i
    rw [List.getElem?_eraseIdx, List.getElem?_replicate, List.getElem?_replicate, List.getElem?_replicate, hlen]
    split <;> (repeat' split) <;> first | rfl | omega
def J (bank : List (List Nat)) (word : List Nat) : Int × Int := (gc (jsteps bank) word (zeros bank), gn (jsteps bank) word (zeros bank))
theorem jsteps2 (a b : List Nat) (x : Nat) (p q : Int) : (jsteps [a, b] x [p, q]).map (fun e => (e.2.1, e.2.2)) = (turnsTo a p [x]).map (fun t => ([(p + t) % (a.length : Int), q], absI t)) ++ (turnsTo b q [x]).map (fun t => ([p, (q + t) % (b.length : Int)], absI t)) := by
  unfold jsteps
  show List.map _ (jone a 0 [p, q] [x] ++ (jone b 1 [p, q] [x] ++ [])) = _
  rw [List.append_nil, List.map_append]
  unfold jone
  rw [List.map_map, List.map_map]
  rfl
theorem jsteps3 (a b c : List Nat) (x : Nat) (p q r : Int) : (jsteps [a, b, c] x [p, q, r]).map (fun e => (e.2.1, e.2.2)) = (turnsTo a p [x]).map (fun t => ([(p + t) % (a.length : Int), q, r], absI t)) ++ ((turnsTo b q [x]).map (fun t => ([p, (q + t) % (b.length : Int), r], absI t)) ++ (turnsTo c r [x]).map (fun t => ([p, q, (r + t) % (c.length : Int)], absI t))) := by
  unfold jsteps
  show List.map _ (jone a 0 [p, q, r] [x] ++ (jone b 1 [p, q, r] [x] ++ (jone c 2 [p, q, r] [x] ++ []))) = _
  rw [List.append_nil, List.map_append, List.map_append]
  unfold jone
  rw [List.map_map, List.map_map, List.map_map]
  rfl
def sw2 : Pl → Pl
  | [p, q] => [q, p]
  | l => l
def ro3 : Pl → Pl
  | [p, q, r] => [q, r, p]
  | l => l
def re3 : Pl → Pl
  | [p, q, r] => [r, q, p]
  | l => l
theorem jlen {bank : List (List Nat)} {n : Nat} (x : Nat) (b : Pl) (h : b.length = n) : ∀ e ∈ jsteps bank x b, e.2.1.length = n := fun e he => by
  obtain ⟨i, w, t, _, _, rfl⟩ := mem_jsteps he
  rw [List.length_set]; exact h
theorem J_sw2 (a b word : List Nat) : J [b, a] word = J [a, b] word := by
  have h := gcn_iso (s1 := jsteps [b, a]) (s2 := jsteps [a, b]) (P := fun l => l.length = 2) (f := sw2) (fun x l hl => jlen x l hl) (fun x l hl => ?_) word [0, 0] rfl
  · exact Prod.ext h.1 h.2
  · match l, hl with
    | [p, q], _ =>
      show ((jsteps [b, a] x [q, p]).map fun e => (e.2.1, e.2.2)).Perm ((jsteps [a, b] x [p, q]).map ((fun y : Pl × Int => (sw2 y.1, y.2)) ∘ fun e => (e.2.1, e.2.2)))
      rw [← List.map_map, jsteps2, jsteps2, List.map_append, List.map_map, List.map_map]
      exact List.perm_append_comm
theorem J_ro3 (a b c word : List Nat) : J [b, c, a] word = J [a, b, c] word := by
  have h := gcn_iso (s1 := jsteps [b, c, a]) (s2 := jsteps [a, b, c]) (P := fun l => l.length = 3) (f := ro3) (fun x l hl => jlen x l hl) (fun x l hl => ?_) word [0, 0, 0] rfl
  · exact Prod.ext h.1 h.2
  · match l, hl with
    | [p, q, r], _ =>
      show ((jsteps [b, c, a] x [q, r, p]).map fun e => (e.2.1, e.2.2)).Perm ((jsteps [a, b, c] x [p, q, r]).map ((fun y : Pl × Int => (ro3 y.1, y.2)) ∘ fun e => (e.2.1, e.2.2)))
      rw [← List.map_map, jsteps3, jsteps3, List.map_append, List.map_append, List.map_map, List.map_map, List.map_map, ← List.append_assoc]
      exact List.perm_append_comm
theorem J_re3 (a b c word : List Nat) : J [c, b, a] word = J [a, b, c] word := by
  have h := gcn_iso (s1 := jsteps [c, b, a]) (s2 := jsteps [a, b, c]) (P := fun l => l.length = 3) (f := re3) (fun x l hl => jlen x l hl) (fun x l hl => ?_) word [0, 0, 0] rfl
  · exact Prod.ext h.1 h.2
  · match l, hl with
    | [p, q, r], _ =>
      show ((jsteps [c, b, a] x [r, q, p]).map fun e => (e.2.1, e.2.2)).Perm ((jsteps [a, b, c] x [p, q, r]).map ((fun y : Pl × Int => (re3 y.1, y.2)) ∘ fun e => (e.2.1, e.2.2)))
      rw [← List.map_map, jsteps3, jsteps3, List.map_append, List.map_append, List.map_map, List.map_map, List.map_map]
      refine List.perm_append_comm.trans ?_
      rw [List.append_assoc]
      exact List.perm_append_comm.trans (by rw [List.append_assoc]; exact List.Perm.append_left _ List.perm_append_comm |>.trans (by exact List.Perm.refl _)) |>.trans (List.Perm.refl _)
theorem J_moved {bank : List (List Nat)} (h : bank.length ≤ 3) (k : Nat) (hk : k < bank.length) (word : List Nat) : J (bank.drop k ++ bank.take k) word = J bank word := by
  match bank, h, k, hk with
  | [a], _, 0, _ => rfl
  | [a, b], _, 0, _ => rfl
  | [a, b], _, 1, _ => exact J_sw2 a b word
  | [a, b, c], _, 0, _ => rfl
  | [a, b, c], _, 1, _ => exact J_ro3 a b c word
  | [a, b, c], _, 2, _ => exact (J_ro3 b c a word).trans (J_ro3 a b c word)
theorem J_rev {bank : List (List Nat)} (h : bank.length ≤ 3) (word : List Nat) : J bank.reverse word = J bank word := by
  match bank, h with
  | [], _ => rfl
  | [a], _ => rfl
  | [a, b], _ => exact J_sw2 a b word
  | [a, b, c], _ => exact J_re3 a b c word
/-! banks that stay banks -/
theorem prodN_perm {l m : List Nat} (h : l.Perm m) : prodN l = prodN m := by
  induction h with
  | nil => rfl
  | cons a _ ih => show a * _ = a * _; rw [ih]
  | swap a b l => show b * (a * prodN l) = a * (b * prodN l); rw [← Nat.mul_assoc, ← Nat.mul_assoc, Nat.mul_comm b a]
  | trans _ _ ih1 ih2 => exact ih1.trans ih2
theorem BankOk.perm {bank bank' : List (List Nat)} (h : BankOk bank) (p : bank'.Perm bank) : BankOk bank' :=
  ⟨fun l hl => h.w l (p.mem_iff.mp hl), by rw [p.length_eq]; exact h.n1, by rw [p.length_eq]; exact h.n3, by unfold lens; rw [prodN_perm (p.map _)]; exact h.p⟩
theorem bank_is {bank : List (List Nat)} (h : BankOk bank) : isBank bank = true := by
  unfold isBank
  rw [List.all_eq_true.mpr fun l hl => isWheel_iff.mpr (h.w l hl), decide_eq_true h.n1, decide_eq_true h.n3, decide_eq_true h.p]
  rfl
theorem due_none {bank : List (List Nat)} {word : List Nat} (h : BankOk bank) (hw : word.length ≤ 80) (low : Low word) (hin : ∀ c ∈ word, c ∈ bank.flatten) : jointDue bank word = none := by
  unfold jointDue
  rw [if_neg (by rw [bank_is h]; decide), if_neg (by rw [isWord_iff.mpr ⟨hw, low⟩]; decide), if_neg (by rw [hasAll_iff.mpr hin]; decide)]
theorem prodN_pos : ∀ {l : List Nat}, (∀ n ∈ l, 1 ≤ n) → 1 ≤ prodN l
  | [], _ => Nat.le_refl _
  | a :: l, h => by
    have h1 := h a List.mem_cons_self
    have h2 := prodN_pos (l := l) fun n hn => h n (List.mem_cons_of_mem _ hn)
    exact Nat.mul_le_mul h1 h2
theorem prodN_sub : ∀ {l : List Nat} (k : Nat), (∀ n ∈ l, 1 ≤ n) → prodN (l.eraseIdx k) ≤ prodN l
  | [], _, _ => Nat.le_refl _
  | a :: l, 0, h => by
    have h1 := h a List.mem_cons_self
    show prodN l ≤ a * prodN l
    exact Nat.le_mul_of_pos_left _ h1
  | a :: l, k + 1, h => Nat.mul_le_mul_left a (prodN_sub k fun n hn => h n (List.mem_cons_of_mem _ hn))
theorem BankOk.erase {bank : List (List Nat)} (h : BankOk bank) (k : Nat) (hk : k < bank.length) (hn : 2 ≤ bank.length) : BankOk (bank.eraseIdx k) where
  w := fun l hl => h.w l (List.mem_of_mem_eraseIdx hl)
  n1 := by rw [List.length_eraseIdx_of_lt hk]; omega
  n3 := by rw [List.length_eraseIdx_of_lt hk]; have := h.n3; omega
  p := by
    have := prodN_sub (l := lens bank) k fun n hn => by obtain ⟨l, hl, rfl⟩ := List.mem_map.mp hn; exact (h.w l hl).1
    unfold lens at this ⊢
    rw [← map_erase]
    exact Nat.le_trans this h.p
theorem BankOk.one {bank : List (List Nat)} {w : List Nat} (h : BankOk bank) (hw : w ∈ bank) : BankOk [w] :=
  ⟨fun l hl => by rw [List.mem_singleton.mp hl]; exact h.w w hw, Nat.le_refl _, Nat.le_of_ble_eq_true rfl, by have := (h.w w hw).2.1; show w.length * 1 ≤ 400; omega⟩
end Sw
local macro_rules | `(tactic| walk_at "go1") => `(tactic| first
  | with_reducible refine Sw.h_seqasg ?_
  | with_reducible refine Sw.h_op ?_
  | with_reducible refine Sw.h_varS rfl ?_
  | with_reducible refine Sw.h_varO rfl ?_
  | with_reducible refine Sw.h_c ?_
  | with_reducible refine Sw.h_I0 ?_
  | with_reducible refine Sw.h_cons ?_
  | with_reducible refine Sw.h_consT rfl ?_
  | with_reducible refine Sw.h_consC rfl ?_
  | with_reducible refine Sw.h_nil ?_
  | with_reducible refine Sw.h_call ?_
  | with_reducible refine Sw.h_un ?_
  | with_reducible refine Sw.h_test ?_
  | with_reducible refine Sw.h_bl ?_
  | with_reducible refine Sw.h_seqdrop ?_
  | with_reducible refine Sw.h_asS ?_
  | with_reducible refine Sw.h_asO ?_
  | with_reducible refine Sw.h_ne1 ?_
  | with_reducible refine Sw.h_ne2 ?_
  | with_reducible refine Sw.h_asg ?_
  | with_reducible refine Sw.h_drop ?_
  | with_reducible refine Sw.h_ret ?_
  | with_reducible refine Sw.h_retS rfl ?_
  | with_reducible refine Sw.h_retO rfl ?_
  | with_reducible refine Sw.h_retN ?_
  | with_reducible refine Sw.h_next ?_
  | with_reducible refine Sw.h_if ?_
  | with_reducible refine Sw.h_frzO rfl ?_
  | with_reducible refine Sw.h_frzS rfl ?_
  | with_reducible refine Sw.h_and ?_
  | with_reducible refine Sw.h_or ?_
  | with_reducible refine Sw.h_not ?_
  | with_reducible refine Sw.h_yes ?_
  | with_reducible refine Sw.h_andV ?_
  | with_reducible refine Sw.h_orV ?_
  | with_reducible refine Sw.h_notV ?_
  | with_reducible refine Sw.h_ifE ?_
  | with_reducible refine Sw.h_chain ?_
  | with_reducible refine Sw.h_lenC rfl ?_
  | with_reducible refine Sw.h_tup ?_
  | with_reducible refine Sw.h_lst ?_
  | with_reducible refine Sw.h_shs0 ?_
  | with_reducible refine Sw.h_shs1 ?_
  | with_reducible refine Sw.h_shs2 ?_
  | with_reducible refine Sw.h_shs3 ?_
  | with_reducible refine Sw.h_shs4 ?_
  | with_reducible refine Sw.h_sl ?_
  | with_reducible refine Sw.h_nopart ?_
  | with_reducible refine Sw.h_part ?_
  | with_reducible refine Sw.h_int ?_
  | with_reducible refine Sw.h_neg ?_
  | with_reducible refine Sw.h_S ?_
  | with_reducible refine Sw.h_inSign ?_
  | with_reducible refine Sw.h_notInSign ?_
  | with_reducible refine Sw.h_isN ?_
  | with_reducible refine Sw.h_notN ?_
  | with_reducible refine Sw.h_eq rfl ?_
  | with_reducible refine Sw.h_ne rfl ?_
  | with_reducible refine Sw.h_lenL ?_
  | with_reducible refine Sw.h_lenT ?_
  | with_reducible refine Sw.h_abs ?_
  | with_reducible refine Sw.h_max2 ?_
  | with_reducible refine Sw.h_min2 ?_
  | with_reducible refine Sw.h_int1b ?_
  | with_reducible refine Sw.h_sum ?_
  | with_reducible refine Sw.h_listOf ?_
  | with_reducible refine Sw.h_slL ?_
  | with_reducible refine Sw.h_slT ?_
  | with_reducible refine Sw.h_revL ?_
  | with_reducible refine Sw.h_newK ?_
  | with_reducible refine Sw.h_newT ?_
  | with_reducible refine Sw.h_seqfor ?_
  | with_reducible refine Sw.h_seqforD ?_
  | with_reducible refine Sw.h_dispT ?_
  | with_reducible refine Sw.h_LM ?_
  | with_reducible refine Sw.h_for ?_
  | with_reducible refine Sw.h_iList ?_
  | with_reducible refine Sw.h_iTup ?_
  | with_reducible refine Sw.h_iStr ?_
  | with_reducible refine Sw.h_iR1 ?_
  | with_reducible refine Sw.h_iR2 ?_
  | with_reducible refine Sw.h_iR3 ?_
  | with_reducible refine Sw.h_iEnum ?_
  | with_reducible refine Sw.h_iZip ?_
  | with_reducible refine Sw.h_iZipS ?_
  | with_reducible refine Sw.h_lst1 ?_
  | with_reducible refine Sw.h_tup1 ?_
  | with_reducible refine Sw.h_str1 ?_
  | with_reducible refine Sw.h_lc ?_
  | with_reducible refine Sw.h_gN ?_
  | with_reducible refine Sw.h_gT rfl ?_
  | with_reducible refine Sw.h_gC ?_
  | with_reducible refine Sw.h_gE ?_
  | with_reducible refine Sw.h_asgG ?_
  | with_reducible refine Sw.h_forD ?_
  | with_reducible refine Sw.h_raise ?_
  | with_reducible refine Sw.h_seqasgG ?_
  | with_reducible refine Sw.h_seqfrzO rfl ?_
  | with_reducible refine Sw.h_seqfrzS rfl ?_
  | with_reducible refine Sw.h_isi rfl rfl ?_
  | with_reducible refine Sw.h_ixT rfl ?_
  | with_reducible refine Sw.h_seq1 ?_
  | with_reducible refine L2.iteT ?_ | with_reducible refine L2.iteF ?_ | with_reducible refine Sw.iteNT ?_ | with_reducible refine Sw.iteNF ?_ | refine Sw.h_np rfl ?_)
local macro_rules | `(tactic| walk_at "go") => `(tactic| repeat walk_at "go1")
local macro_rules | `(tactic| walk_at "sz") => `(tactic| first
  | omega
  | decide
  | (simp only [List.length_append, List.length_map, List.length_cons, List.length_nil, List.length_take, List.length_drop, List.length_reverse, List.length_set, List.length_replicate, List.length_range]; omega)
  | (refine Nat.le_trans (Sw.cut_len _ _ _) ?_; omega))
local macro_rules | `(tactic| walk_at "gx1") => `(tactic| first
  | walk_at "go1"
  | refine Sw.c_draw (by omega) (by omega) (fun _ _ _ => ?_)
  | refine Sw.c_letters (by omega) (by omega) (by omega) (by omega) (fun _ _ _ => ?_)
  | refine Sw.c_wheel (by omega) (by omega) (fun _ _ _ _ => ?_)
  | refine Sw.c_word (by walk_at "sz") (by walk_at "sz") (by omega) (by omega) (fun _ _ _ => ?_)
  | refine Sw.c_bent (by walk_at "sz") (by assumption) (fun _ _ _ => ?_)
  | refine Sw.c_lis_word (by walk_at "sz") (by assumption) ?_
  | refine Sw.h_sc rfl ?_
  | refine Sw.h_lenS (by walk_at "sz") ?_
  | refine Sw.h_slS (by walk_at "sz") ?_
  | refine Sw.h_addS (by walk_at "sz") ?_
  | refine Sw.h_I (by omega) ?_
  | refine Sw.h_I (Sw.cm (by omega) (by omega) (by omega) (by omega)) ?_
  | refine Sw.h_I (Sw.cd (by omega) (by omega)) ?_
  | refine Sw.h_I ⟨by decide, by decide, by decide⟩ ?_
  | refine Sw.h_gT rfl ?_
  | refine Sw.h_ixT rfl ?_
  | refine Sw.h_ixL rfl ?_
  | refine Sw.h_appE rfl ?_
  | refine Sw.h_appK rfl (by decide) (by walk_at "sz") ?_
  | refine Sw.h_setLE rfl ?_
  | refine Sw.h_putTE rfl ?_
  | refine Sw.h_putKE rfl ?_
  | refine Sw.h_tupOf ?_
  | refine Sw.h_listOfT ?_
  | refine Sw.h_orS ?_
  | refine And.intro (by omega) (And.intro (by omega) ?_))
local macro_rules | `(tactic| walk_at "gx") => `(tactic| repeat walk_at "gx1")
namespace Sw
open PySem PySem.Spec PyProof.Rows L2 SX
/-! ### cuts; wheels turned -/
theorem cut_from {α : Type} (l : List α) {i : Int} (h : 0 ≤ i) : cut l (some i) none = l.drop i.toNat := by
  have e : (some i : Option Int) = some ((i.toNat : Nat) : Int) := by rw [Int.toNat_of_nonneg h]
  unfold cut
  rw [e, HT.sIx_nat, HT.sIx_none]
  by_cases hl : i.toNat ≤ l.length
  · rw [Nat.min_eq_left hl, List.take_of_length_le (by rw [List.length_drop]; exact Nat.le_refl _)]
  · rw [Nat.min_eq_right (by omega), List.drop_length, List.take_nil, List.drop_eq_nil_of_le (by omega)]
theorem cut_to {α : Type} (l : List α) {i : Int} (h : 0 ≤ i) : cut l none (some i) = l.take i.toNat := by
  have e : (some i : Option Int) = some ((i.toNat : Nat) : Int) := by rw [Int.toNat_of_nonneg h]
  unfold cut
  rw [e, HT.sIx_nat, HT.sIx_none, List.drop_zero, Nat.sub_zero]
  by_cases hl : i.toNat ≤ l.length
  · rw [Nat.min_eq_left hl]
  · rw [Nat.min_eq_right (by omega), List.take_length, List.take_of_length_le (by omega)]
def rotN (w : List Nat) (j : Nat) : List Nat := w.drop j ++ w.take j
def rotW (w : List Nat) (k : Int) : List Nat := rotN w (k % (w.length : Int)).toNat
theorem rotN_len (w : List Nat) (j : Nat) : (rotN w j).length = w.length := by unfold rotN; rw [List.length_append, List.length_drop, List.length_take]; omega
theorem rotN_mem {w : List Nat} {j c : Nat} : c ∈ rotN w j ↔ c ∈ w := by
  unfold rotN
  rw [List.mem_append, Or.comm, ← List.mem_append, List.take_append_drop]
theorem rotW_len (w : List Nat) (k : Int) : (rotW w k).length = w.length := rotN_len ..
theorem rotW_mem {w : List Nat} {k : Int} {c : Nat} : c ∈ rotW w k ↔ c ∈ w := rotN_mem
theorem rotW_low {w : List Nat} {k : Int} (h : Low w) : Low (rotW w k) := fun c hc => h c (rotW_mem.mp hc)
theorem rotW_wheel {w : List Nat} {k : Int} (h : isWheel w = true) : isWheel (rotW w k) = true := by
  obtain ⟨h1, h2, h3⟩ := isWheel_iff.mp h
  exact isWheel_iff.mpr ⟨by rw [rotW_len]; exact h1, by rw [rotW_len]; exact h2, rotW_low h3⟩
/-- what stands at a place of a wheel turned -/
theorem rotN_get {w : List Nat} {j i : Nat} (hj : j ≤ w.length) (hi : i < w.length) : (rotN w j)[i]? = w[(i + j) % w.length]? := by
  unfold rotN
  by_cases h : i < w.length - j
  · rw [List.getElem?_append_left (by rw [List.length_drop]; exact h), List.getElem?_drop, Nat.mod_eq_of_lt (by omega), Nat.add_comm]
  · rw [List.getElem?_append_right (by rw [List.length_drop]; omega), List.length_drop, List.getElem?_take_of_lt (by omega), Nat.mod_eq_sub_mod (by omega), Nat.mod_eq_of_lt (by omega)]
    congr 1
    omega
end Sw
local macro_rules | `(tactic| walk_at "go1") => `(tactic| first
  | with_reducible refine Sw.h_seqasg ?_
  | with_reducible refine Sw.h_op ?_
  | with_reducible refine Sw.h_varS rfl ?_
  | with_reducible refine Sw.h_varO rfl ?_
  | with_reducible refine Sw.h_c ?_
  | with_reducible refine Sw.h_I0 ?_
  | with_reducible refine Sw.h_cons ?_
  | with_reducible refine Sw.h_consT rfl ?_
  | with_reducible refine Sw.h_consC rfl ?_
  | with_reducible refine Sw.h_nil ?_
  | with_reducible refine Sw.h_call ?_
  | with_reducible refine Sw.h_un ?_
  | with_reducible refine Sw.h_test ?_
  | with_reducible refine Sw.h_bl ?_
  | with_reducible refine Sw.h_seqdrop ?_
  | with_reducible refine Sw.h_asS ?_
  | with_reducible refine Sw.h_asO ?_
  | with_reducible refine Sw.h_ne1 ?_
  | with_reducible refine Sw.h_ne2 ?_
  | with_reducible refine Sw.h_asg ?_
  | with_reducible refine Sw.h_drop ?_
  | with_reducible refine Sw.h_ret ?_
  | with_reducible refine Sw.h_retS rfl ?_
  | with_reducible refine Sw.h_retO rfl ?_
  | with_reducible refine Sw.h_retN ?_
  | with_reducible refine Sw.h_next ?_
  | with_reducible refine Sw.h_if ?_
  | with_reducible refine Sw.h_frzO rfl ?_
  | with_reducible refine Sw.h_frzS rfl ?_
  | with_reducible refine Sw.h_and ?_
  | with_reducible refine Sw.h_or ?_
  | with_reducible refine Sw.h_not ?_
  | with_reducible refine Sw.h_yes ?_
  | with_reducible refine Sw.h_andV ?_
  | with_reducible refine Sw.h_orV ?_
  | with_reducible refine Sw.h_notV ?_
  | with_reducible refine Sw.h_ifE ?_
  | with_reducible refine Sw.h_chain ?_
  | with_reducible refine Sw.h_lenC rfl ?_
  | with_reducible refine Sw.h_tup ?_
  | with_reducible refine Sw.h_lst ?_
  | with_reducible refine Sw.h_shs0 ?_
  | with_reducible refine Sw.h_shs1 ?_
  | with_reducible refine Sw.h_shs2 ?_
  | with_reducible refine Sw.h_shs3 ?_
  | with_reducible refine Sw.h_shs4 ?_
  | with_reducible refine Sw.h_sl ?_
  | with_reducible refine Sw.h_nopart ?_
  | with_reducible refine Sw.h_part ?_
  | with_reducible refine Sw.h_int ?_
  | with_reducible refine Sw.h_neg ?_
  | with_reducible refine Sw.h_S ?_
  | with_reducible refine Sw.h_inSign ?_
  | with_reducible refine Sw.h_notInSign ?_
  | with_reducible refine Sw.h_isN ?_
  | with_reducible refine Sw.h_notN ?_
  | with_reducible refine Sw.h_eq rfl ?_
  | with_reducible refine Sw.h_ne rfl ?_
  | with_reducible refine Sw.h_lenL ?_
  | with_reducible refine Sw.h_lenT ?_
  | with_reducible refine Sw.h_abs ?_
  | with_reducible refine Sw.h_max2 ?_
  | with_reducible refine Sw.h_min2 ?_
  | with_reducible refine Sw.h_int1b ?_
  | with_reducible refine Sw.h_sum ?_
  | with_reducible refine Sw.h_listOf ?_
  | with_reducible refine Sw.h_slL ?_
  | with_reducible refine Sw.h_slT ?_
  | with_reducible refine Sw.h_revL ?_
  | with_reducible refine Sw.h_newK ?_
  | with_reducible refine Sw.h_newT ?_
  | with_reducible refine Sw.h_seqfor ?_
  | with_reducible refine Sw.h_seqforD ?_
  | with_reducible refine Sw.h_dispT ?_
  | with_reducible refine Sw.h_LM ?_
  | with_reducible refine Sw.h_for ?_
  | with_reducible refine Sw.h_iList ?_
  | with_reducible refine Sw.h_iTup ?_
  | with_reducible refine Sw.h_iStr ?_
  | with_reducible refine Sw.h_iR1 ?_
  | with_reducible refine Sw.h_iR2 ?_
  | with_reducible refine Sw.h_iR3 ?_
  | with_reducible refine Sw.h_iEnum ?_
  | with_reducible refine Sw.h_iZip ?_
  | with_reducible refine Sw.h_iZipS ?_
  | with_reducible refine Sw.h_lst1 ?_
  | with_reducible refine Sw.h_tup1 ?_
  | with_reducible refine Sw.h_str1 ?_
  | with_reducible refine Sw.h_lc ?_
  | with_reducible refine Sw.h_gN ?_
  | with_reducible refine Sw.h_gT rfl ?_
  | with_reducible refine Sw.h_gC ?_
  | with_reducible refine Sw.h_gE ?_
  | with_reducible refine Sw.h_asgG ?_
  | with_reducible refine Sw.h_forD ?_
  | with_reducible refine Sw.h_raise ?_
  | with_reducible refine Sw.h_seqasgG ?_
  | with_reducible refine Sw.h_seqfrzO rfl ?_
  | with_reducible refine Sw.h_seqfrzS rfl ?_
  | with_reducible refine Sw.h_isi rfl rfl ?_
  | with_reducible refine Sw.h_ixT rfl ?_
  | with_reducible refine Sw.h_seq1 ?_
  | with_reducible refine L2.iteT ?_ | with_reducible refine L2.iteF ?_ | with_reducible refine Sw.iteNT ?_ | with_reducible refine Sw.iteNF ?_ | refine Sw.h_np rfl ?_)
local macro_rules | `(tactic| walk_at "go") => `(tactic| repeat walk_at "go1")
local macro_rules | `(tactic| walk_at "sz") => `(tactic| first
  | omega
  | decide
  | (simp only [List.length_append, List.length_map, List.length_cons, List.length_nil, List.length_take, List.length_drop, List.length_reverse, List.length_set, List.length_replicate, List.length_range]; omega)
  | (refine Nat.le_trans (Sw.cut_len _ _ _) ?_; omega))
local macro_rules | `(tactic| walk_at "gx1") => `(tactic| first
  | walk_at "go1"
  | refine Sw.c_draw (by omega) (by omega) (fun _ _ _ => ?_)
  | refine Sw.c_letters (by omega) (by omega) (by omega) (by omega) (fun _ _ _ => ?_)
  | refine Sw.c_wheel (by omega) (by omega) (fun _ _ _ _ => ?_)
  | refine Sw.c_word (by walk_at "sz") (by walk_at "sz") (by omega) (by omega) (fun _ _ _ => ?_)
  | refine Sw.c_bent (by walk_at "sz") (by assumption) (fun _ _ _ => ?_)
  | refine Sw.c_lis_word (by walk_at "sz") (by assumption) ?_
  | refine Sw.h_sc rfl ?_
  | refine Sw.h_lenS (by walk_at "sz") ?_
  | refine Sw.h_slS (by walk_at "sz") ?_
  | refine Sw.h_addS (by walk_at "sz") ?_
  | refine Sw.h_I (by omega) ?_
  | refine Sw.h_I (Sw.cm (by omega) (by omega) (by omega) (by omega)) ?_
  | refine Sw.h_I (Sw.cd (by omega) (by omega)) ?_
  | refine Sw.h_I ⟨by decide, by decide, by decide⟩ ?_
  | refine Sw.h_gT rfl ?_
  | refine Sw.h_ixT rfl ?_
  | refine Sw.h_ixL rfl ?_
  | refine Sw.h_appE rfl ?_
  | refine Sw.h_appK rfl (by decide) (by walk_at "sz") ?_
  | refine Sw.h_setLE rfl ?_
  | refine Sw.h_putTE rfl ?_
  | refine Sw.h_putKE rfl ?_
  | refine Sw.h_tupOf ?_
  | refine Sw.h_listOfT ?_
  | refine Sw.h_orS ?_
  | refine And.intro (by omega) (And.intro (by omega) ?_))
local macro_rules | `(tactic| walk_at "gx") => `(tactic| repeat walk_at "gx1")
namespace Sw
open PySem PySem.Spec PyProof.Rows L2 SX
/-! ### wheels in the glass -/
def glassW (w : List Nat) : List Nat := w.take 1 ++ (w.drop 1).reverse
theorem glass_len (w : List Nat) : (glassW w).length = w.length := by unfold glassW; rw [List.length_append, List.length_reverse, List.length_take, List.length_drop]; omega
theorem glass_mem {w : List Nat} {c : Nat} : c ∈ glassW w ↔ c ∈ w := by
  unfold glassW
  rw [List.mem_append, List.mem_reverse, ← List.mem_append, List.take_append_drop]
def At (w : List Nat) (i : Int) : Nat := w.getD (i % (w.length : Int)).toNat 0
theorem emod_congr {a b n k : Int} (h : a = b + n * k) : a % n = b % n := by rw [h, Int.add_mul_emod_self_left]
theorem neg_mod {n i : Int} (h : 0 < n) : (-i) % n = if i % n = 0 then 0 else n - i % n := by
  have h1 := Int.emod_nonneg i (show n ≠ 0 by omega)
  have h2 := Int.emod_lt_of_pos i h
  have h3 := Int.emod_add_mul_ediv i n
  by_cases z : i % n = 0
  · rw [if_pos z, emod_congr (b := 0) (k := -(i / n)) (by rw [Int.mul_neg]; omega), Int.zero_emod]
  · rw [if_neg z, emod_congr (b := n - i % n) (k := -(i / n) - 1) (by rw [Int.mul_sub, Int.mul_neg, Int.mul_one]; omega)]
    exact Int.emod_eq_of_lt (by omega) (by omega)
theorem glass_at {w : List Nat} (h : 0 < w.length) (i : Int) : At (glassW w) i = At w (-i) := by
  unfold At
  rw [glass_len, neg_mod (show (0 : Int) < (w.length : Int) by omega)]
  have h1 := Int.emod_nonneg i (show (w.length : Int) ≠ 0 by omega)
  have h2 := Int.emod_lt_of_pos i (show (0 : Int) < (w.length : Int) by omega)
  obtain ⟨j, hj⟩ : ∃ j : Nat, i % (w.length : Int) = (j : Int) := ⟨(i % (w.length : Int)).toNat, by omega⟩
  rw [hj]
  have hjl : j < w.length := by omega
  unfold glassW
  cases w with
  | nil => cases h
  | cons a l =>
    show (a :: l.reverse).getD (j : Int).toNat 0 = (a :: l).getD _ 0
    rw [Int.toNat_natCast]
    cases j with
    | zero => rfl
    | succ j =>
      rw [if_neg (by omega)]
      have e : ((((a :: l).length : Nat) : Int) - ((j + 1 : Nat) : Int)).toNat = l.length - 1 - j + 1 := by
        rw [List.length_cons] at hjl ⊢
        omega
      rw [e]
      show l.reverse.getD j 0 = l.getD (l.length - 1 - j) 0
      rw [List.getD, List.getD, List.getElem?_reverse (by rw [List.length_cons] at hjl; omega)]
theorem At_mod {w : List Nat} {i j : Int} (k : Int) (h : i = j + (w.length : Int) * k) : At w i = At w j := by
  unfold At
  rw [emod_congr h]
theorem hits_at (w : List Nat) (p t : Int) (x : Nat) : hits w p [x] t = decide (At w (p + t) = x) := by
  unfold hits At
  exact decide_eq_decide.mpr ⟨fun h => by simpa using h, fun h => by rw [h]⟩
theorem offs_nd (n k : Nat) : (offs n k).Nodup := by
  unfold offs
  rw [List.Nodup, List.pairwise_map]
  refine List.Pairwise.imp ?_ List.nodup_range
  intro a b h z
  omega
theorem turnsTo_nd (w : List Nat) (p : Int) (sg : List Nat) : (turnsTo w p sg).Nodup := (offs_nd _ _).sublist List.filter_sublist
def gst (n : Int) (st : Std) : Std := ((n - st.1) % n, -st.2)
theorem gst_mod {n p : Int} (_h : 0 < n) : ∃ k, (n - p) % n = -p + n * k := ⟨1 - (n - p) / n, by
  have := Int.emod_add_mul_ediv (n - p) n
  rw [Int.mul_sub, Int.mul_one]
  omega⟩
theorem turns_glass {w : List Nat} (h : 0 < w.length) (p : Int) (x : Nat) (t : Int) : t ∈ turnsTo (glassW w) (((w.length : Int) - p) % (w.length : Int)) [x] ↔ -t ∈ turnsTo w p [x] := by
  rw [mem_turnsTo (by rw [glass_len]; exact h), mem_turnsTo h, glass_len, hits_at, hits_at, glass_at h]
  obtain ⟨k, hk⟩ := gst_mod (n := (w.length : Int)) (p := p) (by omega)
  rw [hk, At_mod (w := w) (i := -(-p + (w.length : Int) * k + t)) (j := p + -t) (-k) (by rw [Int.mul_neg]; omega)]
  constructor
  · rintro ⟨h1, h2, h3⟩; exact ⟨by omega, by omega, h3⟩
  · rintro ⟨h1, h2, h3⟩; exact ⟨by omega, by omega, h3⟩
theorem way_neg (t w : Int) : wayOf (-t) (-w) = -(wayOf t w) := by unfold wayOf; (repeat' split) <;> omega
theorem cost_neg (t w s : Int) : stepCost (-t) (-w) s = stepCost t w s := by
  unfold stepCost
  rw [way_neg]
  have e : absI (-t) = absI t := by unfold absI; split <;> split <;> omega
  rw [e]
  by_cases h : w ≠ 0 ∧ wayOf t w ≠ w
  · rw [if_pos h, if_pos ⟨by omega, by omega⟩]
  · rw [if_neg h, if_neg (fun z => h ⟨by omega, by omega⟩)]
theorem to_glass {w : List Nat} (h : 0 < w.length) (st : Std) (t : Int) : stepTo (glassW w) (gst w.length st) (-t) = gst w.length (stepTo w st t) := by
  unfold stepTo gst
  rw [glass_len]
  refine Prod.ext ?_ (way_neg t st.2)
  show (((w.length : Int) - st.1) % (w.length : Int) + -t) % (w.length : Int) = ((w.length : Int) - (st.1 + t) % (w.length : Int)) % (w.length : Int)
  have h1 := Int.emod_add_mul_ediv ((w.length : Int) - st.1) (w.length : Int)
  have h2 := Int.emod_add_mul_ediv (st.1 + t) (w.length : Int)
  exact emod_congr (k := -(((w.length : Int) - st.1) / (w.length : Int)) - (st.1 + t) / (w.length : Int)) (by rw [Int.mul_sub, Int.mul_neg]; omega)
theorem gst_two {n : Int} (hn : 0 < n) {st : Std} (h0 : 0 ≤ st.1) (h1 : st.1 < n) : gst n (gst n st) = st := by
  unfold gst
  refine Prod.ext ?_ (Int.neg_neg _)
  show (n - (n - st.1) % n) % n = st.1
  have h2 := Int.emod_add_mul_ediv (n - st.1) n
  rw [emod_congr (b := st.1) (k := (n - st.1) / n) (by omega)]
  exact Int.emod_eq_of_lt h0 h1
/-- the same cost, by as many plans -/
theorem glass_cost {w : List Nat} (h : 0 < w.length) (s : Int) (word : List Nat) : rc (glassW w) s word (0, 0) = rc w s word (0, 0) ∧ rn (glassW w) s word (0, 0) = rn w s word (0, 0) := by
  obtain ⟨a1, a2⟩ := rc_gc (glassW w) s word (0, 0)
  obtain ⟨b1, b2⟩ := rc_gc w s word (0, 0)
  rw [a1, a2, b1, b2]
  have e : gst (w.length : Int) (0, 0) = ((0, 0) : Std) := by
    unfold gst
    refine Prod.ext ?_ rfl
    show ((w.length : Int) - 0) % (w.length : Int) = 0
    rw [Int.sub_zero, Int.emod_self]
  have key := gcn_iso (s1 := fun x a => stepsFrom (glassW w) a [x] s) (s2 := fun x a => stepsFrom w a [x] s) (P := fun _ => True) (f := gst (w.length : Int)) (fun _ _ _ _ _ => True.intro) (fun x b _ => ?_) word (0, 0) True.intro
  · rw [e] at key; exact key
  · have hp : (turnsTo (glassW w) (gst (w.length : Int) b).1 [x]).Perm ((turnsTo w b.1 [x]).map fun t => -t) := by
      refine (List.perm_ext_iff_of_nodup (turnsTo_nd _ _ _) ?_).mpr fun t => ?_
      · rw [List.Nodup, List.pairwise_map]
        exact List.Pairwise.imp (fun z y => z (by omega)) (turnsTo_nd w b.1 [x])
      · rw [show (gst (w.length : Int) b).1 = ((w.length : Int) - b.1) % (w.length : Int) from rfl, turns_glass h, List.mem_map]
        exact ⟨fun z => ⟨-t, z, Int.neg_neg t⟩, fun ⟨u, hu, eu⟩ => by rw [← eu, Int.neg_neg]; exact hu⟩
    have k1 : (stepsFrom (glassW w) (gst (w.length : Int) b) [x] s).map (fun e => (e.2.1, e.2.2)) = (turnsTo (glassW w) (gst (w.length : Int) b).1 [x]).map fun t => (stepTo (glassW w) (gst (w.length : Int) b) t, stepCost t (gst (w.length : Int) b).2 s) := by
      unfold stepsFrom
      rw [List.map_map]
      rfl
    have k2 : (stepsFrom w b [x] s).map (fun e => (gst (w.length : Int) e.2.1, e.2.2)) = ((turnsTo w b.1 [x]).map fun t => -t).map fun t => (stepTo (glassW w) (gst (w.length : Int) b) t, stepCost t (gst (w.length : Int) b).2 s) := by
      unfold stepsFrom
      rw [List.map_map, List.map_map]
      refine List.map_congr_left fun t _ => ?_
      show (gst (w.length : Int) (stepTo w b t), stepCost t b.2 s) = (stepTo (glassW w) (gst (w.length : Int) b) (-t), stepCost (-t) (-b.2) s)
      rw [to_glass h, cost_neg]
    show ((stepsFrom (glassW w) (gst (w.length : Int) b) [x] s).map fun e => (e.2.1, e.2.2)).Perm ((stepsFrom w b [x] s).map fun e => (gst (w.length : Int) e.2.1, e.2.2))
    rw [k1, k2]
    exact hp.map _
theorem run_glass {w : List Nat} (h : 0 < w.length) {s : Int} {a b : Std} {word : List Nat} {ts : List Int} {c : Int} (r : Run w s a word ts b c) : Run (glassW w) s (gst w.length a) word (ts.map fun t => -t) (gst w.length b) c := by
  induction r with
  | nil a => exact .nil _
  | @cons a b x t word ts c ht r ih =>
    rw [List.map_cons]
    rw [← to_glass h] at ih
    have := Run.cons (w := glassW w) (s := s) (a := gst w.length a) (x := x) (t := -t) ((turns_glass h a.1 x (-t)).mpr (by rw [Int.neg_neg]; exact ht)) ih
    rw [show stepCost (-t) (gst (w.length : Int) a).2 s = stepCost t a.2 s from cost_neg t a.2 s] at this
    exact this
theorem glass_two {w : List Nat} : glassW (glassW w) = w := by
  cases w with
  | nil => rfl
  | cons a l =>
    show (a :: l.reverse).take 1 ++ ((a :: l.reverse).drop 1).reverse = a :: l
    show [a] ++ l.reverse.reverse = a :: l
    rw [List.reverse_reverse]
    rfl
theorem gst0 {n : Int} : gst n (0, 0) = (0, 0) := by
  unfold gst
  refine Prod.ext ?_ rfl
  show (n - 0) % n = 0
  rw [Int.sub_zero, Int.emod_self]
theorem val_glass {w : List Nat} (h : 0 < w.length) {s : Int} {word : List Nat} {st : Std} (h0 : 0 ≤ st.1) (h1 : st.1 < (w.length : Int)) : valI (rowI (glassW w) s 0 word) (gst w.length st) = valI (rowI w s 0 word) st := by
  refine IsBest.uniq (rowI_best (glassW w) s 0 word (gst w.length st)) ((rowI_best w s 0 word st).congr fun c => ⟨fun ⟨ts, r⟩ => ?_, fun ⟨ts, r⟩ => ?_⟩)
  · have := run_glass h r
    rw [gst0] at this
    exact ⟨_, this⟩
  · have := run_glass (w := glassW w) (by rw [glass_len]; exact h) r
    rw [glass_two, glass_len, gst0, gst_two (by omega) h0 h1] at this
    exact ⟨_, this⟩
/-! ### greater slacks, beginnings, signs told twice -/
theorem gc_add {σ β : Type} {s1 s2 : Nat → σ → List (β × σ × Int)} {d : Int} (hne : ∀ x a, s2 x a = [] → s1 x a = []) (h : ∀ x a, ∀ e ∈ s2 x a, ∃ e' ∈ s1 x a, e'.2.1 = e.2.1 ∧ e'.2.2 ≤ e.2.2 + d) (hd : 0 ≤ d) : ∀ (w : List Nat) (a : σ), gc s1 w a ≤ gc s2 w a + d * (w.length : Int)
  | [], _ => by show (0 : Int) ≤ 0 + d * ((0 : Nat) : Int); simp
  | x :: w, a => by
    have e : d * (((x :: w).length : Nat) : Int) = d * (w.length : Int) + d := by rw [List.length_cons, Int.natCast_add, Int.mul_add]; simp
    rw [e]
    by_cases z : s2 x a = []
    · show minL _ ≤ minL _ + _
      rw [z, hne x a z]
      have : 0 ≤ d * (w.length : Int) := Int.mul_nonneg hd (by omega)
      show (0 : Int) ≤ 0 + _
      omega
    · obtain ⟨e2, he2, ee⟩ := List.mem_map.mp (minL_mem (l := (s2 x a).map fun e => gc s2 w e.2.1 + e.2.2) fun y => z (List.map_eq_nil_iff.mp y))
      obtain ⟨e1, he1, hs, hc⟩ := h x a e2 he2
      have h1 := minL_le (List.mem_map.mpr ⟨e1, he1, rfl⟩ : gc s1 w e1.2.1 + e1.2.2 ∈ (s1 x a).map fun e => gc s1 w e.2.1 + e.2.2)
      have h2 := gc_add hne h hd w e2.2.1
      rw [hs] at h1
      show minL _ ≤ minL _ + _
      omega
theorem stepCost_mono {t w s d : Int} (h : 0 ≤ d) : stepCost t w s ≤ stepCost t w (s + d) ∧ stepCost t w (s + d) ≤ stepCost t w s + d := by
  unfold stepCost
  split <;> omega
theorem slack_more {w : List Nat} {s d : Int} (hd : 0 ≤ d) (word : List Nat) (st : Std) : rc w s word st ≤ rc w (s + d) word st ∧ rc w (s + d) word st ≤ rc w s word st + d * (word.length : Int) := by
  rw [(rc_gc w s word st).1, (rc_gc w (s + d) word st).1]
  have mk : ∀ (s1 s2 : Int) (x : Nat) (a : Std) (e : Stp), e ∈ stepsFrom w a [x] s1 → (e.1, e.2.1, stepCost e.1 a.2 s2) ∈ stepsFrom w a [x] s2 := fun s1 s2 x a e he => by
    obtain ⟨h1, h2, h3⟩ := mem_steps.mp he
    exact mem_steps.mpr ⟨h1, h2, rfl⟩
  have em : ∀ (s1 s2 : Int) (x : Nat) (a : Std), stepsFrom w a [x] s1 = [] → stepsFrom w a [x] s2 = [] := fun s1 s2 x a z => by
    unfold stepsFrom at z ⊢
    rw [List.map_eq_nil_iff.mp z]
    rfl
  constructor
  · have := gc_add (s1 := fun x a => stepsFrom w a [x] s) (s2 := fun x a => stepsFrom w a [x] (s + d)) (d := 0) (fun x a z => em _ _ x a z) (fun x a e he => ⟨_, mk _ s x a e he, rfl, by
      obtain ⟨_, _, h3⟩ := mem_steps.mp he
      rw [h3]
      have := (stepCost_mono (t := e.1) (w := a.2) (s := s) hd).1
      show stepCost e.1 a.2 s ≤ _
      omega⟩) (Int.le_refl _) word st
    rw [Int.zero_mul, Int.add_zero] at this
    exact this
  · exact gc_add (s1 := fun x a => stepsFrom w a [x] (s + d)) (s2 := fun x a => stepsFrom w a [x] s) (d := d) (fun x a z => em _ _ x a z) (fun x a e he => ⟨_, mk _ (s + d) x a e he, rfl, by
      obtain ⟨_, _, h3⟩ := mem_steps.mp he
      rw [h3]
      exact (stepCost_mono (t := e.1) (w := a.2) (s := s) hd).2⟩) hd word st
theorem step_nonneg {t w s : Int} (h : 0 ≤ s) : 0 ≤ stepCost t w s := by unfold stepCost absI; (repeat' split) <;> omega
theorem rc_take {w : List Nat} {s : Int} (hs : 0 ≤ s) (word : List Nat) (j : Nat) (st : Std) : rc w s (word.take j) st ≤ rc w s word st := by
  rw [(rc_gc w s (word.take j) st).1, (rc_gc w s word st).1]
  exact gc_take (fun x a e he => by obtain ⟨_, _, h3⟩ := mem_steps.mp he; rw [h3]; exact step_nonneg hs) word j st
end Sw
local macro_rules | `(tactic| walk_at "go1") => `(tactic| first
  | with_reducible refine Sw.h_seqasg ?_
  | with_reducible refine Sw.h_op ?_
  | with_reducible refine Sw.h_varS rfl ?_
  | with_reducible refine Sw.h_varO rfl ?_
  | with_reducible refine Sw.h_c ?_
  | with_reducible refine Sw.h_I0 ?_
  | with_reducible refine Sw.h_cons ?_
  | with_reducible refine Sw.h_consT rfl ?_
  | with_reducible refine Sw.h_consC rfl ?_
  | with_reducible refine Sw.h_nil ?_
  | with_reducible refine Sw.h_call ?_
  | with_reducible refine Sw.h_un ?_
  | with_reducible refine Sw.h_test ?_
  | with_reducible refine Sw.h_bl ?_
  | with_reducible refine Sw.h_seqdrop ?_
  | with_reducible refine Sw.h_asS ?_
  | with_reducible refine Sw.h_asO ?_
  | with_reducible refine Sw.h_ne1 ?_
  | with_reducible refine Sw.h_ne2 ?_
  | with_reducible refine Sw.h_asg ?_
  | with_reducible refine Sw.h_drop ?_
  | with_reducible refine Sw.h_ret ?_
  | with_reducible refine Sw.h_retS rfl ?_
  | with_reducible refine Sw.h_retO rfl ?_
  | with_reducible refine Sw.h_retN ?_
  | with_reducible refine Sw.h_next ?_
  | with_reducible refine Sw.h_if ?_
  | with_reducible refine Sw.h_frzO rfl ?_
  | with_reducible refine Sw.h_frzS rfl ?_
  | with_reducible refine Sw.h_and ?_
  | with_reducible refine Sw.h_or ?_
  | with_reducible refine Sw.h_not ?_
  | with_reducible refine Sw.h_yes ?_
  | with_reducible refine Sw.h_andV ?_
  | with_reducible refine Sw.h_orV ?_
  | with_reducible refine Sw.h_notV ?_
  | with_reducible refine Sw.h_ifE ?_
  | with_reducible refine Sw.h_chain ?_
  | with_reducible refine Sw.h_lenC rfl ?_
  | with_reducible refine Sw.h_tup ?_
  | with_reducible refine Sw.h_lst ?_
  | with_reducible refine Sw.h_shs0 ?_
  | with_reducible refine Sw.h_shs1 ?_
  | with_reducible refine Sw.h_shs2 ?_
  | with_reducible refine Sw.h_shs3 ?_
  | with_reducible refine Sw.h_shs4 ?_
  | with_reducible refine Sw.h_sl ?_
  | with_reducible refine Sw.h_nopart ?_
  | with_reducible refine Sw.h_part ?_
  | with_reducible refine Sw.h_int ?_
  | with_reducible refine Sw.h_neg ?_
  | with_reducible refine Sw.h_S ?_
  | with_reducible refine Sw.h_inSign ?_
  | with_reducible refine Sw.h_notInSign ?_
  | with_reducible refine Sw.h_isN ?_
  | with_reducible refine Sw.h_notN ?_
  | with_reducible refine Sw.h_eq rfl ?_
  | with_reducible refine Sw.h_ne rfl ?_
  | with_reducible refine Sw.h_lenL ?_
  | with_reducible refine Sw.h_lenT ?_
  | with_reducible refine Sw.h_abs ?_
  | with_reducible refine Sw.h_max2 ?_
  | with_reducible refine Sw.h_min2 ?_
  | with_reducible refine Sw.h_int1b ?_
  | with_reducible refine Sw.h_sum ?_
  | with_reducible refine Sw.h_listOf ?_
  | with_reducible refine Sw.h_slL ?_
  | with_reducible refine Sw.h_slT ?_
  | with_reducible refine Sw.h_revL ?_
  | with_reducible refine Sw.h_newK ?_
  | with_reducible refine Sw.h_newT ?_
  | with_reducible refine Sw.h_seqfor ?_
  | with_reducible refine Sw.h_seqforD ?_
  | with_reducible refine Sw.h_dispT ?_
  | with_reducible refine Sw.h_LM ?_
  | with_reducible refine Sw.h_for ?_
  | with_reducible refine Sw.h_iList ?_
  | with_reducible refine Sw.h_iTup ?_
  | with_reducible refine Sw.h_iStr ?_
  | with_reducible refine Sw.h_iR1 ?_
  | with_reducible refine Sw.h_iR2 ?_
  | with_reducible refine Sw.h_iR3 ?_
  | with_reducible refine Sw.h_iEnum ?_
  | with_reducible refine Sw.h_iZip ?_
  | with_reducible refine Sw.h_iZipS ?_
  | with_reducible refine Sw.h_lst1 ?_
  | with_reducible refine Sw.h_tup1 ?_
  | with_reducible refine Sw.h_str1 ?_
  | with_reducible refine Sw.h_lc ?_
  | with_reducible refine Sw.h_gN ?_
  | with_reducible refine Sw.h_gT rfl ?_
  | with_reducible refine Sw.h_gC ?_
  | with_reducible refine Sw.h_gE ?_
  | with_reducible refine Sw.h_asgG ?_
  | with_reducible refine Sw.h_forD ?_
  | with_reducible refine Sw.h_raise ?_
  | with_reducible refine Sw.h_seqasgG ?_
  | with_reducible refine Sw.h_seqfrzO rfl ?_
  | with_reducible refine Sw.h_seqfrzS rfl ?_
  | with_reducible refine Sw.h_isi rfl rfl ?_
  | with_reducible refine Sw.h_ixT rfl ?_
  | with_reducible refine Sw.h_seq1 ?_
  | with_reducible refine L2.iteT ?_ | with_reducible refine L2.iteF ?_ | with_reducible refine Sw.iteNT ?_ | with_reducible refine Sw.iteNF ?_ | refine Sw.h_np rfl ?_)
local macro_rules | `(tactic| walk_at "go") => `(tactic| repeat walk_at "go1")
local macro_rules | `(tactic| walk_at "sz") => `(tactic| first
  | omega
  | decide
  | (simp only [List.length_append, List.length_map, List.length_cons, List.length_nil, List.length_take, List.length_drop, List.length_reverse, List.length_set, List.length_replicate, List.length_range]; omega)
  | (refine Nat.le_trans (Sw.cut_len _ _ _) ?_; omega))
local macro_rules | `(tactic| walk_at "gx1") => `(tactic| first
  | walk_at "go1"
  | refine Sw.c_draw (by omega) (by omega) (fun _ _ _ => ?_)
  | refine Sw.c_letters (by omega) (by omega) (by omega) (by omega) (fun _ _ _ => ?_)
  | refine Sw.c_wheel (by omega) (by omega) (fun _ _ _ _ => ?_)
  | refine Sw.c_word (by walk_at "sz") (by walk_at "sz") (by omega) (by omega) (fun _ _ _ => ?_)
  | refine Sw.c_bent (by walk_at "sz") (by assumption) (fun _ _ _ => ?_)
  | refine Sw.c_lis_word (by walk_at "sz") (by assumption) ?_
  | refine Sw.h_sc rfl ?_
  | refine Sw.h_lenS (by walk_at "sz") ?_
  | refine Sw.h_slS (by walk_at "sz") ?_
  | refine Sw.h_addS (by walk_at "sz") ?_
  | refine Sw.h_I (by omega) ?_
  | refine Sw.h_I (Sw.cm (by omega) (by omega) (by omega) (by omega)) ?_
  | refine Sw.h_I (Sw.cd (by omega) (by omega)) ?_
  | refine Sw.h_I ⟨by decide, by decide, by decide⟩ ?_
  | refine Sw.h_gT rfl ?_
  | refine Sw.h_ixT rfl ?_
  | refine Sw.h_ixL rfl ?_
  | refine Sw.h_appE rfl ?_
  | refine Sw.h_appK rfl (by decide) (by walk_at "sz") ?_
  | refine Sw.h_setLE rfl ?_
  | refine Sw.h_putTE rfl ?_
  | refine Sw.h_putKE rfl ?_
  | refine Sw.h_tupOf ?_
  | refine Sw.h_listOfT ?_
  | refine Sw.h_orS ?_
  | refine And.intro (by omega) (And.intro (by omega) ?_))
local macro_rules | `(tactic| walk_at "gx") => `(tactic| repeat walk_at "gx1")
namespace Sw
open PySem PySem.Spec PyProof.Rows L2 SX
/-! ### each sign told twice -/
def pen (s w1 w2 : Int) : Int := if w1 = 0 ∨ w1 = w2 then 0 else s
theorem pen_nonneg {s : Int} (h : 0 ≤ s) (w1 w2 : Int) : 0 ≤ pen s w1 w2 := by unfold pen; split <;> omega
theorem pen_step {s : Int} (h : 0 ≤ s) (t w1 w2 : Int) : pen s (wayOf t w1) (wayOf t w2) + stepCost t w1 s ≤ stepCost t w2 s + pen s w1 w2 := by
  have hw : ∀ u v : Int, wayOf u v = 1 ∧ 0 < u ∨ wayOf u v = -1 ∧ u < 0 ∨ wayOf u v = v ∧ u = 0 := fun u v => by unfold wayOf; (repeat' split) <;> omega
  have a1 := hw t w1
  have a2 := hw t w2
  unfold pen stepCost absI
  generalize wayOf t w1 = y1 at a1
  generalize wayOf t w2 = y2 at a2
  (repeat' split) <;> omega
theorem rc_way {w : List Nat} {s : Int} (hs : 0 ≤ s) : ∀ (word : List Nat) (q w1 w2 : Int), rc w s word (q, w1) ≤ rc w s word (q, w2) + pen s w1 w2
  | [], q, w1, w2 => by have := pen_nonneg hs w1 w2; show (0 : Int) ≤ 0 + _; omega
  | x :: word, q, w1, w2 => by
    by_cases z : turnsTo w q [x] = []
    · have e : ∀ v, rc w s (x :: word) (q, v) = 0 := fun v => by
        show minL _ = 0
        unfold stepsFrom
        rw [show turnsTo w ((q, v) : Std).1 [x] = [] from z]
        rfl
      rw [e, e]
      have := pen_nonneg hs w1 w2
      omega
    · have hne : ((stepsFrom w (q, w2) [x] s).map fun e => rc w s word e.2.1 + e.2.2) ≠ [] := fun y => by
        have := List.map_eq_nil_iff.mp y
        unfold stepsFrom at this
        exact z (List.map_eq_nil_iff.mp this)
      obtain ⟨e, he, ee⟩ := List.mem_map.mp (minL_mem hne)
      obtain ⟨h1, h2, h3⟩ := mem_steps.mp he
      have m1 : (e.1, stepTo w (q, w1) e.1, stepCost e.1 w1 s) ∈ stepsFrom w (q, w1) [x] s := mem_steps.mpr ⟨h1, rfl, rfl⟩
      have l1 := minL_le (List.mem_map.mpr ⟨_, m1, rfl⟩ : rc w s word (stepTo w (q, w1) e.1) + stepCost e.1 w1 s ∈ (stepsFrom w (q, w1) [x] s).map fun e => rc w s word e.2.1 + e.2.2)
      have ih := rc_way (w := w) hs word ((q + e.1) % (w.length : Int)) (wayOf e.1 w1) (wayOf e.1 w2)
      have ps := pen_step hs e.1 w1 w2
      rw [h2, h3] at ee
      have ee' : rc w s word ((q + e.1) % (w.length : Int), wayOf e.1 w2) + stepCost e.1 w2 s = minL ((stepsFrom w (q, w2) [x] s).map fun e => rc w s word e.2.1 + e.2.2) := ee
      have l1' : minL ((stepsFrom w (q, w1) [x] s).map fun e => rc w s word e.2.1 + e.2.2) ≤ rc w s word ((q + e.1) % (w.length : Int), wayOf e.1 w1) + stepCost e.1 w1 s := l1
      show minL _ ≤ minL _ + _
      omega
/-- one turn in the place of two -/
def oneTurn (n t1 t2 : Int) : Int := if n ≤ t1 + t2 then t1 + t2 - n else if t1 + t2 ≤ -n then t1 + t2 + n else t1 + t2
theorem one_in {n t1 t2 : Int} (h1 : -n < t1) (h2 : t1 < n) (h3 : -n < t2) (h4 : t2 < n) : -n < oneTurn n t1 t2 ∧ oneTurn n t1 t2 < n := by unfold oneTurn; (repeat' split) <;> omega
theorem one_mod {n : Int} (t1 t2 : Int) : ∃ k, oneTurn n t1 t2 = t1 + t2 + n * k := by
  unfold oneTurn
  split
  · exact ⟨-1, by rw [Int.mul_neg, Int.mul_one]; omega⟩
  split
  · exact ⟨1, by rw [Int.mul_one]⟩
  · exact ⟨0, by rw [Int.mul_zero]; omega⟩
theorem one_cost {n s t1 t2 way : Int} (hs : 0 ≤ s) (hn : 0 < n) (h1 : -n < t1) (h2 : t1 < n) (h3 : -n < t2) (h4 : t2 < n) :
    pen s (wayOf (oneTurn n t1 t2) way) (wayOf t2 (wayOf t1 way)) + stepCost (oneTurn n t1 t2) way s ≤ stepCost t2 (wayOf t1 way) s + stepCost t1 way s := by
  have hT : oneTurn n t1 t2 = t1 + t2 ∨ oneTurn n t1 t2 = t1 + t2 - n ∧ n ≤ t1 + t2 ∨ oneTurn n t1 t2 = t1 + t2 + n ∧ t1 + t2 ≤ -n := by unfold oneTurn; (repeat' split) <;> omega
  generalize oneTurn n t1 t2 = t at hT
  unfold pen stepCost absI
  have hw : ∀ u v : Int, wayOf u v = 1 ∧ 0 < u ∨ wayOf u v = -1 ∧ u < 0 ∨ wayOf u v = v ∧ u = 0 := fun u v => by unfold wayOf; (repeat' split) <;> omega
  have a1 := hw t1 way
  have a2 := hw t2 (wayOf t1 way)
  have a3 := hw t way
  generalize wayOf t2 (wayOf t1 way) = y2 at a2
  generalize wayOf t1 way = y1 at a1 a2
  generalize wayOf t way = y at a3
  (repeat' split) <;> omega
theorem turnsTo_some {w : List Nat} {p : Int} {x : Nat} {t : Int} (h : 0 < w.length) (ht : t ∈ turnsTo w p [x]) : -(w.length : Int) < t ∧ t < (w.length : Int) ∧ At w (p + t) = x := by
  obtain ⟨h1, h2, h3⟩ := (mem_turnsTo h).mp ht
  rw [hits_at, decide_eq_true_eq] at h3
  exact ⟨h1, h2, h3⟩
theorem rc_tri {w : List Nat} {s : Int} (hs : 0 ≤ s) (hn : 0 < w.length) : ∀ (rest : List Nat) (p way t1 : Int), -(w.length : Int) < t1 → t1 < (w.length : Int) → rc w s rest (p, way) ≤ rc w s rest (stepTo w (p, way) t1) + stepCost t1 way s
  | [], p, way, t1, _, _ => by have := step_nonneg (t := t1) (w := way) hs; show (0 : Int) ≤ 0 + _; omega
  | y :: rest, p, way, t1, h1, h2 => by
    by_cases z : turnsTo w (stepTo w (p, way) t1).1 [y] = []
    · have hy : ¬ y ∈ w := fun hy => turnsTo_ne _ hy z
      have e0 : turnsTo w p [y] = [] := by
        cases hq : turnsTo w p [y] with
        | nil => rfl
        | cons t l =>
          exfalso
          obtain ⟨_, _, h3⟩ := turnsTo_some hn (show t ∈ turnsTo w p [y] by rw [hq]; exact List.mem_cons_self)
          apply hy
          rw [← h3]
          unfold At
          obtain ⟨b0, b1⟩ := emod_bd (z := p + t) (m := (w.length : Int)) (by omega)
          rw [List.getD, List.getElem?_eq_getElem (show ((p + t) % (w.length : Int)).toNat < w.length by omega)]
          exact List.getElem_mem _
      have e1 : rc w s (y :: rest) (p, way) = 0 := by
        show minL _ = 0
        unfold stepsFrom
        rw [show turnsTo w ((p, way) : Std).1 [y] = [] from e0]
        rfl
      have e2 : rc w s (y :: rest) (stepTo w (p, way) t1) = 0 := by
        show minL _ = 0
        unfold stepsFrom
        rw [z]
        rfl
      rw [e1, e2]
      have := step_nonneg (t := t1) (w := way) hs
      omega
    · have hne : ((stepsFrom w (stepTo w (p, way) t1) [y] s).map fun e => rc w s rest e.2.1 + e.2.2) ≠ [] := fun u => by
        have := List.map_eq_nil_iff.mp u
        unfold stepsFrom at this
        exact z (List.map_eq_nil_iff.mp this)
      obtain ⟨e, he, ee⟩ := List.mem_map.mp (minL_mem hne)
      obtain ⟨m1, m2, m3⟩ := mem_steps.mp he
      obtain ⟨g1, g2, g3⟩ := turnsTo_some hn m1
      obtain ⟨k, hk⟩ := one_mod (n := (w.length : Int)) t1 e.1
      obtain ⟨o1, o2⟩ := one_in h1 h2 g1 g2
      have hc := one_cost (way := way) hs (show (0 : Int) < (w.length : Int) by omega) h1 h2 g1 g2
      have hpl : (p + oneTurn (w.length : Int) t1 e.1) % (w.length : Int) = ((p + t1) % (w.length : Int) + e.1) % (w.length : Int) := by
        have h3 := Int.emod_add_mul_ediv (p + t1) (w.length : Int)
        exact emod_congr (k := k + (p + t1) / (w.length : Int)) (by rw [Int.mul_add]; omega)
      have hin : oneTurn (w.length : Int) t1 e.1 ∈ turnsTo w p [y] := by
        refine (mem_turnsTo hn).mpr ⟨o1, o2, ?_⟩
        rw [hits_at, decide_eq_true_eq, ← g3]
        have h3 := Int.emod_add_mul_ediv (p + t1) (w.length : Int)
        exact At_mod (k + (p + t1) / (w.length : Int)) (by
          rw [Int.mul_add]
          show p + oneTurn (w.length : Int) t1 e.1 = (p + t1) % (w.length : Int) + e.1 + _
          omega)
      have mm : (oneTurn (w.length : Int) t1 e.1, stepTo w (p, way) (oneTurn (w.length : Int) t1 e.1), stepCost (oneTurn (w.length : Int) t1 e.1) way s) ∈ stepsFrom w (p, way) [y] s := mem_steps.mpr ⟨hin, rfl, rfl⟩
      have l1 := minL_le (List.mem_map.mpr ⟨_, mm, rfl⟩ : rc w s rest (stepTo w (p, way) (oneTurn (w.length : Int) t1 e.1)) + stepCost (oneTurn (w.length : Int) t1 e.1) way s ∈ (stepsFrom w (p, way) [y] s).map fun e => rc w s rest e.2.1 + e.2.2)
      have hw := rc_way (w := w) hs rest ((p + oneTurn (w.length : Int) t1 e.1) % (w.length : Int)) (wayOf (oneTurn (w.length : Int) t1 e.1) way) (wayOf e.1 (wayOf t1 way))
      rw [m2, m3] at ee
      have ee' : rc w s rest ((p + oneTurn (w.length : Int) t1 e.1) % (w.length : Int), wayOf e.1 (wayOf t1 way)) + stepCost e.1 (wayOf t1 way) s = minL ((stepsFrom w (stepTo w (p, way) t1) [y] s).map fun e => rc w s rest e.2.1 + e.2.2) := by rw [hpl]; exact ee
      have l1' : minL ((stepsFrom w (p, way) [y] s).map fun e => rc w s rest e.2.1 + e.2.2) ≤ rc w s rest ((p + oneTurn (w.length : Int) t1 e.1) % (w.length : Int), wayOf (oneTurn (w.length : Int) t1 e.1) way) + stepCost (oneTurn (w.length : Int) t1 e.1) way s := l1
      show minL _ ≤ minL _ + _
      omega
theorem rc_again {w : List Nat} {s : Int} (hs : 0 ≤ s) (hn : 0 < w.length) {x : Nat} {rest : List Nat} {p way : Int} (h0 : 0 ≤ p) (h1 : p < (w.length : Int)) (hx : At w p = x) : rc w s (x :: rest) (p, way) = rc w s rest (p, way) := by
  have hin : (0 : Int) ∈ turnsTo w p [x] := (mem_turnsTo hn).mpr ⟨by omega, by omega, by rw [hits_at, decide_eq_true_eq, Int.add_zero]; exact hx⟩
  have hst : stepTo w (p, way) 0 = (p, way) := by
    unfold stepTo
    refine Prod.ext ?_ ?_
    · show (p + 0) % (w.length : Int) = p
      rw [Int.add_zero]
      exact Int.emod_eq_of_lt h0 h1
    · show wayOf 0 way = way
      unfold wayOf
      rw [if_neg (by decide), if_neg (by decide)]
  have hc : stepCost 0 way s = 0 := by
    unfold stepCost absI wayOf
    (repeat' split) <;> omega
  have mm : ((0 : Int), stepTo w (p, way) 0, stepCost 0 way s) ∈ stepsFrom w (p, way) [x] s := mem_steps.mpr ⟨hin, rfl, rfl⟩
  have l1 := minL_le (List.mem_map.mpr ⟨_, mm, rfl⟩ : rc w s rest (stepTo w (p, way) 0) + stepCost 0 way s ∈ (stepsFrom w (p, way) [x] s).map fun e => rc w s rest e.2.1 + e.2.2)
  rw [hst, hc] at l1
  have hne : ((stepsFrom w (p, way) [x] s).map fun e => rc w s rest e.2.1 + e.2.2) ≠ [] := List.ne_nil_of_mem (List.mem_map.mpr ⟨_, mm, rfl⟩)
  obtain ⟨e, he, ee⟩ := List.mem_map.mp (minL_mem hne)
  obtain ⟨m1, m2, m3⟩ := mem_steps.mp he
  obtain ⟨g1, g2, _⟩ := turnsTo_some hn m1
  have tr := rc_tri (w := w) hs hn rest p way e.1 g1 g2
  rw [m2, m3] at ee
  show minL _ = _
  have l1' : minL ((stepsFrom w (p, way) [x] s).map fun e => rc w s rest e.2.1 + e.2.2) ≤ rc w s rest (p, way) + 0 := l1
  have ee' : rc w s rest (stepTo w (p, way) e.1) + stepCost e.1 way s = minL ((stepsFrom w (p, way) [x] s).map fun e => rc w s rest e.2.1 + e.2.2) := ee
  omega
def twice (l : List Nat) : List Nat := l.flatMap fun c => [c, c]
theorem rc_twice {w : List Nat} {s : Int} (hs : 0 ≤ s) (hn : 0 < w.length) : ∀ (word : List Nat) (st : Std), rc w s (twice word) st = rc w s word st
  | [], _ => rfl
  | x :: word, st => by
    show minL ((stepsFrom w st [x] s).map fun e => rc w s (x :: twice word) e.2.1 + e.2.2) = minL ((stepsFrom w st [x] s).map fun e => rc w s word e.2.1 + e.2.2)
    refine congrArg minL (List.map_congr_left fun e he => ?_)
    obtain ⟨m1, m2, m3⟩ := mem_steps.mp he
    obtain ⟨g1, g2, g3⟩ := turnsTo_some hn m1
    obtain ⟨b0, b1⟩ := emod_bd (z := st.1 + e.1) (m := (w.length : Int)) (by omega)
    have hx : At w ((st.1 + e.1) % (w.length : Int)) = x := by
      rw [← g3]
      have h3 := Int.emod_add_mul_ediv (st.1 + e.1) (w.length : Int)
      exact At_mod (-((st.1 + e.1) / (w.length : Int))) (by rw [Int.mul_neg]; omega)
    rw [m2]
    show rc w s (x :: twice word) ((st.1 + e.1) % (w.length : Int), wayOf e.1 st.2) + _ = rc w s word ((st.1 + e.1) % (w.length : Int), wayOf e.1 st.2) + _
    rw [rc_again hs hn b0 b1 hx, rc_twice hs hn word _]
end Sw
local macro_rules | `(tactic| walk_at "go1") => `(tactic| first
  | with_reducible refine Sw.h_seqasg ?_
  | with_reducible refine Sw.h_op ?_
  | with_reducible refine Sw.h_varS rfl ?_
  | with_reducible refine Sw.h_varO rfl ?_
  | with_reducible refine Sw.h_c ?_
  | with_reducible refine Sw.h_I0 ?_
  | with_reducible refine Sw.h_cons ?_
  | with_reducible refine Sw.h_consT rfl ?_
  | with_reducible refine Sw.h_consC rfl ?_
  | with_reducible refine Sw.h_nil ?_
  | with_reducible refine Sw.h_call ?_
  | with_reducible refine Sw.h_un ?_
  | with_reducible refine Sw.h_test ?_
  | with_reducible refine Sw.h_bl ?_
  | with_reducible refine Sw.h_seqdrop ?_
  | with_reducible refine Sw.h_asS ?_
  | with_reducible refine Sw.h_asO ?_
  | with_reducible refine Sw.h_ne1 ?_
  | with_reducible refine Sw.h_ne2 ?_
  | with_reducible refine Sw.h_asg ?_
  | with_reducible refine Sw.h_drop ?_
  | with_reducible refine Sw.h_ret ?_
  | with_reducible refine Sw.h_retS rfl ?_
  | with_reducible refine Sw.h_retO rfl ?_
  | with_reducible refine Sw.h_retN ?_
  | with_reducible refine Sw.h_next ?_
  | with_reducible refine Sw.h_if ?_
  | with_reducible refine Sw.h_frzO rfl ?_
  | with_reducible refine Sw.h_frzS rfl ?_
  | with_reducible refine Sw.h_and ?_
  | with_reducible refine Sw.h_or ?_
  | with_reducible refine Sw.h_not ?_
  | with_reducible refine Sw.h_yes ?_
  | with_reducible refine Sw.h_andV ?_
  | with_reducible refine Sw.h_orV ?_
  | with_reducible refine Sw.h_notV ?_
  | with_reducible refine Sw.h_ifE ?_
  | with_reducible refine Sw.h_chain ?_
  | with_reducible refine Sw.h_lenC rfl ?_
  | with_reducible refine Sw.h_tup ?_
  | with_reducible refine Sw.h_lst ?_
  | with_reducible refine Sw.h_shs0 ?_
  | with_reducible refine Sw.h_shs1 ?_
  | with_reducible refine Sw.h_shs2 ?_
  | with_reducible refine Sw.h_shs3 ?_
  | with_reducible refine Sw.h_shs4 ?_
  | with_reducible refine Sw.h_sl ?_
  | with_reducible refine Sw.h_nopart ?_
  | with_reducible refine Sw.h_part ?_
  | with_reducible refine Sw.h_int ?_
  | with_reducible refine Sw.h_neg ?_
  | with_reducible refine Sw.h_S ?_
  | with_reducible refine Sw.h_inSign ?_
  | with_reducible refine Sw.h_notInSign ?_
  | with_reducible refine Sw.h_isN ?_
  | with_reducible refine Sw.h_notN ?_
  | with_reducible refine Sw.h_eq rfl ?_
  | with_reducible refine Sw.h_ne rfl ?_
  | with_reducible refine Sw.h_lenL ?_
  | with_reducible refine Sw.h_lenT ?_
  | with_reducible refine Sw.h_abs ?_
  | with_reducible refine Sw.h_max2 ?_
  | with_reducible refine Sw.h_min2 ?_
  | with_reducible refine Sw.h_int1b ?_
  | with_reducible refine Sw.h_sum ?_
  | with_reducible refine Sw.h_listOf ?_
  | with_reducible refine Sw.h_slL ?_
  | with_reducible refine Sw.h_slT ?_
  | with_reducible refine Sw.h_revL ?_
  | with_reducible refine Sw.h_newK ?_
  | with_reducible refine Sw.h_newT ?_
  | with_reducible refine Sw.h_seqfor ?_
  | with_reducible refine Sw.h_seqforD ?_
  | with_reducible refine Sw.h_dispT ?_
  | with_reducible refine Sw.h_LM ?_
  | with_reducible refine Sw.h_for ?_
  | with_reducible refine Sw.h_iList ?_
  | with_reducible refine Sw.h_iTup ?_
  | with_reducible refine Sw.h_iStr ?_
  | with_reducible refine Sw.h_iR1 ?_
  | with_reducible refine Sw.h_iR2 ?_
  | with_reducible refine Sw.h_iR3 ?_
  | with_reducible refine Sw.h_iEnum ?_
  | with_reducible refine Sw.h_iZip ?_
  | with_reducible refine Sw.h_iZipS ?_
  | with_reducible refine Sw.h_lst1 ?_
  | with_reducible refine Sw.h_tup1 ?_
  | with_reducible refine Sw.h_str1 ?_
  | with_reducible refine Sw.h_lc ?_
  | with_reducible refine Sw.h_gN ?_
  | with_reducible refine Sw.h_gT rfl ?_
  | with_reducible refine Sw.h_gC ?_
  | with_reducible refine Sw.h_gE ?_
  | with_reducible refine Sw.h_asgG ?_
  | with_reducible refine Sw.h_forD ?_
  | with_reducible refine Sw.h_raise ?_
  | with_reducible refine Sw.h_seqasgG ?_
  | with_reducible refine Sw.h_seqfrzO rfl ?_
  | with_reducible refine Sw.h_seqfrzS rfl ?_
  | with_reducible refine Sw.h_isi rfl rfl ?_
  | with_reducible refine Sw.h_ixT rfl ?_
  | with_reducible refine Sw.h_seq1 ?_
  | with_reducible refine L2.iteT ?_ | with_reducible refine L2.iteF ?_ | with_reducible refine Sw.iteNT ?_ | with_reducible refine Sw.iteNF ?_ | refine Sw.h_np rfl ?_)
local macro_rules | `(tactic| walk_at "go") => `(tactic| repeat walk_at "go1")
local macro_rules | `(tactic| walk_at "sz") => `(tactic| first
  | omega
  | decide
  | (simp only [List.length_append, List.length_map, List.length_cons, List.length_nil, List.length_take, List.length_drop, List.length_reverse, List.length_set, List.length_replicate, List.length_range]; omega)
  | (refine Nat.le_trans (Sw.cut_len _ _ _) ?_; omega))
local macro_rules | `(tactic| walk_at "gx1") => `(tactic| first
  | walk_at "go1"
  | refine Sw.c_draw (by omega) (by omega) (fun _ _ _ => ?_)
  | refine Sw.c_letters (by omega) (by omega) (by omega) (by omega) (fun _ _ _ => ?_)
  | refine Sw.c_wheel (by omega) (by omega) (fun _ _ _ _ => ?_)
  | refine Sw.c_word (by walk_at "sz") (by walk_at "sz") (by omega) (by omega) (fun _ _ _ => ?_)
  | refine Sw.c_bent (by walk_at "sz") (by assumption) (fun _ _ _ => ?_)
  | refine Sw.c_lis_word (by walk_at "sz") (by assumption) ?_
  | refine Sw.h_sc rfl ?_
  | refine Sw.h_lenS (by walk_at "sz") ?_
  | refine Sw.h_slS (by walk_at "sz") ?_
  | refine Sw.h_addS (by walk_at "sz") ?_
  | refine Sw.h_I (by omega) ?_
  | refine Sw.h_I (Sw.cm (by omega) (by omega) (by omega) (by omega)) ?_
  | refine Sw.h_I (Sw.cd (by omega) (by omega)) ?_
  | refine Sw.h_I ⟨by decide, by decide, by decide⟩ ?_
  | refine Sw.h_gT rfl ?_
  | refine Sw.h_ixT rfl ?_
  | refine Sw.h_ixL rfl ?_
  | refine Sw.h_appE rfl ?_
  | refine Sw.h_appK rfl (by decide) (by walk_at "sz") ?_
  | refine Sw.h_setLE rfl ?_
  | refine Sw.h_putTE rfl ?_
  | refine Sw.h_putKE rfl ?_
  | refine Sw.h_tupOf ?_
  | refine Sw.h_listOfT ?_
  | refine Sw.h_orS ?_
  | refine And.intro (by omega) (And.intro (by omega) ?_))
local macro_rules | `(tactic| walk_at "gx") => `(tactic| repeat walk_at "gx1")
namespace Sw
open PySem PySem.Spec PyProof.Rows L2 SX
def psp_in_glass : PSp := fun as Q E => ∃ w : List Nat, as = [.sh (.str w)] ∧ w.length ≤ 1000000 ∧ (isWheel w = true → Q .sh (.str (glassW w))) ∧ (isWheel w = false → E 11)
theorem ln_in_glass {as : List Ar} {Q : Md → D → Prop} {E : Nat → Prop} (h : psp_in_glass as Q E) : as.length = 1 := by obtain ⟨_, rfl, _⟩ := h; rfl
def t_in_glass (K : PySem.W.Frag) (c : Cl) (E : XK) : TS :=
  (tSeq (tDrop (tCall (lift K c psp_look_at_wheel) [] E (tCons (tVar 0) tNil)))
  (tRet (tOp rAddS (tSl rSlS (tVar 0) tNoPart (tPart (tC (.int 1)))) (tRevS (tSl rSlS (tVar 0) (tPart (tC (.int 1))) tNoPart)))))
def q_in_glass (Ep : XP) : QS :=
  (qSeq (qDrop (qCall psp_look_at_wheel Ep (qCons (qVar 0) qNil)))
  (qRet (qOp pAddS (qSl pSlS (qVar 0) qNoPart (qPart (qC (.int 1)))) (qUn pRevS (qSl pSlS (qVar 0) (qPart (qC (.int 1))) qNoPart)))))
theorem sim_in_glass {K : PySem.W.Frag} {c : Cl} (t : Option Addr) (E : XK) (Ep : XP) : SimS K c t (fun _ => E) Ep (t_in_glass K c E) (q_in_glass Ep) :=
  (s_seq (s_drop (s_callX (s_cons (s_var 0) s_nil)))
  (s_ret (s_op o_addS (s_sl o_slS (s_var 0) s_noPart (s_part (s_c fun _ => rfl))) (s_revS (s_sl o_slS (s_var 0) (s_part (s_c fun _ => rfl)) s_noPart)))))

theorem pr_in_glass {as : List Ar} {Q : Md → D → Prop} {E : Nat → Prop} (h : psp_in_glass as Q E) : q_in_glass (fun _ n => E n) { nx := fun _ => Q .sh .non, rt := Q } (dstart 1 as) := by
  obtain ⟨w, rfl, hl, q, ex⟩ := h
  show q_in_glass _ _ [some (.sh (.str w))]
  unfold q_in_glass
  walk_at "go"
  refine ⟨.str w, rfl, hl, fun h1 => h_sc rfl ?_, fun h1 => ex h1⟩
  have q := q h1
  obtain ⟨_, w30, _⟩ := isWheel_iff.mp (show isWheel w = true from h1)
  walk_at "go"
  refine h_slS (by omega) ?_
  walk_at "go"
  refine h_slS (by omega) ?_
  have c1 := cut_len w none (some 1)
  have c2 := cut_len w (some 1) none
  refine ⟨_, rfl, by omega, ?_⟩
  refine h_addS (by rw [List.length_reverse]; omega) ?_
  walk_at "go"
  rw [cut_from w (show (0 : Int) ≤ 1 by decide), cut_to w (show (0 : Int) ≤ 1 by decide)]
  exact q
theorem rd_in_glass {K : PySem.W.Frag} {c : Cl} {vs : List V} {H : Hp} {Q : VK} {E : XK} (h : lift K c psp_in_glass vs H Q E) : t_in_glass K c E { nx := fun _ H' => Q .non H', rt := Q } (start ["wheel"] vs) H :=
  rd_of (ts := fun e => t_in_glass K c e) (qs := fun ep => q_in_glass ep) (fun t e ep => sim_in_glass t e ep) (fun as Qp Ep h => Nat.le_trans (Nat.le_of_eq (ln_in_glass h)) (by decide)) (fun as Qp Ep h => pr_in_glass h) h

def gE (n : Int) (e : Std × Int) : Std × Int := (gst n e.1, e.2)
def psp_law_glass : PSp := fun as Q _ => ∃ (e : Std × Int) (n : Int), as = [.sh (encT3 e), .sh (.int n)] ∧ 0 < n ∧ Q .sh (encT3 (gE n e))
theorem ln_law_glass {as : List Ar} {Q : Md → D → Prop} {E : Nat → Prop} (h : psp_law_glass as Q E) : as.length = 2 := by obtain ⟨_, _, rfl, _⟩ := h; rfl
def t_law_glass (K : PySem.W.Frag) (c : Cl) : TS :=
  (tRet (tTup (tCons (tOp rMod (tOp rSub (tVar 1) (tOp (rIxT K) (tVar 0) (tC (.int 0)))) (tVar 1)) (tCons (tOp rSub (tC (.int 0)) (tOp (rIxT K) (tVar 0) (tC (.int 1)))) (tCons (tOp (rIxT K) (tVar 0) (tC (.int 2))) tNil)))))
def q_law_glass : QS :=
  (qRet (qTup (qCons (qOp pMod (qOp pSub (qVar 1) (qOp pIxT (qVar 0) (qC (.int 0)))) (qVar 1)) (qCons (qOp pSub (qC (.int 0)) (qOp pIxT (qVar 0) (qC (.int 1)))) (qCons (qOp pIxT (qVar 0) (qC (.int 2))) qNil)))))
theorem sim_law_glass {K : PySem.W.Frag} {c : Cl} (t : Option Addr) (E : XK) (Ep : XP) : SimS K c t (fun _ => E) Ep (t_law_glass K c) q_law_glass :=
  (s_ret (s_tup (s_cons (s_op o_mod (s_op o_sub (s_var 1) (s_op o_ixT (s_var 0) (s_c fun _ => rfl))) (s_var 1)) (s_cons (s_op o_sub (s_c fun _ => rfl) (s_op o_ixT (s_var 0) (s_c fun _ => rfl))) (s_cons (s_op o_ixT (s_var 0) (s_c fun _ => rfl)) s_nil)))))

theorem pr_law_glass {as : List Ar} {Q : Md → D → Prop} {E : Nat → Prop} (h : psp_law_glass as Q E) : q_law_glass { nx := fun _ => Q .sh .non, rt := Q } (dstart 2 as) := by
  obtain ⟨e, n, rfl, hn, q⟩ := h
  show q_law_glass _ [some (.sh (.tup [.int e.1.1, .int e.1.2, .int e.2])), some (.sh (.int n))]
  unfold q_law_glass
  walk_at "go"
  refine h_I hn ?_
  walk_at "go"
  have e1 : encT3 (gE n e) = .tup [.int ((n - e.1.1) % n), .int (0 - e.1.2), .int e.2] := by
    unfold encT3 gE gst
    rw [Int.zero_sub]
  rw [e1] at q
  exact q
theorem rd_law_glass {K : PySem.W.Frag} {c : Cl} {vs : List V} {H : Hp} {Q : VK} {E : XK} (h : lift K c psp_law_glass vs H Q E) : t_law_glass K c { nx := fun _ H' => Q .non H', rt := Q } (start ["one", "many"] vs) H :=
  rd_of (ts := fun _ => t_law_glass K c) (qs := fun _ => q_law_glass) (fun t e ep => sim_law_glass t e ep) (fun as Qp Ep h => Nat.le_trans (Nat.le_of_eq (ln_law_glass h)) (by decide)) (fun as Qp Ep h => pr_law_glass h) h

theorem run_at {w : List Nat} {s : Int} (hn : 0 < w.length) {a b : Std} {word : List Nat} {ts : List Int} {c : Int} (r : Run w s a word ts b c) : ∀ (i : Nat) (t : Int) (x : Nat), ts[i]? = some t → word[i]? = some x → At w (posL w.length a.1 (ts.take i) + t) = x := by
  induction r with
  | nil a => intro i t x h; simp at h
  | @cons a b y u word ts c ht r ih =>
    intro i t x h1 h2
    cases i with
    | zero =>
      cases h1
      cases h2
      exact (turnsTo_some hn ht).2.2
    | succ i => exact ih i t x (by simpa using h1) (by simpa using h2)
theorem posL_snoc (n : Nat) (t : Int) : ∀ (p : Int) (ts : List Int), posL n p (ts ++ [t]) = (posL n p ts + t) % (n : Int)
  | p, [] => rfl
  | p, u :: ts => posL_snoc n t ((p + u) % (n : Int)) ts
theorem perm_eq {α : Type} {le : α → α → Prop} : ∀ {l m : List α}, l.Perm m → (∀ a ∈ l, ∀ b ∈ l, le a b → le b a → a = b) → l.Pairwise le → m.Pairwise le → l = m
  | [], m, h, _, _, _ => (List.nil_perm.mp h).symm
  | a :: l, [], h, _, _, _ => (List.perm_nil.mp h)
  | a :: l, b :: m, h, anti, h1, h2 => by
    rw [List.pairwise_cons] at h1 h2
    have e : a = b := by
      rcases List.mem_cons.mp (h.mem_iff.mp List.mem_cons_self) with z | z
      · exact z
      · rcases List.mem_cons.mp (h.mem_iff.mpr (List.mem_cons_self : b ∈ b :: m)) with y | y
        · exact y.symm
        · exact anti a List.mem_cons_self b (List.mem_cons_of_mem _ y) (h1.1 b y) (h2.1 a z)
    subst e
    rw [perm_eq h.cons_inv (fun x hx y hy => anti x (List.mem_cons_of_mem _ hx) y (List.mem_cons_of_mem _ hy)) h1.2 h2.2]
theorem lex_anti {a b : Std} (h1 : lexLe a b) (h2 : lexLe b a) : a = b := by
  unfold lexLe at h1 h2
  exact Prod.ext (by omega) (by omega)
theorem tab_uniq {w : List Nat} {s : Int} {word : List Nat} {T1 T2 : List Row} (h1 : IsTab w s word T1) (h2 : IsTab w s word T2) : T1 = T2 := by
  apply List.ext_getElem?
  intro k
  by_cases hk : k < word.length + 1
  · have e1 := List.getElem?_eq_getElem (l := T1) (i := k) (by rw [h1.len]; exact hk)
    have e2 := List.getElem?_eq_getElem (l := T2) (i := k) (by rw [h2.len]; exact hk)
    rw [e1, e2]
    refine congrArg some ?_
    have p1 := h1.perm k _ e1
    have p2 := h2.perm k _ e2
    refine perm_eq (le := fun e f => lexLe e.1 f.1) (p1.trans p2.symm) (fun a ha b hb l1 l2 => ?_) (List.pairwise_map.mp (h1.asc k _ e1)) (List.pairwise_map.mp (h2.asc k _ e2))
    have hk := lex_anti l1 l2
    have va := (valI_mem (rowI_nd w s 0 (word.take k)) (st := a.1) (c := a.2)).mp (p1.mem_iff.mp ha)
    have vb := (valI_mem (rowI_nd w s 0 (word.take k)) (st := b.1) (c := b.2)).mp (p1.mem_iff.mp hb)
    rw [hk, vb] at va
    exact Prod.ext hk (Option.some.inj va).symm
  · rw [List.getElem?_eq_none (by rw [h1.len]; omega), List.getElem?_eq_none (by rw [h2.len]; omega)]
theorem row_glass {w : List Nat} (h : 0 < w.length) (s : Int) (word : List Nat) : ((rowI w s 0 word).map (gE w.length)).Perm (rowI (glassW w) s 0 word) := by
  have hg : 0 < (glassW w).length := by rw [glass_len]; exact h
  have ok := rowI_ok (w := w) (s := s) (p := 0) h (Int.le_refl _) (by omega) word
  have okg := rowI_ok (w := glassW w) (s := s) (p := 0) hg (Int.le_refl _) (by omega) word
  have nd1 : (rowI w s 0 word).Nodup := List.Pairwise.of_map (·.1) (fun a b z => fun y => z (by rw [y])) ok.1
  have nd2 : (rowI (glassW w) s 0 word).Nodup := List.Pairwise.of_map (·.1) (fun a b z => fun y => z (by rw [y])) okg.1
  have hn : (0 : Int) < (w.length : Int) := by omega
  refine (List.perm_ext_iff_of_nodup ?_ nd2).mpr fun e => ?_
  · rw [List.Nodup, List.pairwise_map]
    refine List.Pairwise.imp_of_mem (fun {a b} ha hb z y => z ?_) nd1
    have sa := ok.2 a ha
    have sb := ok.2 b hb
    have e1 : gst (w.length : Int) a.1 = gst (w.length : Int) b.1 := (congrArg Prod.fst y : (gE (w.length : Int) a).1 = (gE (w.length : Int) b).1)
    have e2 : a.2 = b.2 := (congrArg Prod.snd y : (gE (w.length : Int) a).2 = (gE (w.length : Int) b).2)
    refine Prod.ext ?_ e2
    rw [← gst_two hn sa.1 sa.2.1, ← gst_two hn sb.1 sb.2.1, e1]
  · constructor
    · intro he
      obtain ⟨f, hf, rfl⟩ := List.mem_map.mp he
      have sf := ok.2 f hf
      refine (valI_mem okg.1).mpr ?_
      rw [val_glass h sf.1 sf.2.1]
      exact (valI_mem ok.1).mp hf
    · intro he
      have se := okg.2 e he
      rw [glass_len] at se
      have v := (valI_mem okg.1 (st := e.1) (c := e.2)).mp he
      have vg := val_glass (w := glassW w) hg (s := s) (word := word) (st := e.1) se.1 (by rw [glass_len]; exact se.2.1)
      rw [glass_two, glass_len, v] at vg
      refine List.mem_map.mpr ⟨(gst w.length e.1, e.2), (valI_mem ok.1).mpr vg, ?_⟩
      unfold gE
      exact Prod.ext (gst_two hn se.1 se.2.1) rfl
def decT3 : D → Std × Int
  | .tup [.int a, .int b, .int c] => ((a, b), c)
  | _ => ((0, 0), 0)
theorem dec_enc (e : Std × Int) : decT3 (encT3 e) = e := rfl
theorem lt3 (a b : Std × Int) : PySem.W.dataLt (toPy (encT3 a)) (toPy (encT3 b)) = decide (([a.1.1, a.1.2, a.2] : List Int) < [b.1.1, b.1.2, b.2]) := PySem.W.dataLt_ints [a.1.1, a.1.2, a.2] [b.1.1, b.1.2, b.2]
theorem h_sort3 {L : List (Std × Int)} {Q : Md → D → Prop} (hl : L.length ≤ 1000000) (q : ∀ R : Row, R.Perm L → (R.map (·.1)).Pairwise lexLe → Q .ow (.lst (R.map encT3))) : pSortD (.lst (L.map encT3)) Q := by
  refine ⟨L.map encT3, rfl, flatDL_all fun d hd => by obtain ⟨e, _, rfl⟩ := List.mem_map.mp hd; rfl, ?_, ?_, by rw [List.length_map]; exact hl, fun d hd => by obtain ⟨e, _, rfl⟩ := List.mem_map.mp hd; exact Nat.le_of_ble_eq_true rfl, fun so hp hs => ?_⟩
  · intro x hx y hy
    obtain ⟨d, hd, rfl⟩ := List.mem_map.mp hx
    obtain ⟨e, _, rfl⟩ := List.mem_map.mp hd
    obtain ⟨d', hd', rfl⟩ := List.mem_map.mp hy
    obtain ⟨e', _, rfl⟩ := List.mem_map.mp hd'
    rfl
  · refine .inl fun x hx => ?_
    obtain ⟨d, hd, rfl⟩ := List.mem_map.mp hx
    obtain ⟨e, _, rfl⟩ := List.mem_map.mp hd
    exact ⟨_, _, rfl⟩
  · have e1 : so = (so.map decT3).map encT3 := by
      rw [List.map_map]
      have e2 : so.map (encT3 ∘ decT3) = so.map id := List.map_congr_left fun d hd => by
        obtain ⟨e, _, rfl⟩ := List.mem_map.mp (hp.mem_iff.mp hd)
        rfl
      rw [e2, List.map_id]
    have p1 : (so.map decT3).Perm L := by
      have := hp.map decT3
      rw [List.map_map] at this
      have e2 : L.map (decT3 ∘ encT3) = L.map id := List.map_congr_left fun e _ => rfl
      rw [e2, List.map_id] at this
      exact this
    rw [e1] at hs ⊢
    refine q _ p1 ?_
    rw [List.pairwise_map] at hs ⊢
    refine List.Pairwise.imp ?_ hs
    intro a b h
    rw [lt3, decide_eq_false_iff_not] at h
    unfold lexLe
    apply Classical.byContradiction
    intro z
    apply h
    rw [List.cons_lt_cons_iff]
    by_cases y : b.1.1 < a.1.1
    · exact .inl y
    · refine .inr ⟨by omega, ?_⟩
      rw [List.cons_lt_cons_iff]
      exact .inl (by omega)
theorem due_errS {w word : List Nat} {s : Int} (h1 : 1 ≤ w.length) (h2 : w.length ≤ 30) (h3 : Low w) (h4 : word.length ≤ 80) (h5 : Low word) (h6 : ∀ c ∈ word, c ∈ w) (h7 : 0 ≤ s) (h8 : s ≤ 9) : errandDue w word s = none := by
  unfold errandDue
  rw [if_neg (by rw [isWheel_iff.mpr ⟨h1, h2, h3⟩]; decide), if_neg (by rw [isWord_iff.mpr ⟨h4, h5⟩]; decide), if_neg (fun z => z ⟨h7, h8⟩), if_neg]
  rw [List.all_eq_true.mpr fun c hc => decide_eq_true (h6 c hc)]
  decide
theorem c_least {w word : List Nat} {s : Int} {as : List Ar} {Q : Md → D → Prop} {E : Nat → Prop} (d : errandDue w word s = none) (e : as = [.sh (.str w), .sh (.str word), .sh (.int s)]) (q : Q .sh (.int (rc w s word (0, 0)))) : psp_least_cost as Q E := by
  obtain ⟨⟨_, w2, _⟩, ⟨d1, _⟩, _⟩ := errand_ok d
  exact ⟨w, word, s, e, by omega, by omega, by rw [d]; exact q⟩
theorem c_many {w word : List Nat} {s : Int} {as : List Ar} {Q : Md → D → Prop} {E : Nat → Prop} (d : errandDue w word s = none) (e : as = [.sh (.str w), .sh (.str word), .sh (.int s)]) (q : Q .sh (.int (rn w s word (0, 0)))) : psp_many_least as Q E := by
  obtain ⟨⟨_, w2, _⟩, ⟨d1, _⟩, _⟩ := errand_ok d
  exact ⟨w, word, s, e, by omega, by omega, by rw [d]; exact q⟩
theorem c_plan {w word : List Nat} {s : Int} {as : List Ar} {Q : Md → D → Prop} {E : Nat → Prop} (d : errandDue w word s = none) (e : as = [.sh (.str w), .sh (.str word), .sh (.int s)]) (q : Q .ow (.lst ((planI w s word (0, 0)).map .int))) : psp_least_plan as Q E := by
  obtain ⟨⟨_, w2, _⟩, ⟨d1, _⟩, _⟩ := errand_ok d
  exact ⟨w, word, s, e, by omega, by omega, by rw [d]; exact q⟩
theorem c_table {w word : List Nat} {s : Int} {as : List Ar} {Q : Md → D → Prop} {E : Nat → Prop} (d : errandDue w word s = none) (e : as = [.sh (.str w), .sh (.str word), .sh (.int s)]) (q : ∀ T, IsTab w s word T → Q .ow (.lst (T.map fun R => .lst (R.map encT3)))) : psp_table as Q E := by
  obtain ⟨⟨_, w2, _⟩, ⟨d1, _⟩, _⟩ := errand_ok d
  exact ⟨w, word, s, e, by omega, by omega, by rw [d]; exact q⟩
theorem nc_tab (T : List Row) : Nc 3 (.lst (T.map fun R => .lst (R.map encT3))) := nc_lst fun R _ => nc_lst fun e _ => nc_tupC (nc_int _ _) (nc_tupC (nc_int _ _) (nc_tupC (nc_int _ _) nc_tup0))
def triF (n : Int) : D → D := fun d => encT3 (gE n (decT3 d))
theorem triF_map (n : Int) (R : Row) : (R.map encT3).map (triF n) = (R.map (gE n)).map encT3 := by rw [List.map_map, List.map_map]; rfl
def negF : D → D := fun d => match d with | .int i => .int (0 - i) | _ => .non
theorem negF_int (i : Int) : negF (.int i) = .int (0 - i) := rfl
theorem negF_map (ts : List Int) : (ts.map D.int).map negF = (ts.map fun t => -t).map D.int := by
  rw [List.map_map, List.map_map]
  refine List.map_congr_left fun t _ => ?_
  show D.int (0 - t) = D.int (-t)
  rw [Int.zero_sub]
def dblF : D → D := fun d => match d with | .str l => .str (l ++ l) | _ => .non
theorem dblF_str (l : List Nat) : dblF (.str l) = .str (l ++ l) := rfl
theorem dblF_map (word : List Nat) : (word.map fun c => D.str [c]).map dblF = (word.map fun c => [c, c]).map D.str := by rw [List.map_map, List.map_map]; rfl
theorem twice_flat (word : List Nat) : (word.map fun c => [c, c]).flatten = twice word := by unfold twice; rw [List.flatMap_def]
theorem twice_len : ∀ word : List Nat, (twice word).length = 2 * word.length
  | [] => rfl
  | c :: l => by
    show (c :: c :: twice l).length = _
    rw [List.length_cons, List.length_cons, List.length_cons, twice_len l]
    omega
def t_law (K : PySem.W.Frag) (c : Cl) : TS :=
  (tSeq (tAsg (tCall (lift K c psp_law_draws) [] E0 (tCons (tVar 0) (tCons (tC (.int 0)) tNil))) (gName 1))
  (tSeq (tAsg (tCall (lift K c psp_law_draw) [] E0 (tCons (tVar 1) (tCons (tC (.int 9)) tNil))) (gName 2))
  (tSeq (tAsg (tCall (lift K c psp_law_wheel) [] E0 (tCons (tVar 1) (tCons (tOp (rIxL K) (tLst (tCons (tC (.int 8)) (tCons (tC (.int 30)) tNil))) (tCall (lift K c psp_law_draw) [] E0 (tCons (tVar 1) (tCons (tC (.int 2)) tNil)))) tNil))) (gName 3))
  (tSeq (tAsg (tCall (lift K c psp_law_word) [] E0 (tCons (tVar 1) (tCons (tVar 3) (tCons (tC (.int 40)) tNil)))) (gName 4))
  (tSeq (tAsg (tCB rLenStr (tCons (tVar 3) tNil)) (gName 5))
  (tSeq (tAsg (tCall (lift K c psp_in_glass) [] E0 (tCons (tVar 3) tNil)) (gName 6))
  (tSeq (tAsg (tCall (lift K c psp_least_cost) [] E0 (tCons (tVar 3) (tCons (tVar 4) (tCons (tVar 2) tNil)))) (gName 7))
  (tSeq (tIfS (tTest (tOp rNe (tCall (lift K c psp_least_cost) [] E0 (tCons (tVar 6) (tCons (tVar 4) (tCons (tVar 2) tNil)))) (tVar 7))) (tRet (tC (.bl false))) tNext)
  (tSeq (tIfS (tTest (tOp rNe (tCall (lift K c psp_many_least) [] E0 (tCons (tVar 6) (tCons (tVar 4) (tCons (tVar 2) tNil)))) (tCall (lift K c psp_many_least) [] E0 (tCons (tVar 3) (tCons (tVar 4) (tCons (tVar 2) tNil)))))) (tRet (tC (.bl false))) tNext)
  (tSeq (tAsg (tLst tNil) (gName 8))
  (tSeq (tFor (iList K (tCall (lift K c psp_table) [] E0 (tCons (tVar 3) (tCons (tVar 4) (tCons (tVar 2) tNil))))) (gName 9)
  (tDrop (tBM K "list" rAppend (tVar 8) (tCons (tCB (rSortD K) (tCons (tLc (iList K (tVar 9)) (gName 18) tYes (tCall (lift K c psp_law_glass) [] E0 (tCons (tVar 18) (tCons (tVar 5) tNil))) [18]) tNil)) tNil))))
  (tSeq (tIfS (tTest (tOp (rNeD K) (tCall (lift K c psp_table) [] E0 (tCons (tVar 6) (tCons (tVar 4) (tCons (tVar 2) tNil)))) (tVar 8))) (tRet (tC (.bl false))) tNext)
  (tSeq (tAsg (tLc (iList K (tCall (lift K c psp_least_plan) [] E0 (tCons (tVar 6) (tCons (tVar 4) (tCons (tVar 2) tNil))))) (gName 10) tYes (tOp rSub (tC (.int 0)) (tVar 10)) [10]) (gName 11))
  (tSeq (tAsg (tC (.int 0)) (gName 12))
  (tSeq (tFor (iZipS K (tCons (tVar 11) (tCons (tVar 4) tNil))) (gTup K 2 (gCons (gName 10) (gCons (gName 13) gNil)))
  (tSeq (tAsg (tOp rMod (tOp rAdd (tVar 12) (tVar 10)) (tVar 5)) (gName 12))
  (tIfS (tTest (tOp rNe (tOp rIxS (tVar 3) (tVar 12)) (tVar 13))) (tRet (tC (.bl false))) tNext)))
  (tSeq (tIfS (tTest (tOp rNe (tCall (lift K c psp_law_cost) [] E0 (tCons (tVar 11) (tCons (tVar 2) tNil))) (tVar 7))) (tRet (tC (.bl false))) tNext)
  (tSeq (tAsg (tOp rAdd (tOp rAdd (tVar 2) (tC (.int 1))) (tCall (lift K c psp_law_draw) [] E0 (tCons (tVar 1) (tCons (tOp rSub (tC (.int 9)) (tVar 2)) tNil)))) (gName 14))
  (tSeq (tAsg (tCall (lift K c psp_least_cost) [] E0 (tCons (tVar 3) (tCons (tVar 4) (tCons (tVar 14) tNil)))) (gName 15))
  (tSeq (tIfS (tNot (tTest (tChain rLe rLe (tVar 7) (tVar 15) (tOp rAdd (tVar 7) (tOp rMulW (tOp rSub (tVar 14) (tVar 2)) (tCB rLenStr (tCons (tVar 4) tNil))))))) (tRet (tC (.bl false))) tNext)
  (tSeq (tAsg (tCall (lift K c psp_law_draw) [] E0 (tCons (tVar 1) (tCons (tOp rAdd (tCB rLenStr (tCons (tVar 4) tNil)) (tC (.int 1))) tNil))) (gName 16))
  (tSeq (tIfS (tOr (tTest (tOp rGt (tCall (lift K c psp_least_cost) [] E0 (tCons (tVar 3) (tCons (tSl rSlS (tVar 4) tNoPart (tPart (tVar 16))) (tCons (tVar 2) tNil)))) (tVar 7))) (tTest (tOp rGt (tOp (rIxT K) (tCall (lift K c psp_best_start) [] E0 (tCons (tVar 3) (tCons (tVar 4) (tCons (tVar 2) tNil)))) (tC (.int 1))) (tVar 7)))) (tRet (tC (.bl false))) tNext)
  (tSeq (tAsg (tM1 (rJoin K) (tC (.str "")) (tLc (iStr (tVar 4)) (gName 13) tYes (tOp rAddS (tVar 13) (tVar 13)) [13])) (gName 17))
  (tRet (tOp rEq (tCall (lift K c psp_least_cost) [] E0 (tCons (tVar 3) (tCons (tVar 17) (tCons (tVar 2) tNil)))) (tVar 7)))))))))))))))))))))))))
def q_law : QS :=
  (qSeq (qAsg (qCall psp_law_draws P0 (qConsC 0 (qCons (qC (.int 0)) qNil))) 1)
  (qMount 1 (qSeq (qAsg (qCall psp_law_draw P0 (qConsT 1 (qCons (qC (.int 9)) qNil))) 2)
  (qSeq (qAsg (qCall psp_law_wheel P0 (qConsT 1 (qCons (qOp pIxL (qLst (qCons (qC (.int 8)) (qCons (qC (.int 30)) qNil))) (qCall psp_law_draw P0 (qConsT 1 (qCons (qC (.int 2)) qNil)))) qNil))) 3)
  (qSeq (qAsg (qCall psp_law_word P0 (qConsT 1 (qCons (qVar 3) (qCons (qC (.int 40)) qNil)))) 4)
  (qSeq (qAsg (qUn pLenS (qVar 3)) 5)
  (qSeq (qAsg (qCall psp_in_glass P0 (qCons (qVar 3) qNil)) 6)
  (qSeq (qAsg (qCall psp_least_cost P0 (qCons (qVar 3) (qCons (qVar 4) (qCons (qVar 2) qNil)))) 7)
  (qSeq (qIfS (qTest (qOp pNe (qCall psp_least_cost P0 (qCons (qVar 6) (qCons (qVar 4) (qCons (qVar 2) qNil)))) (qVar 7))) (qRet (qC (.bl false))) qNext)
  (qSeq (qIfS (qTest (qOp pNe (qCall psp_many_least P0 (qCons (qVar 6) (qCons (qVar 4) (qCons (qVar 2) qNil)))) (qCall psp_many_least P0 (qCons (qVar 3) (qCons (qVar 4) (qCons (qVar 2) qNil)))))) (qRet (qC (.bl false))) qNext)
  (qSeq (qAsg (qLst qNil) 8)
  (qSeq (qFor (qiList (qCall psp_table P0 (qCons (qVar 3) (qCons (qVar 4) (qCons (qVar 2) qNil))))) (qgName 9)
  (qAppS 8 (qUn pSortD (qLc (qiList (qVar 9)) (qgName 18) qYes (qCall psp_law_glass P0 (qCons (qVar 18) (qCons (qVar 5) qNil))) [18]))))
  (qSeq (qIfS (qTest (qOp pNeD (qCall psp_table P0 (qCons (qVar 6) (qCons (qVar 4) (qCons (qVar 2) qNil)))) (qVar 8))) (qRet (qC (.bl false))) qNext)
  (qSeq (qAsg (qLc (qiList (qCall psp_least_plan P0 (qCons (qVar 6) (qCons (qVar 4) (qCons (qVar 2) qNil))))) (qgName 10) qYes (qOp pSub (qC (.int 0)) (qVar 10)) [10]) 11)
  (qSeq (qAsg (qC (.int 0)) 12)
  (qSeq (qFrz 11 (qFor (qiZipS (qVar 11) (qVar 4)) (qgTup 2 (qgCons (qgName 10) (qgCons (qgName 13) qgNil)))
  (qSeq (qAsg (qOp pMod (qOp pAdd (qVar 12) (qVar 10)) (qVar 5)) 12)
  (qIfS (qTest (qOp pNe (qOp pIxS (qVar 3) (qVar 12)) (qVar 13))) (qRet (qC (.bl false))) qNext))))
  (qSeq (qIfS (qTest (qOp pNe (qCall psp_law_cost P0 (qCons (qVar 11) (qCons (qVar 2) qNil))) (qVar 7))) (qRet (qC (.bl false))) qNext)
  (qSeq (qAsg (qOp pAdd (qOp pAdd (qVar 2) (qC (.int 1))) (qCall psp_law_draw P0 (qConsT 1 (qCons (qOp pSub (qC (.int 9)) (qVar 2)) qNil)))) 14)
  (qSeq (qAsg (qCall psp_least_cost P0 (qCons (qVar 3) (qCons (qVar 4) (qCons (qVar 14) qNil)))) 15)
  (qSeq (qIfS (qNot (qTest (qChain pLe pLe (qVar 7) (qVar 15) (qOp pAdd (qVar 7) (qOp pMulW (qOp pSub (qVar 14) (qVar 2)) (qUn pLenS (qVar 4))))))) (qRet (qC (.bl false))) qNext)
  (qSeq (qAsg (qCall psp_law_draw P0 (qConsT 1 (qCons (qOp pAdd (qUn pLenS (qVar 4)) (qC (.int 1))) qNil))) 16)
  (qSeq (qIfS (qOr (qTest (qOp pGt (qCall psp_least_cost P0 (qCons (qVar 3) (qCons (qSl pSlS (qVar 4) qNoPart (qPart (qVar 16))) (qCons (qVar 2) qNil)))) (qVar 7))) (qTest (qOp pGt (qOp pIxT (qCall psp_best_start P0 (qCons (qVar 3) (qCons (qVar 4) (qCons (qVar 2) qNil)))) (qC (.int 1))) (qVar 7)))) (qRet (qC (.bl false))) qNext)
  (qSeq (qAsg (qUn (pJoinC []) (qLc (qiStr (qVar 4)) (qgName 13) qYes (qOp pAddS (qVar 13) (qVar 13)) [13])) 17)
  (qRet (qOp pEq (qCall psp_least_cost P0 (qCons (qVar 3) (qCons (qVar 17) (qCons (qVar 2) qNil)))) (qVar 7))))))))))))))))))))))))))
theorem sim_law {K : PySem.W.Frag} {c : Cl} : SimF K (t_law K c) q_law :=
  (f_seq (SimF.of c fun _ _ _ => (s_asg (s_call0 (s_consC (s_cons (s_c fun _ => rfl) s_nil)))))
  (f_mount (i := 1) (SimF.of c fun _ _ _ => (s_seq (s_asg (s_call0 (s_consT (s_cons (s_c fun _ => rfl) s_nil))))
  (s_seq (s_asg (s_call0 (s_consT (s_cons (s_op o_ixL (s_lst (s_cons (s_c fun _ => rfl) (s_cons (s_c fun _ => rfl) s_nil))) (s_call0 (s_consT (s_cons (s_c fun _ => rfl) s_nil)))) s_nil))))
  (s_seq (s_asg (s_call0 (s_consT (s_cons (s_var 3) (s_cons (s_c fun _ => rfl) s_nil)))))
  (s_seq (s_asg (s_cb1 (r := rLenStr) o_lenS (s_var 3)))
  (s_seq (s_asg (s_call0 (s_cons (s_var 3) s_nil)))
  (s_seq (s_asg (s_call0 (s_cons (s_var 3) (s_cons (s_var 4) (s_cons (s_var 2) s_nil)))))
  (s_seq (s_ifS (s_test (s_op o_ne (s_call0 (s_cons (s_var 6) (s_cons (s_var 4) (s_cons (s_var 2) s_nil)))) (s_var 7))) (s_ret (s_c fun _ => rfl)) s_next)
  (s_seq (s_ifS (s_test (s_op o_ne (s_call0 (s_cons (s_var 6) (s_cons (s_var 4) (s_cons (s_var 2) s_nil)))) (s_call0 (s_cons (s_var 3) (s_cons (s_var 4) (s_cons (s_var 2) s_nil)))))) (s_ret (s_c fun _ => rfl)) s_next)
  (s_seq (s_asg (s_lst s_nil))
  (s_seq (s_for (si_list (s_call0 (s_cons (s_var 3) (s_cons (s_var 4) (s_cons (s_var 2) s_nil))))) sg_name
  (s_app K (i := 8) (s_cb1 (r := (rSortD K)) o_sortD (s_lc (si_list (s_var 9)) sg_name (by decide) s_yes (s_call0 (s_cons (s_var 18) (s_cons (s_var 5) s_nil)))))))
  (s_seq (s_ifS (s_test (s_op o_neD (s_call0 (s_cons (s_var 6) (s_cons (s_var 4) (s_cons (s_var 2) s_nil)))) (s_var 8))) (s_ret (s_c fun _ => rfl)) s_next)
  (s_seq (s_asg (s_lc (si_list (s_call0 (s_cons (s_var 6) (s_cons (s_var 4) (s_cons (s_var 2) s_nil))))) sg_name (by decide) s_yes (s_op o_sub (s_c fun _ => rfl) (s_var 10))))
  (s_seq (s_asg (s_c fun _ => rfl))
  (s_seq (s_frz (i := 11) (s_for (si_zipS (s_var 11) (s_var 4)) (sg_tup (sg_cons sg_name (sg_cons sg_name sg_nil)))
  (s_seq (s_asg (s_op o_mod (s_op o_add (s_var 12) (s_var 10)) (s_var 5)))
  (s_ifS (s_test (s_op o_ne (s_op o_ixS (s_var 3) (s_var 12)) (s_var 13))) (s_ret (s_c fun _ => rfl)) s_next))))
  (s_seq (s_ifS (s_test (s_op o_ne (s_call0 (s_cons (s_var 11) (s_cons (s_var 2) s_nil))) (s_var 7))) (s_ret (s_c fun _ => rfl)) s_next)
  (s_seq (s_asg (s_op o_add (s_op o_add (s_var 2) (s_c fun _ => rfl)) (s_call0 (s_consT (s_cons (s_op o_sub (s_c fun _ => rfl) (s_var 2)) s_nil)))))
  (s_seq (s_asg (s_call0 (s_cons (s_var 3) (s_cons (s_var 4) (s_cons (s_var 14) s_nil)))))
  (s_seq (s_ifS (s_not (s_test (s_chain o_le o_le (s_var 7) (s_var 15) (s_op o_add (s_var 7) (s_op o_mulW (s_op o_sub (s_var 14) (s_var 2)) (s_cb1 (r := rLenStr) o_lenS (s_var 4))))))) (s_ret (s_c fun _ => rfl)) s_next)
  (s_seq (s_asg (s_call0 (s_consT (s_cons (s_op o_add (s_cb1 (r := rLenStr) o_lenS (s_var 4)) (s_c fun _ => rfl)) s_nil))))
  (s_seq (s_ifS (s_or (s_test (s_op o_gt (s_call0 (s_cons (s_var 3) (s_cons (s_sl o_slS (s_var 4) s_noPart (s_part (s_var 16))) (s_cons (s_var 2) s_nil)))) (s_var 7))) (s_test (s_op o_gt (s_op o_ixT (s_call0 (s_cons (s_var 3) (s_cons (s_var 4) (s_cons (s_var 2) s_nil)))) (s_c fun _ => rfl)) (s_var 7)))) (s_ret (s_c fun _ => rfl)) s_next)
  (s_seq (s_asg (s_joinC (congrArg V.str (by decide +kernel : (PySem.Str.ofString "") = S [])) (s_lc (si_str (s_var 4)) sg_name (by decide) s_yes (s_op o_addS (s_var 13) (s_var 13)))))
  (s_ret (s_op o_eq (s_call0 (s_cons (s_var 3) (s_cons (s_var 17) (s_cons (s_var 2) s_nil)))) (s_var 7)))))))))))))))))))))))))))

theorem pr_law (ns : List Int) (hn : ns.length ≤ 63) : q_law { nx := fun _ => False, rt := fun m d => m = .sh ∧ d = .bl true } (dstart 19 [.sc ns]) := by
  show q_law _ [some (.sc ns), none, none, none, none, none, none, none, none, none, none, none, none, none, none, none, none, none, none]
  unfold q_law
  walk_at "go"
  refine ⟨ns, _, rfl, hn, by decide, by decide, ?_⟩
  walk_at "go"
  refine ⟨rfl, ?_⟩
  show qSeq _ _ _ [some (.sc ns), some .tp, none, none, none, none, none, none, none, none, none, none, none, none, none, none, none, none, none]
  walk_at "go"
  refine c_draw (by decide) (by decide) fun s s0 s1 => ?_
  walk_at "go"
  refine c_draw (by decide) (by decide) fun r r0 r1 => ?_
  refine h_pick (fun d => ∃ z : Int, d = .int z ∧ 1 ≤ z ∧ z ≤ 30) r0 r1 (all2 ⟨_, rfl, by decide, by decide⟩ (all1 ⟨_, rfl, by decide, by decide⟩)) ?_
  rintro _ ⟨z, rfl, z1, z2⟩
  walk_at "go"
  refine c_wheel (by omega) (by omega) fun w w1 w2 low => ?_
  walk_at "go"
  refine c_word w1 (by omega) (by decide) (by decide) fun word hwl win => ?_
  have wlow : Low word := fun c hc => low c (win c hc)
  have iw : isWheel w = true := isWheel_iff.mpr ⟨w1, by omega, low⟩
  have due : ∀ (s' : Int) (word' : List Nat), 0 ≤ s' → s' ≤ 9 → word'.length ≤ 80 → (∀ c ∈ word', c ∈ w) → errandDue w word' s' = none := fun s' word' h1 h2 h3 h4 => due_errS w1 (by omega) low h3 (fun c hc => low c (h4 c hc)) h4 h1 h2
  have dw := due s word s0 (by omega) (by omega) win
  have dg : errandDue (glassW w) word s = none := due_errS (by rw [glass_len]; exact w1) (by rw [glass_len]; omega) (fun c hc => low c (glass_mem.mp hc)) (by omega) wlow (fun c hc => glass_mem.mpr (win c hc)) s0 (by omega)
  obtain ⟨gc1, gc2⟩ := glass_cost (w := w) w1 s word
  walk_at "go"
  refine h_lenS (by omega) ?_
  walk_at "go"
  refine ⟨w, rfl, by omega, fun _ => h_sc rfl ?_, fun y => by rw [iw] at y; cases y⟩
  walk_at "go"
  refine c_least dw rfl (h_sc rfl ?_)
  walk_at "go"
  refine c_least dg rfl (h_sc rfl ?_)
  walk_at "go"
  rw [decide_eq_true gc1]
  walk_at "go"
  refine c_many dg rfl (h_sc rfl ?_)
  walk_at "go"
  refine c_many dw rfl (h_sc rfl ?_)
  walk_at "go"
  rw [decide_eq_true gc2]
  walk_at "go"
  refine c_table dw rfl fun T hT => ?_
  walk_at "go"
  refine loop_inv (fun i δ => ∃ Tg : List Row, Tg.length = i ∧ (∀ (k : Nat) (R : Row), Tg[k]? = some R → R.Perm (rowI (glassW w) s 0 (word.take k)) ∧ (R.map (·.1)).Pairwise lexLe) ∧ ∃ (v0 v9 v10 v11 v12 v13 v14 v15 v16 v17 v18 : Option SV), δ = [v0, some (.tp), some (.sh (.int s)), some (.sh (.str w)), some (.sh (.str word)), some (.sh (.int (w.length : Int))), some (.sh (.str (glassW w))), some (.sh (.int (rc w s word (0, 0)))), some (.ow (.lst (Tg.map fun R => .lst (R.map encT3)))), v9, v10, v11, v12, v13, v14, v15, v16, v17, v18]) ⟨[], rfl, (fun k R h => by simp at h), _, _, _, _, _, _, _, _, _, _, _, rfl⟩ (fun i d δ' N hd hI hN => ?_) (fun δ' hI => ?_)
  · obtain ⟨Tg, hTg, hTk, v0, v9, v10, v11, v12, v13, v14, v15, v16, v17, v18, rfl⟩ := hI
    obtain ⟨R, hR, rfl⟩ := map_at' hd
    have hi : i < word.length + 1 := by rw [← hT.len]; exact (List.getElem?_eq_some_iff.mp hR).1
    have hp := hT.perm i R hR
    have hl : R.length ≤ 1000 := by
      have h1 := row_len (rowI_ok (w := w) (s := s) (p := 0) (by omega) (Int.le_refl 0) (by omega) (word.take i))
      rw [hp.length_eq]
      omega
    walk_at "go"
    refine h_appE rfl ?_
    walk_at "go"
    refine lc_map (triF (w.length : Int)) (by rw [List.length_map]; omega) (fun d K n hd hn' hk => ?_) ?_
    · obtain ⟨e, _, rfl⟩ := List.mem_map.mp hd
      walk_at "go"
      refine ⟨e, _, rfl, by omega, ?_⟩
      walk_at "go"
      exact ⟨hn', hk⟩
    rw [triF_map]
    refine h_sort3 (by rw [List.length_map]; omega) fun R' hp' hs' => ?_
    have hpg : R'.Perm (rowI (glassW w) s 0 (word.take i)) := hp'.trans ((hp.map _).trans (row_glass w1 s (word.take i)))
    refine h_appK rfl (by decide) (by rw [List.length_map]; omega) (hN _ ⟨Tg ++ [R'], by rw [List.length_append, hTg]; rfl, fun k R2 h2 => ?_, ?_⟩)
    · by_cases hk : k < Tg.length
      · rw [List.getElem?_append_left hk] at h2
        exact hTk k R2 h2
      · rw [List.getElem?_append_right (by omega)] at h2
        have hk0 : k - Tg.length = 0 := by
          have := (List.getElem?_eq_some_iff.mp h2).1
          simp at this
          omega
        rw [hk0] at h2
        cases h2
        have : k = i := by omega
        subst this
        exact ⟨hpg, hs'⟩
    · rw [List.map_append]
      exact ⟨_, _, _, _, _, _, _, _, _, _, _, rfl⟩
  obtain ⟨Tg, hTg, hTk, v0, v9, v10, v11, v12, v13, v14, v15, v16, v17, v18, rfl⟩ := hI
  rw [List.length_map, hT.len] at hTg
  have hTab : IsTab (glassW w) s word Tg := ⟨hTg, fun k R h => (hTk k R h).1, fun k R h => (hTk k R h).2⟩
  walk_at "go"
  refine c_table dg rfl fun T2 hT2 => ?_
  rw [tab_uniq hT2 hTab]
  walk_at "go"
  refine h_neR (nc_tab Tg) (by decide) ?_
  walk_at "go"
  refine c_plan dg rfl ?_
  have hpl := planI_len (w := glassW w) (s := s) (word := word) (st := (0, 0)) (fun c hc => glass_mem.mpr (win c hc))
  obtain ⟨b, hrun⟩ := planI_run (w := glassW w) (s := s) word (0, 0) (fun c hc => glass_mem.mpr (win c hc))
  have hrun2 := run_glass (w := glassW w) (by rw [glass_len]; exact w1) hrun
  rw [glass_two, gst0, gc1] at hrun2
  walk_at "go"
  refine lc_map negF (by rw [List.length_map, hpl]; omega) (fun d K n hd hn' hk => ?_) ?_
  · obtain ⟨t, _, rfl⟩ := List.mem_map.mp hd
    rw [negF_int] at hk
    walk_at "go"
    exact ⟨hn', hk⟩
  rw [negF_map]
  have htl : ((planI (glassW w) s word (0, 0)).map fun t => -t).length = word.length := by rw [List.length_map, hpl]
  generalize (planI (glassW w) s word (0, 0)).map (fun t => -t) = ts at hrun2 htl
  walk_at "go"
  refine ⟨_, _, rfl, rfl, by decide, ?_⟩
  refine loop_inv (fun i δ => ∃ (v0 v6 v8 v9 v10 v13 v14 v15 v16 v17 v18 : Option SV), δ = [v0, some (.tp), some (.sh (.int s)), some (.sh (.str w)), some (.sh (.str word)), some (.sh (.int (w.length : Int))), v6, some (.sh (.int (rc w s word (0, 0)))), v8, v9, v10, some (.sh (.lst (ts.map .int))), some (.sh (.int (posL w.length 0 (ts.take i)))), v13, v14, v15, v16, v17, v18]) ⟨_, _, _, _, _, _, _, _, _, _, _, rfl⟩ (fun i d δ' N hd hI hN => ?_) (fun δ' hI => ?_)
  · obtain ⟨v0, v6, v8, v9, v10, v13, v14, v15, v16, v17, v18, rfl⟩ := hI
    obtain ⟨⟨p1, p2⟩, hp, rfl⟩ := map_at' hd
    obtain ⟨hp1, hp2⟩ := List.getElem?_zip_eq_some.mp hp
    obtain ⟨t, ht, rfl⟩ := map_at' hp1
    obtain ⟨x, hx, rfl⟩ := map_at' hp2
    have hat := run_at w1 hrun2 i t x ht hx
    rw [take_snoc ht, posL_snoc] at hN
    have hat' : At w (posL w.length 0 (ts.take i) + t) = x := hat
    generalize posL w.length 0 (ts.take i) = pl at hat' hN
    obtain ⟨b0, b1⟩ := emod_bd (z := pl + t) (m := (w.length : Int)) (by omega)
    refine h_gT rfl ?_
    walk_at "go"
    refine h_I (by omega) ?_
    walk_at "go"
    refine h_ixS (by omega) (getD_at b0 b1) ?_
    walk_at "go"
    rw [decide_eq_true (show [w.getD ((pl + t) % (w.length : Int)).toNat 0] = [x] by rw [← hat']; rfl)]
    walk_at "go"
    exact hN _ ⟨_, _, _, _, _, _, _, _, _, _, _, rfl⟩
  obtain ⟨v0, v6, v8, v9, v10, v13, v14, v15, v16, v17, v18, rfl⟩ := hI
  walk_at "go"
  refine ⟨ts, s, rfl, s0, by omega, h_sc rfl ?_⟩
  walk_at "go"
  rw [decide_eq_true (show cst s 0 ts = rc w s word (0, 0) from (run_cost hrun2).symm)]
  walk_at "go"
  refine c_draw (by omega) (by omega) fun mo m0 m1 => ?_
  walk_at "go"
  obtain ⟨d, hd0, hd1, ed⟩ : ∃ d : Int, 0 ≤ d ∧ d ≤ 9 ∧ s + 1 + mo = s + d := ⟨1 + mo, by omega, by omega, by omega⟩
  rw [ed]
  obtain ⟨sl1, sl2⟩ := slack_more (w := w) (s := s) hd0 word (0, 0)
  have dmo := due (s + d) word (by omega) (by omega) (by omega) win
  refine c_least dmo rfl (h_sc rfl ?_)
  walk_at "go"
  rw [decide_eq_true sl1]
  walk_at "go"
  refine h_lenS (by omega) ?_
  walk_at "go"
  refine h_I (cm (by omega) (by omega) (by omega) (by omega)) ?_
  walk_at "go"
  have esd : s + d - s = d := by omega
  rw [esd, decide_eq_true sl2]
  walk_at "go"
  refine h_lenS (by omega) ?_
  walk_at "go"
  refine c_draw (by omega) (by omega) fun a a0 a1 => ?_
  walk_at "go"
  refine h_slS (by omega) ?_
  walk_at "go"
  rw [cut_to word a0]
  refine c_least (due s (word.take a.toNat) s0 (by omega) (by rw [List.length_take]; omega) (fun c hc => win c (List.mem_of_mem_take hc))) rfl (h_sc rfl ?_)
  walk_at "go"
  have htk := rc_take (w := w) s0 word a.toNat (0, 0)
  rw [decide_eq_false (show ¬ rc w s word (0, 0) < rc w s (word.take a.toNat) (0, 0) by omega)]
  walk_at "go"
  refine ⟨w, word, s, rfl, by omega, by omega, ?_⟩
  rw [dw]
  refine h_np rfl ?_
  have hst : minL (startCosts w s word) ≤ rc w s word (0, 0) := minL_le (List.mem_map.mpr ⟨0, List.mem_range.mpr w1, rfl⟩)
  generalize minL (startCosts w s word) = ml at hst
  walk_at "go"
  refine h_ixT rfl ?_
  walk_at "go"
  rw [decide_eq_false (show ¬ rc w s word (0, 0) < ml by omega)]
  walk_at "go"
  refine lc_map dblF (by rw [List.length_map]; omega) (fun d K n hd hn' hk => ?_) ?_
  · obtain ⟨c, _, rfl⟩ := List.mem_map.mp hd
    rw [dblF_str] at hk
    walk_at "go"
    refine h_addS (Nat.le_of_ble_eq_true rfl) ?_
    walk_at "go"
    exact ⟨hn', hk⟩
  rw [dblF_map]
  have tlen := twice_len word
  refine h_joinF (by
    rw [List.map_map]
    have := tlen
    rw [← twice_flat, List.length_flatten, List.map_map] at this
    rw [this]
    omega) ?_
  rw [twice_flat]
  walk_at "go"
  refine c_least (due s (twice word) s0 (by omega) (by omega) (fun c hc => by
    obtain ⟨x, hx, hc'⟩ := List.mem_flatMap.mp hc
    have : c = x := by simpa using hc'
    rw [this]
    exact win x hx)) rfl (h_sc rfl ?_)
  walk_at "go"
  rw [decide_eq_true (rc_twice (w := w) s0 w1 word (0, 0))]
  exact ⟨rfl, rfl⟩
theorem rd_law {K : PySem.W.Frag} {c : Cl} {vs : List V} {H : Hp} {Q : VK} {E : XK} (h : sp_law K vs H Q E) : t_law K c { nx := fun _ H' => Q .non H', rt := Q } (start ["script", "draws", "slack", "wheel", "word", "many", "glass", "least", "told", "row", "turn", "turns", "place", "sign", "more", "greater", "at", "doubled", "one"] vs) H :=
  law_rd (N := ["script", "draws", "slack", "wheel", "word", "many", "glass", "least", "told", "row", "turn", "turns", "place", "sign", "more", "greater", "at", "doubled", "one"]) (sim_law) (by decide) (fun ns hn => pr_law ns hn) h

end Sw
namespace Sw
open PySem PySem.Spec PyProof.Rows L2 SX
def topS (i : Nat) : Stmt := PySem.Challenge.pw_strikewheel_k10_whole_turned_and_glass_c.main.body.getD i (.Pass ⟨0, 0, 0, 0⟩)
abbrev s_law_draws : Stmt := topS 35
abbrev s_law_draw : Stmt := topS 36
abbrev s_law_letters : Stmt := topS 37
abbrev s_law_wheel : Stmt := topS 38
abbrev s_law_word : Stmt := topS 39
abbrev s_are_signs : Stmt := topS 9
abbrev s_is_word : Stmt := topS 10
abbrev s_is_wheel : Stmt := topS 13
abbrev s_look_at_wheel : Stmt := topS 14
abbrev s_in_glass : Stmt := topS 15
abbrev s_look_at_word : Stmt := topS 18
abbrev s_look_at_slack : Stmt := topS 19
abbrev s_look_at_errand : Stmt := topS 23
abbrev s_turns_to : Stmt := topS 24
abbrev s_way_of : Stmt := topS 20
abbrev s_step_cost : Stmt := topS 21
abbrev s_steps_from : Stmt := topS 25
abbrev s_rows_from : Stmt := topS 26
abbrev s_least_cost : Stmt := topS 28
abbrev s_rests : Stmt := topS 29
abbrev s_many_least : Stmt := topS 31
abbrev s_table : Stmt := topS 27
abbrev s_law_glass : Stmt := topS 42
abbrev s_least_plan : Stmt := topS 30
abbrev s_law_step : Stmt := topS 40
abbrev s_law_cost : Stmt := topS 41
abbrev s_costs_from_all : Stmt := topS 32
abbrev s_best_start : Stmt := topS 33
abbrev s_law : Stmt := topS 43
structure Bl (mg : Str → Option Value) : Prop where
  abs : mg "abs" = none
  int : mg "int" = none
  isinstance : mg "isinstance" = none
  len : mg "len" = none
  list : mg "list" = none
  max : mg "max" = none
  min : mg "min" = none
  range : mg "range" = none
  sorted : mg "sorted" = none
  str : mg "str" = none
  sum : mg "sum" = none
  zip : mg "zip" = none
  c_LETTERS : ∃ u, mg "LETTERS" = some u ∧ RelV (V.str "abcdefghijklmnopqrstuvwxyz") u
  c_MOST_PLACES : ∃ u, mg "MOST_PLACES" = some u ∧ RelV (V.int 30) u
  c_MOST_SIGNS : ∃ u, mg "MOST_SIGNS" = some u ∧ RelV (V.int 80) u
  c_MOST_SLACK : ∃ u, mg "MOST_SLACK" = some u ∧ RelV (V.int 9) u
structure Xf (K : PySem.W.Frag) (mg : Str → Option Value) (c : Cl) : Prop where
  g_Lacks : mg "Lacks" = some (.ref c.Lacks)
  g_NoSlack : mg "NoSlack" = some (.ref c.NoSlack)
  g_NoWheel : mg "NoWheel" = some (.ref c.NoWheel)
  g_NoWord : mg "NoWord" = some (.ref c.NoWord)
  x_Lacks : PySem.W.excIn K c.Lacks [.type "ValueError", .type "Exception", .type "BaseException", .type "object"] "ValueError.__new__" = true
  k_Lacks : PySem.W.keepIn K (.ref c.Lacks) = true
  b_Lacks : PySem.W.subIn K (.ref c.Lacks) (.type "BaseException") = some true
  t_Lacks : PySem.W.typeIn K (.ref c.Lacks) = some (.type "type")
  x_NoSlack : PySem.W.excIn K c.NoSlack [.type "ValueError", .type "Exception", .type "BaseException", .type "object"] "ValueError.__new__" = true
  k_NoSlack : PySem.W.keepIn K (.ref c.NoSlack) = true
  b_NoSlack : PySem.W.subIn K (.ref c.NoSlack) (.type "BaseException") = some true
  t_NoSlack : PySem.W.typeIn K (.ref c.NoSlack) = some (.type "type")
  x_NoWheel : PySem.W.excIn K c.NoWheel [.type "ValueError", .type "Exception", .type "BaseException", .type "object"] "ValueError.__new__" = true
  k_NoWheel : PySem.W.keepIn K (.ref c.NoWheel) = true
  b_NoWheel : PySem.W.subIn K (.ref c.NoWheel) (.type "BaseException") = some true
  t_NoWheel : PySem.W.typeIn K (.ref c.NoWheel) = some (.type "type")
  x_NoWord : PySem.W.excIn K c.NoWord [.type "ValueError", .type "Exception", .type "BaseException", .type "object"] "ValueError.__new__" = true
  k_NoWord : PySem.W.keepIn K (.ref c.NoWord) = true
  b_NoWord : PySem.W.subIn K (.ref c.NoWord) (.type "BaseException") = some true
  t_NoWord : PySem.W.typeIn K (.ref c.NoWord) = some (.type "type")
section
variable {P : Program} {w : World} {K : PySem.W.Frag} {mg : Str → Option Value} {base : Heap} {c : Cl}
theorem sc_law_draws : FnScope ["script", "k", "primes", "cell", "seed"] ["script", "k"] (defScope s_law_draws) := ⟨rfl, rfl, rfl, by decide +kernel, rfl, by decide +kernel, by decide +kernel⟩
theorem ok_law_draws {f : Addr} {fd : FuncData} (F : L2.Fun K "_law_draws" "_law_draws" s_law_draws f fd) (g : mg "_law_draws" = some (.ref f)) (b : Binds K fd ["script", "k"] []) (B : Bl mg) (X : Xf K mg c)  : Cal P w K mg base 1 "_law_draws" (lift K c psp_law_draws) :=
  ⟨f, fd, ["script", "k"], F.ok sc_law_draws (fun vs H Q E h => ln_lift ln_p_law_draws h) (fun cdv A outer s H vs Q E hr h => have hu := hu_of hr; ⟨t_law_draws K, (pss_cons (ps_set (i := 2) sc_law_draws.nd rfl (Or.inl rfl) (pe_tup (pa_cons pe_int (pa_cons pe_int (pa_cons pe_int (pa_cons pe_int (pa_cons pe_int (pa_cons pe_int (pa_cons pe_int (pa_cons pe_int pa_nil))))))))))
      (pss_cons (ps_set (i := 3) sc_law_draws.nd rfl (Or.inl rfl) (pe_op op_add (pe_op op_mulW pe_int (pv 1)) pe_int))
      (pss_cons (ps_if (pt_cmpR op_lt (pv 1) (pe_callB call_len_seq (by rfl) B.len (by decide +kernel) (pa_cons (pv 0) pa_nil)) (nomark _)) (pss_one (ps_set (i := 3) sc_law_draws.nd rfl (Or.inl rfl) (pe_op op_mod (pe_ix ix_list (pv 0) (pv 1) (fun _ _ => rfl)) (pe_op op_mulW (pe_op op_pow pe_int pe_int) (pe_op op_pow pe_int pe_int))))) (pss_one (ps_if (pt_cmpR op_gt (pe_callB call_len_seq (by rfl) B.len (by decide +kernel) (pa_cons (pv 0) pa_nil)) pe_int (nomark _)) (pss_one (ps_set (i := 3) sc_law_draws.nd rfl (Or.inl rfl) (pe_op op_add (pe_op op_mod (pe_ix ix_list (pv 0) (pe_op op_mod (pv 1) (pe_callB call_len_seq (by rfl) B.len (by decide +kernel) (pa_cons (pv 0) pa_nil))) (fun _ _ => rfl)) (pe_op op_pow pe_int pe_int)) (pe_op op_mulW pe_int (pv 1))))) pss_nil)))
      (pss_cons (ps_set (i := 4) sc_law_draws.nd rfl (Or.inl rfl) (pe_op op_mod (pe_op op_mulW (pe_op op_add (pe_op op_add (pe_op op_mod (pv 3) pe_int) (pe_op op_mulW pe_int (pv 1))) pe_int) (pe_op op_add pe_int (pe_op op_mulW (pe_op op_mulW pe_int (pv 1)) (pv 1)))) pe_int))
      (pss_cons (ps_set (i := 4) sc_law_draws.nd rfl (Or.inl rfl) (pe_op op_add (pe_op op_add (pe_op op_mod (pe_op op_mulW (pe_op op_mulW (pv 4) (pv 4)) (pv 4)) pe_int) (pv 1)) pe_int))
      (pss_one (ps_ret (pe_lst (pa_cons (pe_op op_mulW (pv 3) (pe_callTy call_int1 (by rfl) B.int (by decide +kernel) (pa_cons (pe_cmpR op_ge (pv 3) (pe_op op_pow pe_int pe_int) (nomark _)) pa_nil))) (pa_cons (pv 4) (pa_cons (pe_ix ix_tup (pv 2) (pe_op op_mod (pv 1) pe_int) (fun _ _ => rfl)) pa_nil))))))))))), rd_law_draws (E := E0) (old_law_draws h)⟩), g, F.kp, b⟩
theorem sc_law_draw : FnScope ["draws", "many", "found"] ["draws", "many"] (defScope s_law_draw) := ⟨rfl, rfl, rfl, by decide +kernel, rfl, by decide +kernel, by decide +kernel⟩
theorem ok_law_draw {f : Addr} {fd : FuncData} (F : L2.Fun K "_law_draw" "_law_draw" s_law_draw f fd) (g : mg "_law_draw" = some (.ref f)) (b : Binds K fd ["draws", "many"] []) (B : Bl mg) (X : Xf K mg c)  : Cal P w K mg base 1 "_law_draw" (lift K c psp_law_draw) :=
  ⟨f, fd, ["draws", "many"], F.ok sc_law_draw (fun vs H Q E h => ln_lift ln_p_law_draw h) (fun cdv A outer s H vs Q E hr h => have hu := hu_of hr; ⟨t_law_draw K, (pss_cons (ps_if (pt_cmpR op_gt (pe_ix ix_list (pv 0) pe_int (fun _ _ => rfl)) pe_int (nomark _)) (pss_cons (ps_set (i := 2) sc_law_draw.nd rfl (Or.inl rfl) (pe_op op_mod (pe_ix ix_list (pv 0) pe_int (fun _ _ => rfl)) (pv 1)))
      (pss_cons (ps_asg (pe_op op_fdivW (pe_ix ix_list (pv 0) pe_int (fun _ _ => rfl)) (pv 1)) (pg_sub (pv 0) pe_int set_list))
      (pss_one (ps_ret (pv 2))))) pss_nil)
      (pss_cons (ps_asg (pe_op op_add (pe_op op_mod (pe_op op_mulW (pe_ix ix_list (pv 0) pe_int (fun _ _ => rfl)) pe_int) (pe_ix ix_list (pv 0) pe_int (fun _ _ => rfl))) pe_int) (pg_sub (pv 0) pe_int set_list))
      (pss_one (ps_ret (pe_op op_mod (pe_op op_fdivW (pe_op op_mod (pe_op op_mulW (pe_ix ix_list (pv 0) pe_int (fun _ _ => rfl)) (pe_op op_add (pe_op op_fdivW (pe_ix ix_list (pv 0) pe_int (fun _ _ => rfl)) pe_int) pe_int)) pe_int) pe_int) (pv 1)))))), rd_law_draw (E := E0) (old_law_draw h)⟩), g, F.kp, b⟩
theorem sc_law_letters : FnScope ["draws", "many", "kinds", "letters", "first", "k"] ["draws", "many", "kinds"] (defScope s_law_letters) := ⟨rfl, rfl, rfl, by decide +kernel, rfl, by decide +kernel, by decide +kernel⟩
theorem ok_law_letters {f : Addr} {fd : FuncData} (F : L2.Fun K "_law_letters" "_law_letters" s_law_letters f fd) (g : mg "_law_letters" = some (.ref f)) (b : Binds K fd ["draws", "many", "kinds"] []) (B : Bl mg) (X : Xf K mg c) (c_law_draw : Cal P w K mg base 1 "_law_draw" (lift K c psp_law_draw)) : Cal P w K mg base 2 "_law_letters" (lift K c psp_law_letters) :=
  ⟨f, fd, ["draws", "many", "kinds"], F.ok sc_law_letters (fun vs H Q E h => ln_lift ln_law_letters h) (fun cdv A outer s H vs Q E hr h => have hu := hu_of hr; ⟨t_law_letters K c, (pss_cons (ps_set (i := 3) sc_law_letters.nd rfl (Or.inr rfl) pe_str)
      (pss_cons (ps_set (i := 4) sc_law_letters.nd rfl (Or.inr rfl) (pe_cal c_law_draw hr (by decide) (by rfl) (pa_cons (pv 0) (pa_cons (pe_op op_sub pe_int (pv 2)) pa_nil))))
      (pss_one (ps_ret (pe_join pe_str (pe_lc (own := [("k", 5)]) (g := (gName 5)) (tt := tYes) (by rfl) sc_law_letters.nd (pi_range1 rfl B.range (pa_cons (pv 1) pa_nil)) (blkOk_by (own := [("k", 5)]) (N := ["draws", "many", "kinds", "letters", "first", "k"]) (sc := defScope s_law_letters) (by decide +kernel)) (fun _ _ _ _ _ => (pg_name (i := 5) sc_law_letters.nd rfl (Or.inl rfl))) (fun _ _ _ _ _ => pts_nil) (fun _ _ _ _ _ => (pe_ix ix_str (pv 3) (pe_op op_add (pv 4) (pe_cal c_law_draw hr (by decide) (by rfl) (pa_cons (pv 0) (pa_cons (pv 2) pa_nil)))) (fun _ _ => rfl))))))))), rd_law_letters h⟩), g, F.kp, b⟩
theorem sc_law_wheel : FnScope ["draws", "most", "way", "kinds", "many"] ["draws", "most"] (defScope s_law_wheel) := ⟨rfl, rfl, rfl, by decide +kernel, rfl, by decide +kernel, by decide +kernel⟩
theorem ok_law_wheel {f : Addr} {fd : FuncData} (F : L2.Fun K "_law_wheel" "_law_wheel" s_law_wheel f fd) (g : mg "_law_wheel" = some (.ref f)) (b : Binds K fd ["draws", "most"] []) (B : Bl mg) (X : Xf K mg c) (c_law_draw : Cal P w K mg base 1 "_law_draw" (lift K c psp_law_draw)) (c_law_letters : Cal P w K mg base 2 "_law_letters" (lift K c psp_law_letters)) : Cal P w K mg base 3 "_law_wheel" (lift K c psp_law_wheel) :=
  ⟨f, fd, ["draws", "most"], F.ok sc_law_wheel (fun vs H Q E h => ln_lift ln_law_wheel h) (fun cdv A outer s H vs Q E hr h => have hu := hu_of hr; ⟨t_law_wheel K c, (pss_cons (ps_set (i := 2) sc_law_wheel.nd rfl (Or.inl rfl) (pe_cal c_law_draw hr (by decide) (by rfl) (pa_cons (pv 0) (pa_cons pe_int pa_nil))))
      (pss_cons (ps_set (i := 3) sc_law_wheel.nd rfl (Or.inl rfl) (pe_ix ix_list (pe_lst (pa_cons (pe_op op_add pe_int (pe_cal c_law_draw hr (by decide) (by rfl) (pa_cons (pv 0) (pa_cons pe_int pa_nil)))) (pa_cons pe_int (pa_cons (pe_op op_add pe_int (pe_cal c_law_draw hr (by decide) (by rfl) (pa_cons (pv 0) (pa_cons pe_int pa_nil)))) (pa_cons pe_int pa_nil))))) (pe_cal c_law_draw hr (by decide) (by rfl) (pa_cons (pv 0) (pa_cons pe_int pa_nil))) (fun _ _ => rfl)))
      (pss_cons (ps_set (i := 4) sc_law_wheel.nd rfl (Or.inl rfl) (pe_ix ix_list (pe_lst (pa_cons (pe_op op_add pe_int (pe_cal c_law_draw hr (by decide) (by rfl) (pa_cons (pv 0) (pa_cons pe_int pa_nil)))) (pa_cons (pe_op op_add pe_int (pe_cal c_law_draw hr (by decide) (by rfl) (pa_cons (pv 0) (pa_cons (pv 1) pa_nil)))) (pa_cons (pv 1) (pa_cons (pe_op op_add pe_int (pe_cal c_law_draw hr (by decide) (by rfl) (pa_cons (pv 0) (pa_cons pe_int pa_nil)))) pa_nil))))) (pv 2) (fun _ _ => rfl)))
      (pss_one (ps_ret (pe_cal c_law_letters hr (by decide) (by rfl) (pa_cons (pv 0) (pa_cons (pe_callB (call_min2 rfl) (by rfl) B.min (by decide +kernel) (pa_cons (pv 4) (pa_cons (pv 1) pa_nil))) (pa_cons (pv 3) pa_nil))))))))), rd_law_wheel h⟩), g, F.kp, b⟩
theorem sc_law_word : FnScope ["draws", "wheel", "most", "many", "k"] ["draws", "wheel", "most"] (defScope s_law_word) := ⟨rfl, rfl, rfl, by decide +kernel, rfl, by decide +kernel, by decide +kernel⟩
theorem ok_law_word {f : Addr} {fd : FuncData} (F : L2.Fun K "_law_word" "_law_word" s_law_word f fd) (g : mg "_law_word" = some (.ref f)) (b : Binds K fd ["draws", "wheel", "most"] []) (B : Bl mg) (X : Xf K mg c) (c_law_draw : Cal P w K mg base 1 "_law_draw" (lift K c psp_law_draw)) : Cal P w K mg base 2 "_law_word" (lift K c psp_law_word) :=
  ⟨f, fd, ["draws", "wheel", "most"], F.ok sc_law_word (fun vs H Q E h => ln_lift ln_law_word h) (fun cdv A outer s H vs Q E hr h => have hu := hu_of hr; ⟨t_law_word K c, (pss_cons (ps_set (i := 3) sc_law_word.nd rfl (Or.inl rfl) (pe_ix ix_list (pe_lst (pa_cons (pe_cal c_law_draw hr (by decide) (by rfl) (pa_cons (pv 0) (pa_cons pe_int pa_nil))) (pa_cons (pe_cal c_law_draw hr (by decide) (by rfl) (pa_cons (pv 0) (pa_cons (pe_op op_add (pv 2) pe_int) pa_nil))) (pa_cons (pv 2) pa_nil)))) (pe_cal c_law_draw hr (by decide) (by rfl) (pa_cons (pv 0) (pa_cons pe_int pa_nil))) (fun _ _ => rfl)))
      (pss_one (ps_ret (pe_join pe_str (pe_lc (own := [("k", 4)]) (g := (gName 4)) (tt := tYes) (by rfl) sc_law_word.nd (pi_range1 rfl B.range (pa_cons (pe_callB (call_min2 rfl) (by rfl) B.min (by decide +kernel) (pa_cons (pv 3) (pa_cons (pv 2) pa_nil))) pa_nil)) (blkOk_by (own := [("k", 4)]) (N := ["draws", "wheel", "most", "many", "k"]) (sc := defScope s_law_word) (by decide +kernel)) (fun _ _ _ _ _ => (pg_name (i := 4) sc_law_word.nd rfl (Or.inl rfl))) (fun _ _ _ _ _ => pts_nil) (fun _ _ _ _ _ => (pe_ix ix_str (pv 1) (pe_cal c_law_draw hr (by decide) (by rfl) (pa_cons (pv 0) (pa_cons (pe_callB call_len_str (by rfl) B.len (by decide +kernel) (pa_cons (pv 1) pa_nil)) pa_nil))) (fun _ _ => rfl)))))))), rd_law_word h⟩), g, F.kp, b⟩
theorem sc_are_signs : FnScope ["text", "sign"] ["text"] (defScope s_are_signs) := ⟨rfl, rfl, rfl, by decide +kernel, rfl, by decide +kernel, by decide +kernel⟩
theorem ok_are_signs {f : Addr} {fd : FuncData} (F : L2.Fun K "are_signs" "are_signs" s_are_signs f fd) (g : mg "are_signs" = some (.ref f)) (b : Binds K fd ["text"] []) (B : Bl mg) (X : Xf K mg c)  : Cal P w K mg base 1 "are_signs" (lift K c psp_are_signs) :=
  ⟨f, fd, ["text"], F.ok sc_are_signs (fun vs H Q E h => ln_lift ln_are_signs h) (fun cdv A outer s H vs Q E hr h => have hu := hu_of hr; ⟨t_are_signs K c, (pss_cons (ps_for PassesOwn.never rfl (pi_str (pv 0)) (pg_name (i := 1) sc_are_signs.nd rfl (Or.inl rfl))
      (pss_one (ps_if (pt_cmpR op_notIn_sign (pv 1) (pe_gc (by rfl) B.c_LETTERS) rfl) (pss_one (ps_ret pe_bl)) pss_nil)))
      (pss_one (ps_ret pe_bl))), rd_are_signs h⟩), g, F.kp, b⟩
theorem sc_is_word : FnScope ["thing"] ["thing"] (defScope s_is_word) := ⟨rfl, rfl, rfl, by decide +kernel, rfl, by decide +kernel, by decide +kernel⟩
theorem ok_is_word {f : Addr} {fd : FuncData} (F : L2.Fun K "is_word" "is_word" s_is_word f fd) (g : mg "is_word" = some (.ref f)) (b : Binds K fd ["thing"] []) (B : Bl mg) (X : Xf K mg c) (c_are_signs : Cal P w K mg base 1 "are_signs" (lift K c psp_are_signs)) : Cal P w K mg base 2 "is_word" (lift K c psp_is_word) :=
  ⟨f, fd, ["thing"], F.ok sc_is_word (fun vs H Q E h => ln_lift ln_is_word h) (fun cdv A outer s H vs Q E hr h => have hu := hu_of hr; ⟨t_is_word K c, (pss_one (ps_ret (pe_and (pe_callB call_isi (by rfl) B.isinstance (by decide +kernel) (pa_cons (pv 0) (pa_cons (pe_bltn (v := .ty "str") (by rfl) B.str (by decide +kernel) rfl) pa_nil))) (pe_and (pe_cmpR op_le (pe_callB call_len_str (by rfl) B.len (by decide +kernel) (pa_cons (pv 0) pa_nil)) (pe_gc (by rfl) B.c_MOST_SIGNS) (nomark _)) (pe_one (pe_cal c_are_signs hr (by decide) (by rfl) (pa_cons (pv 0) pa_nil))))))), rd_is_word h⟩), g, F.kp, b⟩
theorem sc_is_wheel : FnScope ["thing"] ["thing"] (defScope s_is_wheel) := ⟨rfl, rfl, rfl, by decide +kernel, rfl, by decide +kernel, by decide +kernel⟩
theorem ok_is_wheel {f : Addr} {fd : FuncData} (F : L2.Fun K "is_wheel" "is_wheel" s_is_wheel f fd) (g : mg "is_wheel" = some (.ref f)) (b : Binds K fd ["thing"] []) (B : Bl mg) (X : Xf K mg c) (c_is_word : Cal P w K mg base 2 "is_word" (lift K c psp_is_word)) : Cal P w K mg base 3 "is_wheel" (lift K c psp_is_wheel) :=
  ⟨f, fd, ["thing"], F.ok sc_is_wheel (fun vs H Q E h => ln_lift ln_is_wheel h) (fun cdv A outer s H vs Q E hr h => have hu := hu_of hr; ⟨t_is_wheel K c, (pss_one (ps_ret (pe_and (pe_cal c_is_word hr (by decide) (by rfl) (pa_cons (pv 0) pa_nil)) (pe_one (pe_chain op_le op_le pe_int (pe_callB call_len_str (by rfl) B.len (by decide +kernel) (pa_cons (pv 0) pa_nil)) (pe_gc (by rfl) B.c_MOST_PLACES)))))), rd_is_wheel h⟩), g, F.kp, b⟩
theorem sc_look_at_wheel : FnScope ["wheel"] ["wheel"] (defScope s_look_at_wheel) := ⟨rfl, rfl, rfl, by decide +kernel, rfl, by decide +kernel, by decide +kernel⟩
theorem okx_look_at_wheel {f : Addr} {fd : FuncData} (F : L2.Fun K "look_at_wheel" "look_at_wheel" s_look_at_wheel f fd) (g : mg "look_at_wheel" = some (.ref f)) (b : Binds K fd ["wheel"] []) (B : Bl mg) (X : Xf K mg c) (c_is_wheel : Cal P w K mg base 3 "is_wheel" (lift K c psp_is_wheel)) : CalX P w K mg base 4 "look_at_wheel" (lift K c psp_look_at_wheel) :=
  ⟨f, fd, ["wheel"], okN F sc_look_at_wheel (fun vs H Q E h => ln_lift ln_look_at_wheel h) (fun cdv A outer s H vs Q E hr h => have hu := hu_of hr; ⟨t_look_at_wheel K c E, (pss_one (ps_if (pt_not (pt_val (pe_cal c_is_wheel hr (by decide) (by rfl) (pa_cons (pv 0) pa_nil)))) (pss_one (L2N.ps_raise rfl (L2N.takes_of rfl rfl rfl rfl) (L2N.pmk_own PySem.F.excBase_ValueError X.x_NoWheel X.g_NoWheel X.k_NoWheel (raises_own X.b_NoWheel X.t_NoWheel) (by exact rfl)))) pss_nil)), rd_look_at_wheel h⟩), g, F.kp, b⟩
theorem sc_in_glass : FnScope ["wheel"] ["wheel"] (defScope s_in_glass) := ⟨rfl, rfl, rfl, by decide +kernel, rfl, by decide +kernel, by decide +kernel⟩
theorem okx_in_glass {f : Addr} {fd : FuncData} (F : L2.Fun K "in_glass" "in_glass" s_in_glass f fd) (g : mg "in_glass" = some (.ref f)) (b : Binds K fd ["wheel"] []) (B : Bl mg) (X : Xf K mg c) (cx_look_at_wheel : CalX P w K mg base 4 "look_at_wheel" (lift K c psp_look_at_wheel)) : CalX P w K mg base 5 "in_glass" (lift K c psp_in_glass) :=
  ⟨f, fd, ["wheel"], okN F sc_in_glass (fun vs H Q E h => ln_lift ln_in_glass h) (fun cdv A outer s H vs Q E hr h => have hu := hu_of hr; ⟨t_in_glass K c E, (pss_cons (ps_expr (pe_calX cx_look_at_wheel hr (by decide) (by rfl) passX (pa_cons (pv 0) pa_nil)))
      (pss_one (ps_ret (pe_op op_add_str (pe_slice sl_str (pv 0) po_none (po_some pe_int)) (pe_revS (pe_slice sl_str (pv 0) (po_some pe_int) po_none)))))), rd_in_glass h⟩), g, F.kp, b⟩
theorem sc_look_at_word : FnScope ["word"] ["word"] (defScope s_look_at_word) := ⟨rfl, rfl, rfl, by decide +kernel, rfl, by decide +kernel, by decide +kernel⟩
theorem okx_look_at_word {f : Addr} {fd : FuncData} (F : L2.Fun K "look_at_word" "look_at_word" s_look_at_word f fd) (g : mg "look_at_word" = some (.ref f)) (b : Binds K fd ["word"] []) (B : Bl mg) (X : Xf K mg c) (c_is_word : Cal P w K mg base 2 "is_word" (lift K c psp_is_word)) : CalX P w K mg base 3 "look_at_word" (lift K c psp_look_at_word) :=
  ⟨f, fd, ["word"], okN F sc_look_at_word (fun vs H Q E h => ln_lift ln_look_at_word h) (fun cdv A outer s H vs Q E hr h => have hu := hu_of hr; ⟨t_look_at_word K c E, (pss_one (ps_if (pt_not (pt_val (pe_cal c_is_word hr (by decide) (by rfl) (pa_cons (pv 0) pa_nil)))) (pss_one (L2N.ps_raise rfl (L2N.takes_of rfl rfl rfl rfl) (L2N.pmk_own PySem.F.excBase_ValueError X.x_NoWord X.g_NoWord X.k_NoWord (raises_own X.b_NoWord X.t_NoWord) (by exact rfl)))) pss_nil)), rd_look_at_word h⟩), g, F.kp, b⟩
theorem sc_look_at_slack : FnScope ["slack"] ["slack"] (defScope s_look_at_slack) := ⟨rfl, rfl, rfl, by decide +kernel, rfl, by decide +kernel, by decide +kernel⟩
theorem okx_look_at_slack {f : Addr} {fd : FuncData} (F : L2.Fun K "look_at_slack" "look_at_slack" s_look_at_slack f fd) (g : mg "look_at_slack" = some (.ref f)) (b : Binds K fd ["slack"] []) (B : Bl mg) (X : Xf K mg c)  : CalX P w K mg base 1 "look_at_slack" (lift K c psp_look_at_slack) :=
  ⟨f, fd, ["slack"], okN F sc_look_at_slack (fun vs H Q E h => ln_lift ln_look_at_slack h) (fun cdv A outer s H vs Q E hr h => have hu := hu_of hr; ⟨t_look_at_slack K c E, (pss_one (ps_if (pw_or (pt_cmpR op_lt (pv 0) pe_int (nomark _)) (pw_or1 (pt_cmpR op_gt (pv 0) (pe_gc (by rfl) B.c_MOST_SLACK) (nomark _)))).pt (pss_one (L2N.ps_raise rfl (L2N.takes_of rfl rfl rfl rfl) (L2N.pmk_own PySem.F.excBase_ValueError X.x_NoSlack X.g_NoSlack X.k_NoSlack (raises_own X.b_NoSlack X.t_NoSlack) (by exact rfl)))) pss_nil)), rd_look_at_slack h⟩), g, F.kp, b⟩
theorem sc_look_at_errand : FnScope ["wheel", "word", "slack", "sign"] ["wheel", "word", "slack"] (defScope s_look_at_errand) := ⟨rfl, rfl, rfl, by decide +kernel, rfl, by decide +kernel, by decide +kernel⟩
theorem okx_look_at_errand {f : Addr} {fd : FuncData} (F : L2.Fun K "look_at_errand" "look_at_errand" s_look_at_errand f fd) (g : mg "look_at_errand" = some (.ref f)) (b : Binds K fd ["wheel", "word", "slack"] []) (B : Bl mg) (X : Xf K mg c) (cx_look_at_wheel : CalX P w K mg base 4 "look_at_wheel" (lift K c psp_look_at_wheel)) (cx_look_at_word : CalX P w K mg base 3 "look_at_word" (lift K c psp_look_at_word)) (cx_look_at_slack : CalX P w K mg base 1 "look_at_slack" (lift K c psp_look_at_slack)) : CalX P w K mg base 5 "look_at_errand" (lift K c psp_look_at_errand) :=
  ⟨f, fd, ["wheel", "word", "slack"], okN F sc_look_at_errand (fun vs H Q E h => ln_lift ln_look_at_errand h) (fun cdv A outer s H vs Q E hr h => have hu := hu_of hr; ⟨t_look_at_errand K c E, (pss_cons (ps_expr (pe_calX cx_look_at_wheel hr (by decide) (by rfl) passX (pa_cons (pv 0) pa_nil)))
      (pss_cons (ps_expr (pe_calX cx_look_at_word hr (by decide) (by rfl) passX (pa_cons (pv 1) pa_nil)))
      (pss_cons (ps_expr (pe_calX cx_look_at_slack hr (by decide) (by rfl) passX (pa_cons (pv 2) pa_nil)))
      (pss_one (ps_for (passes_of rfl) rfl (pi_str (pv 1)) (pg_name (i := 3) sc_look_at_errand.nd rfl (Or.inl rfl))
      (pss_one (ps_if (pt_cmpR op_notIn_sign (pv 3) (pv 0) rfl) (pss_one (L2N.ps_raise rfl (L2N.takes_of rfl rfl rfl rfl) (L2N.pmk_own PySem.F.excBase_ValueError X.x_Lacks X.g_Lacks X.k_Lacks (raises_own X.b_Lacks X.t_Lacks) (by exact rfl)))) pss_nil))))))), rd_look_at_errand h⟩), g, F.kp, b⟩
theorem sc_turns_to : FnScope ["wheel", "place", "sign", "many", "found", "turn"] ["wheel", "place", "sign"] (defScope s_turns_to) := ⟨rfl, rfl, rfl, by decide +kernel, rfl, by decide +kernel, by decide +kernel⟩
theorem ok_turns_to {f : Addr} {fd : FuncData} (F : L2.Fun K "turns_to" "turns_to" s_turns_to f fd) (g : mg "turns_to" = some (.ref f)) (b : Binds K fd ["wheel", "place", "sign"] []) (B : Bl mg) (X : Xf K mg c)  : Cal P w K mg base 1 "turns_to" (lift K c psp_turns_to) :=
  ⟨f, fd, ["wheel", "place", "sign"], F.ok sc_turns_to (fun vs H Q E h => ln_lift ln_turns_to h) (fun cdv A outer s H vs Q E hr h => have hu := hu_of hr; ⟨t_turns_to K c, (pss_cons (ps_set (i := 3) sc_turns_to.nd rfl (Or.inl rfl) (pe_callB call_len_str (by rfl) B.len (by decide +kernel) (pa_cons (pv 0) pa_nil)))
      (pss_cons (ps_set (i := 4) sc_turns_to.nd rfl (Or.inl rfl) (pe_lst pa_nil))
      (pss_cons (ps_for PassesOwn.never rfl (pi_range2 rfl B.range (pa_cons (pe_op op_sub pe_int (pv 3)) (pa_cons (pv 3) pa_nil))) (pg_name (i := 5) sc_turns_to.nd rfl (Or.inl rfl))
      (pss_one (ps_if (pt_cmpR op_eq (pe_ix ix_str (pv 0) (pe_op op_mod (pe_op op_add (pv 1) (pv 5)) (pv 3)) (fun _ _ => rfl)) (pv 2) (nomark _)) (pss_one (ps_expr (pe_bm PySem.F.plainAttrs_list PySem.F.slot_list_append PySem.F.type_list_append mt_append (pv 4) (pa_cons (pv 5) pa_nil)))) pss_nil)))
      (pss_one (ps_ret (pv 4)))))), rd_turns_to h⟩), g, F.kp, b⟩
theorem sc_way_of : FnScope ["turn", "way"] ["turn", "way"] (defScope s_way_of) := ⟨rfl, rfl, rfl, by decide +kernel, rfl, by decide +kernel, by decide +kernel⟩
theorem ok_way_of {f : Addr} {fd : FuncData} (F : L2.Fun K "way_of" "way_of" s_way_of f fd) (g : mg "way_of" = some (.ref f)) (b : Binds K fd ["turn", "way"] []) (B : Bl mg) (X : Xf K mg c)  : Cal P w K mg base 1 "way_of" (lift K c psp_way_of) :=
  ⟨f, fd, ["turn", "way"], F.ok sc_way_of (fun vs H Q E h => ln_lift ln_way_of h) (fun cdv A outer s H vs Q E hr h => have hu := hu_of hr; ⟨t_way_of K c, (pss_cons (ps_if (pt_cmpR op_gt (pv 0) pe_int (nomark _)) (pss_one (ps_ret pe_int)) pss_nil)
      (pss_cons (ps_if (pt_cmpR op_lt (pv 0) pe_int (nomark _)) (pss_one (ps_ret (pe_un un_neg pe_int))) pss_nil)
      (pss_one (ps_ret (pv 1))))), rd_way_of h⟩), g, F.kp, b⟩
theorem sc_step_cost : FnScope ["turn", "way", "slack", "later"] ["turn", "way", "slack"] (defScope s_step_cost) := ⟨rfl, rfl, rfl, by decide +kernel, rfl, by decide +kernel, by decide +kernel⟩
theorem ok_step_cost {f : Addr} {fd : FuncData} (F : L2.Fun K "step_cost" "step_cost" s_step_cost f fd) (g : mg "step_cost" = some (.ref f)) (b : Binds K fd ["turn", "way", "slack"] []) (B : Bl mg) (X : Xf K mg c) (c_way_of : Cal P w K mg base 1 "way_of" (lift K c psp_way_of)) : Cal P w K mg base 2 "step_cost" (lift K c psp_step_cost) :=
  ⟨f, fd, ["turn", "way", "slack"], F.ok sc_step_cost (fun vs H Q E h => ln_lift ln_step_cost h) (fun cdv A outer s H vs Q E hr h => have hu := hu_of hr; ⟨t_step_cost K c, (pss_cons (ps_set (i := 3) sc_step_cost.nd rfl (Or.inl rfl) (pe_cal c_way_of hr (by decide) (by rfl) (pa_cons (pv 0) (pa_cons (pv 1) pa_nil))))
      (pss_cons (ps_if (pw_and (pt_cmpR op_ne (pv 1) pe_int (nomark _)) (pw_and1 (pt_cmpR op_ne (pv 3) (pv 1) (nomark _)))).pt (pss_one (ps_ret (pe_op op_add (pe_callB call_abs (by rfl) B.abs (by decide +kernel) (pa_cons (pv 0) pa_nil)) (pv 2)))) pss_nil)
      (pss_one (ps_ret (pe_callB call_abs (by rfl) B.abs (by decide +kernel) (pa_cons (pv 0) pa_nil)))))), rd_step_cost h⟩), g, F.kp, b⟩
theorem sc_steps_from : FnScope ["wheel", "stand", "sign", "slack", "place", "way", "found", "turn", "later"] ["wheel", "stand", "sign", "slack"] (defScope s_steps_from) := ⟨rfl, rfl, rfl, by decide +kernel, rfl, by decide +kernel, by decide +kernel⟩
theorem ok_steps_from {f : Addr} {fd : FuncData} (F : L2.Fun K "steps_from" "steps_from" s_steps_from f fd) (g : mg "steps_from" = some (.ref f)) (b : Binds K fd ["wheel", "stand", "sign", "slack"] []) (B : Bl mg) (X : Xf K mg c) (c_turns_to : Cal P w K mg base 1 "turns_to" (lift K c psp_turns_to)) (c_way_of : Cal P w K mg base 1 "way_of" (lift K c psp_way_of)) (c_step_cost : Cal P w K mg base 2 "step_cost" (lift K c psp_step_cost)) : Cal P w K mg base 3 "steps_from" (lift K c psp_steps_from) :=
  ⟨f, fd, ["wheel", "stand", "sign", "slack"], F.ok sc_steps_from (fun vs H Q E h => ln_lift ln_steps_from h) (fun cdv A outer s H vs Q E hr h => have hu := hu_of hr; ⟨t_steps_from K c, (pss_cons (ps_asg (pv 1) (pg_tup rfl (pgs_cons (pg_name (i := 4) sc_steps_from.nd rfl (Or.inl rfl)) (pgs_cons (pg_name (i := 5) sc_steps_from.nd rfl (Or.inl rfl)) pgs_nil))))
      (pss_cons (ps_set (i := 6) sc_steps_from.nd rfl (Or.inl rfl) (pe_lst pa_nil))
      (pss_cons (ps_for PassesOwn.never rfl (pi_list (pe_cal c_turns_to hr (by decide) (by rfl) (pa_cons (pv 0) (pa_cons (pv 4) (pa_cons (pv 2) pa_nil))))) (pg_name (i := 7) sc_steps_from.nd rfl (Or.inl rfl))
      (pss_cons (ps_set (i := 8) sc_steps_from.nd rfl (Or.inl rfl) (pe_tup (pa_cons (pe_op op_mod (pe_op op_add (pv 4) (pv 7)) (pe_callB call_len_str (by rfl) B.len (by decide +kernel) (pa_cons (pv 0) pa_nil))) (pa_cons (pe_cal c_way_of hr (by decide) (by rfl) (pa_cons (pv 7) (pa_cons (pv 5) pa_nil))) pa_nil))))
      (pss_one (ps_expr (pe_bm PySem.F.plainAttrs_list PySem.F.slot_list_append PySem.F.type_list_append mt_append (pv 6) (pa_cons (pe_tup (pa_cons (pv 7) (pa_cons (pv 8) (pa_cons (pe_cal c_step_cost hr (by decide) (by rfl) (pa_cons (pv 7) (pa_cons (pv 5) (pa_cons (pv 3) pa_nil)))) pa_nil)))) pa_nil))))))
      (pss_one (ps_ret (pv 6)))))), rd_steps_from h⟩), g, F.kp, b⟩
theorem sc_rows_from : FnScope ["wheel", "word", "slack", "place", "row", "rows", "sign", "later", "stand", "turn", "there", "more", "least"] ["wheel", "word", "slack", "place"] (defScope s_rows_from) := ⟨rfl, rfl, rfl, by decide +kernel, rfl, by decide +kernel, by decide +kernel⟩
theorem ok_rows_from {f : Addr} {fd : FuncData} (F : L2.Fun K "rows_from" "rows_from" s_rows_from f fd) (g : mg "rows_from" = some (.ref f)) (b : Binds K fd ["wheel", "word", "slack", "place"] []) (B : Bl mg) (X : Xf K mg c) (c_steps_from : Cal P w K mg base 3 "steps_from" (lift K c psp_steps_from)) : Cal P w K mg base 4 "rows_from" (lift K c psp_rows_from) :=
  ⟨f, fd, ["wheel", "word", "slack", "place"], F.ok sc_rows_from (fun vs H Q E h => ln_lift ln_rows_from h) (fun cdv A outer s H vs Q E hr h => have hu := hu_of hr; ⟨t_rows_from K c, (pss_cons (ps_set (i := 4) sc_rows_from.nd rfl (Or.inl rfl) (pe_dispT hu (pe_tup (pa_cons (pv 3) (pa_cons pe_int pa_nil))) pe_int))
      (pss_cons (ps_set (i := 5) sc_rows_from.nd rfl (Or.inl rfl) (pe_lst (pa_cons (pv 4) pa_nil)))
      (pss_cons (ps_for PassesOwn.never rfl (pi_str (pv 1)) (pg_name (i := 6) sc_rows_from.nd rfl (Or.inl rfl))
      (pss_cons (ps_set (i := 7) sc_rows_from.nd rfl (Or.inl rfl) pe_dnewT)
      (pss_cons (ps_forD (ps_for PassesOwn.never rfl (pi_keys (pv 4)) (pg_name (i := 8) sc_rows_from.nd rfl (Or.inl rfl))
      (pss_one (ps_for PassesOwn.never rfl (pi_list (pe_cal c_steps_from hr (by decide) (by rfl) (pa_cons (pv 0) (pa_cons (pv 8) (pa_cons (pv 6) (pa_cons (pv 2) pa_nil)))))) (pg_tup rfl (pgs_cons (pg_name (i := 9) sc_rows_from.nd rfl (Or.inl rfl)) (pgs_cons (pg_name (i := 10) sc_rows_from.nd rfl (Or.inl rfl)) (pgs_cons (pg_name (i := 11) sc_rows_from.nd rfl (Or.inl rfl)) pgs_nil))))
      (pss_cons (ps_set (i := 12) sc_rows_from.nd rfl (Or.inl rfl) (pe_op op_add (pe_dget hu (pv 4) (pv 8) (fun _ _ => rfl)) (pv 11)))
      (pss_one (ps_if (pw_or (pt_cmp (pc_dnotin hu (pv 10) (pv 7)) rfl) (pw_or1 (pt_cmpR op_lt (pv 12) (pe_dget hu (pv 7) (pv 10) (fun _ _ => rfl)) (nomark _)))).pt (pss_one (ps_dput hu (pv 7) (pv 10) (pv 12) rfl)) pss_nil)))))))
      (pss_cons (ps_set (i := 4) sc_rows_from.nd rfl (Or.inl rfl) (pv 7))
      (pss_one (ps_expr (pe_bm PySem.F.plainAttrs_list PySem.F.slot_list_append PySem.F.type_list_append mt_append (pv 5) (pa_cons (pv 4) pa_nil))))))))
      (pss_one (ps_ret (pv 5)))))), rd_rows_from h⟩), g, F.kp, b⟩
theorem sc_least_cost : FnScope ["wheel", "word", "slack"] ["wheel", "word", "slack"] (defScope s_least_cost) := ⟨rfl, rfl, rfl, by decide +kernel, rfl, by decide +kernel, by decide +kernel⟩
theorem okx_least_cost {f : Addr} {fd : FuncData} (F : L2.Fun K "least_cost" "least_cost" s_least_cost f fd) (g : mg "least_cost" = some (.ref f)) (b : Binds K fd ["wheel", "word", "slack"] []) (B : Bl mg) (X : Xf K mg c) (cx_look_at_errand : CalX P w K mg base 5 "look_at_errand" (lift K c psp_look_at_errand)) (c_rows_from : Cal P w K mg base 4 "rows_from" (lift K c psp_rows_from)) : CalX P w K mg base 6 "least_cost" (lift K c psp_least_cost) :=
  ⟨f, fd, ["wheel", "word", "slack"], okN F sc_least_cost (fun vs H Q E h => ln_lift ln_least_cost h) (fun cdv A outer s H vs Q E hr h => have hu := hu_of hr; ⟨t_least_cost K c E, (pss_cons (ps_expr (pe_calX cx_look_at_errand hr (by decide) (by rfl) passX (pa_cons (pv 0) (pa_cons (pv 1) (pa_cons (pv 2) pa_nil)))))
      (pss_one (ps_ret (pe_minValsT (by rfl) (by rfl) B.min (pe_ix ix_list (pe_cal c_rows_from hr (by decide) (by rfl) (pa_cons (pv 0) (pa_cons (pv 1) (pa_cons (pv 2) (pa_cons pe_int pa_nil))))) (pe_un un_neg pe_int) (fun _ _ => rfl)))))), rd_least_cost h⟩), g, F.kp, b⟩
theorem sc_rests : FnScope ["wheel", "word", "slack", "rows", "behind", "stand", "found", "k", "here", "some", "turn", "there", "more", "least", "rest", "many"] ["wheel", "word", "slack"] (defScope s_rests) := ⟨rfl, rfl, rfl, by decide +kernel, rfl, by decide +kernel, by decide +kernel⟩
theorem ok_rests {f : Addr} {fd : FuncData} (F : L2.Fun K "rests" "rests" s_rests f fd) (g : mg "rests" = some (.ref f)) (b : Binds K fd ["wheel", "word", "slack"] []) (B : Bl mg) (X : Xf K mg c) (c_rows_from : Cal P w K mg base 4 "rows_from" (lift K c psp_rows_from)) (c_steps_from : Cal P w K mg base 3 "steps_from" (lift K c psp_steps_from)) : Cal P w K mg base 5 "rests" (lift K c psp_rests) :=
  ⟨f, fd, ["wheel", "word", "slack"], F.ok sc_rests (fun vs H Q E h => ln_lift ln_rests h) (fun cdv A outer s H vs Q E hr h => have hu := hu_of hr; ⟨t_rests K c, (pss_cons (ps_set (i := 3) sc_rests.nd rfl (Or.inl rfl) (pe_cal c_rows_from hr (by decide) (by rfl) (pa_cons (pv 0) (pa_cons (pv 1) (pa_cons (pv 2) (pa_cons pe_int pa_nil))))))
      (pss_cons (ps_set (i := 4) sc_rests.nd rfl (Or.inl rfl) pe_dnewT)
      (pss_cons (ps_forD (ps_for PassesOwn.never rfl (pi_keys (pe_ix ix_list (pv 3) (pe_un un_neg pe_int) (fun _ _ => rfl))) (pg_name (i := 5) sc_rests.nd rfl (Or.inl rfl))
      (pss_one (ps_dput hu (pv 4) (pv 5) (pe_tup (pa_cons pe_int (pa_cons pe_int pa_nil))) rfl))))
      (pss_cons (ps_set (i := 6) sc_rests.nd rfl (Or.inl rfl) (pe_lst (pa_cons (pv 4) pa_nil)))
      (pss_cons (ps_for PassesOwn.never rfl (pi_range3 rfl B.range (pa_cons (pe_op op_sub (pe_callB call_len_str (by rfl) B.len (by decide +kernel) (pa_cons (pv 1) pa_nil)) pe_int) (pa_cons (pe_un un_neg pe_int) (pa_cons (pe_un un_neg pe_int) pa_nil)))) (pg_name (i := 7) sc_rests.nd rfl (Or.inl rfl))
      (pss_cons (ps_set (i := 8) sc_rests.nd rfl (Or.inl rfl) pe_dnewT)
      (pss_cons (ps_forD (ps_for PassesOwn.never rfl (pi_keys (pe_ix ix_list (pv 3) (pv 7) (fun _ _ => rfl))) (pg_name (i := 5) sc_rests.nd rfl (Or.inl rfl))
      (pss_cons (ps_set (i := 9) sc_rests.nd rfl (Or.inl rfl) (pe_lst pa_nil))
      (pss_cons (ps_for PassesOwn.never rfl (pi_list (pe_cal c_steps_from hr (by decide) (by rfl) (pa_cons (pv 0) (pa_cons (pv 5) (pa_cons (pe_ix ix_str (pv 1) (pv 7) (fun _ _ => rfl)) (pa_cons (pv 2) pa_nil)))))) (pg_tup rfl (pgs_cons (pg_name (i := 10) sc_rests.nd rfl (Or.inl rfl)) (pgs_cons (pg_name (i := 11) sc_rests.nd rfl (Or.inl rfl)) (pgs_cons (pg_name (i := 12) sc_rests.nd rfl (Or.inl rfl)) pgs_nil))))
      (pss_one (ps_expr (pe_bm PySem.F.plainAttrs_list PySem.F.slot_list_append PySem.F.type_list_append mt_append (pv 9) (pa_cons (pe_tup (pa_cons (pe_op op_add (pe_ix ix_tup (pe_dget hu (pv 4) (pv 11) (fun _ _ => rfl)) pe_int (fun _ _ => rfl)) (pv 12)) (pa_cons (pe_ix ix_tup (pe_dget hu (pv 4) (pv 11) (fun _ _ => rfl)) pe_int (fun _ _ => rfl)) pa_nil))) pa_nil)))))
      (pss_cons (ps_set (i := 13) sc_rests.nd rfl (Or.inr rfl) (pe_ix ix_tup (pe_callB (cr_minG rfl hr.units) (by rfl) B.min (by decide +kernel) (pa_cons (pv 9) pa_nil)) pe_int (fun _ _ => rfl)))
      (pss_one (ps_dput hu (pv 8) (pv 5) (pe_tup (pa_cons (pv 13) (pa_cons (pe_callB (cr_sum rfl) (by rfl) B.sum (by decide +kernel) (pa_cons (pe_lc (own := [("rest", 14), ("many", 15)]) (g := (gTup K 2 (gCons (gName 14) (gCons (gName 15) gNil)))) (tt := (tTest (tOp rEq (tVar 14) (tVar 13)))) (by rfl) sc_rests.nd (pi_list (pv 9)) (blkOk_by (own := [("rest", 14), ("many", 15)]) (N := ["wheel", "word", "slack", "rows", "behind", "stand", "found", "k", "here", "some", "turn", "there", "more", "least", "rest", "many"]) (sc := defScope s_rests) (by decide +kernel)) (fun _ _ _ _ _ => (pg_tup rfl (pgs_cons (pg_name (i := 14) sc_rests.nd rfl (Or.inl rfl)) (pgs_cons (pg_name (i := 15) sc_rests.nd rfl (Or.inl rfl)) pgs_nil)))) (fun _ _ _ _ _ => (pts_one (pt_cmpR op_eq (pv 14) (pv 13) (nomark _)))) (fun _ _ _ _ _ => (pv 15))) pa_nil)) pa_nil))) rfl)))))))
      (pss_cons (ps_set (i := 4) sc_rests.nd rfl (Or.inl rfl) (pv 8))
      (pss_one (ps_expr (pe_bm PySem.F.plainAttrs_list PySem.F.slot_list_append PySem.F.type_list_append mt_append (pv 6) (pa_cons (pv 8) pa_nil))))))))
      (pss_one (ps_ret (pe_revL (pv 6))))))))), rd_rests h⟩), g, F.kp, b⟩
theorem sc_many_least : FnScope ["wheel", "word", "slack"] ["wheel", "word", "slack"] (defScope s_many_least) := ⟨rfl, rfl, rfl, by decide +kernel, rfl, by decide +kernel, by decide +kernel⟩
theorem okx_many_least {f : Addr} {fd : FuncData} (F : L2.Fun K "many_least" "many_least" s_many_least f fd) (g : mg "many_least" = some (.ref f)) (b : Binds K fd ["wheel", "word", "slack"] []) (B : Bl mg) (X : Xf K mg c) (cx_look_at_errand : CalX P w K mg base 5 "look_at_errand" (lift K c psp_look_at_errand)) (c_rests : Cal P w K mg base 5 "rests" (lift K c psp_rests)) : CalX P w K mg base 6 "many_least" (lift K c psp_many_least) :=
  ⟨f, fd, ["wheel", "word", "slack"], okN F sc_many_least (fun vs H Q E h => ln_lift ln_many_least h) (fun cdv A outer s H vs Q E hr h => have hu := hu_of hr; ⟨t_many_least K c E, (pss_cons (ps_expr (pe_calX cx_look_at_errand hr (by decide) (by rfl) passX (pa_cons (pv 0) (pa_cons (pv 1) (pa_cons (pv 2) pa_nil)))))
      (pss_one (ps_ret (pe_ix ix_tup (pe_dget hu (pe_ix ix_list (pe_cal c_rests hr (by decide) (by rfl) (pa_cons (pv 0) (pa_cons (pv 1) (pa_cons (pv 2) pa_nil)))) pe_int (fun _ _ => rfl)) (pe_tup (pa_cons pe_int (pa_cons pe_int pa_nil))) (fun _ _ => rfl)) pe_int (fun _ _ => rfl))))), rd_many_least h⟩), g, F.kp, b⟩
theorem sc_table : FnScope ["wheel", "word", "slack", "told", "row", "stand"] ["wheel", "word", "slack"] (defScope s_table) := ⟨rfl, rfl, rfl, by decide +kernel, rfl, by decide +kernel, by decide +kernel⟩
theorem okx_table {f : Addr} {fd : FuncData} (F : L2.Fun K "table" "table" s_table f fd) (g : mg "table" = some (.ref f)) (b : Binds K fd ["wheel", "word", "slack"] []) (B : Bl mg) (X : Xf K mg c) (cx_look_at_errand : CalX P w K mg base 5 "look_at_errand" (lift K c psp_look_at_errand)) (c_rows_from : Cal P w K mg base 4 "rows_from" (lift K c psp_rows_from)) : CalX P w K mg base 6 "table" (lift K c psp_table) :=
  ⟨f, fd, ["wheel", "word", "slack"], okN F sc_table (fun vs H Q E h => ln_lift ln_table h) (fun cdv A outer s H vs Q E hr h => have hu := hu_of hr; ⟨t_table K c E, (pss_cons (ps_expr (pe_calX cx_look_at_errand hr (by decide) (by rfl) passX (pa_cons (pv 0) (pa_cons (pv 1) (pa_cons (pv 2) pa_nil)))))
      (pss_cons (ps_set (i := 3) sc_table.nd rfl (Or.inl rfl) (pe_lst pa_nil))
      (pss_cons (ps_for (passes_of rfl) rfl (pi_list (pe_cal c_rows_from hr (by decide) (by rfl) (pa_cons (pv 0) (pa_cons (pv 1) (pa_cons (pv 2) (pa_cons pe_int pa_nil)))))) (pg_name (i := 4) sc_table.nd rfl (Or.inr rfl))
      (pss_one (ps_expr (pe_bm PySem.F.plainAttrs_list PySem.F.slot_list_append PySem.F.type_list_append mt_append (pv 3) (pa_cons (pe_lc (own := [("stand", 5)]) (g := (gName 5)) (tt := tYes) (by rfl) sc_table.nd (pi_list (pe_callB cr_sortedPO (by rfl) B.sorted (by decide +kernel) (pa_cons (pe_callTy (call_list_dT (by rfl)) (by rfl) B.list (by decide +kernel) (pa_cons (pv 4) pa_nil)) pa_nil))) (blkOk_by (own := [("stand", 5)]) (N := ["wheel", "word", "slack", "told", "row", "stand"]) (sc := defScope s_table) (by decide +kernel)) (fun _ _ _ _ _ => (pg_name (i := 5) sc_table.nd rfl (Or.inl rfl))) (fun _ _ _ _ _ => pts_nil) (fun _ _ _ _ _ => (pe_op op_catA (pv 5) (pe_tup (pa_cons (pe_dget hu (pv 4) (pv 5) (fun _ _ => rfl)) pa_nil))))) pa_nil)))))
      (pss_one (ps_ret (pv 3)))))), rd_table h⟩), g, F.kp, b⟩
theorem sc_law_glass : FnScope ["one", "many"] ["one", "many"] (defScope s_law_glass) := ⟨rfl, rfl, rfl, by decide +kernel, rfl, by decide +kernel, by decide +kernel⟩
theorem ok_law_glass {f : Addr} {fd : FuncData} (F : L2.Fun K "_law_glass" "_law_glass" s_law_glass f fd) (g : mg "_law_glass" = some (.ref f)) (b : Binds K fd ["one", "many"] []) (B : Bl mg) (X : Xf K mg c)  : Cal P w K mg base 1 "_law_glass" (lift K c psp_law_glass) :=
  ⟨f, fd, ["one", "many"], F.ok sc_law_glass (fun vs H Q E h => ln_lift ln_law_glass h) (fun cdv A outer s H vs Q E hr h => have hu := hu_of hr; ⟨t_law_glass K c, (pss_one (ps_ret (pe_tup (pa_cons (pe_op op_mod (pe_op op_sub (pv 1) (pe_ix ix_tup (pv 0) pe_int (fun _ _ => rfl))) (pv 1)) (pa_cons (pe_op op_sub pe_int (pe_ix ix_tup (pv 0) pe_int (fun _ _ => rfl))) (pa_cons (pe_ix ix_tup (pv 0) pe_int (fun _ _ => rfl)) pa_nil)))))), rd_law_glass h⟩), g, F.kp, b⟩
theorem sc_least_plan : FnScope ["wheel", "word", "slack", "left", "stand", "plan", "k", "turn", "there", "more", "later"] ["wheel", "word", "slack"] (defScope s_least_plan) := ⟨rfl, rfl, rfl, by decide +kernel, rfl, by decide +kernel, by decide +kernel⟩
theorem okx_least_plan {f : Addr} {fd : FuncData} (F : L2.Fun K "least_plan" "least_plan" s_least_plan f fd) (g : mg "least_plan" = some (.ref f)) (b : Binds K fd ["wheel", "word", "slack"] []) (B : Bl mg) (X : Xf K mg c) (cx_look_at_errand : CalX P w K mg base 5 "look_at_errand" (lift K c psp_look_at_errand)) (c_rests : Cal P w K mg base 5 "rests" (lift K c psp_rests)) (c_steps_from : Cal P w K mg base 3 "steps_from" (lift K c psp_steps_from)) : CalX P w K mg base 6 "least_plan" (lift K c psp_least_plan) :=
  ⟨f, fd, ["wheel", "word", "slack"], okN F sc_least_plan (fun vs H Q E h => ln_lift ln_least_plan h) (fun cdv A outer s H vs Q E hr h => have hu := hu_of hr; ⟨t_least_plan K c E, (pss_cons (ps_expr (pe_calX cx_look_at_errand hr (by decide) (by rfl) passX (pa_cons (pv 0) (pa_cons (pv 1) (pa_cons (pv 2) pa_nil)))))
      (pss_cons (ps_set (i := 3) sc_least_plan.nd rfl (Or.inl rfl) (pe_cal c_rests hr (by decide) (by rfl) (pa_cons (pv 0) (pa_cons (pv 1) (pa_cons (pv 2) pa_nil)))))
      (pss_cons (ps_set (i := 4) sc_least_plan.nd rfl (Or.inl rfl) (pe_tup (pa_cons pe_int (pa_cons pe_int pa_nil))))
      (pss_cons (ps_set (i := 5) sc_least_plan.nd rfl (Or.inl rfl) (pe_lst pa_nil))
      (pss_cons (ps_for (passes_of rfl) rfl (pi_range1 rfl B.range (pa_cons (pe_callB call_len_str (by rfl) B.len (by decide +kernel) (pa_cons (pv 1) pa_nil)) pa_nil)) (pg_name (i := 6) sc_least_plan.nd rfl (Or.inl rfl))
      (pss_cons (ps_for (passes_of rfl) rfl (pi_list (pe_cal c_steps_from hr (by decide) (by rfl) (pa_cons (pv 0) (pa_cons (pv 4) (pa_cons (pe_ix ix_str (pv 1) (pv 6) (fun _ _ => rfl)) (pa_cons (pv 2) pa_nil)))))) (pg_tup rfl (pgs_cons (pg_name (i := 7) sc_least_plan.nd rfl (Or.inl rfl)) (pgs_cons (pg_name (i := 8) sc_least_plan.nd rfl (Or.inl rfl)) (pgs_cons (pg_name (i := 9) sc_least_plan.nd rfl (Or.inl rfl)) pgs_nil))))
      (pss_one (ps_if (pw_and (pt_cmpR op_eq (pe_callB call_len_seq (by rfl) B.len (by decide +kernel) (pa_cons (pv 5) pa_nil)) (pv 6) (nomark _)) (pw_and1 (pt_cmpR op_eq (pe_op op_add (pe_ix ix_tup (pe_dget hu (pe_ix ix_list (pv 3) (pe_op op_add (pv 6) pe_int) (fun _ _ => rfl)) (pv 8) (fun _ _ => rfl)) pe_int (fun _ _ => rfl)) (pv 9)) (pe_ix ix_tup (pe_dget hu (pe_ix ix_list (pv 3) (pv 6) (fun _ _ => rfl)) (pv 4) (fun _ _ => rfl)) pe_int (fun _ _ => rfl)) (nomark _)))).pt (pss_cons (ps_expr (pe_bm PySem.F.plainAttrs_list PySem.F.slot_list_append PySem.F.type_list_append mt_append (pv 5) (pa_cons (pv 7) pa_nil)))
      (pss_one (ps_set (i := 10) sc_least_plan.nd rfl (Or.inl rfl) (pv 8)))) pss_nil)))
      (pss_one (ps_set (i := 4) sc_least_plan.nd rfl (Or.inl rfl) (pv 10)))))
      (pss_one (ps_ret (pv 5)))))))), rd_least_plan h⟩), g, F.kp, b⟩
theorem sc_law_step : FnScope ["turn", "way", "slack", "later"] ["turn", "way", "slack"] (defScope s_law_step) := ⟨rfl, rfl, rfl, by decide +kernel, rfl, by decide +kernel, by decide +kernel⟩
theorem ok_law_step {f : Addr} {fd : FuncData} (F : L2.Fun K "_law_step" "_law_step" s_law_step f fd) (g : mg "_law_step" = some (.ref f)) (b : Binds K fd ["turn", "way", "slack"] []) (B : Bl mg) (X : Xf K mg c)  : Cal P w K mg base 1 "_law_step" (lift K c psp_law_step) :=
  ⟨f, fd, ["turn", "way", "slack"], F.ok sc_law_step (fun vs H Q E h => ln_lift ln_law_step h) (fun cdv A outer s H vs Q E hr h => have hu := hu_of hr; ⟨t_law_step K c, (pss_cons (ps_set (i := 3) sc_law_step.nd rfl (Or.inl rfl) (pe_ix ix_list (pe_lst (pa_cons (pv 1) (pa_cons pe_int (pa_cons (pe_un un_neg pe_int) pa_nil)))) (pe_op op_add (pe_callTy call_int1 (by rfl) B.int (by decide +kernel) (pa_cons (pe_cmpR op_gt (pv 0) pe_int (nomark _)) pa_nil)) (pe_op op_mulW pe_int (pe_callTy call_int1 (by rfl) B.int (by decide +kernel) (pa_cons (pe_cmpR op_lt (pv 0) pe_int (nomark _)) pa_nil)))) (fun _ _ => rfl)))
      (pss_one (ps_ret (pe_tup (pa_cons (pv 3) (pa_cons (pe_op op_add (pe_callB (call_max2 rfl) (by rfl) B.max (by decide +kernel) (pa_cons (pv 0) (pa_cons (pe_op op_sub pe_int (pv 0)) pa_nil))) (pe_op op_mulW (pv 2) (pe_callTy call_int1 (by rfl) B.int (by decide +kernel) (pa_cons (pe_and (pe_cmpR op_ne (pv 3) (pv 1) (nomark _)) (pe_one (pe_cmpR op_ne (pv 1) pe_int (nomark _)))) pa_nil)))) pa_nil)))))), rd_law_step h⟩), g, F.kp, b⟩
theorem sc_law_cost : FnScope ["turns", "slack", "total", "way", "turn", "more"] ["turns", "slack"] (defScope s_law_cost) := ⟨rfl, rfl, rfl, by decide +kernel, rfl, by decide +kernel, by decide +kernel⟩
theorem ok_law_cost {f : Addr} {fd : FuncData} (F : L2.Fun K "_law_cost" "_law_cost" s_law_cost f fd) (g : mg "_law_cost" = some (.ref f)) (b : Binds K fd ["turns", "slack"] []) (B : Bl mg) (X : Xf K mg c) (c_law_step : Cal P w K mg base 1 "_law_step" (lift K c psp_law_step)) : Cal P w K mg base 2 "_law_cost" (lift K c psp_law_cost) :=
  ⟨f, fd, ["turns", "slack"], F.ok sc_law_cost (fun vs H Q E h => ln_lift ln_law_cost h) (fun cdv A outer s H vs Q E hr h => have hu := hu_of hr; ⟨t_law_cost K c, (pss_cons (ps_set (i := 2) sc_law_cost.nd rfl (Or.inl rfl) pe_int)
      (pss_cons (ps_set (i := 3) sc_law_cost.nd rfl (Or.inl rfl) pe_int)
      (pss_cons (ps_for PassesOwn.never rfl (pi_list (pv 0)) (pg_name (i := 4) sc_law_cost.nd rfl (Or.inl rfl))
      (pss_cons (ps_asg (pe_cal c_law_step hr (by decide) (by rfl) (pa_cons (pv 4) (pa_cons (pv 3) (pa_cons (pv 1) pa_nil)))) (pg_tup rfl (pgs_cons (pg_name (i := 3) sc_law_cost.nd rfl (Or.inl rfl)) (pgs_cons (pg_name (i := 5) sc_law_cost.nd rfl (Or.inl rfl)) pgs_nil))))
      (pss_one (ps_set (i := 2) sc_law_cost.nd rfl (Or.inl rfl) (pe_op op_add (pv 2) (pv 5))))))
      (pss_one (ps_ret (pv 2)))))), rd_law_cost h⟩), g, F.kp, b⟩
theorem sc_costs_from_all : FnScope ["wheel", "word", "slack", "behind", "k", "here", "place", "way", "some", "turn", "there", "more"] ["wheel", "word", "slack"] (defScope s_costs_from_all) := ⟨rfl, rfl, rfl, by decide +kernel, rfl, by decide +kernel, by decide +kernel⟩
theorem ok_costs_from_all {f : Addr} {fd : FuncData} (F : L2.Fun K "costs_from_all" "costs_from_all" s_costs_from_all f fd) (g : mg "costs_from_all" = some (.ref f)) (b : Binds K fd ["wheel", "word", "slack"] []) (B : Bl mg) (X : Xf K mg c) (c_steps_from : Cal P w K mg base 3 "steps_from" (lift K c psp_steps_from)) : Cal P w K mg base 4 "costs_from_all" (lift K c psp_costs_from_all) :=
  ⟨f, fd, ["wheel", "word", "slack"], F.ok sc_costs_from_all (fun vs H Q E h => ln_lift ln_costs_from_all h) (fun cdv A outer s H vs Q E hr h => have hu := hu_of hr; ⟨t_costs_from_all K c, (pss_cons (ps_set (i := 3) sc_costs_from_all.nd rfl (Or.inr rfl) pe_dnewT)
      (pss_cons (ps_for PassesOwn.never rfl (pi_range3 rfl B.range (pa_cons (pe_callB call_len_str (by rfl) B.len (by decide +kernel) (pa_cons (pv 1) pa_nil)) (pa_cons (pe_un un_neg pe_int) (pa_cons (pe_un un_neg pe_int) pa_nil)))) (pg_name (i := 4) sc_costs_from_all.nd rfl (Or.inl rfl))
      (pss_cons (ps_set (i := 5) sc_costs_from_all.nd rfl (Or.inl rfl) pe_dnewT)
      (pss_cons (ps_for PassesOwn.never rfl (pi_range1 rfl B.range (pa_cons (pe_callB call_len_str (by rfl) B.len (by decide +kernel) (pa_cons (pv 0) pa_nil)) pa_nil)) (pg_name (i := 6) sc_costs_from_all.nd rfl (Or.inl rfl))
      (pss_one (ps_for PassesOwn.never rfl (pi_tup (pe_tup (pa_cons (pe_un un_neg pe_int) (pa_cons pe_int (pa_cons pe_int pa_nil))))) (pg_name (i := 7) sc_costs_from_all.nd rfl (Or.inl rfl))
      (pss_one (ps_if (pw_or (pt_cmpR op_eq (pv 4) pe_int (nomark _)) (pw_or1 (pt_cmpR op_eq (pe_ix ix_str (pv 0) (pv 6) (fun _ _ => rfl)) (pe_ix ix_str (pv 1) (pe_op op_sub (pv 4) pe_int) (fun _ _ => rfl)) (nomark _)))).pt (pss_cons (ps_dput hu (pv 5) (pe_tup (pa_cons (pv 6) (pa_cons (pv 7) pa_nil))) pe_int rfl)
      (pss_one (ps_if (pt_cmpR op_lt (pv 4) (pe_callB call_len_str (by rfl) B.len (by decide +kernel) (pa_cons (pv 1) pa_nil)) (nomark _)) (pss_cons (ps_set (i := 8) sc_costs_from_all.nd rfl (Or.inl rfl) (pe_cal c_steps_from hr (by decide) (by rfl) (pa_cons (pv 0) (pa_cons (pe_tup (pa_cons (pv 6) (pa_cons (pv 7) pa_nil))) (pa_cons (pe_ix ix_str (pv 1) (pv 4) (fun _ _ => rfl)) (pa_cons (pv 2) pa_nil))))))
      (pss_one (ps_dput hu (pv 5) (pe_tup (pa_cons (pv 6) (pa_cons (pv 7) pa_nil))) (pe_callB (cr_min rfl) (by rfl) B.min (by decide +kernel) (pa_cons (pe_lc (own := [("turn", 9), ("there", 10), ("more", 11)]) (g := (gTup K 3 (gCons (gName 9) (gCons (gName 10) (gCons (gName 11) gNil))))) (tt := tYes) (by rfl) sc_costs_from_all.nd (pi_list (pv 8)) (blkOk_by (own := [("turn", 9), ("there", 10), ("more", 11)]) (N := ["wheel", "word", "slack", "behind", "k", "here", "place", "way", "some", "turn", "there", "more"]) (sc := defScope s_costs_from_all) (by decide +kernel)) (fun _ _ _ _ _ => (pg_tup rfl (pgs_cons (pg_name (i := 9) sc_costs_from_all.nd rfl (Or.inl rfl)) (pgs_cons (pg_name (i := 10) sc_costs_from_all.nd rfl (Or.inl rfl)) (pgs_cons (pg_name (i := 11) sc_costs_from_all.nd rfl (Or.inl rfl)) pgs_nil))))) (fun _ _ _ _ _ => pts_nil) (fun _ _ _ _ _ => (pe_op op_add (pe_dget hu (pv 3) (pv 10) (fun _ _ => rfl)) (pv 11)))) pa_nil)) rfl))) pss_nil))) pss_nil)))))
      (pss_one (ps_set (i := 3) sc_costs_from_all.nd rfl (Or.inr rfl) (pv 5))))))
      (pss_one (ps_ret (pe_lc (own := [("place", 6)]) (g := (gName 6)) (tt := tYes) (by rfl) sc_costs_from_all.nd (pi_range1 rfl B.range (pa_cons (pe_callB call_len_str (by rfl) B.len (by decide +kernel) (pa_cons (pv 0) pa_nil)) pa_nil)) (blkOk_by (own := [("place", 6)]) (N := ["wheel", "word", "slack", "behind", "k", "here", "place", "way", "some", "turn", "there", "more"]) (sc := defScope s_costs_from_all) (by decide +kernel)) (fun _ _ _ _ _ => (pg_name (i := 6) sc_costs_from_all.nd rfl (Or.inl rfl))) (fun _ _ _ _ _ => pts_nil) (fun _ _ _ _ _ => (pe_dget hu (pv 3) (pe_tup (pa_cons (pv 6) (pa_cons pe_int pa_nil))) (fun _ _ => rfl)))))))), rd_costs_from_all h⟩), g, F.kp, b⟩
theorem sc_best_start : FnScope ["wheel", "word", "slack", "costs"] ["wheel", "word", "slack"] (defScope s_best_start) := ⟨rfl, rfl, rfl, by decide +kernel, rfl, by decide +kernel, by decide +kernel⟩
theorem okx_best_start {f : Addr} {fd : FuncData} (F : L2.Fun K "best_start" "best_start" s_best_start f fd) (g : mg "best_start" = some (.ref f)) (b : Binds K fd ["wheel", "word", "slack"] []) (B : Bl mg) (X : Xf K mg c) (cx_look_at_errand : CalX P w K mg base 5 "look_at_errand" (lift K c psp_look_at_errand)) (c_costs_from_all : Cal P w K mg base 4 "costs_from_all" (lift K c psp_costs_from_all)) : CalX P w K mg base 6 "best_start" (lift K c psp_best_start) :=
  ⟨f, fd, ["wheel", "word", "slack"], okN F sc_best_start (fun vs H Q E h => ln_lift ln_best_start h) (fun cdv A outer s H vs Q E hr h => have hu := hu_of hr; ⟨t_best_start K c E, (pss_cons (ps_expr (pe_calX cx_look_at_errand hr (by decide) (by rfl) passX (pa_cons (pv 0) (pa_cons (pv 1) (pa_cons (pv 2) pa_nil)))))
      (pss_cons (ps_set (i := 3) sc_best_start.nd rfl (Or.inl rfl) (pe_cal c_costs_from_all hr (by decide) (by rfl) (pa_cons (pv 0) (pa_cons (pv 1) (pa_cons (pv 2) pa_nil)))))
      (pss_one (ps_ret (pe_tup (pa_cons (pe_bm PySem.F.plainAttrs_list PySem.F.slot_list_index PySem.F.type_list_index mt_index (pv 3) (pa_cons (pe_callB (cr_min rfl) (by rfl) B.min (by decide +kernel) (pa_cons (pv 3) pa_nil)) pa_nil)) (pa_cons (pe_callB (cr_min rfl) (by rfl) B.min (by decide +kernel) (pa_cons (pv 3) pa_nil)) pa_nil))))))), rd_best_start h⟩), g, F.kp, b⟩
theorem sc_law : FnScope ["script", "draws", "slack", "wheel", "word", "many", "glass", "least", "told", "row", "turn", "turns", "place", "sign", "more", "greater", "at", "doubled", "one"] ["script"] (defScope s_law) := ⟨rfl, rfl, rfl, by decide +kernel, rfl, by decide +kernel, by decide +kernel⟩
theorem ok_law {f : Addr} {fd : FuncData} (F : L2.Fun K "law" "law" s_law f fd) (B : Bl mg) (X : Xf K mg c) (c_law_draws : Cal P w K mg base 1 "_law_draws" (lift K c psp_law_draws)) (c_law_draw : Cal P w K mg base 1 "_law_draw" (lift K c psp_law_draw)) (c_law_wheel : Cal P w K mg base 3 "_law_wheel" (lift K c psp_law_wheel)) (c_law_word : Cal P w K mg base 2 "_law_word" (lift K c psp_law_word)) (cx_in_glass : CalX P w K mg base 5 "in_glass" (lift K c psp_in_glass)) (cx_least_cost : CalX P w K mg base 6 "least_cost" (lift K c psp_least_cost)) (cx_many_least : CalX P w K mg base 6 "many_least" (lift K c psp_many_least)) (cx_table : CalX P w K mg base 6 "table" (lift K c psp_table)) (c_law_glass : Cal P w K mg base 1 "_law_glass" (lift K c psp_law_glass)) (cx_least_plan : CalX P w K mg base 6 "least_plan" (lift K c psp_least_plan)) (c_law_cost : Cal P w K mg base 2 "_law_cost" (lift K c psp_law_cost)) (cx_best_start : CalX P w K mg base 6 "best_start" (lift K c psp_best_start)) : FnOk P w K mg base CX0 7 f fd ["script"] (sp_law K) :=
  F.ok sc_law (fun vs H Q E h => ln_law h) (fun cdv A outer s H vs Q E hr h => have hu := hu_of hr; ⟨t_law K c, (pss_cons (ps_set (i := 1) sc_law.nd rfl (Or.inl rfl) (pe_cal c_law_draws hr (by decide) (by rfl) (pa_cons (pv 0) (pa_cons pe_int pa_nil))))
      (pss_cons (ps_set (i := 2) sc_law.nd rfl (Or.inl rfl) (pe_cal c_law_draw hr (by decide) (by rfl) (pa_cons (pv 1) (pa_cons pe_int pa_nil))))
      (pss_cons (ps_set (i := 3) sc_law.nd rfl (Or.inl rfl) (pe_cal c_law_wheel hr (by decide) (by rfl) (pa_cons (pv 1) (pa_cons (pe_ix ix_list (pe_lst (pa_cons pe_int (pa_cons pe_int pa_nil))) (pe_cal c_law_draw hr (by decide) (by rfl) (pa_cons (pv 1) (pa_cons pe_int pa_nil))) (fun _ _ => rfl)) pa_nil))))
      (pss_cons (ps_set (i := 4) sc_law.nd rfl (Or.inl rfl) (pe_cal c_law_word hr (by decide) (by rfl) (pa_cons (pv 1) (pa_cons (pv 3) (pa_cons pe_int pa_nil)))))
      (pss_cons (ps_set (i := 5) sc_law.nd rfl (Or.inr rfl) (pe_callB call_len_str (by rfl) B.len (by decide +kernel) (pa_cons (pv 3) pa_nil)))
      (pss_cons (ps_set (i := 6) sc_law.nd rfl (Or.inl rfl) (pe_calX cx_in_glass hr (by decide) (by rfl) passE0 (pa_cons (pv 3) pa_nil)))
      (pss_cons (ps_set (i := 7) sc_law.nd rfl (Or.inl rfl) (pe_calX cx_least_cost hr (by decide) (by rfl) passE0 (pa_cons (pv 3) (pa_cons (pv 4) (pa_cons (pv 2) pa_nil)))))
      (pss_cons (ps_if (pt_cmpR op_ne (pe_calX cx_least_cost hr (by decide) (by rfl) passE0 (pa_cons (pv 6) (pa_cons (pv 4) (pa_cons (pv 2) pa_nil)))) (pv 7) (nomark _)) (pss_one (ps_ret pe_bl)) pss_nil)
      (pss_cons (ps_if (pt_cmpR op_ne (pe_calX cx_many_least hr (by decide) (by rfl) passE0 (pa_cons (pv 6) (pa_cons (pv 4) (pa_cons (pv 2) pa_nil)))) (pe_calX cx_many_least hr (by decide) (by rfl) passE0 (pa_cons (pv 3) (pa_cons (pv 4) (pa_cons (pv 2) pa_nil)))) (nomark _)) (pss_one (ps_ret pe_bl)) pss_nil)
      (pss_cons (ps_set (i := 8) sc_law.nd rfl (Or.inl rfl) (pe_lst pa_nil))
      (pss_cons (ps_for PassesOwn.never rfl (pi_list (pe_calX cx_table hr (by decide) (by rfl) passE0 (pa_cons (pv 3) (pa_cons (pv 4) (pa_cons (pv 2) pa_nil))))) (pg_name (i := 9) sc_law.nd rfl (Or.inl rfl))
      (pss_one (ps_expr (pe_bm PySem.F.plainAttrs_list PySem.F.slot_list_append PySem.F.type_list_append mt_append (pv 8) (pa_cons (pe_callB (cr_sortD hr.units) (by rfl) B.sorted (by decide +kernel) (pa_cons (pe_lc (own := [("one", 18)]) (g := (gName 18)) (tt := tYes) (by rfl) sc_law.nd (pi_list (pv 9)) (blkOk_by (own := [("one", 18)]) (N := ["script", "draws", "slack", "wheel", "word", "many", "glass", "least", "told", "row", "turn", "turns", "place", "sign", "more", "greater", "at", "doubled", "one"]) (sc := defScope s_law) (by decide +kernel)) (fun _ _ _ _ _ => (pg_name (i := 18) sc_law.nd rfl (Or.inl rfl))) (fun _ _ _ _ _ => pts_nil) (fun _ _ _ _ _ => (pe_cal c_law_glass hr (by decide) (by rfl) (pa_cons (pv 18) (pa_cons (pv 5) pa_nil))))) pa_nil)) pa_nil)))))
      (pss_cons (ps_if (pt_cmpR (op_neD hr.units) (pe_calX cx_table hr (by decide) (by rfl) passE0 (pa_cons (pv 6) (pa_cons (pv 4) (pa_cons (pv 2) pa_nil)))) (pv 8) (nomark _)) (pss_one (ps_ret pe_bl)) pss_nil)
      (pss_cons (ps_setLc (i := 11) (own := [("turn", 10)]) (g := (gName 10)) (tt := tYes) (by rfl) sc_law.nd rfl rfl (sw_true rfl rfl rfl (by decide +kernel)) (pi_list (pe_calX cx_least_plan hr (by decide) (by rfl) passE0 (pa_cons (pv 6) (pa_cons (pv 4) (pa_cons (pv 2) pa_nil))))) (blkOk_by (own := [("turn", 10)]) (N := ["script", "draws", "slack", "wheel", "word", "many", "glass", "least", "told", "row", "turn", "turns", "place", "sign", "more", "greater", "at", "doubled", "one"]) (sc := defScope s_law) (by decide +kernel)) (fun _ _ _ _ _ => (pg_name (i := 10) sc_law.nd rfl (Or.inl rfl))) (fun _ _ _ _ _ => pts_nil) (fun _ _ _ _ _ => (pe_op op_sub pe_int (pv 10))))
      (pss_cons (ps_set (i := 12) sc_law.nd rfl (Or.inl rfl) pe_int)
      (pss_cons (ps_for PassesOwn.never rfl (pi_zipS (by rfl) B.zip (pa_cons (pv 11) (pa_cons (pv 4) pa_nil))) (pg_tup rfl (pgs_cons (pg_name (i := 10) sc_law.nd rfl (Or.inl rfl)) (pgs_cons (pg_name (i := 13) sc_law.nd rfl (Or.inl rfl)) pgs_nil)))
      (pss_cons (ps_set (i := 12) sc_law.nd rfl (Or.inl rfl) (pe_op op_mod (pe_op op_add (pv 12) (pv 10)) (pv 5)))
      (pss_one (ps_if (pt_cmpR op_ne (pe_ix ix_str (pv 3) (pv 12) (fun _ _ => rfl)) (pv 13) (nomark _)) (pss_one (ps_ret pe_bl)) pss_nil))))
      (pss_cons (ps_if (pt_cmpR op_ne (pe_cal c_law_cost hr (by decide) (by rfl) (pa_cons (pv 11) (pa_cons (pv 2) pa_nil))) (pv 7) (nomark _)) (pss_one (ps_ret pe_bl)) pss_nil)
      (pss_cons (ps_set (i := 14) sc_law.nd rfl (Or.inl rfl) (pe_op op_add (pe_op op_add (pv 2) pe_int) (pe_cal c_law_draw hr (by decide) (by rfl) (pa_cons (pv 1) (pa_cons (pe_op op_sub pe_int (pv 2)) pa_nil)))))
      (pss_cons (ps_set (i := 15) sc_law.nd rfl (Or.inl rfl) (pe_calX cx_least_cost hr (by decide) (by rfl) passE0 (pa_cons (pv 3) (pa_cons (pv 4) (pa_cons (pv 14) pa_nil)))))
      (pss_cons (ps_if (pt_not (pt_chain op_le op_le (pv 7) (pv 15) (pe_op op_add (pv 7) (pe_op op_mulW (pe_op op_sub (pv 14) (pv 2)) (pe_callB call_len_str (by rfl) B.len (by decide +kernel) (pa_cons (pv 4) pa_nil)))))) (pss_one (ps_ret pe_bl)) pss_nil)
      (pss_cons (ps_set (i := 16) sc_law.nd rfl (Or.inl rfl) (pe_cal c_law_draw hr (by decide) (by rfl) (pa_cons (pv 1) (pa_cons (pe_op op_add (pe_callB call_len_str (by rfl) B.len (by decide +kernel) (pa_cons (pv 4) pa_nil)) pe_int) pa_nil))))
      (pss_cons (ps_if (pw_or (pt_cmpR op_gt (pe_calX cx_least_cost hr (by decide) (by rfl) passE0 (pa_cons (pv 3) (pa_cons (pe_slice sl_str (pv 4) po_none (po_some (pv 16))) (pa_cons (pv 2) pa_nil)))) (pv 7) (nomark _)) (pw_or1 (pt_cmpR op_gt (pe_ix ix_tup (pe_calX cx_best_start hr (by decide) (by rfl) passE0 (pa_cons (pv 3) (pa_cons (pv 4) (pa_cons (pv 2) pa_nil)))) pe_int (fun _ _ => rfl)) (pv 7) (nomark _)))).pt (pss_one (ps_ret pe_bl)) pss_nil)
      (pss_cons (ps_set (i := 17) sc_law.nd rfl (Or.inl rfl) (pe_join pe_str (pe_lc (own := [("sign", 13)]) (g := (gName 13)) (tt := tYes) (by rfl) sc_law.nd (pi_str (pv 4)) (blkOk_by (own := [("sign", 13)]) (N := ["script", "draws", "slack", "wheel", "word", "many", "glass", "least", "told", "row", "turn", "turns", "place", "sign", "more", "greater", "at", "doubled", "one"]) (sc := defScope s_law) (by decide +kernel)) (fun _ _ _ _ _ => (pg_name (i := 13) sc_law.nd rfl (Or.inl rfl))) (fun _ _ _ _ _ => pts_nil) (fun _ _ _ _ _ => (pe_op op_add_str (pv 13) (pv 13))))))
      (pss_one (ps_ret (pe_cmpR op_eq (pe_calX cx_least_cost hr (by decide) (by rfl) passE0 (pa_cons (pv 3) (pa_cons (pv 17) (pa_cons (pv 2) pa_nil)))) (pv 7) (nomark _)))))))))))))))))))))))))), rd_law h⟩)
end
theorem all_mk {l : PySem.W.OpenLaw} {w : World} {K : PySem.W.Frag} {h : Heap} {mg : Str → Option Value} {fa : Addr} (Xk : K.In h) (G : h.Ns mainGlobals mg) (hfa : mg "law" = some (.ref fa))
    {f0 : Addr} {od0 an0 : Option Addr} {sl0 : Array (Option Value)} {oc0 kV0 dc0 pm0 cd0 ct0 : Value}
    {f1 : Addr} {od1 an1 : Option Addr} {sl1 : Array (Option Value)} {oc1 kV1 dc1 pm1 cd1 ct1 : Value}
    {f2 : Addr} {od2 an2 : Option Addr} {sl2 : Array (Option Value)} {oc2 kV2 dc2 pm2 cd2 ct2 : Value}
    {f3 : Addr} {od3 an3 : Option Addr} {sl3 : Array (Option Value)} {oc3 kV3 dc3 pm3 cd3 ct3 : Value}
    {f4 : Addr} {od4 an4 : Option Addr} {sl4 : Array (Option Value)} {oc4 kV4 dc4 pm4 cd4 ct4 : Value}
    {f5 : Addr} {od5 an5 : Option Addr} {sl5 : Array (Option Value)} {oc5 kV5 dc5 pm5 cd5 ct5 : Value}
    {f6 : Addr} {od6 an6 : Option Addr} {sl6 : Array (Option Value)} {oc6 kV6 dc6 pm6 cd6 ct6 : Value}
    {f7 : Addr} {od7 an7 : Option Addr} {sl7 : Array (Option Value)} {oc7 kV7 dc7 pm7 cd7 ct7 : Value}
    {f8 : Addr} {od8 an8 : Option Addr} {sl8 : Array (Option Value)} {oc8 kV8 dc8 pm8 cd8 ct8 : Value}
    {f9 : Addr} {od9 an9 : Option Addr} {sl9 : Array (Option Value)} {oc9 kV9 dc9 pm9 cd9 ct9 : Value}
    {f10 : Addr} {od10 an10 : Option Addr} {sl10 : Array (Option Value)} {oc10 kV10 dc10 pm10 cd10 ct10 : Value}
    {f11 : Addr} {od11 an11 : Option Addr} {sl11 : Array (Option Value)} {oc11 kV11 dc11 pm11 cd11 ct11 : Value}
    {f12 : Addr} {od12 an12 : Option Addr} {sl12 : Array (Option Value)} {oc12 kV12 dc12 pm12 cd12 ct12 : Value}
    {f13 : Addr} {od13 an13 : Option Addr} {sl13 : Array (Option Value)} {oc13 kV13 dc13 pm13 cd13 ct13 : Value}
    {f14 : Addr} {od14 an14 : Option Addr} {sl14 : Array (Option Value)} {oc14 kV14 dc14 pm14 cd14 ct14 : Value}
    {f15 : Addr} {od15 an15 : Option Addr} {sl15 : Array (Option Value)} {oc15 kV15 dc15 pm15 cd15 ct15 : Value}
    {f16 : Addr} {od16 an16 : Option Addr} {sl16 : Array (Option Value)} {oc16 kV16 dc16 pm16 cd16 ct16 : Value}
    {f17 : Addr} {od17 an17 : Option Addr} {sl17 : Array (Option Value)} {oc17 kV17 dc17 pm17 cd17 ct17 : Value}
    {f18 : Addr} {od18 an18 : Option Addr} {sl18 : Array (Option Value)} {oc18 kV18 dc18 pm18 cd18 ct18 : Value}
    {f19 : Addr} {od19 an19 : Option Addr} {sl19 : Array (Option Value)} {oc19 kV19 dc19 pm19 cd19 ct19 : Value}
    {f20 : Addr} {od20 an20 : Option Addr} {sl20 : Array (Option Value)} {oc20 kV20 dc20 pm20 cd20 ct20 : Value}
    {f21 : Addr} {od21 an21 : Option Addr} {sl21 : Array (Option Value)} {oc21 kV21 dc21 pm21 cd21 ct21 : Value}
    {f22 : Addr} {od22 an22 : Option Addr} {sl22 : Array (Option Value)} {oc22 kV22 dc22 pm22 cd22 ct22 : Value}
    {f23 : Addr} {od23 an23 : Option Addr} {sl23 : Array (Option Value)} {oc23 kV23 dc23 pm23 cd23 ct23 : Value}
    {f24 : Addr} {od24 an24 : Option Addr} {sl24 : Array (Option Value)} {oc24 kV24 dc24 pm24 cd24 ct24 : Value}
    {f25 : Addr} {od25 an25 : Option Addr} {sl25 : Array (Option Value)} {oc25 kV25 dc25 pm25 cd25 ct25 : Value}
    {f26 : Addr} {od26 an26 : Option Addr} {sl26 : Array (Option Value)} {oc26 kV26 dc26 pm26 cd26 ct26 : Value}
    {f27 : Addr} {od27 an27 : Option Addr} {sl27 : Array (Option Value)} {oc27 kV27 dc27 pm27 cd27 ct27 : Value}
    {f28 : Addr} {od28 an28 : Option Addr} {sl28 : Array (Option Value)} {oc28 kV28 dc28 pm28 cd28 ct28 : Value}
    {t_LETTERS : Tok}
    {t_MOST_PLACES : Tok}
    {t_MOST_SIGNS : Tok}
    {t_MOST_SLACK : Tok}
    {C_Lacks C_NoSlack C_NoWheel C_NoWord : Addr}
    (a0 : PySem.W.nsIn K mainGlobals "_law_draws" = some (some (.ref f0))) (l0 : K.lookup f0 = some ⟨oc0, od0, .func (PySem.W.fnOf "_law_draws" "_law_draws" (defArgs s_law_draws) (defBody s_law_draws) (defScope s_law_draws) .none kV0 dc0 pm0 an0 cd0 ct0), sl0⟩) (c0 : PySem.W.codeIn K cd0 "_law_draws" = true) (k0 : PySem.W.keepIn K (.ref f0) = true)
    (a1 : PySem.W.nsIn K mainGlobals "_law_draw" = some (some (.ref f1))) (l1 : K.lookup f1 = some ⟨oc1, od1, .func (PySem.W.fnOf "_law_draw" "_law_draw" (defArgs s_law_draw) (defBody s_law_draw) (defScope s_law_draw) .none kV1 dc1 pm1 an1 cd1 ct1), sl1⟩) (c1 : PySem.W.codeIn K cd1 "_law_draw" = true) (k1 : PySem.W.keepIn K (.ref f1) = true)
    (a2 : PySem.W.nsIn K mainGlobals "_law_letters" = some (some (.ref f2))) (l2 : K.lookup f2 = some ⟨oc2, od2, .func (PySem.W.fnOf "_law_letters" "_law_letters" (defArgs s_law_letters) (defBody s_law_letters) (defScope s_law_letters) .none kV2 dc2 pm2 an2 cd2 ct2), sl2⟩) (c2 : PySem.W.codeIn K cd2 "_law_letters" = true) (k2 : PySem.W.keepIn K (.ref f2) = true)
    (a3 : PySem.W.nsIn K mainGlobals "_law_wheel" = some (some (.ref f3))) (l3 : K.lookup f3 = some ⟨oc3, od3, .func (PySem.W.fnOf "_law_wheel" "_law_wheel" (defArgs s_law_wheel) (defBody s_law_wheel) (defScope s_law_wheel) .none kV3 dc3 pm3 an3 cd3 ct3), sl3⟩) (c3 : PySem.W.codeIn K cd3 "_law_wheel" = true) (k3 : PySem.W.keepIn K (.ref f3) = true)
    (a4 : PySem.W.nsIn K mainGlobals "_law_word" = some (some (.ref f4))) (l4 : K.lookup f4 = some ⟨oc4, od4, .func (PySem.W.fnOf "_law_word" "_law_word" (defArgs s_law_word) (defBody s_law_word) (defScope s_law_word) .none kV4 dc4 pm4 an4 cd4 ct4), sl4⟩) (c4 : PySem.W.codeIn K cd4 "_law_word" = true) (k4 : PySem.W.keepIn K (.ref f4) = true)
    (a5 : PySem.W.nsIn K mainGlobals "are_signs" = some (some (.ref f5))) (l5 : K.lookup f5 = some ⟨oc5, od5, .func (PySem.W.fnOf "are_signs" "are_signs" (defArgs s_are_signs) (defBody s_are_signs) (defScope s_are_signs) .none kV5 dc5 pm5 an5 cd5 ct5), sl5⟩) (c5 : PySem.W.codeIn K cd5 "are_signs" = true) (k5 : PySem.W.keepIn K (.ref f5) = true)
    (a6 : PySem.W.nsIn K mainGlobals "is_word" = some (some (.ref f6))) (l6 : K.lookup f6 = some ⟨oc6, od6, .func (PySem.W.fnOf "is_word" "is_word" (defArgs s_is_word) (defBody s_is_word) (defScope s_is_word) .none kV6 dc6 pm6 an6 cd6 ct6), sl6⟩) (c6 : PySem.W.codeIn K cd6 "is_word" = true) (k6 : PySem.W.keepIn K (.ref f6) = true)
    (a7 : PySem.W.nsIn K mainGlobals "is_wheel" = some (some (.ref f7))) (l7 : K.lookup f7 = some ⟨oc7, od7, .func (PySem.W.fnOf "is_wheel" "is_wheel" (defArgs s_is_wheel) (defBody s_is_wheel) (defScope s_is_wheel) .none kV7 dc7 pm7 an7 cd7 ct7), sl7⟩) (c7 : PySem.W.codeIn K cd7 "is_wheel" = true) (k7 : PySem.W.keepIn K (.ref f7) = true)
    (a8 : PySem.W.nsIn K mainGlobals "look_at_wheel" = some (some (.ref f8))) (l8 : K.lookup f8 = some ⟨oc8, od8, .func (PySem.W.fnOf "look_at_wheel" "look_at_wheel" (defArgs s_look_at_wheel) (defBody s_look_at_wheel) (defScope s_look_at_wheel) .none kV8 dc8 pm8 an8 cd8 ct8), sl8⟩) (c8 : PySem.W.codeIn K cd8 "look_at_wheel" = true) (k8 : PySem.W.keepIn K (.ref f8) = true)
    (a9 : PySem.W.nsIn K mainGlobals "in_glass" = some (some (.ref f9))) (l9 : K.lookup f9 = some ⟨oc9, od9, .func (PySem.W.fnOf "in_glass" "in_glass" (defArgs s_in_glass) (defBody s_in_glass) (defScope s_in_glass) .none kV9 dc9 pm9 an9 cd9 ct9), sl9⟩) (c9 : PySem.W.codeIn K cd9 "in_glass" = true) (k9 : PySem.W.keepIn K (.ref f9) = true)
    (a10 : PySem.W.nsIn K mainGlobals "look_at_word" = some (some (.ref f10))) (l10 : K.lookup f10 = some ⟨oc10, od10, .func (PySem.W.fnOf "look_at_word" "look_at_word" (defArgs s_look_at_word) (defBody s_look_at_word) (defScope s_look_at_word) .none kV10 dc10 pm10 an10 cd10 ct10), sl10⟩) (c10 : PySem.W.codeIn K cd10 "look_at_word" = true) (k10 : PySem.W.keepIn K (.ref f10) = true)
    (a11 : PySem.W.nsIn K mainGlobals "look_at_slack" = some (some (.ref f11))) (l11 : K.lookup f11 = some ⟨oc11, od11, .func (PySem.W.fnOf "look_at_slack" "look_at_slack" (defArgs s_look_at_slack) (defBody s_look_at_slack) (defScope s_look_at_slack) .none kV11 dc11 pm11 an11 cd11 ct11), sl11⟩) (c11 : PySem.W.codeIn K cd11 "look_at_slack" = true) (k11 : PySem.W.keepIn K (.ref f11) = true)
    (a12 : PySem.W.nsIn K mainGlobals "look_at_errand" = some (some (.ref f12))) (l12 : K.lookup f12 = some ⟨oc12, od12, .func (PySem.W.fnOf "look_at_errand" "look_at_errand" (defArgs s_look_at_errand) (defBody s_look_at_errand) (defScope s_look_at_errand) .none kV12 dc12 pm12 an12 cd12 ct12), sl12⟩) (c12 : PySem.W.codeIn K cd12 "look_at_errand" = true) (k12 : PySem.W.keepIn K (.ref f12) = true)
    (a13 : PySem.W.nsIn K mainGlobals "turns_to" = some (some (.ref f13))) (l13 : K.lookup f13 = some ⟨oc13, od13, .func (PySem.W.fnOf "turns_to" "turns_to" (defArgs s_turns_to) (defBody s_turns_to) (defScope s_turns_to) .none kV13 dc13 pm13 an13 cd13 ct13), sl13⟩) (c13 : PySem.W.codeIn K cd13 "turns_to" = true) (k13 : PySem.W.keepIn K (.ref f13) = true)
    (a14 : PySem.W.nsIn K mainGlobals "way_of" = some (some (.ref f14))) (l14 : K.lookup f14 = some ⟨oc14, od14, .func (PySem.W.fnOf "way_of" "way_of" (defArgs s_way_of) (defBody s_way_of) (defScope s_way_of) .none kV14 dc14 pm14 an14 cd14 ct14), sl14⟩) (c14 : PySem.W.codeIn K cd14 "way_of" = true) (k14 : PySem.W.keepIn K (.ref f14) = true)
    (a15 : PySem.W.nsIn K mainGlobals "step_cost" = some (some (.ref f15))) (l15 : K.lookup f15 = some ⟨oc15, od15, .func (PySem.W.fnOf "step_cost" "step_cost" (defArgs s_step_cost) (defBody s_step_cost) (defScope s_step_cost) .none kV15 dc15 pm15 an15 cd15 ct15), sl15⟩) (c15 : PySem.W.codeIn K cd15 "step_cost" = true) (k15 : PySem.W.keepIn K (.ref f15) = true)
    (a16 : PySem.W.nsIn K mainGlobals "steps_from" = some (some (.ref f16))) (l16 : K.lookup f16 = some ⟨oc16, od16, .func (PySem.W.fnOf "steps_from" "steps_from" (defArgs s_steps_from) (defBody s_steps_from) (defScope s_steps_from) .none kV16 dc16 pm16 an16 cd16 ct16), sl16⟩) (c16 : PySem.W.codeIn K cd16 "steps_from" = true) (k16 : PySem.W.keepIn K (.ref f16) = true)
    (a17 : PySem.W.nsIn K mainGlobals "rows_from" = some (some (.ref f17))) (l17 : K.lookup f17 = some ⟨oc17, od17, .func (PySem.W.fnOf "rows_from" "rows_from" (defArgs s_rows_from) (defBody s_rows_from) (defScope s_rows_from) .none kV17 dc17 pm17 an17 cd17 ct17), sl17⟩) (c17 : PySem.W.codeIn K cd17 "rows_from" = true) (k17 : PySem.W.keepIn K (.ref f17) = true)
    (a18 : PySem.W.nsIn K mainGlobals "least_cost" = some (some (.ref f18))) (l18 : K.lookup f18 = some ⟨oc18, od18, .func (PySem.W.fnOf "least_cost" "least_cost" (defArgs s_least_cost) (defBody s_least_cost) (defScope s_least_cost) .none kV18 dc18 pm18 an18 cd18 ct18), sl18⟩) (c18 : PySem.W.codeIn K cd18 "least_cost" = true) (k18 : PySem.W.keepIn K (.ref f18) = true)
    (a19 : PySem.W.nsIn K mainGlobals "rests" = some (some (.ref f19))) (l19 : K.lookup f19 = some ⟨oc19, od19, .func (PySem.W.fnOf "rests" "rests" (defArgs s_rests) (defBody s_rests) (defScope s_rests) .none kV19 dc19 pm19 an19 cd19 ct19), sl19⟩) (c19 : PySem.W.codeIn K cd19 "rests" = true) (k19 : PySem.W.keepIn K (.ref f19) = true)
    (a20 : PySem.W.nsIn K mainGlobals "many_least" = some (some (.ref f20))) (l20 : K.lookup f20 = some ⟨oc20, od20, .func (PySem.W.fnOf "many_least" "many_least" (defArgs s_many_least) (defBody s_many_least) (defScope s_many_least) .none kV20 dc20 pm20 an20 cd20 ct20), sl20⟩) (c20 : PySem.W.codeIn K cd20 "many_least" = true) (k20 : PySem.W.keepIn K (.ref f20) = true)
    (a21 : PySem.W.nsIn K mainGlobals "table" = some (some (.ref f21))) (l21 : K.lookup f21 = some ⟨oc21, od21, .func (PySem.W.fnOf "table" "table" (defArgs s_table) (defBody s_table) (defScope s_table) .none kV21 dc21 pm21 an21 cd21 ct21), sl21⟩) (c21 : PySem.W.codeIn K cd21 "table" = true) (k21 : PySem.W.keepIn K (.ref f21) = true)
    (a22 : PySem.W.nsIn K mainGlobals "_law_glass" = some (some (.ref f22))) (l22 : K.lookup f22 = some ⟨oc22, od22, .func (PySem.W.fnOf "_law_glass" "_law_glass" (defArgs s_law_glass) (defBody s_law_glass) (defScope s_law_glass) .none kV22 dc22 pm22 an22 cd22 ct22), sl22⟩) (c22 : PySem.W.codeIn K cd22 "_law_glass" = true) (k22 : PySem.W.keepIn K (.ref f22) = true)
    (a23 : PySem.W.nsIn K mainGlobals "least_plan" = some (some (.ref f23))) (l23 : K.lookup f23 = some ⟨oc23, od23, .func (PySem.W.fnOf "least_plan" "least_plan" (defArgs s_least_plan) (defBody s_least_plan) (defScope s_least_plan) .none kV23 dc23 pm23 an23 cd23 ct23), sl23⟩) (c23 : PySem.W.codeIn K cd23 "least_plan" = true) (k23 : PySem.W.keepIn K (.ref f23) = true)
    (a24 : PySem.W.nsIn K mainGlobals "_law_step" = some (some (.ref f24))) (l24 : K.lookup f24 = some ⟨oc24, od24, .func (PySem.W.fnOf "_law_step" "_law_step" (defArgs s_law_step) (defBody s_law_step) (defScope s_law_step) .none kV24 dc24 pm24 an24 cd24 ct24), sl24⟩) (c24 : PySem.W.codeIn K cd24 "_law_step" = true) (k24 : PySem.W.keepIn K (.ref f24) = true)
    (a25 : PySem.W.nsIn K mainGlobals "_law_cost" = some (some (.ref f25))) (l25 : K.lookup f25 = some ⟨oc25, od25, .func (PySem.W.fnOf "_law_cost" "_law_cost" (defArgs s_law_cost) (defBody s_law_cost) (defScope s_law_cost) .none kV25 dc25 pm25 an25 cd25 ct25), sl25⟩) (c25 : PySem.W.codeIn K cd25 "_law_cost" = true) (k25 : PySem.W.keepIn K (.ref f25) = true)
    (a26 : PySem.W.nsIn K mainGlobals "costs_from_all" = some (some (.ref f26))) (l26 : K.lookup f26 = some ⟨oc26, od26, .func (PySem.W.fnOf "costs_from_all" "costs_from_all" (defArgs s_costs_from_all) (defBody s_costs_from_all) (defScope s_costs_from_all) .none kV26 dc26 pm26 an26 cd26 ct26), sl26⟩) (c26 : PySem.W.codeIn K cd26 "costs_from_all" = true) (k26 : PySem.W.keepIn K (.ref f26) = true)
    (a27 : PySem.W.nsIn K mainGlobals "best_start" = some (some (.ref f27))) (l27 : K.lookup f27 = some ⟨oc27, od27, .func (PySem.W.fnOf "best_start" "best_start" (defArgs s_best_start) (defBody s_best_start) (defScope s_best_start) .none kV27 dc27 pm27 an27 cd27 ct27), sl27⟩) (c27 : PySem.W.codeIn K cd27 "best_start" = true) (k27 : PySem.W.keepIn K (.ref f27) = true)
    (a28 : PySem.W.nsIn K mainGlobals "law" = some (some (.ref f28))) (l28 : K.lookup f28 = some ⟨oc28, od28, .func (PySem.W.fnOf "law" "law" (defArgs s_law) (defBody s_law) (defScope s_law) .none kV28 dc28 pm28 an28 cd28 ct28), sl28⟩) (c28 : PySem.W.codeIn K cd28 "law" = true) (k28 : PySem.W.keepIn K (.ref f28) = true)
    (z_abs : PySem.W.nsIn K mainGlobals "abs" = some none)
    (z_int : PySem.W.nsIn K mainGlobals "int" = some none)
    (z_isinstance : PySem.W.nsIn K mainGlobals "isinstance" = some none)
    (z_len : PySem.W.nsIn K mainGlobals "len" = some none)
    (z_list : PySem.W.nsIn K mainGlobals "list" = some none)
    (z_max : PySem.W.nsIn K mainGlobals "max" = some none)
    (z_min : PySem.W.nsIn K mainGlobals "min" = some none)
    (z_range : PySem.W.nsIn K mainGlobals "range" = some none)
    (z_sorted : PySem.W.nsIn K mainGlobals "sorted" = some none)
    (z_str : PySem.W.nsIn K mainGlobals "str" = some none)
    (z_sum : PySem.W.nsIn K mainGlobals "sum" = some none)
    (z_zip : PySem.W.nsIn K mainGlobals "zip" = some none)
    (g_LETTERS : PySem.W.nsIn K mainGlobals "LETTERS" = some (some (Value.str "abcdefghijklmnopqrstuvwxyz" t_LETTERS)))
    (g_MOST_PLACES : PySem.W.nsIn K mainGlobals "MOST_PLACES" = some (some (Value.int 30 t_MOST_PLACES)))
    (g_MOST_SIGNS : PySem.W.nsIn K mainGlobals "MOST_SIGNS" = some (some (Value.int 80 t_MOST_SIGNS)))
    (g_MOST_SLACK : PySem.W.nsIn K mainGlobals "MOST_SLACK" = some (some (Value.int 9 t_MOST_SLACK)))
    (gc_Lacks : PySem.W.nsIn K mainGlobals "Lacks" = some (some (.ref C_Lacks)))
    (gc_NoSlack : PySem.W.nsIn K mainGlobals "NoSlack" = some (some (.ref C_NoSlack)))
    (gc_NoWheel : PySem.W.nsIn K mainGlobals "NoWheel" = some (some (.ref C_NoWheel)))
    (gc_NoWord : PySem.W.nsIn K mainGlobals "NoWord" = some (some (.ref C_NoWord)))
    (x_Lacks : PySem.W.excIn K C_Lacks [.type "ValueError", .type "Exception", .type "BaseException", .type "object"] "ValueError.__new__" = true)
    (k_Lacks : PySem.W.keepIn K (.ref C_Lacks) = true)
    (b_Lacks : PySem.W.subIn K (.ref C_Lacks) (.type "BaseException") = some true)
    (t_Lacks : PySem.W.typeIn K (.ref C_Lacks) = some (.type "type"))
    (x_NoSlack : PySem.W.excIn K C_NoSlack [.type "ValueError", .type "Exception", .type "BaseException", .type "object"] "ValueError.__new__" = true)
    (k_NoSlack : PySem.W.keepIn K (.ref C_NoSlack) = true)
    (b_NoSlack : PySem.W.subIn K (.ref C_NoSlack) (.type "BaseException") = some true)
    (t_NoSlack : PySem.W.typeIn K (.ref C_NoSlack) = some (.type "type"))
    (x_NoWheel : PySem.W.excIn K C_NoWheel [.type "ValueError", .type "Exception", .type "BaseException", .type "object"] "ValueError.__new__" = true)
    (k_NoWheel : PySem.W.keepIn K (.ref C_NoWheel) = true)
    (b_NoWheel : PySem.W.subIn K (.ref C_NoWheel) (.type "BaseException") = some true)
    (t_NoWheel : PySem.W.typeIn K (.ref C_NoWheel) = some (.type "type"))
    (x_NoWord : PySem.W.excIn K C_NoWord [.type "ValueError", .type "Exception", .type "BaseException", .type "object"] "ValueError.__new__" = true)
    (k_NoWord : PySem.W.keepIn K (.ref C_NoWord) = true)
    (b_NoWord : PySem.W.subIn K (.ref C_NoWord) (.type "BaseException") = some true)
    (t_NoWord : PySem.W.typeIn K (.ref C_NoWord) = some (.type "type"))
    : ∃ fd : FuncData, (∀ (s : Shared) (v : Value), BindsTo s fd ⟨[v], []⟩ [("script", v)]) ∧ ∀ base : Heap, K.In base → base.Ns mainGlobals mg → FnOk l.prog w K mg base CX0 7 fa fd ["script"] (sp_law K) := by
  have e := hfa.symm.trans (PySem.W.mg_of Xk G a28)
  cases e
  have B : Bl mg := ⟨PySem.W.mg_none_of Xk G z_abs, PySem.W.mg_none_of Xk G z_int, PySem.W.mg_none_of Xk G z_isinstance, PySem.W.mg_none_of Xk G z_len, PySem.W.mg_none_of Xk G z_list, PySem.W.mg_none_of Xk G z_max, PySem.W.mg_none_of Xk G z_min, PySem.W.mg_none_of Xk G z_range, PySem.W.mg_none_of Xk G z_sorted, PySem.W.mg_none_of Xk G z_str, PySem.W.mg_none_of Xk G z_sum, PySem.W.mg_none_of Xk G z_zip, ⟨_, PySem.W.mg_of Xk G g_LETTERS, ⟨_, rfl⟩⟩, ⟨_, PySem.W.mg_of Xk G g_MOST_PLACES, ⟨_, rfl⟩⟩, ⟨_, PySem.W.mg_of Xk G g_MOST_SIGNS, ⟨_, rfl⟩⟩, ⟨_, PySem.W.mg_of Xk G g_MOST_SLACK, ⟨_, rfl⟩⟩⟩
  have X : Xf K mg (⟨C_Lacks, 0, 0, 0, 0, 0, 0, 0, C_NoSlack, 0, 0, C_NoWheel, C_NoWord, 0, 0⟩ : Cl) := ⟨PySem.W.mg_of Xk G gc_Lacks, PySem.W.mg_of Xk G gc_NoSlack, PySem.W.mg_of Xk G gc_NoWheel, PySem.W.mg_of Xk G gc_NoWord, x_Lacks, k_Lacks, b_Lacks, t_Lacks, x_NoSlack, k_NoSlack, b_NoSlack, t_NoSlack, x_NoWheel, k_NoWheel, b_NoWheel, t_NoWheel, x_NoWord, k_NoWord, b_NoWord, t_NoWord⟩
  have F0 := fun_mk (st := s_law_draws) l0 c0 k0
  have b0 := F0.binds (ps := ["script", "k"]) fun _ _ _ _ _ _ us hl => match us, hl with | [_, _], _ => rfl
  have F1 := fun_mk (st := s_law_draw) l1 c1 k1
  have b1 := F1.binds (ps := ["draws", "many"]) fun _ _ _ _ _ _ us hl => match us, hl with | [_, _], _ => rfl
  have F2 := fun_mk (st := s_law_letters) l2 c2 k2
  have b2 := F2.binds (ps := ["draws", "many", "kinds"]) fun _ _ _ _ _ _ us hl => match us, hl with | [_, _, _], _ => rfl
  have F3 := fun_mk (st := s_law_wheel) l3 c3 k3
  have b3 := F3.binds (ps := ["draws", "most"]) fun _ _ _ _ _ _ us hl => match us, hl with | [_, _], _ => rfl
  have F4 := fun_mk (st := s_law_word) l4 c4 k4
  have b4 := F4.binds (ps := ["draws", "wheel", "most"]) fun _ _ _ _ _ _ us hl => match us, hl with | [_, _, _], _ => rfl
  have F5 := fun_mk (st := s_are_signs) l5 c5 k5
  have b5 := F5.binds (ps := ["text"]) fun _ _ _ _ _ _ us hl => match us, hl with | [_], _ => rfl
  have F6 := fun_mk (st := s_is_word) l6 c6 k6
  have b6 := F6.binds (ps := ["thing"]) fun _ _ _ _ _ _ us hl => match us, hl with | [_], _ => rfl
  have F7 := fun_mk (st := s_is_wheel) l7 c7 k7
  have b7 := F7.binds (ps := ["thing"]) fun _ _ _ _ _ _ us hl => match us, hl with | [_], _ => rfl
  have F8 := fun_mk (st := s_look_at_wheel) l8 c8 k8
  have b8 := F8.binds (ps := ["wheel"]) fun _ _ _ _ _ _ us hl => match us, hl with | [_], _ => rfl
  have F9 := fun_mk (st := s_in_glass) l9 c9 k9
  have b9 := F9.binds (ps := ["wheel"]) fun _ _ _ _ _ _ us hl => match us, hl with | [_], _ => rfl
  have F10 := fun_mk (st := s_look_at_word) l10 c10 k10
  have b10 := F10.binds (ps := ["word"]) fun _ _ _ _ _ _ us hl => match us, hl with | [_], _ => rfl
  have F11 := fun_mk (st := s_look_at_slack) l11 c11 k11
  have b11 := F11.binds (ps := ["slack"]) fun _ _ _ _ _ _ us hl => match us, hl with | [_], _ => rfl
  have F12 := fun_mk (st := s_look_at_errand) l12 c12 k12
  have b12 := F12.binds (ps := ["wheel", "word", "slack"]) fun _ _ _ _ _ _ us hl => match us, hl with | [_, _, _], _ => rfl
  have F13 := fun_mk (st := s_turns_to) l13 c13 k13
  have b13 := F13.binds (ps := ["wheel", "place", "sign"]) fun _ _ _ _ _ _ us hl => match us, hl with | [_, _, _], _ => rfl
  have F14 := fun_mk (st := s_way_of) l14 c14 k14
  have b14 := F14.binds (ps := ["turn", "way"]) fun _ _ _ _ _ _ us hl => match us, hl with | [_, _], _ => rfl
  have F15 := fun_mk (st := s_step_cost) l15 c15 k15
  have b15 := F15.binds (ps := ["turn", "way", "slack"]) fun _ _ _ _ _ _ us hl => match us, hl with | [_, _, _], _ => rfl
  have F16 := fun_mk (st := s_steps_from) l16 c16 k16
  have b16 := F16.binds (ps := ["wheel", "stand", "sign", "slack"]) fun _ _ _ _ _ _ us hl => match us, hl with | [_, _, _, _], _ => rfl
  have F17 := fun_mk (st := s_rows_from) l17 c17 k17
  have b17 := F17.binds (ps := ["wheel", "word", "slack", "place"]) fun _ _ _ _ _ _ us hl => match us, hl with | [_, _, _, _], _ => rfl
  have F18 := fun_mk (st := s_least_cost) l18 c18 k18
  have b18 := F18.binds (ps := ["wheel", "word", "slack"]) fun _ _ _ _ _ _ us hl => match us, hl with | [_, _, _], _ => rfl
  have F19 := fun_mk (st := s_rests) l19 c19 k19
  have b19 := F19.binds (ps := ["wheel", "word", "slack"]) fun _ _ _ _ _ _ us hl => match us, hl with | [_, _, _], _ => rfl
  have F20 := fun_mk (st := s_many_least) l20 c20 k20
  have b20 := F20.binds (ps := ["wheel", "word", "slack"]) fun _ _ _ _ _ _ us hl => match us, hl with | [_, _, _], _ => rfl
  have F21 := fun_mk (st := s_table) l21 c21 k21
  have b21 := F21.binds (ps := ["wheel", "word", "slack"]) fun _ _ _ _ _ _ us hl => match us, hl with | [_, _, _], _ => rfl
  have F22 := fun_mk (st := s_law_glass) l22 c22 k22
  have b22 := F22.binds (ps := ["one", "many"]) fun _ _ _ _ _ _ us hl => match us, hl with | [_, _], _ => rfl
  have F23 := fun_mk (st := s_least_plan) l23 c23 k23
  have b23 := F23.binds (ps := ["wheel", "word", "slack"]) fun _ _ _ _ _ _ us hl => match us, hl with | [_, _, _], _ => rfl
  have F24 := fun_mk (st := s_law_step) l24 c24 k24
  have b24 := F24.binds (ps := ["turn", "way", "slack"]) fun _ _ _ _ _ _ us hl => match us, hl with | [_, _, _], _ => rfl
  have F25 := fun_mk (st := s_law_cost) l25 c25 k25
  have b25 := F25.binds (ps := ["turns", "slack"]) fun _ _ _ _ _ _ us hl => match us, hl with | [_, _], _ => rfl
  have F26 := fun_mk (st := s_costs_from_all) l26 c26 k26
  have b26 := F26.binds (ps := ["wheel", "word", "slack"]) fun _ _ _ _ _ _ us hl => match us, hl with | [_, _, _], _ => rfl
  have F27 := fun_mk (st := s_best_start) l27 c27 k27
  have b27 := F27.binds (ps := ["wheel", "word", "slack"]) fun _ _ _ _ _ _ us hl => match us, hl with | [_, _, _], _ => rfl
  have F28 := fun_mk (st := s_law) l28 c28 k28
  refine ⟨PySem.W.fnOf "law" "law" (defArgs s_law) (defBody s_law) (defScope s_law) .none kV28 dc28 pm28 an28 cd28 ct28, fun s v => .of_eq rfl, fun base _ _ => ?_⟩
  have C_law_draws := ok_law_draws (P := l.prog) (w := w) (base := base) F0 (PySem.W.mg_of Xk G a0) b0 B X 
  have C_law_draw := ok_law_draw (P := l.prog) (w := w) (base := base) F1 (PySem.W.mg_of Xk G a1) b1 B X 
  have C_law_letters := ok_law_letters (P := l.prog) (w := w) (base := base) F2 (PySem.W.mg_of Xk G a2) b2 B X C_law_draw
  have C_law_wheel := ok_law_wheel (P := l.prog) (w := w) (base := base) F3 (PySem.W.mg_of Xk G a3) b3 B X C_law_draw C_law_letters
  have C_law_word := ok_law_word (P := l.prog) (w := w) (base := base) F4 (PySem.W.mg_of Xk G a4) b4 B X C_law_draw
  have C_are_signs := ok_are_signs (P := l.prog) (w := w) (base := base) F5 (PySem.W.mg_of Xk G a5) b5 B X 
  have C_is_word := ok_is_word (P := l.prog) (w := w) (base := base) F6 (PySem.W.mg_of Xk G a6) b6 B X C_are_signs
  have C_is_wheel := ok_is_wheel (P := l.prog) (w := w) (base := base) F7 (PySem.W.mg_of Xk G a7) b7 B X C_is_word
  have CX_look_at_wheel := okx_look_at_wheel (P := l.prog) (w := w) (base := base) F8 (PySem.W.mg_of Xk G a8) b8 B X C_is_wheel
  have CX_in_glass := okx_in_glass (P := l.prog) (w := w) (base := base) F9 (PySem.W.mg_of Xk G a9) b9 B X CX_look_at_wheel
  have CX_look_at_word := okx_look_at_word (P := l.prog) (w := w) (base := base) F10 (PySem.W.mg_of Xk G a10) b10 B X C_is_word
  have CX_look_at_slack := okx_look_at_slack (P := l.prog) (w := w) (base := base) F11 (PySem.W.mg_of Xk G a11) b11 B X 
  have CX_look_at_errand := okx_look_at_errand (P := l.prog) (w := w) (base := base) F12 (PySem.W.mg_of Xk G a12) b12 B X CX_look_at_wheel CX_look_at_word CX_look_at_slack
  have C_turns_to := ok_turns_to (P := l.prog) (w := w) (base := base) F13 (PySem.W.mg_of Xk G a13) b13 B X 
  have C_way_of := ok_way_of (P := l.prog) (w := w) (base := base) F14 (PySem.W.mg_of Xk G a14) b14 B X 
  have C_step_cost := ok_step_cost (P := l.prog) (w := w) (base := base) F15 (PySem.W.mg_of Xk G a15) b15 B X C_way_of
  have C_steps_from := ok_steps_from (P := l.prog) (w := w) (base := base) F16 (PySem.W.mg_of Xk G a16) b16 B X C_turns_to C_way_of C_step_cost
  have C_rows_from := ok_rows_from (P := l.prog) (w := w) (base := base) F17 (PySem.W.mg_of Xk G a17) b17 B X C_steps_from
  have CX_least_cost := okx_least_cost (P := l.prog) (w := w) (base := base) F18 (PySem.W.mg_of Xk G a18) b18 B X CX_look_at_errand C_rows_from
  have C_rests := ok_rests (P := l.prog) (w := w) (base := base) F19 (PySem.W.mg_of Xk G a19) b19 B X C_rows_from C_steps_from
  have CX_many_least := okx_many_least (P := l.prog) (w := w) (base := base) F20 (PySem.W.mg_of Xk G a20) b20 B X CX_look_at_errand C_rests
  have CX_table := okx_table (P := l.prog) (w := w) (base := base) F21 (PySem.W.mg_of Xk G a21) b21 B X CX_look_at_errand C_rows_from
  have C_law_glass := ok_law_glass (P := l.prog) (w := w) (base := base) F22 (PySem.W.mg_of Xk G a22) b22 B X 
  have CX_least_plan := okx_least_plan (P := l.prog) (w := w) (base := base) F23 (PySem.W.mg_of Xk G a23) b23 B X CX_look_at_errand C_rests C_steps_from
  have C_law_step := ok_law_step (P := l.prog) (w := w) (base := base) F24 (PySem.W.mg_of Xk G a24) b24 B X 
  have C_law_cost := ok_law_cost (P := l.prog) (w := w) (base := base) F25 (PySem.W.mg_of Xk G a25) b25 B X C_law_step
  have C_costs_from_all := ok_costs_from_all (P := l.prog) (w := w) (base := base) F26 (PySem.W.mg_of Xk G a26) b26 B X C_steps_from
  have CX_best_start := okx_best_start (P := l.prog) (w := w) (base := base) F27 (PySem.W.mg_of Xk G a27) b27 B X CX_look_at_errand C_costs_from_all
  exact ok_law F28 B X C_law_draws C_law_draw C_law_wheel C_law_word CX_in_glass CX_least_cost CX_many_least CX_table C_law_glass CX_least_plan C_law_cost CX_best_start
end Sw
open PySem PySem.W PyProof.Rows
set_option maxHeartbeats 0 in
theorem PySem.Challenge.cw_strikewheel_k10_whole_turned_and_glass_c_holds : PySem.Challenge.rw_strikewheel_k10_whole_turned_and_glass_c.Holds := by
  w_on; o_law; k_head; (case hw => w_witness2)
  k_fill
  refine L2.walk_of (l := PySem.Challenge.rw_strikewheel_k10_whole_turned_and_glass_c) (n := 63) (k := 7) (x := "script") (CX := fun _ => L2.CX0) (sp := fun w => Sw.sp_law _) rfl (by decide) rfl ⟨rfl, by decide, by decide⟩ (fun w h Y => PySem.W.kIn_of Y) ?F (fun _ _ a ns hl _ hS => ⟨a, ns, rfl, hS, hl, fun _ => rfl⟩) (fun _ _ _ _ _ h => h)
  case F =>
    intro w mg fa h KX G hmg
    refine' Sw.all_mk KX G hmg ?a0 ?l0 ?c0 ?k0 ?a1 ?l1 ?c1 ?k1 ?a2 ?l2 ?c2 ?k2 ?a3 ?l3 ?c3 ?k3 ?a4 ?l4 ?c4 ?k4 ?a5 ?l5 ?c5 ?k5 ?a6 ?l6 ?c6 ?k6 ?a7 ?l7 ?c7 ?k7 ?a8 ?l8 ?c8 ?k8 ?a9 ?l9 ?c9 ?k9 ?a10 ?l10 ?c10 ?k10 ?a11 ?l11 ?c11 ?k11 ?a12 ?l12 ?c12 ?k12 ?a13 ?l13 ?c13 ?k13 ?a14 ?l14 ?c14 ?k14 ?a15 ?l15 ?c15 ?k15 ?a16 ?l16 ?c16 ?k16 ?a17 ?l17 ?c17 ?k17 ?a18 ?l18 ?c18 ?k18 ?a19 ?l19 ?c19 ?k19 ?a20 ?l20 ?c20 ?k20 ?a21 ?l21 ?c21 ?k21 ?a22 ?l22 ?c22 ?k22 ?a23 ?l23 ?c23 ?k23 ?a24 ?l24 ?c24 ?k24 ?a25 ?l25 ?c25 ?k25 ?a26 ?l26 ?c26 ?k26 ?a27 ?l27 ?c27 ?k27 ?a28 ?l28 ?c28 ?k28 ?z_abs ?z_int ?z_isinstance ?z_len ?z_list ?z_max ?z_min ?z_range ?z_sorted ?z_str ?z_sum ?z_zip ?g_LETTERS ?g_MOST_PLACES ?g_MOST_SIGNS ?g_MOST_SLACK ?gc_Lacks ?gc_NoSlack ?gc_NoWheel ?gc_NoWord ?x_Lacks ?k_Lacks ?b_Lacks ?t_Lacks ?x_NoSlack ?k_NoSlack ?b_NoSlack ?t_NoSlack ?x_NoWheel ?k_NoWheel ?b_NoWheel ?t_NoWheel ?x_NoWord ?k_NoWord ?b_NoWord ?t_NoWord
    (case a0 => k_is); (case l0 => k_is); (case c0 => k_is); (case k0 => k_is); (case a1 => k_is); (case l1 => k_is)
    (case c1 => k_is); (case k1 => k_is); (case a2 => k_is); (case l2 => k_is); (case c2 => k_is); (case k2 => k_is)
    (case a3 => k_is); (case l3 => k_is); (case c3 => k_is); (case k3 => k_is); (case a4 => k_is); (case l4 => k_is)
    (case c4 => k_is); (case k4 => k_is); (case a5 => k_is); (case l5 => k_is); (case c5 => k_is); (case k5 => k_is)
    (case a6 => k_is); (case l6 => k_is); (case c6 => k_is); (case k6 => k_is); (case a7 => k_is); (case l7 => k_is)
    (case c7 => k_is); (case k7 => k_is); (case a8 => k_is); (case l8 => k_is); (case c8 => k_is); (case k8 => k_is)
    (case a9 => k_is); (case l9 => k_is); (case c9 => k_is); (case k9 => k_is); (case a10 => k_is); (case l10 => k_is)
    (case c10 => k_is); (case k10 => k_is); (case a11 => k_is); (case l11 => k_is); (case c11 => k_is); (case k11 => k_is)
    (case a12 => k_is); (case l12 => k_is); (case c12 => k_is); (case k12 => k_is); (case a13 => k_is); (case l13 => k_is)
    (case c13 => k_is); (case k13 => k_is); (case a14 => k_is); (case l14 => k_is); (case c14 => k_is); (case k14 => k_is)
    (case a15 => k_is); (case l15 => k_is); (case c15 => k_is); (case k15 => k_is); (case a16 => k_is); (case l16 => k_is)
    (case c16 => k_is); (case k16 => k_is); (case a17 => k_is); (case l17 => k_is); (case c17 => k_is); (case k17 => k_is)
    (case a18 => k_is); (case l18 => k_is); (case c18 => k_is); (case k18 => k_is); (case a19 => k_is); (case l19 => k_is)
    (case c19 => k_is); (case k19 => k_is); (case a20 => k_is); (case l20 => k_is); (case c20 => k_is); (case k20 => k_is)
    (case a21 => k_is); (case l21 => k_is); (case c21 => k_is); (case k21 => k_is); (case a22 => k_is); (case l22 => k_is)
    (case c22 => k_is); (case k22 => k_is); (case a23 => k_is); (case l23 => k_is); (case c23 => k_is); (case k23 => k_is)
    (case a24 => k_is); (case l24 => k_is); (case c24 => k_is); (case k24 => k_is); (case a25 => k_is); (case l25 => k_is)
    (case c25 => k_is); (case k25 => k_is); (case a26 => k_is); (case l26 => k_is); (case c26 => k_is); (case k26 => k_is)
    (case a27 => k_is); (case l27 => k_is); (case c27 => k_is); (case k27 => k_is); (case a28 => k_is); (case l28 => k_is)
    (case c28 => k_is); (case k28 => k_is); (case z_abs => k_is); (case z_int => k_is); (case z_isinstance => k_is); (case z_len => k_is)
    (case z_list => k_is); (case z_max => k_is); (case z_min => k_is); (case z_range => k_is); (case z_sorted => k_is); (case z_str => k_is)
    (case z_sum => k_is); (case z_zip => k_is); (case g_LETTERS => k_is); (case g_MOST_PLACES => k_is); (case g_MOST_SIGNS => k_is); (case g_MOST_SLACK => k_is)
    (case gc_Lacks => k_is); (case gc_NoSlack => k_is); (case gc_NoWheel => k_is); (case gc_NoWord => k_is); (case x_Lacks => k_exc); (case k_Lacks => k_is)
    (case b_Lacks => k_is); (case t_Lacks => k_is); (case x_NoSlack => k_exc); (case k_NoSlack => k_is); (case b_NoSlack => k_is); (case t_NoSlack => k_is)
    (case x_NoWheel => k_exc); (case k_NoWheel => k_is); (case b_NoWheel => k_is); (case t_NoWheel => k_is); (case x_NoWord => k_exc); (case k_NoWord => k_is)
    (case b_NoWord => k_is); (case t_NoWord => k_is)
