import PyProof.Rows.All
import Wide.All
import OpenK.AllK
import Wide.FinOn
import HandS.ForMost
import HandS.ForExc
import HandS.Codes
import HandS.Style
import HandS.Wide
import HandS.IsInst
import HandS.TupAny
import HandS.HotCalls
import HandS.ExcIs
import HandS.ExcCtx
import HandS.Hot
import HandS.Conv
import HandS.SortRule
import KE.KDictDisplayH
import KE.KDictWalk
import PySem.Challenge.RW_strikewheel_k06_tables
set_option Elab.async false
set_option linter.all false
set_option maxRecDepth 100000
set_option maxHeartbeats 4000000
set_option exponentiation.threshold 2000
/-! The layer of all laws: names for readings, calls by their promises, texts, draws. -/
namespace Sw
open PySem PySem.Spec PyProof.Rows L2 SX

/-! ### names for what operators and built-ins read -/
abbrev rAdd : R2 := rI0 fun i j => .int (i + j)
abbrev rSub : R2 := rI0 fun i j => .int (i - j)
abbrev rMulW : R2 := rI CMulW fun i j => .int (i * j)
abbrev rDivW : R2 := rI CDivW fun i j => .int (i / j)
abbrev rMod : R2 := rI (fun _ j => 0 < j) fun i j => .int (i % j)
abbrev rPow : R2 := rI CPow fun i j => .int (i ^ j.toNat)
abbrev rNeg : V → Hp → VK → Prop := rU fun i => .int (-i)
abbrev rLt : R2 := rI0 fun i j => .bl (decide (i < j))
abbrev rLe : R2 := rI0 fun i j => .bl (decide (i ≤ j))
abbrev rGt : R2 := rI0 fun i j => .bl (decide (j < i))
abbrev rGe : R2 := rI0 fun i j => .bl (decide (j ≤ i))
abbrev rLtS : R2 := fun x y H Q => ∃ i j, x = .str i ∧ y = .str j ∧ Q (.bl (decide (i.cps.toList < j.cps.toList))) H
abbrev rLeS : R2 := fun x y H Q => ∃ i j, x = .str i ∧ y = .str j ∧ Q (.bl (!decide (j.cps.toList < i.cps.toList))) H
abbrev rGtS : R2 := fun x y H Q => ∃ i j, x = .str i ∧ y = .str j ∧ Q (.bl (decide (j.cps.toList < i.cps.toList))) H
abbrev rGeS : R2 := fun x y H Q => ∃ i j, x = .str i ∧ y = .str j ∧ Q (.bl (!decide (i.cps.toList < j.cps.toList))) H
abbrev rAddS : R2 := fun x y H Q => ∃ i j, x = .str i ∧ y = .str j ∧ i.length + j.length ≤ sizeLine ∧ Q (.str (i ++ j)) H
abbrev rInSign : R2 := fun x y H Q => ∃ (c : Nat) (z : Str), x = .str ⟨#[c]⟩ ∧ y = .str z ∧ Q (.bl (decide (c ∈ z.cps.toList))) H
abbrev rNotInSign : R2 := fun x y H Q => ∃ (c : Nat) (z : Str), x = .str ⟨#[c]⟩ ∧ y = .str z ∧ Q (.bl (!decide (c ∈ z.cps.toList))) H
abbrev rIsNn : R2 := fun x y H Q => y = .non ∧ Q (.bl (decide (x = .non))) H
abbrev rNotNn : R2 := fun x y H Q => y = .non ∧ Q (.bl (!decide (x = .non))) H
abbrev RC := List V → Hp → VK → Prop
abbrev rLenStr : RC := fun xs H Q => ∃ z, xs = [.str z] ∧ z.length ≤ sizeLine ∧ Q (.int z.length) H
abbrev rLenSq (K : PySem.W.Frag) : RC := fun xs H Q => ∃ p ys, xs = [.ref p] ∧ (SqL K H p ys ∨ SqT K H p ys) ∧ Q (.int ys.length) H
abbrev rAbs : RC := fun xs H Q => ∃ i, xs = [.int i] ∧ Q (.int (if i < 0 then -i else i)) H
abbrev rMax2 : RC := fun xs H Q => ∃ i j, xs = [.int i, .int j] ∧ Q (.int (if j > i then j else i)) H
abbrev rMin2 : RC := fun xs H Q => ∃ i j, xs = [.int i, .int j] ∧ Q (.int (if j < i then j else i)) H
abbrev rInt1 : RC := fun xs H Q => (∃ i, xs = [.int i] ∧ Q (.int i) H) ∨ ∃ k, xs = [.bl k] ∧ Q (.int (if k then 1 else 0)) H
abbrev rListOf (K : PySem.W.Frag) : RC := fun xs H Q => ∃ p ys, xs = [.ref p] ∧ (SqL K H p ys ∨ SqT K H p ys) ∧ ∀ l, H l = none → Q (.ref l) (upd H l (.lst ys))
abbrev rTupleOf (K : PySem.W.Frag) : RC := fun xs H Q => ∃ p ys, xs = [.ref p] ∧ ((SqL K H p ys ∧ ∀ l, H l = none → Q (.ref l) (upd H l (.tup ys))) ∨ (SqT K H p ys ∧ Q (.ref p) H))
abbrev rListT : RC := fun xs H Q => ∃ d kvs, xs = [V.ref d] ∧ Rd H d (.dT kvs) ∧ ∀ p bs, H p = none → IsKeys H kvs bs → Q (.ref p) (upd H p (.lst (bs.map V.ref)))
abbrev rCount : V → List V → Hp → VK → Prop := fun x xs H Q => ∃ a b, x = .str a ∧ xs = [.str b] ∧ Q (.int (Txt.count a b)) H
abbrev rStrInt : RC := fun xs H Q => ∃ i, xs = [.int i] ∧ i.natAbs.log2 < 1920 ∧ Q (.str (toString i)) H
abbrev rJoin (K : PySem.W.Frag) : V → List V → Hp → VK → Prop := fun x xs H Q => ∃ a p, ∃ ys : List Str, x = .str a ∧ xs = [.ref p] ∧ (SqL K H p (ys.map V.str) ∨ SqT K H p (ys.map V.str)) ∧ (ys.map (·.length)).sum + ys.length * a.length ≤ 16777216 ∧ Q (.str (Txt.join a ys)) H

/-! ### calls by promises -/
/-- the def under the name x keeps sp, by level k; nothing leaves it -/
structure Cal (P : Program) (w : World) (K : PySem.W.Frag) (mg : Str → Option Value) (base : Heap) (k : Nat) (x : Str) (sp : Sp) : Prop where
  ex : ∃ (f : Addr) (fd : FuncData) (ps : List Str), FnOk P w K mg base CX0 k f fd ps sp ∧ mg x = some (.ref f) ∧ PySem.W.keepIn K (.ref f) = true ∧ Binds K fd ps []
section
variable {X : Cx} {k j : Nat} {x : Str} {sp : Sp} {p pos : Pos} {e : Expr} {es : List Expr} {t : TA}
theorem pe_cal (c : Cal X.prog X.w X.K X.mg X.base k x sp) (hr : Room j X.A) (hk : k ≤ j) (hg : Gl X x) (ha : PA X (e :: es) t) (hdb : (x == ("__debug__" : Str)) = false := by decide)
    (he : starEach (e :: es) X.env = (false, eval e X.env) :: starEach es X.env := by rfl) (hpl : (backTo pos (starEach es X.env)).any (·.1) = false := by rfl) : PE X (.Call (.Name x p) (e :: es) [] pos) (tCall sp [] E0 t) := by
  obtain ⟨f, fd, ps, F, hm, kp, b⟩ := c.ex
  exact pe_call F (hr.mono hk) hg hm kp b .nil pass0 ha hdb he hpl
theorem pe_gc {v : V} (hg : Gl X x) (h : ∃ u, X.mg x = some u ∧ RelV v u) (hd : (x == ("__debug__" : Str)) = false := by decide) : PE X (.Name x pos) (tC v) := by
  obtain ⟨u, hm, r⟩ := h
  exact pe_glob hg hm r hd
end

/-! ### a text told from its end: s[::-1] -/
def tRevS (te : TE) : TE := fun σ H Q => te σ H fun x H1 => ∃ l : List Nat, x = .str (S l) ∧ l.length ≤ sizeLine ∧ Q (.str (S l.reverse)) H1
theorem rev_pick (l : List Nat) : (Builtin.Str.strSliceIndices none none (-1) (S l).length).filterMap ((S l).cps[·]?) = l.reverse := by
  rw [PyProof.Rows.picked_rev, PySem.W.krv_range, List.filterMap_reverse, S_len]
  have h := PySem.W.krv_all (S l).cps
  have e : (S l).cps.size = l.length := by simp
  rw [e] at h
  rw [h]
section
variable {X : Cx}
theorem pe_revS {e : Expr} {te : TE} {k : Nat} {p1 p2 p3 pos : Pos} (he : PE X e te) : PE X (.Subscript e (.Slice none none (some (.UnaryOp .USub (.Constant (.int 1) k p1) p2)) p3) pos) (tRevS te) := by
  refine ⟨fun pins s σ H Q I h => ?_⟩
  refine Subscript_ (thn (he.run pins s σ H _ I h) fun v s1 ⟨x, H1, I1, r1, q1⟩ => ?_)
  obtain ⟨l, ex, hz, q⟩ := q1
  subst ex
  obtain ⟨tk, rfl⟩ := r1
  have hst : PO X (some (.UnaryOp .USub (.Constant (.int 1) k p1) p2)) (tPart (tUn (rU fun i => .int (-i)) (tC (.int 1)))) := po_some (pe_un un_neg pe_int)
  refine wpAny_Slice (thn (po_none.run pins s1 σ H1 (fun o H2 => o = none ∧ H2 = H1) I1 ⟨rfl, rfl⟩) fun vl s2 ⟨lo, H2, I2, pl, el, e2⟩ => ?_)
  subst el e2
  refine thn (po_none.run pins s2 σ H2 (fun o H3 => o = none ∧ H3 = H2) I2 ⟨rfl, rfl⟩) fun vu s3 ⟨u, H3, I3, pu, eu, e3⟩ => ?_
  subst eu e3
  refine thn (hst.run pins s3 σ H3 (fun o H4 => o = some (-1) ∧ H4 = H3) I3 ⟨1, rfl, -1, rfl, rfl, rfl⟩) fun vs s4 ⟨o, H4, I4, ps, eo, e4⟩ => ?_
  subst eo e4
  have I5 : Inv X pins σ H4 { s4 with heap := s4.heap.push { cls := .type "slice", data := .fields #[vl, vu, vs] } } := I4.kept (t' := s4.toks) fun b ob q => Heap.get?_push_of_some _ q
  obtain ⟨pl', rfl, epl⟩ := IsPart.raw pl
  obtain ⟨pu', rfl, epu⟩ := IsPart.raw pu
  obtain ⟨ps', rfl, eps⟩ := IsPart.raw ps
  have hsl := Heap.IsSliceOf.new s4.heap (partValue pl') (partValue pu') (partValue ps')
  obtain ⟨os, hos, hcs, hds⟩ := hsl
  show wpAny (model X.prog X.w) X.A (subscriptTail e (.Slice none none (some (.UnaryOp .USub (.Constant (.int 1) k p1) p2)) p3) (.str (S l) tk) (.ref s4.heap.objs.size)) (EP X pins σ Q) X.xe _
  refine tail_any (ops := [.str (S l) tk, .ref s4.heap.objs.size]) (typeIs_str _ _ _) (F.slot_str_getitem.lookup) ?_ (by with_unfolding_all rfl)
  have h1 : ps'.map (·.1) = some (-1) := eps
  have h2 : pl'.map (·.1) = none := epl
  have h3 : pu'.map (·.1) = none := epu
  refine wpAny_getItem_str_slice (l := pl') (u := pu') (st := ps') ⟨os, hos, hcs, hds⟩ (by rw [h1]; rfl) ?_
  unfold sliceMade slicePicked
  rw [h1, h2, h3, if_neg (by simp)]
  show Made.post (Made.str ⟨((Builtin.Str.strSliceIndices none none (-1) (S l).length).filterMap ((S l).cps[·]?)).toArray⟩) _ _
  rw [rev_pick]
  exact ⟨by rw [S_len, List.length_reverse]; exact hz, .str (S l.reverse), H4, I5.tok _, ⟨_, rfl⟩, q⟩
end
/-! ### a text told again and again: s * n -/
abbrev rMulS : R2 := fun x y H Q => ∃ (l : List Nat) (n : Int), x = .str (S l) ∧ y = .int n ∧ 0 ≤ n ∧ n ≤ 1000 ∧ l.length ≤ 1000 ∧ Q (.str (S (List.replicate n.toNat l).flatten)) H
theorem fold_cat (a : Array Nat) : ∀ (n : Nat) (b : Array Nat), (List.replicate n a).foldl (· ++ ·) b = (b.toList ++ (List.replicate n a.toList).flatten).toArray
  | 0, b => by simp
  | n + 1, b => by
    rw [List.replicate_succ, List.foldl_cons, fold_cat a n, List.replicate_succ, List.flatten_cons]
    simp
theorem rep_len (l : List Nat) (n : Nat) : (List.replicate n l).flatten.length = n * l.length := by simp
section
variable {X : Cx}
theorem op_mulS : OpR X (binaryOp .Mult) rMulS := by
  intro pins s σ H x y v u Q I rx ry h
  obtain ⟨l, n, rfl, rfl, n0, n1, hl, q⟩ := h
  obtain ⟨t, rfl⟩ := rx
  obtain ⟨t', rfl⟩ := ry
  have hm : l.length * n.toNat ≤ 1000 * 1000 := Nat.mul_le_mul hl (by omega)
  refine PySem.P.mul_str (by
      have h1 : ¬ n < -(2 ^ 63 : Int) := by omega
      have h2 : ¬ n ≥ 2 ^ 63 := by omega
      rw [decide_eq_false h1, decide_eq_false h2]; rfl) (fun a _ => ?_) (fun _ _ => ?_) ?_
  · rw [S_len]
    have : (1000 : Int) ≤ (2 ^ 63 - 1) / n := (Int.le_ediv_iff_mul_le (by omega)).mpr (by omega)
    omega
  · rw [S_len]
    refine decide_eq_false ?_
    have : (1000 * 1000 : Nat) ≤ sizeLine := by decide
    omega
  · by_cases h1 : n < 1
    · rw [if_pos h1]
      have e : n.toNat = 0 := by omega
      rw [e] at q
      exact ⟨by decide, .str (S []), H, I.tok _, ⟨_, rfl⟩, q⟩
    · rw [if_neg h1]
      by_cases h2 : (n == 1 || (S l).length == 0) = true
      · rw [if_pos h2]
        have e : (List.replicate n.toNat l).flatten = l := by
          rcases (by simpa using h2 : n = 1 ∨ (S l).length = 0) with e | e
          · subst e
            show (List.replicate 1 l).flatten = l
            simp
          · rw [S_len] at e
            have : l = [] := List.length_eq_zero_iff.mp e
            subst this
            simp
        rw [e] at q
        exact ⟨.str (S l), H, I, ⟨_, rfl⟩, q⟩
      · rw [if_neg h2]
        rw [fold_cat]
        have e : (⟨((#[] : Array Nat).toList ++ (List.replicate n.toNat (S l).cps.toList).flatten).toArray⟩ : Str) = S (List.replicate n.toNat l).flatten := rfl
        rw [e]
        refine ⟨?_, .str _, H, I.tok _, ⟨_, rfl⟩, q⟩
        rw [S_len, rep_len]
        have : (1000 * 1000 : Nat) ≤ sizeLine := by decide
        rw [Nat.mul_comm]
        omega
end
end Sw
namespace Sw
open PySem PySem.Spec PyProof.Rows L2 SX
/-! ### reading, step by step -/
section
variable {K : PySem.W.Frag} {σ : L2.St} {H : Hp} {Q : VK} {QT : Bool → Hp → Prop} {QA : List V → Hp → Prop} {D : Ends} {te ta tb tc : TE} {tr : TA} {t u : TS} {tt tu : TT} {r r' : R2} {i : Nat} {v x y : V} {a b : Int}
theorem g_seqasg (h : te σ H fun x H1 => u D (σ.set i (some x)) H1) : tSeq (tAsg te (gName i)) u D σ H := h
theorem g_seqdrop (h : te σ H fun _ H1 => u D σ H1) : tSeq (tDrop te) u D σ H := h
theorem g_seqsub {to ti : TE} {rs : TSet} (h : te σ H fun x H1 => to σ H1 fun o H2 => ti σ H2 fun k H3 => rs o k x H3 fun H4 => u D σ H4) : tSeq (tAsg te (gSub to ti rs)) u D σ H := h
/-- what follows is shown once, for all states of I, then the ways to it -/
theorem g_join (I : L2.St → Hp → Prop) (hu : ∀ σ' H', I σ' H' → u D σ' H') (h : ∀ U : L2.St → Hp → Prop, (∀ σ' H', I σ' H' → U σ' H') → t { D with nx := U } σ H) : tSeq t u D σ H := h _ hu
theorem g_seqif (h : tt σ H fun b H1 => if b = true then t { D with nx := u D } σ H1 else u D σ H1) {w : TS} (e : w = tNext) : tSeq (tIfS tt t w) u D σ H := by subst e; exact h
theorem g_seq (h : t { D with nx := u D } σ H) : tSeq t u D σ H := h
theorem g_asg (h : te σ H fun x H1 => D.nx (σ.set i (some x)) H1) : tAsg te (gName i) D σ H := h
theorem g_asgsub {to ti : TE} {rs : TSet} (h : te σ H fun x H1 => to σ H1 fun o H2 => ti σ H2 fun k H3 => rs o k x H3 fun H4 => D.nx σ H4) : tAsg te (gSub to ti rs) D σ H := h
theorem g_ret (h : te σ H fun x H1 => D.rt x H1) : tRet te D σ H := h
theorem g_drop (h : te σ H fun _ H1 => D.nx σ H1) : tDrop te D σ H := h
theorem g_name {QS : L2.St → Hp → Prop} (h : QS (σ.set i (some v)) H) : gName i v σ H QS := h
theorem g_next (h : D.nx σ H) : tNext D σ H := h
theorem g_if (h : tt σ H fun b H1 => if b = true then t D σ H1 else u D σ H1) : tIfS tt t u D σ H := h
theorem g_test (h : te σ H fun x H1 => ∃ k, x = .bl k ∧ QT k H1) : tTest te σ H QT := h
theorem g_yes (h : QT true H) : tYes σ H QT := h
theorem g_B (h : te σ H fun x H1 => ∃ k, x = .bl k ∧ QT k H1) : tB te σ H QT := h
theorem g_not (h : tt σ H fun c H1 => QT (!c) H1) : tNot tt σ H QT := h
theorem g_and (h : tt σ H fun c H1 => if c = true then tu σ H1 QT else QT false H1) : tAnd tt tu σ H QT := h
theorem g_or (h : tt σ H fun c H1 => if c = true then QT true H1 else tu σ H1 QT) : tOr tt tu σ H QT := h
theorem g_andV (h : ta σ H fun x H1 => ∃ c, x = .bl c ∧ if c = true then tb σ H1 Q else Q (.bl false) H1) : tAndV ta tb σ H Q := h
theorem g_orV (h : ta σ H fun x H1 => ∃ c, x = .bl c ∧ if c = true then Q (.bl true) H1 else tb σ H1 Q) : tOrV ta tb σ H Q := h
theorem g_notV (h : ta σ H fun x H1 => ∃ c, x = .bl c ∧ Q (.bl (!c)) H1) : tNotV ta σ H Q := h
theorem g_ifE (h : tt σ H fun c H1 => if c = true then ta σ H1 Q else tb σ H1 Q) : tIf tt ta tb σ H Q := h
theorem g_chain (h : ta σ H fun x H1 => tb σ H1 fun y H2 => r x y H2 fun z H3 => ∃ k, z = .bl k ∧ (if k = true then tc σ H3 fun w' H4 => r' y w' H4 Q else Q (.bl false) H3)) : tChain r r' ta tb tc σ H Q := h
theorem g_op (h : ta σ H fun x H1 => tb σ H1 fun y H2 => r x y H2 Q) : tOp r ta tb σ H Q := h
theorem g_un {ru : V → Hp → VK → Prop} (h : ta σ H fun x H1 => ru x H1 Q) : tUn ru ta σ H Q := h
theorem g_cons (h : ta σ H fun x H1 => tr σ H1 fun xs H2 => QA (x :: xs) H2) : tCons ta tr σ H QA := h
theorem g_nil (h : QA [] H) : tNil σ H QA := h
theorem g_cb {rc : RC} (h : tr σ H fun vs H1 => rc vs H1 Q) : tCB rc tr σ H Q := h
theorem g_call {sp : Sp} {E : XK} (h : tr σ H fun vs H1 => sp vs H1 Q E) : tCall sp [] E tr σ H Q := by
  unfold tCall
  have e : (fun vs H1 => sp (vs ++ []) H1 Q E) = (fun vs H1 => sp vs H1 Q E) := by
    funext vs H1
    rw [List.append_nil]
  rw [e]
  exact h
theorem g_tup (h : tr σ H fun xs H1 => xs.length ≤ sizeLine ∧ ∀ p, H1 p = none → Q (.ref p) (upd H1 p (.tup xs))) : tTup tr σ H Q := h
theorem g_lst (h : tr σ H fun xs H1 => xs.length ≤ sizeLine ∧ ∀ p, H1 p = none → Q (.ref p) (upd H1 p (.lst xs))) : tLst tr σ H Q := h
theorem g_var (hv : σ[i]? = some (some v)) (h : Q v H) : tVar i σ H Q := ⟨v, hv, h⟩
theorem g_c (h : Q v H) : tC v σ H Q := h
theorem g_sl {rs : V → Option Int → Option Int → Hp → VK → Prop} {tl th : TO} (h : te σ H fun x H1 => tl σ H1 fun l H2 => th σ H2 fun u H3 => rs x l u H3 Q) : tSl rs te tl th σ H Q := h
theorem g_part {QO : Option Int → Hp → Prop} (h : te σ H fun x H1 => ∃ i, x = .int i ∧ QO (some i) H1) : tPart te σ H QO := h
theorem g_m1 {rm : V → List V → Hp → VK → Prop} (h : ta σ H fun x H1 => (∃ a, x = .str a) ∧ tb σ H1 fun y H2 => rm x [y] H2 Q) : tM1 rm ta tb σ H Q := h
theorem g_nopart {QO : Option Int → Hp → Prop} (h : QO none H) : tNoPart σ H QO := h
/-! by values -/
theorem g_I0 {g : Int → Int → V} (h : Q (g a b) H) : rI0 g (.int a) (.int b) H Q := ⟨a, b, rfl, rfl, h⟩
theorem g_I {C : Int → Int → Prop} {g : Int → Int → V} (hc : C a b) (h : Q (g a b) H) : rI C g (.int a) (.int b) H Q := ⟨a, b, rfl, rfl, hc, h⟩
theorem g_U {g : Int → V} (h : Q (g a) H) : rU g (.int a) H Q := ⟨a, rfl, h⟩
theorem g_eq (hs : scal x y = true) (h : Q (.bl (decide (x = y))) H) : rEq x y H Q := ⟨hs, h⟩
theorem g_ne (hs : scal x y = true) (h : Q (.bl (!decide (x = y))) H) : rNe x y H Q := ⟨hs, h⟩
theorem g_ixL {p : Addr} {xs : List V} (h : H p = some (.lst xs)) (ha : atI xs a = some v) (q : Q v H) : rIxL K (.ref p) (.int a) H Q := ⟨p, xs, a, v, rfl, rfl, .inl (.inl h), ha, q⟩
theorem g_ixT {p : Addr} {xs : List V} (h : H p = some (.tup xs)) (ha : atI xs a = some v) (q : Q v H) : rIxT K (.ref p) (.int a) H Q := ⟨p, xs, a, v, rfl, rfl, .inl (.inl h), ha, q⟩
theorem g_setL {p : Addr} {xs ys : List V} {j : Nat} {QS : Hp → Prop} (h : H p = some (.lst xs)) (ha : ixN xs.length a = some j) (hy : xs.set j v = ys) (q : ∀ H', H' p = some (.lst ys) → (∀ b, b ≠ p → H' b = H b) → QS H') : rSetL (.ref p) (.int a) v H QS :=
  ⟨p, xs, a, j, rfl, rfl, h, ha, by rw [hy]; exact q _ upd_same fun b hb => upd_ne hb⟩
theorem cm {i j : Int} (h1 : -(2 ^ 500) < i) (h2 : i < 2 ^ 500) (h3 : -(2 ^ 500) < j) (h4 : j < 2 ^ 500) : CMulW i j := wide_mul (a := 500) (b := 500) (by omega) (by omega) (by decide) (by decide) (by decide)
theorem cd {i j : Int} (h1 : 0 < j) (h4 : j < 2 ^ 500) : CDivW i j := wide_div (b := 500) h1 (by omega) (by decide) (by decide)
theorem g_bl {c : Bool} {F : Bool → Prop} (h : F c) : ∃ k, V.bl c = .bl k ∧ F k := ⟨c, rfl, h⟩
theorem g_int {F : Int → Prop} (h : F a) : ∃ k, V.int a = .int k ∧ F k := ⟨a, rfl, h⟩
theorem ite_d {c A B : Prop} [Decidable c] (h1 : c → A) (h2 : ¬ c → B) : if decide c = true then A else B := by
  by_cases h : c
  · rw [if_pos (decide_eq_true h)]; exact h1 h
  · rw [if_neg (by rw [decide_eq_false h]; exact Bool.false_ne_true)]; exact h2 h
theorem ite_n {c A B : Prop} [Decidable c] (h1 : ¬ c → A) (h2 : c → B) : if (!decide c) = true then A else B := by
  by_cases h : c
  · rw [if_neg (by rw [decide_eq_true h]; exact Bool.false_ne_true)]; exact h2 h
  · rw [if_pos (by rw [decide_eq_false h]; rfl)]; exact h1 h
theorem ite_b {c : Bool} {A B : Prop} (h1 : c = true → A) (h2 : c = false → B) : if c = true then A else B := by
  cases c with
  | true => exact h1 rfl
  | false => exact h2 rfl
end

theorem iteNT {A B : Prop} (h : B) : if (!true) = true then A else B := h
theorem iteNF {A B : Prop} (h : A) : if (!false) = true then A else B := h
/-! ### loops -/
section
variable {K : PySem.W.Frag} {σ : L2.St} {H : Hp} {Q : VK} {D : Ends} {te ta : TE} {tr : TA} {tb : TS} {tt : TT} {g : TG} {j : Nat} {vs : List Nat}
/-- for i in range(e): C: what e comes to; Pv: the invariant -/
theorem for1 (C : Int → Hp → Prop) (hn : ∀ QA : List V → Hp → Prop, (∀ n H1, C n H1 → QA [.int n] H1) → tr σ H QA) (Pv : Int → Nat → L2.St → Hp → Prop) (p0 : ∀ n H1, C n H1 → n < 2 ^ 62 ∧ -(2 ^ 62) ≤ n ∧ Pv n 0 σ H1)
    (ps : ∀ (n : Int) (i : Nat) σ' H', (i : Int) < n → Pv n i σ' H' → tb { D with nx := Pv n (i + 1), ct := Pv n (i + 1), bk := D.nx } (σ'.set j (some (.int (i : Int)))) H') (pd : ∀ n σ' H', Pv n n.toNat σ' H' → D.nx σ' H') : tFor (iRng1 tr) (gName j) tb D σ H := by
  refine hn _ fun n H1 c => ?_
  obtain ⟨h1, h2, h0⟩ := p0 n H1 c
  refine ⟨n, rfl, h2, h1, for_range (lo := 0) (n := n.toNat) (Pv n) h0 (fun i σ' H' hi p => ?_) (pd n)⟩
  show tb _ (σ'.set j (some (.int ((0 : Int) + (i : Int))))) H'
  rw [Int.zero_add]
  exact ps n i σ' H' (by omega) p
/-- for i in range(lo, e) -/
theorem for2 (C : Int → Int → Hp → Prop) (hn : ∀ QA : List V → Hp → Prop, (∀ m n H1, C m n H1 → QA [.int m, .int n] H1) → tr σ H QA) (Pv : Int → Int → Nat → L2.St → Hp → Prop) (p0 : ∀ m n H1, C m n H1 → m < 2 ^ 62 ∧ -(2 ^ 62) ≤ m ∧ n < 2 ^ 62 ∧ -(2 ^ 62) ≤ n ∧ Pv m n 0 σ H1)
    (ps : ∀ (m n : Int) (i : Nat) σ' H', m + (i : Int) < n → Pv m n i σ' H' → tb { D with nx := Pv m n (i + 1), ct := Pv m n (i + 1), bk := D.nx } (σ'.set j (some (.int (m + (i : Int))))) H') (pd : ∀ m n σ' H', Pv m n (n - m).toNat σ' H' → D.nx σ' H') : tFor (iRng2 tr) (gName j) tb D σ H := by
  refine hn _ fun m n H1 c => ?_
  obtain ⟨h1, h2, h3, h4, h0⟩ := p0 m n H1 c
  exact ⟨m, n, rfl, ⟨h2, h1, h4, h3⟩, for_range (lo := m) (n := (n - m).toNat) (Pv m n) h0 (fun i σ' H' hi p => ps m n i σ' H' (by omega) p) (pd m n)⟩
/-- [.. for i in range(e) if ..] -/
theorem lc1 (C : Int → Hp → Prop) (hn : ∀ QA : List V → Hp → Prop, (∀ n H1, C n H1 → QA [.int n] H1) → tr σ H QA) (hC : ∀ n H1, C n H1 → n < 2 ^ 62 ∧ -(2 ^ 62) ≤ n) (Pv : Addr → Int → Nat → Hp → Prop) (p0 : ∀ Dl n H1, C n H1 → H1 Dl = none → Pv Dl n 0 (upd H1 Dl (.lst [])))
    (hw : ∀ x : V, wipe ((wipe σ vs).set j (some x)) vs = wipe σ vs)
    (ps : ∀ Dl (n : Int) (i : Nat) H', (i : Int) < n → Pv Dl n i H' → tt ((wipe σ vs).set j (some (.int (i : Int)))) H' fun b H3 => if b = true then te ((wipe σ vs).set j (some (.int (i : Int)))) H3 fun y H4 => ∃ acc, H4 Dl = some (.lst acc) ∧ acc.length < sizeLine ∧ Pv Dl n (i + 1) (upd H4 Dl (.lst (acc ++ [y]))) else Pv Dl n (i + 1) H3)
    (pd : ∀ Dl n H', Pv Dl n n.toNat H' → Q (.ref Dl) H') : tLc (iRng1 tr) (gName j) tt te vs σ H Q := by
  refine hn _ fun n H1 c => ?_
  obtain ⟨h1, h2⟩ := hC n H1 c
  refine ⟨n, rfl, h2, h1, fun Dl hD => lc_range (lo := 0) (n := n.toNat) (Pv Dl n) (p0 Dl n H1 c hD) (fun i H' hi p => ?_) (fun H' q => pd Dl n H' q)⟩
  have e : (0 : Int) + (i : Int) = (i : Int) := Int.zero_add _
  show wipe ((wipe σ vs).set j (some (.int ((0 : Int) + (i : Int))))) vs = wipe σ vs ∧ tt ((wipe σ vs).set j (some (.int ((0 : Int) + (i : Int))))) H' _
  rw [e]
  exact ⟨hw _, ps Dl n i H' (by omega) p⟩
/-- for c in text -/
theorem forS {l : List Nat} (hn : ∀ Q : VK, Q (.str (S l)) H → te σ H Q) (Pv : Nat → L2.St → Hp → Prop) (p0 : Pv 0 σ H)
    (ps : ∀ (i : Nat) (c : Nat) σ' H', l[i]? = some c → Pv i σ' H' → tb { D with nx := Pv (i + 1), ct := Pv (i + 1), bk := D.nx } (σ'.set j (some (.str (S [c])))) H') (pd : ∀ σ' H', Pv l.length σ' H' → D.nx σ' H') : tFor (iStr te) (gName j) tb D σ H := by
  refine hn _ ⟨S l, rfl, fun i m σ H => m = l.length - i ∧ i ≤ l.length ∧ Pv i σ H, ⟨l.length, by omega, by omega, p0⟩, ?_⟩
  rintro i m σ' H' ⟨rfl, hi, p⟩
  have es : (S l).cps.size = l.length := by simp
  by_cases hlt : i < l.length
  · refine .inr ⟨by show i < (S l).cps.size; omega, Pv (i + 1), fun σ2 H2 p' => ⟨l.length - (i + 1), by omega, rfl, by omega, p'⟩, fun v H2 y => ?_⟩
    obtain ⟨e, c, hc, ev⟩ := y
    subst e ev
    exact ps i c σ' _ (by simpa using hc) p
  · have e : i = l.length := by omega
    subst e
    exact .inl ⟨by show (S l).cps.size ≤ l.length; omega, pd σ' H' p⟩
/-- for x in a list that stays -/
theorem forL {a : Addr} {xs : List V} (hn : ∀ Q : VK, Q (.ref a) H → te σ H Q) (Pv : Nat → L2.St → Hp → Prop) (p0 : Pv 0 σ H) (hl : ∀ i σ' H', i ≤ xs.length → Pv i σ' H' → SqL K H' a xs)
    (ps : ∀ (i : Nat) (x : V) σ' H', xs[i]? = some x → Pv i σ' H' → g x σ' H' fun σ2 H2 => tb { D with nx := Pv (i + 1), ct := Pv (i + 1), bk := D.nx } σ2 H2) (pd : ∀ σ' H', Pv xs.length σ' H' → D.nx σ' H') : tFor (iList K te) g tb D σ H := by
  have h0 := hl 0 σ H (Nat.zero_le _) p0
  exact hn _ ⟨a, rfl, ⟨xs, h0⟩, for_list Pv p0 hl ps pd⟩
/-! ### comprehensions whose tests and items leave the heap as it is -/
/-- the items of the turns that are taken -/
def given (n : Nat) (f : Nat → Bool) (v : Nat → V) : List V := ((List.range n).filter f).map v
theorem given_yes {n : Nat} {f : Nat → Bool} {v : Nat → V} (h : f n = true) : given (n + 1) f v = given n f v ++ [v n] := by
  unfold given
  rw [List.range_succ, List.filter_append, List.map_append]
  simp [h]
theorem given_no {n : Nat} {f : Nat → Bool} {v : Nat → V} (h : f n = false) : given (n + 1) f v = given n f v := by
  unfold given
  rw [List.range_succ, List.filter_append, List.map_append]
  simp [h]
theorem given_len (n : Nat) (f : Nat → Bool) (v : Nat → V) : (given n f v).length ≤ n := by
  unfold given
  rw [List.length_map]
  have h := List.length_filter_le f (List.range n)
  rw [List.length_range] at h
  exact h
/-- between two turns: the new list at Dl -/
def Lw (H : Hp) (f : Nat → Bool) (v : Nat → V) (Dl : Addr) (i : Nat) (H' : Hp) : Prop := H Dl = none ∧ Same H H' ∧ H' Dl = some (.lst (given i f v))
theorem lw_start {f : Nat → Bool} {v : Nat → V} {Dl : Addr} (h : H Dl = none) : Lw H f v Dl 0 (upd H Dl (.lst [])) := ⟨h, fun b o e => by rw [upd_ne (ne_of_none e h)]; exact e, upd_same⟩
theorem lw_turn {H' : Hp} {f : Nat → Bool} {v : Nat → V} {Dl : Addr} {i : Nat} {τ : L2.St} (p : Lw H f v Dl i H') (hi : i < 1000000) (ht : ∀ QT : Bool → Hp → Prop, QT (f i) H' → tt τ H' QT) (he : f i = true → ∀ Q : VK, Q (v i) H' → te τ H' Q) :
    tt τ H' fun b H3 => if b = true then te τ H3 fun y H4 => ∃ acc, H4 Dl = some (.lst acc) ∧ acc.length < sizeLine ∧ Lw H f v Dl (i + 1) (upd H4 Dl (.lst (acc ++ [y]))) else Lw H f v Dl (i + 1) H3 := by
  obtain ⟨p1, p2, p3⟩ := p
  refine ht _ ?_
  cases hf : f i with
  | true =>
    refine iteT (he hf _ ⟨_, p3, ?_, p1, fun b o e => ?_, ?_⟩)
    · exact Nat.lt_of_le_of_lt (given_len i f v) (Nat.lt_trans hi (by decide))
    · rw [upd_ne (ne_of_none e p1)]; exact p2 b o e
    · rw [given_yes hf]; exact upd_same
  | false =>
    refine iteF ⟨p1, p2, ?_⟩
    rw [given_no hf]; exact p3
theorem lcP1 {n : Int} (f : Nat → Bool) (v : Nat → V) (hn : ∀ QA : List V → Hp → Prop, QA [.int n] H → tr σ H QA) (h1 : n ≤ 100000) (h2 : -100000 ≤ n) (hw : ∀ x : V, wipe ((wipe σ vs).set j (some x)) vs = wipe σ vs)
    (ht : ∀ (i : Nat) H' (QT : Bool → Hp → Prop), (i : Int) < n → Same H H' → QT (f i) H' → tt ((wipe σ vs).set j (some (.int (i : Int)))) H' QT)
    (he : ∀ (i : Nat) H' (Q : VK), (i : Int) < n → Same H H' → f i = true → Q (v i) H' → te ((wipe σ vs).set j (some (.int (i : Int)))) H' Q)
    (pd : ∀ Dl H', H Dl = none → Same H H' → H' Dl = some (.lst (given n.toNat f v)) → Q (.ref Dl) H') : tLc (iRng1 tr) (gName j) tt te vs σ H Q := by
  refine lc1 (fun m H1 => m = n ∧ H1 = H) (fun QA h => hn QA (h _ _ ⟨rfl, rfl⟩)) (fun m H1 e => by omega) (fun Dl m i H' => m = n ∧ Lw H f v Dl i H') (fun Dl m H1 e nD => ?_) hw (fun Dl m i H' hi p => ?_) (fun Dl m H' p => ?_)
  · obtain ⟨rfl, rfl⟩ := e
    exact ⟨rfl, lw_start nD⟩
  · obtain ⟨rfl, p⟩ := p
    have z := lw_turn (tt := tt) (te := te) (τ := (wipe σ vs).set j (some (.int (i : Int)))) p (by omega) (fun QT q => ht i H' QT hi p.2.1 q) (fun hf Q q => he i H' Q hi p.2.1 hf q)
    simp only [eq_self, true_and]
    exact z
  · obtain ⟨rfl, p⟩ := p
    exact pd Dl H' p.1 p.2.1 p.2.2
theorem lc2 (C : Int → Int → Hp → Prop) (hn : ∀ QA : List V → Hp → Prop, (∀ m n H1, C m n H1 → QA [.int m, .int n] H1) → tr σ H QA) (hC : ∀ m n H1, C m n H1 → m < 2 ^ 62 ∧ -(2 ^ 62) ≤ m ∧ n < 2 ^ 62 ∧ -(2 ^ 62) ≤ n) (Pv : Addr → Int → Int → Nat → Hp → Prop)
    (p0 : ∀ Dl m n H1, C m n H1 → H1 Dl = none → Pv Dl m n 0 (upd H1 Dl (.lst []))) (hw : ∀ x : V, wipe ((wipe σ vs).set j (some x)) vs = wipe σ vs)
    (ps : ∀ Dl (m n : Int) (i : Nat) H', m + (i : Int) < n → Pv Dl m n i H' → tt ((wipe σ vs).set j (some (.int (m + (i : Int))))) H' fun b H3 => if b = true then te ((wipe σ vs).set j (some (.int (m + (i : Int))))) H3 fun y H4 => ∃ acc, H4 Dl = some (.lst acc) ∧ acc.length < sizeLine ∧ Pv Dl m n (i + 1) (upd H4 Dl (.lst (acc ++ [y]))) else Pv Dl m n (i + 1) H3)
    (pd : ∀ Dl m n H', Pv Dl m n (n - m).toNat H' → Q (.ref Dl) H') : tLc (iRng2 tr) (gName j) tt te vs σ H Q := by
  refine hn _ fun m n H1 c => ?_
  obtain ⟨h1, h2, h3, h4⟩ := hC m n H1 c
  exact ⟨m, n, rfl, ⟨h2, h1, h4, h3⟩, fun Dl hD => lc_range (lo := m) (n := (n - m).toNat) (Pv Dl m n) (p0 Dl m n H1 c hD) (fun i H' hi p => ⟨hw _, ps Dl m n i H' (by omega) p⟩) (fun H' q => pd Dl m n H' q)⟩
theorem lcP2 {m n : Int} (f : Nat → Bool) (v : Nat → V) (hn : ∀ QA : List V → Hp → Prop, QA [.int m, .int n] H → tr σ H QA) (h1 : n ≤ 100000) (h2 : -100000 ≤ n) (h3 : m ≤ 100000) (h4 : -100000 ≤ m) (hw : ∀ x : V, wipe ((wipe σ vs).set j (some x)) vs = wipe σ vs)
    (ht : ∀ (i : Nat) H' (QT : Bool → Hp → Prop), m + (i : Int) < n → Same H H' → QT (f i) H' → tt ((wipe σ vs).set j (some (.int (m + (i : Int))))) H' QT)
    (he : ∀ (i : Nat) H' (Q : VK), m + (i : Int) < n → Same H H' → f i = true → Q (v i) H' → te ((wipe σ vs).set j (some (.int (m + (i : Int))))) H' Q)
    (pd : ∀ Dl H', H Dl = none → Same H H' → H' Dl = some (.lst (given (n - m).toNat f v)) → Q (.ref Dl) H') : tLc (iRng2 tr) (gName j) tt te vs σ H Q := by
  refine lc2 (fun a b H1 => a = m ∧ b = n ∧ H1 = H) (fun QA h => hn QA (h _ _ _ ⟨rfl, rfl, rfl⟩)) (fun a b H1 e => by omega) (fun Dl a b i H' => a = m ∧ b = n ∧ Lw H f v Dl i H') (fun Dl a b H1 e nD => ?_) hw (fun Dl a b i H' hi p => ?_) (fun Dl a b H' p => ?_)
  · obtain ⟨rfl, rfl, rfl⟩ := e
    exact ⟨rfl, rfl, lw_start nD⟩
  · obtain ⟨rfl, rfl, p⟩ := p
    have z := lw_turn (tt := tt) (te := te) (τ := (wipe σ vs).set j (some (.int (a + (i : Int))))) p (by omega) (fun QT q => ht i H' QT hi p.2.1 q) (fun hf Q q => he i H' Q hi p.2.1 hf q)
    simp only [eq_self, true_and]
    exact z
  · obtain ⟨rfl, rfl, p⟩ := p
    exact pd Dl H' p.1 p.2.1 p.2.2
/-- over a list -/
theorem lcPL {a : Addr} {xs : List V} (f : Nat → Bool) (v : Nat → V) (hn : ∀ Q : VK, Q (.ref a) H → ta σ H Q) (hx : SqL K H a xs) (hz : xs.length ≤ 100000) (hw : ∀ x : V, wipe ((wipe σ vs).set j (some x)) vs = wipe σ vs)
    (ht : ∀ (i : Nat) x H' (QT : Bool → Hp → Prop), xs[i]? = some x → Same H H' → QT (f i) H' → tt ((wipe σ vs).set j (some x)) H' QT)
    (he : ∀ (i : Nat) x H' (Q : VK), xs[i]? = some x → Same H H' → f i = true → Q (v i) H' → te ((wipe σ vs).set j (some x)) H' Q)
    (pd : ∀ Dl H', H Dl = none → Same H H' → H' Dl = some (.lst (given xs.length f v)) → Q (.ref Dl) H') : tLc (iList K ta) (gName j) tt te vs σ H Q := by
  refine hn _ ⟨a, rfl, ⟨xs, hx⟩, fun Dl hD => lc_list (xs := xs) (Lw H f v Dl) (lw_start hD) (fun i H' _ p => p.2.1.seq hx) (fun i x H' hi p => ⟨hw x, ?_⟩) (fun H' p => pd Dl H' p.1 p.2.1 p.2.2)⟩
  have := (List.getElem?_eq_some_iff.mp hi).1
  exact lw_turn (tt := tt) (te := te) p (by omega) (fun QT q => ht i x H' QT hi p.2.1 q) (fun hf Q q => he i x H' Q hi p.2.1 hf q)
/-- over a text -/
theorem lcPS {l : List Nat} (f : Nat → Bool) (v : Nat → V) (hn : ∀ Q : VK, Q (.str (S l)) H → ta σ H Q) (hz : l.length ≤ 100000) (hw : ∀ x : V, wipe ((wipe σ vs).set j (some x)) vs = wipe σ vs)
    (ht : ∀ (i : Nat) c H' (QT : Bool → Hp → Prop), l[i]? = some c → Same H H' → QT (f i) H' → tt ((wipe σ vs).set j (some (.str (S [c])))) H' QT)
    (he : ∀ (i : Nat) c H' (Q : VK), l[i]? = some c → Same H H' → f i = true → Q (v i) H' → te ((wipe σ vs).set j (some (.str (S [c])))) H' Q)
    (pd : ∀ Dl H', H Dl = none → Same H H' → H' Dl = some (.lst (given l.length f v)) → Q (.ref Dl) H') : tLc (iStr ta) (gName j) tt te vs σ H Q := by
  have es : (S l).cps.size = l.length := by simp
  refine hn _ ⟨S l, rfl, fun Dl hD => ⟨fun i m H' => m = l.length - i ∧ i ≤ l.length ∧ Lw H f v Dl i H', ⟨l.length, by omega, by omega, lw_start hD⟩, ?_⟩⟩
  rintro i m H' ⟨rfl, hi, p⟩
  by_cases hlt : i < l.length
  · refine .inr ⟨by show i < (S l).cps.size; omega, fun H2 => Lw H f v Dl (i + 1) H2, fun H2 p' => ⟨l.length - (i + 1), by omega, rfl, by omega, p'⟩, fun x H2 y => ?_⟩
    obtain ⟨e, c, hc, ev⟩ := y
    subst e ev
    have hc' : l[i]? = some c := by simpa using hc
    exact ⟨hw _, lw_turn (tt := tt) (te := te) p (by omega) (fun QT q => ht i c _ QT hc' p.2.1 q) (fun hf Q q => he i c _ Q hc' p.2.1 hf q)⟩
  · have e : i = l.length := by omega
    subst e
    exact .inl ⟨by show (S l).cps.size ≤ l.length; omega, pd Dl H' p.1 p.2.1 p.2.2⟩
end
section
variable {K : PySem.W.Frag} {σ : L2.St} {H H' : Hp} {Q : VK} {D : Ends} {te ta : TE} {tr : TA} {T : String}
theorem g_bm {rm : V → List V → Hp → VK → Prop} (h : ta σ H fun x H1 => tyV K T x H1 ∧ tr σ H1 fun ys H2 => rm x ys H2 Q) : tBM K T rm ta tr σ H Q := h
theorem ty_lst {l : Addr} {xs : List V} (h : H l = some (.lst xs)) : tyV K "list" (.ref l) H := .inl ⟨rfl, _, .inl (.inl h)⟩
theorem g_sput {td ty tv : TE} {u : TS} (h : tv σ H fun v H1 => td σ H1 fun x H2 => ty σ H2 fun y H3 => ∃ a H4, x = .ref a ∧ DPut H3 a y v H4 ∧ u D σ H4) : tSeq (sDPut td ty tv) u D σ H := h
theorem g_put {td ty tv : TE} (h : tv σ H fun v H1 => td σ H1 fun x H2 => ty σ H2 fun y H3 => ∃ a H4, x = .ref a ∧ DPut H3 a y v H4 ∧ D.nx σ H4) : sDPut td ty tv D σ H := h
theorem g_dget2 {td ty tx : TE} (h : td σ H fun x H1 => ∃ a, x = .ref a ∧ IsD H1 a ∧ ty σ H1 fun y H2 => tx σ H2 fun z H3 => ∃ o, DGet H3 a y o ∧ Q (o.getD z) H3) : tDGet2 td ty tx σ H Q := h
theorem g_dget {td ty : TE} (h : td σ H fun x H1 => ty σ H1 fun y H2 => ∃ a v, x = .ref a ∧ DGet H2 a y (some v) ∧ Q v H2) : tDGet td ty σ H Q := h
theorem g_dnotin {td ty : TE} (h : ty σ H fun y H1 => td σ H1 fun x H2 => ∃ a o, x = .ref a ∧ DGet H2 a y o ∧ Q (.bl (!o.isSome)) H2) : tDNotIn ty td σ H Q := h
theorem g_din {td ty : TE} (h : ty σ H fun y H1 => td σ H1 fun x H2 => ∃ a o, x = .ref a ∧ DGet H2 a y o ∧ Q (.bl o.isSome) H2) : tDIn ty td σ H Q := h
theorem g_dT (h : ∀ p, H p = none → Q (.ref p) (upd H p (.dT []))) : tDNewT σ H Q := h
theorem g_bm0 {rm : V → List V → Hp → VK → Prop} (h : ta σ H fun x H1 => tyV K T x H1 ∧ rm x [] H1 Q) : tBM0 K T rm ta σ H Q := h
theorem g_dK (h : ∀ p, H p = none → Q (.ref p) (upd H p (.dK []))) : tDNewK σ H Q := h
end
end Sw
local macro_rules | `(tactic| walk_at "go1") => `(tactic| first
  | with_reducible refine Sw.g_seqasg ?_ | with_reducible refine Sw.g_op ?_ | with_reducible refine Sw.g_var rfl ?_ | with_reducible refine Sw.g_c ?_ | with_reducible refine Sw.g_I0 ?_
  | with_reducible refine Sw.g_cons ?_ | with_reducible refine Sw.g_nil ?_ | with_reducible refine Sw.g_call ?_ | with_reducible refine Sw.g_cb ?_ | with_reducible refine Sw.g_test ?_ | with_reducible refine Sw.g_bl ?_
  | with_reducible refine Sw.g_seqdrop ?_ | with_reducible refine Sw.g_seqsub ?_ | with_reducible refine Sw.g_asg ?_ | with_reducible refine Sw.g_asgsub ?_ | with_reducible refine Sw.g_ret ?_ | with_reducible refine Sw.g_drop ?_ | with_reducible refine Sw.g_if ?_ | with_reducible refine Sw.g_next ?_ | with_reducible refine Sw.g_name ?_
  | with_reducible refine Sw.g_B ?_ | with_reducible refine Sw.g_not ?_ | with_reducible refine Sw.g_and ?_ | with_reducible refine Sw.g_or ?_ | with_reducible refine Sw.g_andV ?_ | with_reducible refine Sw.g_orV ?_ | with_reducible refine Sw.g_notV ?_
  | with_reducible refine Sw.g_ifE ?_ | with_reducible refine Sw.g_chain ?_ | with_reducible refine Sw.g_un ?_ | with_reducible refine Sw.g_tup ?_ | with_reducible refine Sw.g_lst ?_ | with_reducible refine Sw.g_sl ?_ | with_reducible refine Sw.g_part ?_ | with_reducible refine Sw.g_nopart ?_
  | with_reducible refine Sw.g_U ?_ | with_reducible refine Sw.g_eq rfl ?_ | with_reducible refine Sw.g_ne rfl ?_ | with_reducible refine Sw.g_int ?_ | with_reducible refine Sw.g_yes ?_ | with_reducible refine L2.iteT ?_ | with_reducible refine L2.iteF ?_ | with_reducible refine Sw.iteNT ?_ | with_reducible refine Sw.iteNF ?_ | with_reducible refine Sw.g_m1 ?_ | with_reducible refine Sw.g_bm ?_ | with_reducible refine ⟨Sw.ty_lst (by assumption), ?_⟩ | with_reducible refine Sw.g_sput ?_ | with_reducible refine Sw.g_put ?_ | with_reducible refine Sw.g_dget2 ?_ | with_reducible refine Sw.g_dget ?_ | with_reducible refine Sw.g_dK ?_ | with_reducible refine Sw.g_dT ?_ | with_reducible refine Sw.g_dnotin ?_ | with_reducible refine Sw.g_din ?_ | with_reducible refine Sw.g_bm0 ?_
  | with_reducible refine Sw.g_ixL (by assumption) rfl ?_ | with_reducible refine Sw.g_ixT (by assumption) rfl ?_)
local macro_rules | `(tactic| walk_at "go") => `(tactic| repeat walk_at "go1")
local macro_rules | `(tactic| walk_at "bd") => `(tactic| repeat (first | with_reducible exact Sw.all_nil | refine Sw.all_cons ⟨_, rfl, by omega, by omega⟩ ?_))
local macro_rules | `(tactic| walk_at "new") => `(tactic| (refine ⟨Nat.le_of_ble_eq_true rfl, fun p np => ?_⟩; generalize hX : L2.upd _ p _ = H'; have sm : L2.Same _ H' := hX ▸ Sw.same_upd np; have hp : H' p = some _ := hX ▸ L2.upd_same; clear hX))
namespace Sw
open PySem PySem.Spec PyProof.Rows L2 SX
/-! ### draws -/
def Dr (H : Hp) (d : Addr) : Prop := ∃ c s p : Int, H d = some (.lst [.int c, .int s, .int p]) ∧ 0 ≤ s ∧ s ≤ 2147500000 ∧ 0 < p ∧ p ≤ 2147483647
/-- all but d stays -/
def Fr (d : Addr) (H H' : Hp) : Prop := ∀ b o, b ≠ d → H b = some o → H' b = some o
theorem Fr.refl (d : Addr) (H : Hp) : Fr d H H := fun _ _ _ h => h
theorem Fr.trans {d : Addr} {H H1 H2 : Hp} (a : Fr d H H1) (b : Fr d H1 H2) : Fr d H H2 := fun x o n h => b x o n (a x o n h)
theorem Fr.of {d : Addr} {H H' : Hp} (a : Same H H') : Fr d H H' := fun x o _ h => a x o h
theorem same_upd {H : Hp} {p : Addr} {o : HO} (h : H p = none) : Same H (upd H p o) := fun b x e => by
  rw [upd_ne (ne_of_none e h)]
  exact e
theorem Same.tup {K : PySem.W.Frag} {H H' : Hp} {a : Addr} {xs : List V} (e : Same H H') (h : SqT K H a xs) : SqT K H' a xs := by
  rcases h with (h | ⟨o, h⟩) | h
  · exact .inl (.inl (e _ _ h))
  · exact .inl (.inr ⟨o, e _ _ h⟩)
  · exact .inr h
/-- the law's state: draws stand at d; G: what stays -/
structure LS (G : Hp) (d : Addr) (H : Hp) : Prop where
  dr : Dr H d
  ex : Same G H
  no : G d = none
section
variable {G H H' : Hp} {d p : Addr} {o : HO}
theorem LS.to (hs : LS G d H) (dr : Dr H' d) (fr : Fr d H H') : LS G d H' := ⟨dr, fun b x e => fr b x (ne_of_none e hs.no) (hs.ex b x e), hs.no⟩
theorem Dr.same (h : Dr H d) (e : Same H H') : Dr H' d := by
  obtain ⟨c, s, p, h1, h2⟩ := h
  exact ⟨c, s, p, e _ _ h1, h2⟩
theorem Dr.ne (h : Dr H d) (np : H p = none) : p ≠ d := fun e => by
  obtain ⟨c, s, q, h1, _⟩ := h
  rw [← e, np] at h1
  cases h1
/-- all but d stays -/
def but (H : Hp) (d : Addr) : Hp := fun b => if b = d then none else H b
theorem LS.of (dr : Dr H d) : LS (but H d) d H := ⟨dr, fun b o e => by
  unfold but at e
  by_cases hb : b = d
  · rw [if_pos hb] at e; cases e
  · rw [if_neg hb] at e; exact e, if_pos rfl⟩
theorem LS.fr (hs : LS (but H d) d H') : Fr d H H' := fun b o n e => hs.ex b o (by unfold but; rw [if_neg n]; exact e)
theorem LS.nog (hs : LS G d H) (np : H p = none) : G p = none := hs.ex.free np
/-- a new object that stays -/
theorem LS.new (hs : LS G d H) (np : H p = none) : LS (upd G p o) d (upd H p o) :=
  ⟨hs.dr.same (same_upd np), fun b x e => by
    by_cases hb : b = p
    · subst hb
      rw [upd_same] at e ⊢
      exact e
    · rw [upd_ne hb] at e ⊢
      exact hs.ex b x e, by rw [upd_ne (hs.dr.ne np).symm]; exact hs.no⟩
/-- a new object that doesn't matter -/
theorem LS.old (hs : LS G d H) (np : H p = none) : LS G d (upd H p o) := ⟨hs.dr.same (same_upd np), fun b x e => same_upd np b x (hs.ex b x e), hs.no⟩
/-- another object than d, of which G knows nothing, is changed -/
theorem LS.put (hs : LS G d H) (np : G p = none) (hp : p ≠ d) : LS G d (upd H p o) := by
  obtain ⟨c, s, q, h1, h2⟩ := hs.dr
  exact ⟨⟨c, s, q, by rw [upd_ne hp.symm]; exact h1, h2⟩, fun b x e => by rw [upd_ne (ne_of_none e np)]; exact hs.ex b x e, hs.no⟩
theorem LS.less {G' : Hp} (hs : LS G' d H) (e : Same G G') : LS G d H := ⟨hs.dr, fun b x q => hs.ex b x (e b x q), e.free hs.no⟩
theorem LS.same (hs : LS G d H) (e : Same H H') : LS G d H' := ⟨hs.dr.same e, fun b x q => e b x (hs.ex b x q), hs.no⟩
theorem LS.drop (hs : LS (upd G p o) d H) (np : G p = none) : LS G d H := hs.less (same_upd np)
end
theorem all_nil {P : V → Prop} : ∀ x ∈ ([] : List V), P x := fun _ h => nomatch h
theorem all_cons {P : V → Prop} {y : V} {l : List V} (h : P y) (hl : ∀ x ∈ l, P x) : ∀ x ∈ y :: l, P x := fun x hx => by
  rcases List.mem_cons.mp hx with e | e
  · rw [e]; exact h
  · exact hl x e
theorem atI_of {α : Type} {xs : List α} {r : Int} (h0 : 0 ≤ r) (h1 : r < (xs.length : Int)) : ∃ v, atI xs r = some v ∧ v ∈ xs ∧ xs[r.toNat]? = some v := by
  have hl : r.toNat < xs.length := by omega
  have e : ((r.toNat : Nat) : Int) = r := by omega
  have z := atI_nat (xs := xs) (j := r.toNat) (List.getElem?_eq_getElem hl)
  rw [e] at z
  exact ⟨xs[r.toNat], z, List.getElem_mem hl, List.getElem?_eq_getElem hl⟩
/-- a drawn item of a list that was just made -/
theorem LS.at {K : PySem.W.Frag} {G H : Hp} {d p : Addr} {xs : List V} {r : Int} {Q : VK} (hs : LS (upd G p (.lst xs)) d H) (np : G p = none) (P : V → Prop) (hP : ∀ x ∈ xs, P x) (h0 : 0 ≤ r) (h1 : r < (xs.length : Int)) (q : ∀ v, P v → LS G d H → Q v H) : rIxL K (.ref p) (.int r) H Q := by
  obtain ⟨v, e, hv, _⟩ := atI_of h0 h1
  exact ⟨p, xs, r, v, rfl, rfl, .inl (.inl (hs.ex p _ upd_same)), e, q v (hP v hv) (hs.drop np)⟩
def sp_law_draw (K : PySem.W.Frag) : Sp := fun vs H Q _ => ∃ (d : Addr) (m : Int), vs = [.ref d, .int m] ∧ Dr H d ∧ 0 < m ∧ m < 2 ^ 64 ∧ ∀ r H', 0 ≤ r → r < m → Dr H' d → (∀ b, b ≠ d → H' b = H b) → Q (.int r) H'
def t_law_draw (K : PySem.W.Frag) : TS :=
  (tSeq (tIfS (tTest (tOp rGt (tOp (rIxL K) (tVar 0) (tC (.int 0))) (tC (.int 0)))) (tSeq (tAsg (tOp rMod (tOp (rIxL K) (tVar 0) (tC (.int 0))) (tVar 1)) (gName 2))
  (tSeq (tAsg (tOp rDivW (tOp (rIxL K) (tVar 0) (tC (.int 0))) (tVar 1)) (gSub (tVar 0) (tC (.int 0)) rSetL))
  (tRet (tVar 2)))) tNext)
  (tSeq (tAsg (tOp rAdd (tOp rMod (tOp rMulW (tOp (rIxL K) (tVar 0) (tC (.int 1))) (tC (.int 69621))) (tOp (rIxL K) (tVar 0) (tC (.int 2)))) (tC (.int 1))) (gSub (tVar 0) (tC (.int 1)) rSetL))
  (tRet (tOp rMod (tOp rDivW (tOp rMod (tOp rMulW (tOp (rIxL K) (tVar 0) (tC (.int 1))) (tOp rAdd (tOp rDivW (tOp (rIxL K) (tVar 0) (tC (.int 1))) (tC (.int 128))) (tC (.int 3)))) (tC (.int 2147483423))) (tC (.int 8))) (tVar 1)))))

theorem LS.draw {K : PySem.W.Frag} {G H : Hp} {d : Addr} {m : Int} {Q : VK} {E : XK} (hs : LS G d H) (m0 : 0 < m) (m1 : m < 2 ^ 64) (k : ∀ r H', 0 ≤ r → r < m → LS G d H' → Q (.int r) H') : sp_law_draw K [.ref d, .int m] H Q E :=
  ⟨d, m, rfl, hs.dr, m0, m1, fun r H' h0 h1 dr kp => k r H' h0 h1 (hs.to dr fun b o n e => (kp b n).trans e)⟩
/-- .. and another object stays -/
theorem LS.drawP {K : PySem.W.Frag} {G H : Hp} {d p : Addr} {o : HO} {m : Int} {Q : VK} {E : XK} (hs : LS G d H) (m0 : 0 < m) (m1 : m < 2 ^ 64) (hp : p ≠ d) (ho : H p = some o) (k : ∀ r H', 0 ≤ r → r < m → LS G d H' → H' p = some o → Q (.int r) H') : sp_law_draw K [.ref d, .int m] H Q E :=
  ⟨d, m, rfl, hs.dr, m0, m1, fun r H' h0 h1 dr kp => k r H' h0 h1 (hs.to dr fun b o n e => (kp b n).trans e) ((kp p hp).trans ho)⟩
theorem ln_law_draw {K : PySem.W.Frag} {vs : List V} {H : Hp} {Q : VK} {E : XK} (h : sp_law_draw K vs H Q E) : vs.length = 2 := by
  obtain ⟨_, _, rfl, _⟩ := h
  rfl
theorem rd_law_draw {K : PySem.W.Frag} {vs : List V} {H : Hp} {Q : VK} {E : XK} (h : sp_law_draw K vs H Q E) : t_law_draw K { nx := fun _ H' => Q .non H', rt := Q } (start ["draws", "many", "found"] vs) H := by
  obtain ⟨d, m, rfl, ⟨c, s, p, hd, s0, s1, p0, p1⟩, m0, m1, k⟩ := h
  show t_law_draw K _ [some (.ref d), some (.int m), none] H
  unfold t_law_draw
  refine g_seq ?_
  walk_at "go"
  refine ite_d (fun hc => ?_) (fun hc => ?_)
  · walk_at "go"
    refine g_I m0 ?_
    walk_at "go"
    refine g_I (cd m0 (by omega)) ?_
    walk_at "go"
    refine g_setL hd rfl rfl fun H1 h1 kp => ?_
    walk_at "go"
    exact k _ _ (Int.emod_nonneg _ (by omega)) (Int.emod_lt_of_pos _ m0) ⟨c / m, s, p, h1, s0, s1, p0, p1⟩ kp
  · walk_at "go"
    refine g_I (cm (by omega) (by omega) (by omega) (by omega)) ?_
    walk_at "go"
    refine g_I p0 ?_
    have e0 : 0 ≤ s * 69621 % p := Int.emod_nonneg _ (by omega)
    have e1 : s * 69621 % p < p := Int.emod_lt_of_pos _ p0
    generalize s * 69621 % p = z at e0 e1
    walk_at "go"
    refine g_setL hd rfl rfl fun H1 h1 kp => ?_
    walk_at "go"
    refine g_I (cd (by decide) (by decide)) ?_
    walk_at "go"
    refine g_I (cm (by omega) (by omega) (by omega) (by omega)) ?_
    walk_at "go"
    refine g_I (by decide) ?_
    walk_at "go"
    refine g_I (cd (by decide) (by decide)) ?_
    walk_at "go"
    refine g_I m0 ?_
    exact k _ _ (Int.emod_nonneg _ (by omega)) (Int.emod_lt_of_pos _ m0) ⟨c, z + 1, p, h1, by omega, by omega, p0, p1⟩ kp
/-! ### the draws of a cell -/
def sp_law_draws (K : PySem.W.Frag) : Sp := fun vs H Q _ => ∃ (a : Addr) (ns : List Int) (k : Int), vs = [.ref a, .int k] ∧ SqL K H a (ns.map V.int) ∧ ns.length ≤ 63 ∧ 0 ≤ k ∧ k ≤ 1000 ∧ ∀ d H', H d = none → Same H H' → Dr H' d → Q (.ref d) H'
theorem ln_law_draws {K : PySem.W.Frag} {vs : List V} {H : Hp} {Q : VK} {E : XK} (h : sp_law_draws K vs H Q E) : vs.length = 2 := by
  obtain ⟨_, _, _, rfl, _⟩ := h
  rfl
def t_law_draws (K : PySem.W.Frag) : TS :=
  (tSeq (tAsg (tTup (tCons (tC (.int 2147483647)) (tCons (tC (.int 2147483629)) (tCons (tC (.int 2147483587)) (tCons (tC (.int 2147483579)) (tCons (tC (.int 2147483563)) (tCons (tC (.int 2147483549)) (tCons (tC (.int 2147483543)) (tCons (tC (.int 2147483497)) tNil))))))))) (gName 2))
  (tSeq (tAsg (tOp rAdd (tOp rMulW (tC (.int 15485863)) (tVar 1)) (tC (.int 7))) (gName 3))
  (tSeq (tIfS (tTest (tOp rLt (tVar 1) (tCB (rLenSq K) (tCons (tVar 0) tNil)))) (tAsg (tOp rMod (tOp (rIxL K) (tVar 0) (tVar 1)) (tOp rMulW (tOp rPow (tC (.int 10)) (tC (.int 60))) (tOp rPow (tC (.int 10)) (tC (.int 60))))) (gName 3)) (tIfS (tTest (tOp rGt (tCB (rLenSq K) (tCons (tVar 0) tNil)) (tC (.int 0)))) (tAsg (tOp rAdd (tOp rMod (tOp (rIxL K) (tVar 0) (tOp rMod (tVar 1) (tCB (rLenSq K) (tCons (tVar 0) tNil)))) (tOp rPow (tC (.int 10)) (tC (.int 15)))) (tOp rMulW (tC (.int 15485863)) (tVar 1))) (gName 3)) tNext))
  (tSeq (tAsg (tOp rMod (tOp rMulW (tOp rAdd (tOp rAdd (tOp rMod (tVar 3) (tC (.int 2147483423))) (tOp rMulW (tC (.int 3)) (tVar 1))) (tC (.int 1))) (tOp rAdd (tC (.int 48271)) (tOp rMulW (tOp rMulW (tC (.int 2)) (tVar 1)) (tVar 1)))) (tC (.int 2147483423))) (gName 4))
  (tSeq (tAsg (tOp rAdd (tOp rAdd (tOp rMod (tOp rMulW (tOp rMulW (tVar 4) (tVar 4)) (tVar 4)) (tC (.int 2147483399))) (tVar 1)) (tC (.int 1))) (gName 4))
  (tRet (tLst (tCons (tOp rMulW (tVar 3) (tCB rInt1 (tCons (tOp rGe (tVar 3) (tOp rPow (tC (.int 10)) (tC (.int 18)))) tNil))) (tCons (tVar 4) (tCons (tOp (rIxT K) (tVar 2) (tOp rMod (tVar 1) (tC (.int 8)))) tNil))))))))))

theorem emod_bd {z m : Int} (h : 0 < m) : 0 ≤ z % m ∧ z % m < m := ⟨Int.emod_nonneg _ (by omega), Int.emod_lt_of_pos _ h⟩
theorem at_map {ns : List Int} {z : Int} (h0 : 0 ≤ z) (h1 : z < (ns.length : Int)) : ∃ n, atI (ns.map V.int) z = some (.int n) := by
  obtain ⟨v, e, hv, _⟩ := atI_of (xs := ns.map V.int) h0 (by rw [List.length_map]; exact h1)
  obtain ⟨n, _, rfl⟩ := List.mem_map.mp hv
  exact ⟨n, e⟩
theorem mul_bd {a b A B : Int} (a0 : 0 ≤ a) (a1 : a ≤ A) (b0 : 0 ≤ b) (b1 : b ≤ B) : 0 ≤ a * b ∧ a * b ≤ A * B :=
  ⟨Int.mul_nonneg a0 b0, Int.mul_le_mul a1 b1 b0 (Int.le_trans a0 a1)⟩
set_option maxHeartbeats 8000000 in
theorem rd_law_draws {K : PySem.W.Frag} {vs : List V} {H : Hp} {Q : VK} {E : XK} (h : sp_law_draws K vs H Q E) : t_law_draws K { nx := fun _ H' => Q .non H', rt := Q } (start ["script", "k", "primes", "cell", "seed"] vs) H := by
  obtain ⟨a, ns, k, rfl, hS, hn, k0, k1, q⟩ := h
  show t_law_draws K _ [some (.ref a), some (.int k), none, none, none] H
  unfold t_law_draws
  walk_at "go"
  refine ⟨by decide, fun p np => ?_⟩
  have s1 := same_upd (o := .tup [.int 2147483647, .int 2147483629, .int 2147483587, .int 2147483579, .int 2147483563, .int 2147483549, .int 2147483543, .int 2147483497]) np
  have hp : upd H p (.tup [.int 2147483647, .int 2147483629, .int 2147483587, .int 2147483579, .int 2147483563, .int 2147483549, .int 2147483543, .int 2147483497]) p = _ := upd_same
  generalize upd H p (.tup [.int 2147483647, .int 2147483629, .int 2147483587, .int 2147483579, .int 2147483563, .int 2147483549, .int 2147483543, .int 2147483497]) = H1 at s1 hp
  have hS1 := s1.seq hS
  have e60 : (10 : Int) ^ (60 : Int).toNat = 10 ^ 60 := rfl
  have e15 : (10 : Int) ^ (15 : Int).toNat = 10 ^ 15 := rfl
  have e18 : (10 : Int) ^ (18 : Int).toNat = 10 ^ 18 := rfl
  walk_at "go"
  refine g_I (cm (by omega) (by omega) (by omega) (by omega)) ?_
  walk_at "go"
  refine g_join (fun σ' H' => ∃ c : Int, σ' = [some (.ref a), some (.int k), some (.ref p), some (.int c), none] ∧ 0 ≤ c ∧ c < 10 ^ 121 ∧ H' = H1) ?_ fun U hu => ?_
  · rintro σ' H' ⟨c, rfl, c0, c1, rfl⟩
    walk_at "go"
    refine g_I (by decide) ?_
    obtain ⟨x0, x1⟩ := emod_bd (z := c) (m := 2147483423) (by decide)
    generalize c % 2147483423 = x at x0 x1
    walk_at "go"
    refine g_I (cm (by omega) (by omega) (by omega) (by omega)) ?_
    walk_at "go"
    refine g_I (cm (by omega) (by omega) (by omega) (by omega)) ?_
    walk_at "go"
    refine g_I (cm (by omega) (by omega) (by omega) (by omega)) ?_
    walk_at "go"
    obtain ⟨y0, y1⟩ := mul_bd (a := 2 * k) (b := k) (A := 2000) (B := 1000) (by omega) (by omega) (by omega) (by omega)
    generalize 2 * k * k = y at y0 y1
    refine g_I (cm (by omega) (by omega) (by omega) (by omega)) ?_
    walk_at "go"
    refine g_I (by decide) ?_
    generalize (x + 3 * k + 1) * (48271 + y) = z
    obtain ⟨z0, z1⟩ := emod_bd (z := z) (m := 2147483423) (by decide)
    generalize z % 2147483423 = s at z0 z1
    walk_at "go"
    refine g_I (cm (by omega) (by omega) (by omega) (by omega)) ?_
    obtain ⟨u0, u1⟩ := mul_bd (a := s) (b := s) (A := 2147483423) (B := 2147483423) (by omega) (by omega) (by omega) (by omega)
    generalize s * s = u at u0 u1
    walk_at "go"
    refine g_I (cm (by omega) (by omega) (by omega) (by omega)) ?_
    walk_at "go"
    refine g_I (by decide) ?_
    obtain ⟨v0, v1⟩ := emod_bd (z := u * s) (m := 2147483399) (by decide)
    generalize u * s % 2147483399 = v at v0 v1
    walk_at "go"
    refine g_I ⟨by decide, by decide, by decide⟩ ?_
    walk_at "go"
    refine .inr ⟨_, rfl, ?_⟩
    have ci : ∀ b : Bool, 0 ≤ (if b = true then (1 : Int) else 0) ∧ (if b = true then (1 : Int) else 0) ≤ 1 := fun b => by cases b <;> decide
    obtain ⟨w0, w1⟩ := ci (decide (10 ^ (18 : Int).toNat ≤ c))
    generalize (if decide (10 ^ (18 : Int).toNat ≤ c) = true then (1 : Int) else 0) = w at w0 w1
    refine g_I (cm (by omega) (by omega) (by omega) (by omega)) ?_
    walk_at "go"
    refine g_I (by decide) ?_
    obtain ⟨i0, i1⟩ := emod_bd (z := k) (m := 8) (by decide)
    obtain ⟨pv, ea, hv, _⟩ := atI_of (xs := [V.int 2147483647, .int 2147483629, .int 2147483587, .int 2147483579, .int 2147483563, .int 2147483549, .int 2147483543, .int 2147483497]) i0 i1
    have hP : ∃ pr : Int, pv = .int pr ∧ 0 < pr ∧ pr ≤ 2147483647 := all_cons (P := fun v => ∃ pr : Int, v = .int pr ∧ 0 < pr ∧ pr ≤ 2147483647) ⟨_, rfl, by decide, by decide⟩ (all_cons ⟨_, rfl, by decide, by decide⟩ (all_cons ⟨_, rfl, by decide, by decide⟩ (all_cons ⟨_, rfl, by decide, by decide⟩
      (all_cons ⟨_, rfl, by decide, by decide⟩ (all_cons ⟨_, rfl, by decide, by decide⟩ (all_cons ⟨_, rfl, by decide, by decide⟩ (all_cons ⟨_, rfl, by decide, by decide⟩ all_nil))))))) pv hv
    obtain ⟨pr, rfl, r0, r1⟩ := hP
    refine g_ixT hp ea ?_
    walk_at "go"
    refine ⟨by show 3 ≤ sizeLine; decide, fun d nd => ?_⟩
    refine q d _ (s1.free nd) (s1.trans (same_upd nd)) ⟨_, _, _, upd_same, by omega, by omega, r0, r1⟩
  · walk_at "go"
    refine ⟨a, _, rfl, .inl hS1, ?_⟩
    walk_at "go"
    rw [List.length_map]
    refine ite_d (fun hc => ?_) (fun hc => ?_)
    · walk_at "go"
      obtain ⟨n, en⟩ := at_map (ns := ns) k0 hc
      refine ⟨a, _, k, _, rfl, rfl, hS1, en, ?_⟩
      walk_at "go"
      refine g_I ⟨by decide, by decide, by decide⟩ ?_
      walk_at "go"
      refine g_I ⟨by decide, by decide, by decide⟩ ?_
      refine g_I (cm (by rw [e60]; decide) (by rw [e60]; decide) (by rw [e60]; decide) (by rw [e60]; decide)) ?_
      refine g_I (by rw [e60]; decide) ?_
      obtain ⟨b0, b1⟩ := emod_bd (z := n) (m := 10 ^ (60 : Int).toNat * 10 ^ (60 : Int).toNat) (by rw [e60]; decide)
      refine hu _ _ ⟨_, rfl, b0, Int.lt_trans b1 (by rw [e60]; decide), rfl⟩
    · walk_at "go"
      refine ⟨a, _, rfl, .inl hS1, ?_⟩
      walk_at "go"
      rw [List.length_map]
      refine ite_d (fun hc2 => ?_) (fun hc2 => ?_)
      · walk_at "go"
        refine ⟨a, _, rfl, .inl hS1, ?_⟩
        rw [List.length_map]
        refine g_I hc2 ?_
        obtain ⟨j0, j1⟩ := emod_bd (z := k) hc2
        obtain ⟨n, en⟩ := at_map (ns := ns) j0 j1
        refine ⟨a, _, _, _, rfl, rfl, hS1, en, ?_⟩
        walk_at "go"
        refine g_I ⟨by decide, by decide, by decide⟩ ?_
        refine g_I (by rw [e15]; decide) ?_
        obtain ⟨b0, b1⟩ := emod_bd (z := n) (m := 10 ^ (15 : Int).toNat) (by rw [e15]; decide)
        rw [e15] at b0 b1 ⊢
        walk_at "go"
        refine g_I (cm (by omega) (by omega) (by omega) (by omega)) ?_
        walk_at "go"
        exact hu _ _ ⟨_, rfl, by omega, by omega, rfl⟩
      · walk_at "go"
        exact hu _ _ ⟨_, rfl, by omega, by omega, rfl⟩
/-! ### letters, wheels, figures -/
def Low (l : List Nat) : Prop := ∀ c ∈ l, 97 ≤ c ∧ c ≤ 122
def abc : List Nat := [97, 98, 99, 100, 101, 102, 103, 104, 105, 106, 107, 108, 109, 110, 111, 112, 113, 114, 115, 116, 117, 118, 119, 120, 121, 122]
theorem abc_S : (PySem.Str.ofString "abcdefghijklmnopqrstuvwxyz") = S abc := by decide +kernel
theorem low_nil : Low [] := fun _ h => nomatch h
theorem low_app {l : List Nat} {c : Nat} (h : Low l) (hc : 97 ≤ c ∧ c ≤ 122) : Low (l ++ [c]) := fun x hx => by
  rcases List.mem_append.mp hx with e | e
  · exact h x e
  · rw [List.mem_singleton.mp e]; exact hc
theorem LS.nof {H H1 : Hp} {d p : Addr} (hs : LS (but H d) d H) (np : H1 p = none) (hs1 : LS (but H d) d H1) : H p = none := by
  have h1 := hs1.nog np
  unfold but at h1
  rw [if_neg (hs1.dr.ne np)] at h1
  exact h1
theorem abc_low : Low abc := by unfold Low abc; decide
theorem join_nil (l : List Nat) : Txt.join (S []) (l.map fun c => S [c]) = S l := by
  have e : (l.map fun c => S [c]) = (l.map fun c => [c]).map S := by rw [List.map_map]; rfl
  rw [e, join_S]
  refine congrArg S ?_
  clear e
  induction l with
  | nil => rfl
  | cons c l ih =>
    cases l with
    | nil => rfl
    | cons b l => 
      show [c] ++ [] ++ TL.joinL [] ((b :: l).map fun c => [c]) = c :: b :: l
      rw [ih]
      rfl
theorem empty_S : (PySem.Str.ofString "") = S [] := rfl
theorem sum_one (l : List Nat) : ((l.map fun c => S [c]).map (·.length)).sum = l.length := by
  induction l with
  | nil => rfl
  | cons c l ih =>
    rw [List.map_cons, List.map_cons, List.sum_cons, ih, S_len]
    show 1 + l.length = l.length + 1
    omega
theorem g_ixS {K : PySem.W.Frag} {l : List Nat} {a : Int} {c : Nat} {H : Hp} {Q : VK} (hz : l.length ≤ 100000) (ha : atI l a = some c) (q : Q (.str (S [c])) H) : rIxS (.str (S l)) (.int a) H Q :=
  ⟨S l, a, c, rfl, rfl, by rw [S_len]; exact Nat.le_trans hz (by decide), ha, q⟩
def sp_law_letters (K : PySem.W.Frag) : Sp := fun vs H Q _ => ∃ (d : Addr) (n kinds : Int), vs = [.ref d, .int n, .int kinds] ∧ Dr H d ∧ 0 ≤ n ∧ n ≤ 1000 ∧ 1 ≤ kinds ∧ kinds ≤ 26 ∧
  ∀ (l : List Nat) H', (l.length : Int) = n → Low l → Dr H' d → Fr d H H' → Q (.str (S l)) H'
theorem ln_law_letters {K : PySem.W.Frag} {vs : List V} {H : Hp} {Q : VK} {E : XK} (h : sp_law_letters K vs H Q E) : vs.length = 3 := by
  obtain ⟨_, _, _, rfl, _⟩ := h
  rfl
theorem LS.letters {K : PySem.W.Frag} {G H : Hp} {d : Addr} {n kinds : Int} {Q : VK} {E : XK} (hs : LS G d H) (n0 : 0 ≤ n) (n1 : n ≤ 1000) (k0 : 1 ≤ kinds) (k1 : kinds ≤ 26)
    (k : ∀ (l : List Nat) H', (l.length : Int) = n → Low l → LS G d H' → Q (.str (S l)) H') : sp_law_letters K [.ref d, .int n, .int kinds] H Q E :=
  ⟨d, n, kinds, rfl, hs.dr, n0, n1, k0, k1, fun l H' h0 h1 dr fr => k l H' h0 h1 (hs.to dr fr)⟩
def t_law_letters (K : PySem.W.Frag) : TS :=
  (tSeq (tAsg (tC (.str "abcdefghijklmnopqrstuvwxyz")) (gName 3))
  (tSeq (tAsg (tCall (sp_law_draw K) [] E0 (tCons (tVar 0) (tCons (tOp rSub (tC (.int 27)) (tVar 2)) tNil))) (gName 4))
  (tRet (tM1 (rJoin K) (tC (.str "")) (tLc (iRng1 (tCons (tVar 1) tNil)) (gName 5) tYes (tOp rIxS (tVar 3) (tOp rAdd (tVar 4) (tCall (sp_law_draw K) [] E0 (tCons (tVar 0) (tCons (tVar 2) tNil))))) [5])))))

theorem rd_law_letters {K : PySem.W.Frag} {vs : List V} {H : Hp} {Q : VK} {E : XK} (h : sp_law_letters K vs H Q E) : t_law_letters K { nx := fun _ H' => Q .non H', rt := Q } (start ["draws", "many", "kinds", "letters", "first", "k"] vs) H := by
  obtain ⟨d, n, kinds, rfl, dr, n0, n1, k0, k1, q⟩ := h
  show t_law_letters K _ [some (.ref d), some (.int n), some (.int kinds), none, none, none] H
  have hs : LS (but H d) d H := LS.of dr
  unfold t_law_letters
  walk_at "go"
  have hs0 := hs
  refine hs.draw (by omega) (by omega) fun first H1 f0 f1 hs => ?_
  walk_at "go"
  refine ⟨⟨_, rfl⟩, ?_⟩
  refine lc1 (fun m Hm => m = n ∧ Hm = H1) (fun QA h => ?_) (fun m Hm ⟨e, _⟩ => by omega) (fun Dl m i H' => m = n ∧ H Dl = none ∧ Dl ≠ d ∧ ∃ l : List Nat, l.length = i ∧ Low l ∧ H' Dl = some (.lst (l.map fun c => V.str (S [c]))) ∧ LS (but H d) d H') (fun Dl m Hm ⟨e, eH⟩ nD => ?_) (fun x => rfl) (fun Dl m i H' hi p => ?_) (fun Dl m H' p => ?_)
  · walk_at "go"
    exact h _ _ ⟨rfl, rfl⟩
  · subst e eH
    exact ⟨rfl, hs0.nof nD hs, hs.dr.ne nD, [], rfl, low_nil, upd_same, hs.old nD⟩
  · obtain ⟨rfl, nD, nd, l, el, lo, hD, hs'⟩ := p
    walk_at "go"
    refine hs'.drawP (p := Dl) (o := .lst (l.map fun c => V.str (S [c]))) (by omega) (by omega) nd hD fun r H2 r0 r1 hs2 hD2 => ?_
    walk_at "go"
    rw [show (V.str "abcdefghijklmnopqrstuvwxyz") = V.str (S abc) from congrArg V.str abc_S]
    obtain ⟨c, ec, hc, _⟩ := atI_of (xs := abc) (r := first + r) (by omega) (by show _ < ((26 : Nat) : Int); omega)
    refine g_ixS (K := K) (by decide) ec ?_
    refine ⟨_, hD2, ?_, rfl, nD, nd, l ++ [c], ?_, ?_, ?_, hs2.put ?_ nd⟩
    · rw [List.length_map, el]
      exact Nat.lt_of_lt_of_le (show i < 1001 by omega) (by decide)
    · rw [List.length_append, el]
      rfl
    · exact low_app lo (abc_low c hc)
    · rw [List.map_append]
      exact upd_same
    · unfold but
      rw [if_neg nd]
      exact nD
  · obtain ⟨rfl, nD, nd, l, el, lo, hD, hs'⟩ := p
    refine ⟨S [], Dl, l.map fun c => S [c], rfl, rfl, .inl (.inl (.inl (by rw [List.map_map]; exact hD))), ?_, ?_⟩
    · rw [sum_one, List.length_map, S_len]
      show l.length + l.length * 0 ≤ _
      omega
    · rw [join_nil]
      exact q l H' (by omega) lo hs'.dr hs'.fr
/-- ints of a list that was just made, within bounds -/
def Bd (lo hi : Int) (v : V) : Prop := ∃ z : Int, v = .int z ∧ lo ≤ z ∧ z ≤ hi
def sp_law_wheel (K : PySem.W.Frag) : Sp := fun vs H Q _ => ∃ (d : Addr) (m : Int), vs = [.ref d, .int m] ∧ Dr H d ∧ 1 ≤ m ∧ m ≤ 1000 ∧ ∀ (l : List Nat) H', 1 ≤ l.length → (l.length : Int) ≤ m → Low l → Dr H' d → Fr d H H' → Q (.str (S l)) H'
theorem ln_law_wheel {K : PySem.W.Frag} {vs : List V} {H : Hp} {Q : VK} {E : XK} (h : sp_law_wheel K vs H Q E) : vs.length = 2 := by
  obtain ⟨_, _, rfl, _⟩ := h
  rfl
theorem LS.wheel {K : PySem.W.Frag} {G H : Hp} {d : Addr} {m : Int} {Q : VK} {E : XK} (hs : LS G d H) (m0 : 1 ≤ m) (m1 : m ≤ 1000)
    (k : ∀ (l : List Nat) H', 1 ≤ l.length → (l.length : Int) ≤ m → Low l → LS G d H' → Q (.str (S l)) H') : sp_law_wheel K [.ref d, .int m] H Q E :=
  ⟨d, m, rfl, hs.dr, m0, m1, fun l H' h0 h1 h2 dr fr => k l H' h0 h1 h2 (hs.to dr fr)⟩
def t_law_wheel (K : PySem.W.Frag) : TS :=
  (tSeq (tAsg (tCall (sp_law_draw K) [] E0 (tCons (tVar 0) (tCons (tC (.int 4)) tNil))) (gName 2))
  (tSeq (tAsg (tOp (rIxL K) (tLst (tCons (tOp rAdd (tC (.int 1)) (tCall (sp_law_draw K) [] E0 (tCons (tVar 0) (tCons (tC (.int 3)) tNil)))) (tCons (tC (.int 2)) (tCons (tOp rAdd (tC (.int 3)) (tCall (sp_law_draw K) [] E0 (tCons (tVar 0) (tCons (tC (.int 5)) tNil)))) (tCons (tC (.int 26)) tNil))))) (tCall (sp_law_draw K) [] E0 (tCons (tVar 0) (tCons (tC (.int 4)) tNil)))) (gName 3))
  (tSeq (tAsg (tOp (rIxL K) (tLst (tCons (tOp rAdd (tC (.int 1)) (tCall (sp_law_draw K) [] E0 (tCons (tVar 0) (tCons (tC (.int 4)) tNil)))) (tCons (tOp rAdd (tC (.int 1)) (tCall (sp_law_draw K) [] E0 (tCons (tVar 0) (tCons (tVar 1) tNil)))) (tCons (tVar 1) (tCons (tOp rAdd (tC (.int 1)) (tCall (sp_law_draw K) [] E0 (tCons (tVar 0) (tCons (tC (.int 9)) tNil)))) tNil))))) (tVar 2)) (gName 4))
  (tRet (tCall (sp_law_letters K) [] E0 (tCons (tVar 0) (tCons (tCB rMin2 (tCons (tVar 4) (tCons (tVar 1) tNil))) (tCons (tVar 3) tNil))))))))

theorem rd_law_wheel {K : PySem.W.Frag} {vs : List V} {H : Hp} {Q : VK} {E : XK} (h : sp_law_wheel K vs H Q E) : t_law_wheel K { nx := fun _ H' => Q .non H', rt := Q } (start ["draws", "most", "way", "kinds", "many"] vs) H := by
  obtain ⟨d, m, rfl, dr, m0, m1, q⟩ := h
  show t_law_wheel K _ [some (.ref d), some (.int m), none, none, none] H
  have hs : LS (but H d) d H := LS.of dr
  unfold t_law_wheel
  walk_at "go"
  refine hs.draw (by omega) (by omega) fun way H1 w0 w1 hs => ?_
  walk_at "go"
  refine hs.draw (by omega) (by omega) fun r1 H2 a1 b1 hs => ?_
  walk_at "go"
  refine hs.draw (by omega) (by omega) fun r2 H3 a2 b2 hs => ?_
  walk_at "go"
  refine ⟨by show 4 ≤ sizeLine; decide, fun p np => ?_⟩
  walk_at "go"
  refine (hs.new np).draw (by omega) (by omega) fun r3 H4 a3 b3 hs' => ?_
  refine hs'.at (hs.nog np) (Bd 1 26) (all_cons ⟨_, rfl, by omega, by omega⟩ (all_cons ⟨_, rfl, by omega, by omega⟩ (all_cons ⟨_, rfl, by omega, by omega⟩ (all_cons ⟨_, rfl, by omega, by omega⟩ all_nil)))) a3 b3 fun v hv hs => ?_
  obtain ⟨kinds, rfl, k0, k1⟩ := hv
  walk_at "go"
  refine hs.draw (by omega) (by omega) fun r1 H5 a1 b1 hs => ?_
  walk_at "go"
  refine hs.draw (by omega) (by omega) fun r2 H6 a2 b2 hs => ?_
  walk_at "go"
  refine hs.draw (by omega) (by omega) fun r3 H7 a3 b3 hs => ?_
  walk_at "go"
  refine ⟨by show 4 ≤ sizeLine; decide, fun p2 np2 => ?_⟩
  walk_at "go"
  refine (hs.new np2).at (hs.nog np2) (Bd 1 100000) (all_cons ⟨_, rfl, by omega, by omega⟩ (all_cons ⟨_, rfl, by omega, by omega⟩ (all_cons ⟨_, rfl, by omega, by omega⟩ (all_cons ⟨_, rfl, by omega, by omega⟩ all_nil)))) w0 w1 fun v hv hs => ?_
  obtain ⟨many, rfl, y0, y1⟩ := hv
  walk_at "go"
  refine ⟨_, _, rfl, ?_⟩
  walk_at "go"
  refine hs.letters (by split <;> omega) (by split <;> omega) k0 k1 fun l H8 el lo hs => ?_
  refine q l H8 ?_ ?_ lo hs.dr hs.fr
  · split at el <;> omega
  · split at el <;> omega
end Sw
local macro_rules | `(tactic| walk_at "go1") => `(tactic| first
  | with_reducible refine Sw.g_seqasg ?_ | with_reducible refine Sw.g_op ?_ | with_reducible refine Sw.g_var rfl ?_ | with_reducible refine Sw.g_c ?_ | with_reducible refine Sw.g_I0 ?_
  | with_reducible refine Sw.g_cons ?_ | with_reducible refine Sw.g_nil ?_ | with_reducible refine Sw.g_call ?_ | with_reducible refine Sw.g_cb ?_ | with_reducible refine Sw.g_test ?_ | with_reducible refine Sw.g_bl ?_
  | with_reducible refine Sw.g_seqdrop ?_ | with_reducible refine Sw.g_seqsub ?_ | with_reducible refine Sw.g_asg ?_ | with_reducible refine Sw.g_asgsub ?_ | with_reducible refine Sw.g_ret ?_ | with_reducible refine Sw.g_drop ?_ | with_reducible refine Sw.g_if ?_ | with_reducible refine Sw.g_next ?_ | with_reducible refine Sw.g_name ?_
  | with_reducible refine Sw.g_B ?_ | with_reducible refine Sw.g_not ?_ | with_reducible refine Sw.g_and ?_ | with_reducible refine Sw.g_or ?_ | with_reducible refine Sw.g_andV ?_ | with_reducible refine Sw.g_orV ?_ | with_reducible refine Sw.g_notV ?_
  | with_reducible refine Sw.g_ifE ?_ | with_reducible refine Sw.g_chain ?_ | with_reducible refine Sw.g_un ?_ | with_reducible refine Sw.g_tup ?_ | with_reducible refine Sw.g_lst ?_ | with_reducible refine Sw.g_sl ?_ | with_reducible refine Sw.g_part ?_ | with_reducible refine Sw.g_nopart ?_
  | with_reducible refine Sw.g_U ?_ | with_reducible refine Sw.g_eq rfl ?_ | with_reducible refine Sw.g_ne rfl ?_ | with_reducible refine Sw.g_int ?_ | with_reducible refine Sw.g_yes ?_ | with_reducible refine L2.iteT ?_ | with_reducible refine L2.iteF ?_ | with_reducible refine Sw.iteNT ?_ | with_reducible refine Sw.iteNF ?_ | with_reducible refine Sw.g_m1 ?_ | with_reducible refine Sw.g_bm ?_ | with_reducible refine ⟨Sw.ty_lst (by assumption), ?_⟩ | with_reducible refine Sw.g_sput ?_ | with_reducible refine Sw.g_put ?_ | with_reducible refine Sw.g_dget2 ?_ | with_reducible refine Sw.g_dget ?_ | with_reducible refine Sw.g_dK ?_ | with_reducible refine Sw.g_dT ?_ | with_reducible refine Sw.g_dnotin ?_ | with_reducible refine Sw.g_din ?_ | with_reducible refine Sw.g_bm0 ?_
  | with_reducible refine Sw.g_ixL (by assumption) rfl ?_ | with_reducible refine Sw.g_ixT (by assumption) rfl ?_)
local macro_rules | `(tactic| walk_at "go") => `(tactic| repeat walk_at "go1")
local macro_rules | `(tactic| walk_at "bd") => `(tactic| repeat (first | with_reducible exact Sw.all_nil | refine Sw.all_cons ⟨_, rfl, by omega, by omega⟩ ?_))
local macro_rules | `(tactic| walk_at "new") => `(tactic| (refine ⟨Nat.le_of_ble_eq_true rfl, fun p np => ?_⟩; generalize hX : L2.upd _ p _ = H'; have sm : L2.Same _ H' := hX ▸ Sw.same_upd np; have hp : H' p = some _ := hX ▸ L2.upd_same; clear hX))
namespace Sw
open PySem PySem.Spec PyProof.Rows L2 SX
/-! ### the law's own promise; what laws share -/
def sp_law (K : PySem.W.Frag) : Sp := fun vs H Q _ => ∃ (a : Addr) (ns : List Int), vs = [.ref a] ∧ SqL K H a (ns.map V.int) ∧ ns.length ≤ 63 ∧ ∀ H', Q (.bl true) H'
theorem ln_law {K : PySem.W.Frag} {vs : List V} {H : Hp} {Q : VK} {E : XK} (h : sp_law K vs H Q E) : vs.length = 1 := by
  obtain ⟨_, _, rfl, _⟩ := h
  rfl
theorem LS.start {G H H' : Hp} {d : Addr} (e : Same G H) (nd : H d = none) (s : Same H H') (dr : Dr H' d) : LS G d H' := ⟨dr, e.trans s, e.free nd⟩
/-- an object that stands, kept from now on -/
theorem LS.add {G H : Hp} {d p : Addr} {o : HO} (hs : LS G d H) (ho : H p = some o) (hp : p ≠ d) : LS (upd G p o) d H :=
  ⟨hs.dr, fun b x e => by
    by_cases hb : b = p
    · subst hb
      rw [upd_same] at e
      rw [ho]; exact e
    · rw [upd_ne hb] at e
      exact hs.ex b x e, by rw [upd_ne hp.symm]; exact hs.no⟩
theorem g_lenL {K : PySem.W.Frag} {a : Addr} {xs : List V} {H : Hp} {Q : VK} (h : SqL K H a xs) (q : Q (.int (xs.length : Int)) H) : rLenSq K [.ref a] H Q := ⟨a, xs, rfl, .inl h, q⟩
theorem g_max {i j : Int} {H : Hp} {Q : VK} (q : Q (.int (if j > i then j else i)) H) : rMax2 [.int i, .int j] H Q := ⟨i, j, rfl, q⟩
theorem g_min {i j : Int} {H : Hp} {Q : VK} (q : Q (.int (if j < i then j else i)) H) : rMin2 [.int i, .int j] H Q := ⟨i, j, rfl, q⟩
theorem S_inj' {a b : List Nat} : (V.str (S a) = V.str (S b)) ↔ a = b := ⟨fun h => S_inj (V.str.inj h), fun h => by rw [h]⟩
theorem g_append {K : PySem.W.Frag} {l : Addr} {xs : List V} {y : V} {H : Hp} {Q : VK} (h : H l = some (.lst xs)) (hz : xs.length ≤ 100000) (q : Q .non (upd H l (.lst (xs ++ [y])))) : tyV K "list" (.ref l) H ∧ rAppend (.ref l) [y] H Q :=
  ⟨.inl ⟨rfl, _, .inl (.inl h)⟩, l, xs, y, rfl, rfl, h, Nat.lt_of_le_of_lt hz (by decide), q⟩
/-- for k in range(max(1, min(m, len(script)))): each turn by itself. R: what the body needs not to care of -/
theorem cells {K : PySem.W.Frag} {a : Addr} {ns : List Int} {m : Int} {H : Hp} {σ : L2.St} (hS : SqL K H a (ns.map V.int)) (m0 : 0 ≤ m) (m1 : m ≤ 1000) (hσ : σ[0]? = some (some (.ref a)))
    (QA : List V → Hp → Prop) (h : ∀ n : Int, 0 ≤ n ∧ (n ≤ m ∨ n = 1) → QA [.int n] H) :
    tCons (tCB rMax2 (tCons (tC (.int 1)) (tCons (tCB rMin2 (tCons (tC (.int m)) (tCons (tCB (rLenSq K) (tCons (tVar 0) tNil)) tNil))) tNil))) tNil σ H QA := by
  refine ⟨.ref a, hσ, a, ns.map V.int, rfl, .inl hS, _, _, rfl, _, _, rfl, h _ ?_⟩
  split <;> split <;> omega
end Sw
local macro_rules | `(tactic| walk_at "go1") => `(tactic| first
  | with_reducible refine Sw.g_seqasg ?_ | with_reducible refine Sw.g_op ?_ | with_reducible refine Sw.g_var rfl ?_ | with_reducible refine Sw.g_c ?_ | with_reducible refine Sw.g_I0 ?_
  | with_reducible refine Sw.g_cons ?_ | with_reducible refine Sw.g_nil ?_ | with_reducible refine Sw.g_call ?_ | with_reducible refine Sw.g_cb ?_ | with_reducible refine Sw.g_test ?_ | with_reducible refine Sw.g_bl ?_
  | with_reducible refine Sw.g_seqdrop ?_ | with_reducible refine Sw.g_seqsub ?_ | with_reducible refine Sw.g_asg ?_ | with_reducible refine Sw.g_asgsub ?_ | with_reducible refine Sw.g_ret ?_ | with_reducible refine Sw.g_drop ?_ | with_reducible refine Sw.g_if ?_ | with_reducible refine Sw.g_next ?_ | with_reducible refine Sw.g_name ?_
  | with_reducible refine Sw.g_B ?_ | with_reducible refine Sw.g_not ?_ | with_reducible refine Sw.g_and ?_ | with_reducible refine Sw.g_or ?_ | with_reducible refine Sw.g_andV ?_ | with_reducible refine Sw.g_orV ?_ | with_reducible refine Sw.g_notV ?_
  | with_reducible refine Sw.g_ifE ?_ | with_reducible refine Sw.g_chain ?_ | with_reducible refine Sw.g_un ?_ | with_reducible refine Sw.g_tup ?_ | with_reducible refine Sw.g_lst ?_ | with_reducible refine Sw.g_sl ?_ | with_reducible refine Sw.g_part ?_ | with_reducible refine Sw.g_nopart ?_
  | with_reducible refine Sw.g_U ?_ | with_reducible refine Sw.g_eq rfl ?_ | with_reducible refine Sw.g_ne rfl ?_ | with_reducible refine Sw.g_int ?_ | with_reducible refine Sw.g_yes ?_ | with_reducible refine L2.iteT ?_ | with_reducible refine L2.iteF ?_ | with_reducible refine Sw.iteNT ?_ | with_reducible refine Sw.iteNF ?_ | with_reducible refine Sw.g_m1 ?_ | with_reducible refine Sw.g_bm ?_ | with_reducible refine ⟨Sw.ty_lst (by assumption), ?_⟩ | with_reducible refine Sw.g_sput ?_ | with_reducible refine Sw.g_put ?_ | with_reducible refine Sw.g_dget2 ?_ | with_reducible refine Sw.g_dget ?_ | with_reducible refine Sw.g_dK ?_ | with_reducible refine Sw.g_dT ?_ | with_reducible refine Sw.g_dnotin ?_ | with_reducible refine Sw.g_din ?_ | with_reducible refine Sw.g_bm0 ?_
  | with_reducible refine Sw.g_ixL (by assumption) rfl ?_ | with_reducible refine Sw.g_ixT (by assumption) rfl ?_)
local macro_rules | `(tactic| walk_at "go") => `(tactic| repeat walk_at "go1")
local macro_rules | `(tactic| walk_at "bd") => `(tactic| repeat (first | with_reducible exact Sw.all_nil | refine Sw.all_cons ⟨_, rfl, by omega, by omega⟩ ?_))
local macro_rules | `(tactic| walk_at "new") => `(tactic| (refine ⟨Nat.le_of_ble_eq_true rfl, fun p np => ?_⟩; generalize hX : L2.upd _ p _ = H'; have sm : L2.Same _ H' := hX ▸ Sw.same_upd np; have hp : H' p = some _ := hX ▸ L2.upd_same; clear hX))
namespace Sw
open PySem PySem.Spec PyProof.Rows L2 SX
/-! ### a comprehension, a def called with the error itself, where an error is handled -/
section
variable {X : Cx} {pins : List (Addr × Obj)} {σ : L2.St} {H : Hp} {s : Shared}
theorem repin (I : Inv X pins σ H s) (pl : List (Addr × Obj)) (hp : ∀ q ∈ pl, s.heap.get? q.1 = some q.2 ∧ H q.1 = none ∧ q.1 ≠ X.env.locals ∧ q.1 ∉ X.fs ∧ ∀ v, q.2.data ≠ .cell v) : Inv { X with pn := pl } [] σ H s := by
  have o := I.ok
  exact ⟨⟨o.mod, o.kind, o.glob, o.blt, o.above, o.inj, o.has, o.cab, o.hd, o.frames, o.stk, o.exf, o.bs, o.bsz, o.noex, o.exfs, o.funs, o.frf⟩,
    I.os, I.bare, I.base, I.loc, I.cell, I.free, I.freeC, fun q hq => hp q (by simpa using hq), I.hok, I.len⟩
/-- a block's context, the handled error q pinned in it -/
abbrev blkP (X : Cx) (q : Addr × Obj) (s : Shared) (H : Hp) (scope : Scope) (ce : Env) (fp : List Addr) : Cx := { X.blk s H scope ce fp with pn := [q] }
theorem pe_lcH {elt tg iter : Expr} {ifs : List Expr} {scope : Scope} {own : List (Str × Nat)} {pos : Pos} {wi : TI} {g : TG} {tt : TT} {te : TE} (hot : L2H.HotC X) (nd : X.N.Nodup) (hi : L2H.PIH X tg iter wi) (ok : BlkOk X.N X.env.scope scope own)
    (hg : ∀ (q : Addr × Obj) (s : Shared) (H : Hp) (C : Addr) (cl : List (Str × Addr)) (fp : List Addr), PG (blkP X q s H scope (compEnvC scope cl C X.env) fp) tg g)
    (ht : ∀ (q : Addr × Obj) (s : Shared) (H : Hp) (C : Addr) (cl : List (Str × Addr)) (fp : List Addr), PTs (blkP X q s H scope (compEnvC scope cl C X.env) fp) ifs tt)
    (he : ∀ (q : Addr × Obj) (s : Shared) (H : Hp) (C : Addr) (cl : List (Str × Addr)) (fp : List Addr), PE (blkP X q s H scope (compEnvC scope cl C X.env) fp) elt te)
    (hfold : ∀ x, foldedSetIterable iter X.env x = pure x := by intro _; rfl) : PE X (.ListComp elt [⟨tg, iter, ifs, 0⟩] scope pos) (tLc wi g tt te (own.map (·.2))) := by
  refine ⟨fun pins s σ H Q I h => ?_⟩
  rw [eval_ListComp]
  obtain ⟨q, hq1, hqm⟩ := id hot
  have fr : ∀ y ∈ scope.names, y.2 = .free → ∃ c, X.env.cells.lookup y.1 = some c := fun y hy e => (ok.free y hy e).elim (fun k => I.ok.has _ (.inl k)) fun k => I.ok.has _ (.inr k)
  refine wpAny_comprehension_free (use := none) rfl hfold (closure_ok fr) ok.kind (fun y hy e => by rw [ok.uniq y hy, e]) (thn (hi.run pins s σ H _ I h) fun vv sa ha => thn ha fun iv sb hb => ?_)
  obtain ⟨it, fp, tn, J, Hb, rfl, Ib, T, stb, fb, qq⟩ := hb
  refine wpAny_newObj_type (newEnv_comp ?_) (by show 0 ≤ sizeLine; decide)
  generalize hD : sb.heap.objs.size = L
  have hLn : Hb L = none := Ib.hok.fresh (Nat.le_of_eq hD)
  obtain ⟨W, ⟨m0, w0⟩, turn⟩ := qq L hLn
  generalize hsc : ({ sb with heap := sb.heap.push { cls := .type "list", data := .seq ([] : List Value).toArray } } : Shared) = sc
  have hheap : sc.heap = sb.heap.push { cls := .type "list", data := .seq ([] : List Value).toArray } := by rw [← hsc]
  have Ic : Inv X pins σ (upd Hb L (.lst [])) sc := by
    rw [← hsc]
    refine Ib.laid (t' := sb.toks) (fun b o e => Heap.get?_push_of_some _ e) (Nat.le_of_eq hD) ⟨Nat.zero_le _, [], 0, .nil, ?_⟩
    rw [← hD]; exact Heap.get?_push_size _ rfl
  have lt : ∀ b ∈ fp, b < sb.heap.objs.size := fun b hb => by obtain ⟨o, e, _⟩ := T.obj _ _ stb b hb; exact Heap.lt_size e
  have fc : ∀ b ∈ fp, FpOk X pins (upd Hb L (.lst [])) b ∧ b < sc.heap.objs.size := fun b hb => ⟨⟨by rw [upd_ne (by rw [← hD]; exact Nat.ne_of_lt (lt b hb))]; exact (fb b hb).1, (fb b hb).2⟩, by rw [hheap, Heap.size_push]; exact Nat.lt_succ_of_lt (lt b hb)⟩
  have stc : tn 0 sc.heap := T.keep _ _ _ stb fun b _ o e => by rw [hheap]; exact Heap.get?_push_of_some _ e
  have Id := block_start Ic ok nd fc
  have pg := hg q sc (upd Hb L (.lst [])) sc.heap.objs.size (cellsFrom (sc.heap.objs.size + 1) scope.names (cloFrom X.env.cells scope.names [])) fp
  have pt := ht q sc (upd Hb L (.lst [])) sc.heap.objs.size (cellsFrom (sc.heap.objs.size + 1) scope.names (cloFrom X.env.cells scope.names [])) fp
  have pe := he q sc (upd Hb L (.lst [])) sc.heap.objs.size (cellsFrom (sc.heap.objs.size + 1) scope.names (cloFrom X.env.cells scope.names [])) fp
  have P0 := Ic.pin q (List.mem_append_left _ hqm)
  show codeAny _ _ (.compStart (.ListComp elt [⟨tg, iter, ifs, 0⟩] scope pos) 0 (.ref it) (.ref L) (compEnvC scope (cellsFrom (sc.heap.objs.size + 1) scope.names (cloFrom X.env.cells scope.names [])) sc.heap.objs.size X.env)) (compPost (model X.prog X.w) X.A X.xe none (EP X pins σ Q) (.ref L) sc.heap.objs.size) { sc with heap := pushCells (sc.heap.push { cls := .type "dict", data := .dict #[] }) scope.names }
  generalize hce : compEnvC scope (cellsFrom (sc.heap.objs.size + 1) scope.names (cloFrom X.env.cells scope.names [])) sc.heap.objs.size X.env = ce at Id pg pt pe ⊢
  have ceL : ce.locals = sc.heap.objs.size := by subst hce; rfl
  generalize hHc : upd Hb L (.lst []) = Hc at Ic Id pg pt pe w0 fc P0
  generalize hsd : ({ sc with heap := pushCells (sc.heap.push { cls := .type "dict", data := .dict #[] }) scope.names } : Shared) = sd at Id ⊢
  have kd : ∀ b o, sc.heap.get? b = some o → sd.heap.get? b = some o := fun b o e => by rw [← hsd]; exact pushCells_keeps _ _ _ _ (Heap.get?_push_of_some _ e)
  have std : tn 0 sd.heap := T.keep _ _ _ stc fun b _ o e => kd b o e
  have Ie : Inv (blkP X q sc Hc scope ce fp) [] (wipe σ (own.map (·.2))) Hc sd := repin Id [q] fun z hz => by
    have ez : z = q := by simpa using hz
    subst ez
    exact ⟨kd _ _ P0.1, P0.2.1, by show z.1 ≠ ce.locals; rw [ceL]; exact Nat.ne_of_lt (Heap.lt_size P0.1), fun hm => (List.mem_cons.mp (Ic.stkSub z.1 hm)).elim P0.2.2.1 P0.2.2.2.1, P0.2.2.2.2⟩
  have hotB : L2H.HotC (blkP X q sc Hc scope ce fp) := ⟨q, hq1, List.mem_singleton.mpr rfl⟩
  have steady : ∀ {τ : L2.St} {H' : Hp} {s' : Shared}, Inv (blkP X q sc Hc scope ce fp) [] τ H' s' → (∀ b ∈ fp, H' b = none) → ∀ b ∈ fp, FpOk (blkP X q sc Hc scope ce fp) [] H' b := fun {τ H' s'} J hn b hb =>
    ⟨hn b hb, (J.ok.exf b hb).1, J.ok.exfs b hb, .inl hb, fun x c e => (J.ok.exf b hb).2 x c e, fun z hz => by
      have ez : z = q := by simpa using hz
      subst ez
      exact (fc b hb).1.2.2.2.2.2 z (List.mem_append_left _ hqm)⟩
  have loop : codeAny (model X.prog X.w) X.A (.compLoop (.ListComp elt [⟨tg, iter, ifs, 0⟩] scope pos) 0 (.ref it) (.ref L) ce) (compPost (model X.prog X.w) X.A X.xe none (EP X pins σ Q) (.ref L) sc.heap.objs.size) sd := by
    refine compLoop_any (fun n s' => ∃ i H', Inv (blkP X q sc Hc scope ce fp) [] (wipe σ (own.map (·.2))) H' s' ∧ tn i s'.heap ∧ (∀ b ∈ fp, H' b = none) ∧ W i n H') ?_ m0 ⟨0, Hc, Ie, std, fun b hb => (fc b hb).1.1, w0⟩
    rintro n s5 ⟨i, H5, I5, st5, n5, w5⟩
    rcases turn i n H5 w5 with ⟨stop, done⟩ | ⟨go, Nx, hNx, step⟩
    · refine thnF (T.done (blkP X q sc Hc scope ce fp) rfl rfl rfl hotB i [] s5 _ H5 (fun _ _ => False) I5 (steady I5 n5) st5 stop) fun r s6 ⟨hr, I6⟩ => ?_
      subst hr
      have I7 : Inv X pins σ H5 s6 := Ic.call' (ch := fp) I6.os I6.base I6.hok I6.bare fun b hb => ⟨(fc b hb).1.2.2.2.1, (fc b hb).1.2.1, (fc b hb).1.2.2.2.2.1, (fc b hb).1.2.2.2.2.2⟩
      have nC : H5 sc.heap.objs.size = none := by have z : H5 ce.locals = none := I6.free; rw [ceL] at z; exact z
      obtain ⟨m, hn, _⟩ := I6.loc
      have hn : s6.heap.Ns ce.locals m := hn
      rw [ceL] at hn
      obtain ⟨f0, f1, f2, f3, f4, f5⟩ := Ic.fpOk (Nat.le_refl _) nC
      exact ⟨m, hn, fun h'' same => ⟨.ref L, H5, I7.turned (t' := s6.toks) (fun b o hb e => (same.2 b hb).trans e) f0 f1 f3 f4 f5, rfl, done⟩⟩
    · refine thnF (T.item (blkP X q sc Hc scope ce fp) rfl rfl rfl hotB i [] s5 _ H5 (fun _ _ => False) I5 (steady I5 n5) st5 go) fun r s6 ⟨u, hr, h6⟩ => ?_
      subst hr
      refine thnF h6 fun _ s7 ⟨x, H7, I7, r7, y7, st7, n7⟩ => ?_
      have J7 := I7.pinned (steady I7 n7) (T.obj _ _ st7)
      refine thnF (pg.run _ s7 _ H7 x u _ J7 r7 (step x H7 y7)) fun _ s8 ⟨τ, H8, I8, hw8, q8⟩ => ?_
      refine thnF (pt.run _ s8 τ H8 _ I8 q8) fun b s9 ⟨H9, I9, q9⟩ => ?_
      have fin : ∀ {s' : Shared} {H' : Hp}, Inv (blkP X q sc Hc scope ce fp) ([] ++ pinsAt fp s7.heap) τ H' s' → Nx H' → ∃ m, m < n ∧ ∃ i H', Inv (blkP X q sc Hc scope ce fp) [] (wipe σ (own.map (·.2))) H' s' ∧ tn i s'.heap ∧ (∀ b ∈ fp, H' b = none) ∧ W i m H' := fun {s' H'} J nx => by
        obtain ⟨m', hm, w'⟩ := hNx H' nx
        have pk : ∀ b ∈ fp, ∀ o, s7.heap.get? b = some o → s'.heap.get? b = some o ∧ H' b = none := fun b hb o e => let z := J.pin (b, o) (List.mem_append_right _ (List.mem_append_right _ (mem_pinsAt hb e))); ⟨z.1, z.2.1⟩
        refine ⟨m', hm, i + 1, H', (J.unpinned (pins := [])).weak (by rw [← hw8, wipe_length]) (fun j v e => ?_), T.keep _ _ _ st7 fun b hb o e => (pk b hb o e).1, fun b hb => ?_, w'⟩
        · rw [← hw8] at e; exact (wipe_some e).1
        · obtain ⟨o, e, _⟩ := T.obj _ _ st7 b hb; exact (pk b hb o e).2
      cases b with
      | false => simp only [Bool.false_eq_true, if_false] at q9 ⊢; exact fin I9 q9
      | true =>
        simp only [if_true] at q9 ⊢
        refine thnF (pe.run _ s9 τ H9 _ I9 q9) fun z s10 ⟨yv, H10, I10, r10, acc, hA, hz10, nx⟩ => ?_
        exact app_ok (X := blkP X q sc Hc scope ce fp) I10 hA hz10 r10 fun s11 I11 => fin I11 nx
  exact codeAny_compStart_list loop (T.self X.A 0 _ _ _ std loop)
end
/-- what a def promises of the handled error: its class, its dict, the heap, what is wanted -/
abbrev SpE := Value → Option Addr → Hp → VK → Prop
/-- the def under the name x, called with the handled error alone, keeps sp; nothing leaves it -/
structure CalE (P : Program) (w : World) (K : PySem.W.Frag) (mg : Str → Option Value) (base : Heap) (k : Nat) (x : Str) (sp : SpE) : Prop where
  ex : ∃ (f : Addr) (fd : FuncData) (par : Str), mg x = some (.ref f) ∧ PySem.W.keepIn K (.ref f) = true ∧ Binds K fd [par] [] ∧
    ∀ (A : Around) (outer : List Env) (s : Shared) (H : Hp) (args : Args) (q : Addr × Obj) (cls : Value) (d : Option Addr) (Q : VK), L2H.RoomH k A → L2H.Hot1 A q → L2H.PinOk outer H s q → Zc cls d q.2 → Env0 P w K mg base A outer s H →
      BindsTo s fd args [(par, .ref q.1)] → sp cls d H Q → codeAny (model P w) A (.call (.ref f) args) (CR CX0 outer P w H s Q E0) s
section
variable {P : Program} {w : World} {K : PySem.W.Frag} {mg : Str → Option Value} {base : Heap}
theorem calE {k : Nat} {x par : Str} {st : Stmt} {f : Addr} {fd : FuncData} {N : List Str} {sp : SpE} (F : L2.Fun K x x st f fd) (g : mg x = some (.ref f)) (b : Binds K fd [par] []) (S : FnScope N [par] (defScope st))
    (hbody : ∀ (cdv : Value) (A : Around) (outer : List Env) (s : Shared) (H : Hp) (Q : VK) (q : Addr × Obj) (cls : Value) (d : Option Addr), L2H.Hot1 A q → Zc cls d q.2 → L2H.RoomH k (A.deeper (envOfC x (defScope st) s.heap.objs.size f cdv)) → sp cls d H Q →
      ∃ t, PSs (L2H.cxH CX0 P w K mg base N x (defScope st) f cdv A outer s H E0 q) (defBody st) t ∧ t { nx := fun _ H' => Q .non H', rt := Q } (start N [.ref q.1]) H) : CalE P w K mg base (k + 1) x sp := by
  refine ⟨f, fd, par, g, F.kp, b, fun A outer s H args q cls d Q hr hot hpin hz e0 hb hsp => ?_⟩
  obtain ⟨oc, od, kV, doc, pm, an, cdv, ct, osl, rfl, lk, hcd⟩ := F.ex
  have KX : K.In s.heap := e0.mod.kin.keeps fun b o e => (e0.bs b o e).1
  have kinds : ∀ y ∈ [(par, Value.ref q.1)], (defScope st).names.lookup y.1 = some .local ∨ ((defScope st).names.lookup y.1 = some .cell ∧ ((cellsFrom (s.heap.objs.size + 1) (defScope st).names []).lookup y.1).isSome = true) := fun y hy => by
    have ey : y = (par, Value.ref q.1) := by simpa using hy
    subst ey
    exact (S.par par (List.mem_singleton.mpr rfl)).elim .inl fun z => .inr ⟨z, PySem.W.cellsFrom_some _ _ _ (.inl z)⟩
  refine codeAny_call_function hr.depth (KX _ _ lk) rfl S.co S.gen rfl (PySem.W.codeRec_of KX hcd) (hb _ _ _ _ ?_)
  refine wpAny_newFunctionEnv_cells S.kind kinds fun env he s1 xx => ?_
  subst he
  refine ⟨(e0.mod.nolimit.keeps fun b o e => (e0.bs b o e).1).keeps xx.toInCall.keep, codeAny_func ?_⟩
  obtain ⟨t, ht, hq⟩ := hbody cdv A outer s H Q q cls d hot hz (hr.deeper _) hsp
  have I : Inv (L2H.cxH CX0 P w K mg base N x (defScope st) f cdv A outer s H E0 q) [] (start N [.ref q.1]) H s1 := L2H.inv_startH (us := [.ref q.1]) S hpin e0 rfl (.cons rfl .nil) xx
  refine wpAny_mono (ht.run [] s1 _ H _ I hq) (fun fl s' hs => ?_) fun e s' hs => hs
  cases fl with
  | ret u => obtain ⟨v, τ, H', J, rv, z⟩ := hs; exact ⟨v, H', J.os, J.bare, J.base, J.hok, rv, z⟩
  | next => obtain ⟨τ, H', J, z⟩ := hs; exact ⟨.non, H', J.os, J.bare, J.base, J.hok, rfl, z⟩
  | brk => obtain ⟨_, _, _, z⟩ := hs; exact z.elim
  | cont => obtain ⟨_, _, _, z⟩ := hs; exact z.elim
end
/-- f(e) in the suite of «except .. as e» -/
def tCallE (sp : SpE) (a : Addr) (cls : Value) (d : Option Addr) (te : TE) : TE := fun σ H Q => te σ H fun v H1 => v = .ref a ∧ sp cls d H1 Q
section
variable {X : Cx} {k j : Nat} {x : Str} {sp : SpE} {a : Addr} {oe : Obj} {cls : Value} {d : Option Addr} {pn : List (Addr × Obj)} {p pos : Pos} {e : Expr} {te : TE}
theorem pe_calE (c : CalE X.prog X.w X.K X.mg X.base k x sp) (hr : Room j X.A) (hk : k ≤ j) (hz : L2N.Zn cls d oe) (hf : ∃ vs, oe.data = .fields vs) (hg : Gl X x) (he : PE (X.suite a ((a, oe) :: pn)) e te) (hdb : (x == ("__debug__" : Str)) = false := by decide)
    (hst : starEach [e] X.env = (false, eval e X.env) :: starEach [] X.env := by rfl) : PE (X.suite a ((a, oe) :: pn)) (.Call (.Name x p) [e] [] pos) (tCallE sp a cls d te) := by
  obtain ⟨f, fd, par, hm, kp, b, run⟩ := c.ex
  obtain ⟨vs, hvs⟩ := hf
  have hot : L2H.Hot1 (X.suite a ((a, oe) :: pn)).A (a, oe) := ⟨rfl, vs, hvs, hz.2.2 vs hvs⟩
  have ha : PA (X.suite a ((a, oe) :: pn)) [e] (tCons te tNil) := pa_cons he pa_nil hst
  refine ⟨fun pins s σ H Q I h => ?_⟩
  refine wpAny_Call_Name_kw (ld_glob I hg hm ?_ hdb)
  have h2 : tCons te tNil σ H fun vs H1 => vs = [V.ref a] ∧ sp cls d H1 Q := by
    have h' : te σ H fun v H1 => v = .ref a ∧ sp cls d H1 Q := h
    show te σ H fun v H1 => [v] = [V.ref a] ∧ sp cls d H1 Q
    have e : (fun (v : V) (H1 : Hp) => [v] = [V.ref a] ∧ sp cls d H1 Q) = fun v H1 => v = .ref a ∧ sp cls d H1 Q := by
      funext v H1
      exact propext ⟨fun z => ⟨(List.cons.inj z.1).1, z.2⟩, fun z => ⟨by rw [z.1], z.2⟩⟩
    rw [e]
    exact h'
  refine PySem.W.callWith_K (h₀ := X.base) I.ok.mod.kin kp (thn (ha.run pos pins s σ H _ I h2) fun us s1 ⟨vs1, H1, I1, r, ev, q⟩ => ⟨I1.kIn, ?_⟩) hst rfl
  subst ev
  have P1 := I1.pin (a, oe) (List.mem_append_left _ List.mem_cons_self)
  have eu : us = [Value.ref a] := by
    cases r with
    | cons r1 r2 => cases r2; rw [show _ = Value.ref a from r1]
  subst eu
  have bb := b s1 [Value.ref a] I1.kIn rfl
  have rm : L2H.RoomH k (X.suite a ((a, oe) :: pn)).A := ⟨(hr.mono hk).dp, (hr.mono hk).un⟩
  refine wpAny_call (codeAny_mono (run _ _ s1 H1 _ (a, oe) cls d Q rm hot ⟨P1.1, P1.2.1, fun hmm => (List.mem_cons.mp (I1.stkSub a hmm)).elim P1.2.2.1 P1.2.2.2.1, P1.2.2.2.2⟩ hz.zc I1.env0 bb q) fun rr s' hq => ?_)
  cases rr with
  | error z => exact False.elim hq
  | ok fl =>
    cases fl with
    | ret u => exact I1.after hq
    | next => exact False.elim hq
    | brk => exact False.elim hq
    | cont => exact False.elim hq
/-- isinstance(e, c), e an error that is pinned -/
theorem call_isP {Y : Cx} {D : Addr} (C : ExcC Y.K D) (hz : Zc (.ref D) none oe) (hf : ∃ vs, oe.data = .fields vs) (hm : (a, oe) ∈ Y.pn) : CallR Y (.builtin "isinstance") (rIsE Y.K D a) := by
  intro pins s σ H xs us Q I r h
  obtain ⟨c, cv, b, rfl, hcv, e, q⟩ := h
  obtain ⟨u1, u2, rfl, r1, r2⟩ := vals2 r
  obtain rfl : u1 = Value.ref a := r1
  obtain rfl := hcv _ r2
  obtain ⟨vs, hv⟩ := hf
  have hget := (I.pin (a, oe) (List.mem_append_left _ hm)).1
  have J : PySem.W.InstAt s.heap a oe D none := by
    obtain ⟨oc, od, oda, osl⟩ := oe
    obtain ⟨h1, h2⟩ := hz
    dsimp only at h1 h2 hv
    subst h1 h2 hv
    exact ⟨hget, rfl, rfl, trivial⟩
  exact PySem.W.kia_one (PySem.W.handS_kitx_exc C.hg C.hk C.hs C.hd C.ha C.hn C.ht C.hm) I.kIn J e (fun z => nomatch z) fun tk => ⟨.bl b, H, I.kept (t' := tk) fun _ _ z => z, rfl, q⟩
end
end Sw
local macro_rules | `(tactic| walk_at "go1") => `(tactic| first
  | with_reducible refine Sw.g_seqasg ?_ | with_reducible refine Sw.g_op ?_ | with_reducible refine Sw.g_var rfl ?_ | with_reducible refine Sw.g_c ?_ | with_reducible refine Sw.g_I0 ?_
  | with_reducible refine Sw.g_cons ?_ | with_reducible refine Sw.g_nil ?_ | with_reducible refine Sw.g_call ?_ | with_reducible refine Sw.g_cb ?_ | with_reducible refine Sw.g_test ?_ | with_reducible refine Sw.g_bl ?_
  | with_reducible refine Sw.g_seqdrop ?_ | with_reducible refine Sw.g_seqsub ?_ | with_reducible refine Sw.g_asg ?_ | with_reducible refine Sw.g_asgsub ?_ | with_reducible refine Sw.g_ret ?_ | with_reducible refine Sw.g_drop ?_ | with_reducible refine Sw.g_if ?_ | with_reducible refine Sw.g_next ?_ | with_reducible refine Sw.g_name ?_
  | with_reducible refine Sw.g_B ?_ | with_reducible refine Sw.g_not ?_ | with_reducible refine Sw.g_and ?_ | with_reducible refine Sw.g_or ?_ | with_reducible refine Sw.g_andV ?_ | with_reducible refine Sw.g_orV ?_ | with_reducible refine Sw.g_notV ?_
  | with_reducible refine Sw.g_ifE ?_ | with_reducible refine Sw.g_chain ?_ | with_reducible refine Sw.g_un ?_ | with_reducible refine Sw.g_tup ?_ | with_reducible refine Sw.g_lst ?_ | with_reducible refine Sw.g_sl ?_ | with_reducible refine Sw.g_part ?_ | with_reducible refine Sw.g_nopart ?_
  | with_reducible refine Sw.g_U ?_ | with_reducible refine Sw.g_eq rfl ?_ | with_reducible refine Sw.g_ne rfl ?_ | with_reducible refine Sw.g_int ?_ | with_reducible refine Sw.g_yes ?_ | with_reducible refine L2.iteT ?_ | with_reducible refine L2.iteF ?_ | with_reducible refine Sw.iteNT ?_ | with_reducible refine Sw.iteNF ?_ | with_reducible refine Sw.g_m1 ?_ | with_reducible refine Sw.g_bm ?_ | with_reducible refine ⟨Sw.ty_lst (by assumption), ?_⟩ | with_reducible refine Sw.g_sput ?_ | with_reducible refine Sw.g_put ?_ | with_reducible refine Sw.g_dget2 ?_ | with_reducible refine Sw.g_dget ?_ | with_reducible refine Sw.g_dK ?_ | with_reducible refine Sw.g_dT ?_ | with_reducible refine Sw.g_dnotin ?_ | with_reducible refine Sw.g_din ?_ | with_reducible refine Sw.g_bm0 ?_
  | with_reducible refine Sw.g_ixL (by assumption) rfl ?_ | with_reducible refine Sw.g_ixT (by assumption) rfl ?_)
local macro_rules | `(tactic| walk_at "go") => `(tactic| repeat walk_at "go1")
local macro_rules | `(tactic| walk_at "bd") => `(tactic| repeat (first | with_reducible exact Sw.all_nil | refine Sw.all_cons ⟨_, rfl, by omega, by omega⟩ ?_))
local macro_rules | `(tactic| walk_at "new") => `(tactic| (refine ⟨Nat.le_of_ble_eq_true rfl, fun p np => ?_⟩; generalize hX : L2.upd _ p _ = H'; have sm : L2.Same _ H' := hX ▸ Sw.same_upd np; have hp : H' p = some _ := hX ▸ L2.upd_same; clear hX))
namespace Sw
open PySem PySem.Spec PyProof.Rows L2 SX
/-! ### refusals -/
/-- where the classes of refusals stand -/
structure Cl where
  (Lacks NoBank NoBook NoDeed NoName NoOrder NoPlace NoRow NoSlack NoText NoTurns NoWheel NoWord TooMany WheelError : Addr)
/-- the def under the name x keeps sp; errors may leave it -/
structure CalX (P : Program) (w : World) (K : PySem.W.Frag) (mg : Str → Option Value) (base : Heap) (k : Nat) (x : Str) (sp : Sp) : Prop where
  ex : ∃ (f : Addr) (fd : FuncData) (ps : List Str), FnOk P w K mg base (L2N.CX P w) k f fd ps sp ∧ mg x = some (.ref f) ∧ PySem.W.keepIn K (.ref f) = true ∧ Binds K fd ps []
theorem okN {P : Program} {w : World} {K : PySem.W.Frag} {mg : Str → Option Value} {base : Heap} {x qual : Str} {st : Stmt} {f : Addr} {fd : FuncData} {N ps : List Str} {k : Nat} {sp : Sp} (F : L2.Fun K x qual st f fd) (S : FnScope N ps (defScope st))
    (len : ∀ vs H Q E, sp vs H Q E → vs.length = ps.length) (hbody : ∀ (cdv : Value) (A : Around) (outer : List Env) (s : Shared) (H : Hp) (vs : List V) (Q : VK) (E : XK), Room k (A.deeper (envOfC qual (defScope st) s.heap.objs.size f cdv)) → sp vs H Q E →
      ∃ t, PSs (cxOf (L2N.CX P w) P w K mg base N qual (defScope st) f cdv A outer s H E) (defBody st) t ∧ t { nx := fun _ H' => Q .non H', rt := Q } (start N vs) H) : FnOk P w K mg base (L2N.CX P w) (k + 1) f fd ps sp := by
  obtain ⟨oc, od, kV, doc, pm, an, cdv, ct, osl, rfl, lk, hcd⟩ := F.ex
  exact fn_of lk hcd S len fun A outer s H vs Q E hr h => hbody cdv A outer s H vs Q E hr h
theorem takesN0 {X : Cx} : L2N.Takes X (fun _ _ _ _ => False) := fun _ _ x => by
  obtain ⟨_, _, _, _, _, _, _, _, _, _, _, _, _, _, _, _, z⟩ := x
  exact z.elim
section
variable {X : Cx} {k j : Nat} {x : Str} {sp : Sp} {E : XK} {W : WX} {p pos : Pos} {e : Expr} {es : List Expr} {t : TA}
theorem pe_calX (c : CalX X.prog X.w X.K X.mg X.base k x sp) (hr : Room j X.A) (hk : k ≤ j) (hg : Gl X x) (hp : Passes (L2N.CX X.prog X.w) X E) (ha : PA X (e :: es) t) (hdb : (x == ("__debug__" : Str)) = false := by decide)
    (he : starEach (e :: es) X.env = (false, eval e X.env) :: starEach es X.env := by rfl) (hpl : (backTo pos (starEach es X.env)).any (·.1) = false := by rfl) : PE X (.Call (.Name x p) (e :: es) [] pos) (tCall sp [] E t) := by
  obtain ⟨f, fd, ps, F, hm, kp, b⟩ := c.ex
  exact pe_call F (hr.mono hk) hg hm kp b .nil hp ha hdb he hpl
theorem pe_calS (c : CalX X.prog X.w X.K X.mg X.base k x sp) (hr : Room j X.A) (hk : k ≤ j) (hg : Gl X x) (tk : L2N.Takes X W) (ha : PA X (e :: es) t) (hdb : (x == ("__debug__" : Str)) = false := by decide)
    (he : starEach (e :: es) X.env = (false, eval e X.env) :: starEach es X.env := by rfl) (hpl : (backTo pos (starEach es X.env)).any (·.1) = false := by rfl) : PE X (.Call (.Name x p) (e :: es) [] pos) (tCallS sp (WE W) t) := by
  obtain ⟨f, fd, ps, F, hm, kp, b⟩ := c.ex
  exact pe_callS F (hr.mono hk) hg hm kp b (fun σ => L2N.passAt tk σ) ha hdb he hpl
end
/-- what a callee raises leaves this def too -/
theorem passX {P : Program} {w : World} {K : PySem.W.Frag} {mg : Str → Option Value} {base : Heap} {N : List Str} {qual : Str} {scope : Scope} {f : Addr} {cd : Value} {A : Around} {outer : List Env} {s : Shared} {H : Hp} {E : XK} :
    Passes (L2N.CX P w) (cxOf (L2N.CX P w) P w K mg base N qual scope f cd A outer s H E) E := L2N.passes_call (X := cxOf (L2N.CX P w) P w K mg base N qual scope f cd A outer s H E) (L2N.takes_of rfl rfl rfl rfl) (fun _ _ _ _ h => h)
/-- nothing is raised there -/
theorem passE0 {X : Cx} : Passes (L2N.CX X.prog X.w) X E0 := fun _ _ _ _ _ _ _ h => by
  obtain ⟨_, _, _, _, _, _, _, _, _, _, _, _, z⟩ := h
  exact z.elim
def tRaise (E : XK) (C : Addr) : TS := fun _ _ H => E (.ref C) none H
/-- try: .. except (the class at W) as (slot i): .. -/
def tTry (K : PySem.W.Frag) (Wh : Addr) (i : Nat) (tb : WX → TS) (ts : Addr → Value → Option Addr → TS) : TS := fun D σ H => tb (wAs K (.ref Wh) i ts (fun _ _ _ _ => False) D) D σ H
/-! ### what kind a refusal is of: _law_kind -/
def knames : List Str := ["Lacks", "NoBank", "NoBook", "NoDeed", "NoName", "NoOrder", "NoPlace", "NoRow", "NoSlack", "NoText", "NoTurns", "NoWheel", "NoWord", "TooMany", "+"]
def kstr (j : Nat) : Str := Txt.join (PySem.Str.ofString "") [knames.getD j "", "+"]
theorem kstr0 : kstr 0 = PySem.Str.ofString "Lacks+" := by decide +kernel
theorem kstr1 : kstr 1 = PySem.Str.ofString "NoBank+" := by decide +kernel
theorem kstr2 : kstr 2 = PySem.Str.ofString "NoBook+" := by decide +kernel
theorem kstr3 : kstr 3 = PySem.Str.ofString "NoDeed+" := by decide +kernel
theorem kstr4 : kstr 4 = PySem.Str.ofString "NoName+" := by decide +kernel
theorem kstr5 : kstr 5 = PySem.Str.ofString "NoOrder+" := by decide +kernel
theorem kstr6 : kstr 6 = PySem.Str.ofString "NoPlace+" := by decide +kernel
theorem kstr7 : kstr 7 = PySem.Str.ofString "NoRow+" := by decide +kernel
theorem kstr8 : kstr 8 = PySem.Str.ofString "NoSlack+" := by decide +kernel
theorem kstr9 : kstr 9 = PySem.Str.ofString "NoText+" := by decide +kernel
theorem kstr10 : kstr 10 = PySem.Str.ofString "NoTurns+" := by decide +kernel
theorem kstr11 : kstr 11 = PySem.Str.ofString "NoWheel+" := by decide +kernel
theorem kstr12 : kstr 12 = PySem.Str.ofString "NoWord+" := by decide +kernel
theorem kstr13 : kstr 13 = PySem.Str.ofString "TooMany+" := by decide +kernel
/-- the class at D is the j-th of these; errors of it are told so -/
structure Caught (K : PySem.W.Frag) (c : Cl) (D : Addr) (j : Nat) : Prop where
  ex : ExcC K D
  exm : PySem.W.exmOne K (.ref D) (.ref c.WheelError) = some true
  q0 : PySem.W.kitOne K (.ref D) (.ref c.Lacks) = some (decide (0 = j))
  q1 : PySem.W.kitOne K (.ref D) (.ref c.NoBank) = some (decide (1 = j))
  q2 : PySem.W.kitOne K (.ref D) (.ref c.NoBook) = some (decide (2 = j))
  q3 : PySem.W.kitOne K (.ref D) (.ref c.NoDeed) = some (decide (3 = j))
  q4 : PySem.W.kitOne K (.ref D) (.ref c.NoName) = some (decide (4 = j))
  q5 : PySem.W.kitOne K (.ref D) (.ref c.NoOrder) = some (decide (5 = j))
  q6 : PySem.W.kitOne K (.ref D) (.ref c.NoPlace) = some (decide (6 = j))
  q7 : PySem.W.kitOne K (.ref D) (.ref c.NoRow) = some (decide (7 = j))
  q8 : PySem.W.kitOne K (.ref D) (.ref c.NoSlack) = some (decide (8 = j))
  q9 : PySem.W.kitOne K (.ref D) (.ref c.NoText) = some (decide (9 = j))
  q10 : PySem.W.kitOne K (.ref D) (.ref c.NoTurns) = some (decide (10 = j))
  q11 : PySem.W.kitOne K (.ref D) (.ref c.NoWheel) = some (decide (11 = j))
  q12 : PySem.W.kitOne K (.ref D) (.ref c.NoWord) = some (decide (12 = j))
  q13 : PySem.W.kitOne K (.ref D) (.ref c.TooMany) = some (decide (13 = j))
  q14 : PySem.W.kitOne K (.ref D) (.type "ValueError") = some true
def sp_law_kind (K : PySem.W.Frag) (c : Cl) : SpE := fun cls d H Q => d = none ∧ ∃ D j, cls = .ref D ∧ Caught K c D j ∧ j < 14 ∧ ∀ H', Same H H' → Q (.str (kstr j)) H'
theorem g_isE {K : PySem.W.Frag} {D a C : Addr} {b : Bool} {H : Hp} {Q : VK} (h : PySem.W.kitOne K (.ref D) (.ref C) = some b) (q : Q (.bl b) H) : rIsE K D a [.ref a, .ref C] H Q := ⟨.ref C, .ref C, b, rfl, fun _ r => r, h, q⟩
theorem g_isEt {K : PySem.W.Frag} {D a : Addr} {n : String} {b : Bool} {H : Hp} {Q : VK} (h : PySem.W.kitOne K (.ref D) (.type n) = some b) (q : Q (.bl b) H) : rIsE K D a [.ref a, .ty n] H Q := ⟨.ty n, .type n, b, rfl, fun _ r => r, h, q⟩
theorem g_catL {l b : Addr} {xs zs : List V} {H : Hp} {Q : VK} (hl : H l = some (.lst xs)) (hb : H b = some (.lst zs)) (hz : xs.length + zs.length ≤ 1000) (q : ∀ p H', H p = none → Same H H' → H' p = some (.lst (xs ++ zs)) → Q (.ref p) H') : rCat (.ref l) (.ref b) H Q :=
  ⟨l, b, xs, zs, rfl, rfl, hl, hb, Nat.le_trans hz (by decide), fun p hp => q p _ hp (fun b o e => by rw [upd_ne (ne_of_none e hp)]; exact e) upd_same⟩
theorem g_new {xs : List V} {F : Addr → Hp → Prop} {H : Hp} (hz : xs.length ≤ 1000) (q : ∀ p H', H p = none → Same H H' → H' p = some (.lst xs) → F p H') : xs.length ≤ sizeLine ∧ ∀ p, H p = none → F p (upd H p (.lst xs)) :=
  ⟨Nat.le_trans hz (by decide), fun p hp => q p _ hp (fun b o e => by rw [upd_ne (ne_of_none e hp)]; exact e) upd_same⟩
end Sw
local macro_rules | `(tactic| walk_at "isE") => `(tactic| first
  | with_reducible refine Sw.g_isE (Sw.Caught.q0 (by assumption)) ?_ | with_reducible refine Sw.g_isE (Sw.Caught.q1 (by assumption)) ?_ | with_reducible refine Sw.g_isE (Sw.Caught.q2 (by assumption)) ?_ | with_reducible refine Sw.g_isE (Sw.Caught.q3 (by assumption)) ?_
  | with_reducible refine Sw.g_isE (Sw.Caught.q4 (by assumption)) ?_ | with_reducible refine Sw.g_isE (Sw.Caught.q5 (by assumption)) ?_ | with_reducible refine Sw.g_isE (Sw.Caught.q6 (by assumption)) ?_ | with_reducible refine Sw.g_isE (Sw.Caught.q7 (by assumption)) ?_
  | with_reducible refine Sw.g_isE (Sw.Caught.q8 (by assumption)) ?_ | with_reducible refine Sw.g_isE (Sw.Caught.q9 (by assumption)) ?_ | with_reducible refine Sw.g_isE (Sw.Caught.q10 (by assumption)) ?_ | with_reducible refine Sw.g_isE (Sw.Caught.q11 (by assumption)) ?_
  | with_reducible refine Sw.g_isE (Sw.Caught.q12 (by assumption)) ?_ | with_reducible refine Sw.g_isE (Sw.Caught.q13 (by assumption)) ?_ | with_reducible refine Sw.g_isEt (Sw.Caught.q14 (by assumption)) ?_)
namespace Sw
open PySem PySem.Spec PyProof.Rows L2 SX
/-! ### data compared -/
mutual
theorem dp_same {K : PySem.W.Frag} {H H' : Hp} (e : Same H H') : ∀ {v : V} {d : PyData}, Dp K H v d → Dp K H' v d
  | _, _, .non => .non
  | _, _, .bl b => .bl b
  | _, _, .int i => .int i
  | _, _, .str x => .str x
  | _, _, .lst h a => .lst (e.seq h) (dpA_same e a)
  | _, _, .tup h a => .tup (Sw.Same.tup e h) (dpA_same e a)
theorem dpA_same {K : PySem.W.Frag} {H H' : Hp} (e : Same H H') : ∀ {v : List V} {d : List PyData}, DpAll K H v d → DpAll K H' v d
  | _, _, .nil => .nil
  | _, _, .cons a b => .cons (dp_same e a) (dpA_same e b)
end
/-- data of little depth, of texts within bounds -/
def Ok (n : Nat) (d : PyData) : Prop := d.canLay0 = true ∧ d.depth ≤ n
theorem ok_int {n : Nat} (i : Int) : Ok n (.int i) := ⟨rfl, Nat.zero_le _⟩
theorem ok_bl {n : Nat} (b : Bool) : Ok n (.bool b) := ⟨rfl, Nat.zero_le _⟩
theorem ok_non {n : Nat} : Ok n .none := ⟨rfl, Nat.zero_le _⟩
theorem ok_str {n : Nat} {x : Str} (h : PyData.strOk x = true) : Ok n (.str x) := ⟨h, Nat.zero_le _⟩
theorem okA {n : Nat} : ∀ {xs : List PyData}, (∀ x ∈ xs, Ok n x) → PyData.canLayAll0 xs = true ∧ PyData.depthAll xs ≤ n
  | [], _ => ⟨rfl, Nat.zero_le _⟩
  | x :: xs, h => by
    have h1 := h x List.mem_cons_self
    have h2 := okA (xs := xs) fun y hy => h y (List.mem_cons_of_mem _ hy)
    refine ⟨?_, ?_⟩
    · show (x.canLay0 && PyData.canLayAll0 xs) = true
      rw [h1.1, h2.1]; rfl
    · show max x.depth (PyData.depthAll xs) ≤ n
      exact Nat.max_le.mpr ⟨h1.2, h2.2⟩
theorem ok_lst {n : Nat} {xs : List PyData} (h : ∀ x ∈ xs, Ok n x) : Ok (n + 1) (.list xs) := ⟨(okA h).1, Nat.succ_le_succ (okA h).2⟩
theorem ok_tup {n : Nat} {xs : List PyData} (h : ∀ x ∈ xs, Ok n x) : Ok (n + 1) (.tuple xs) := ⟨(okA h).1, Nat.succ_le_succ (okA h).2⟩
theorem ok_nil {n : Nat} : ∀ x ∈ ([] : List PyData), Ok n x := fun _ h => nomatch h
theorem ok_cons {n : Nat} {x : PyData} {xs : List PyData} (h : Ok n x) (hs : ∀ y ∈ xs, Ok n y) : ∀ y ∈ x :: xs, Ok n y := fun y hy => by
  rcases List.mem_cons.mp hy with e | e
  · rw [e]; exact h
  · exact hs y e
theorem Ok.shaped {n : Nat} {d : PyData} (h : Ok n d) (hn : n ≤ 64) : SeqAt.shaped d = true := by
  unfold SeqAt.shaped
  rw [h.1]
  simpa using Nat.le_trans h.2 hn
/-- two things that are the same data -/
theorem g_neD {K : PySem.W.Frag} {H : Hp} {x y : V} {d : PyData} {n : Nat} {Q : VK} (hx : Dp K H x d) (hy : Dp K H y d) (ok : Ok n d) (hn : n ≤ 64) (q : Q (.bl false) H) : rNeD K x y H Q :=
  ⟨d, d, hx, hy, ok.shaped hn, ok.shaped hn, by rw [SeqAt.eqv_refl d ok.1]; exact q⟩
theorem g_eqD {K : PySem.W.Frag} {H : Hp} {x y : V} {d : PyData} {n : Nat} {Q : VK} (hx : Dp K H x d) (hy : Dp K H y d) (ok : Ok n d) (hn : n ≤ 64) (q : Q (.bl true) H) : rEqD K x y H Q :=
  ⟨d, d, hx, hy, ok.shaped hn, ok.shaped hn, by rw [SeqAt.eqv_refl d ok.1]; exact q⟩
def dI (ns : List Int) : List PyData := ns.map .int
theorem dpI {K : PySem.W.Frag} {H : Hp} : ∀ ns : List Int, DpAll K H (ns.map V.int) (dI ns)
  | [] => .nil
  | n :: ns => .cons (.int n) (dpI ns)
theorem ok_dI {n : Nat} (ns : List Int) : ∀ x ∈ dI ns, Ok n x := fun x hx => by
  obtain ⟨i, _, rfl⟩ := List.mem_map.mp hx
  exact ok_int i
end Sw
local macro_rules | `(tactic| walk_at "go1") => `(tactic| first
  | with_reducible refine Sw.g_seqasg ?_ | with_reducible refine Sw.g_op ?_ | with_reducible refine Sw.g_var rfl ?_ | with_reducible refine Sw.g_c ?_ | with_reducible refine Sw.g_I0 ?_
  | with_reducible refine Sw.g_cons ?_ | with_reducible refine Sw.g_nil ?_ | with_reducible refine Sw.g_call ?_ | with_reducible refine Sw.g_cb ?_ | with_reducible refine Sw.g_test ?_ | with_reducible refine Sw.g_bl ?_
  | with_reducible refine Sw.g_seqdrop ?_ | with_reducible refine Sw.g_seqsub ?_ | with_reducible refine Sw.g_asg ?_ | with_reducible refine Sw.g_asgsub ?_ | with_reducible refine Sw.g_ret ?_ | with_reducible refine Sw.g_drop ?_ | with_reducible refine Sw.g_if ?_ | with_reducible refine Sw.g_next ?_ | with_reducible refine Sw.g_name ?_
  | with_reducible refine Sw.g_B ?_ | with_reducible refine Sw.g_not ?_ | with_reducible refine Sw.g_and ?_ | with_reducible refine Sw.g_or ?_ | with_reducible refine Sw.g_andV ?_ | with_reducible refine Sw.g_orV ?_ | with_reducible refine Sw.g_notV ?_
  | with_reducible refine Sw.g_ifE ?_ | with_reducible refine Sw.g_chain ?_ | with_reducible refine Sw.g_un ?_ | with_reducible refine Sw.g_tup ?_ | with_reducible refine Sw.g_lst ?_ | with_reducible refine Sw.g_sl ?_ | with_reducible refine Sw.g_part ?_ | with_reducible refine Sw.g_nopart ?_
  | with_reducible refine Sw.g_U ?_ | with_reducible refine Sw.g_eq rfl ?_ | with_reducible refine Sw.g_ne rfl ?_ | with_reducible refine Sw.g_int ?_ | with_reducible refine Sw.g_yes ?_ | with_reducible refine L2.iteT ?_ | with_reducible refine L2.iteF ?_ | with_reducible refine Sw.iteNT ?_ | with_reducible refine Sw.iteNF ?_ | with_reducible refine Sw.g_m1 ?_ | with_reducible refine Sw.g_bm ?_ | with_reducible refine ⟨Sw.ty_lst (by assumption), ?_⟩ | with_reducible refine Sw.g_sput ?_ | with_reducible refine Sw.g_put ?_ | with_reducible refine Sw.g_dget2 ?_ | with_reducible refine Sw.g_dget ?_ | with_reducible refine Sw.g_dK ?_ | with_reducible refine Sw.g_dT ?_ | with_reducible refine Sw.g_dnotin ?_ | with_reducible refine Sw.g_din ?_ | with_reducible refine Sw.g_bm0 ?_
  | with_reducible refine Sw.g_ixL (by assumption) rfl ?_ | with_reducible refine Sw.g_ixT (by assumption) rfl ?_)
local macro_rules | `(tactic| walk_at "go") => `(tactic| repeat walk_at "go1")
local macro_rules | `(tactic| walk_at "bd") => `(tactic| repeat (first | with_reducible exact Sw.all_nil | refine Sw.all_cons ⟨_, rfl, by omega, by omega⟩ ?_))
local macro_rules | `(tactic| walk_at "new") => `(tactic| (refine ⟨Nat.le_of_ble_eq_true rfl, fun p np => ?_⟩; generalize hX : L2.upd _ p _ = H'; have sm : L2.Same _ H' := hX ▸ Sw.same_upd np; have hp : H' p = some _ := hX ▸ L2.upd_same; clear hX))
namespace Sw
open PySem PySem.Spec PyProof.Rows L2 SX
/-! ### more loops; lists of one's own -/
section
variable {K : PySem.W.Frag} {σ : L2.St} {H H' : Hp} {Q : VK} {D : Ends} {te ta : TE} {tr : TA} {tb : TS} {tt : TT} {g : TG} {j j1 j2 : Nat} {vs : List Nat} {T : String}
theorem g_app {l : Addr} {xs : List V} {y : V} (h : H l = some (.lst xs)) (hz : xs.length ≤ 100000) (q : Q .non (upd H l (.lst (xs ++ [y])))) : rAppend (.ref l) [y] H Q := ⟨l, xs, y, rfl, rfl, h, Nat.lt_of_le_of_lt hz (by decide), q⟩
/-- the list at s is new since H; all else stays -/
structure Own (H : Hp) (s : Addr) (xs : List V) (H' : Hp) : Prop where
  no : H s = none
  sm : Same H H'
  at_ : H' s = some (.lst xs)
theorem Own.mk_ {s : Addr} {xs : List V} (h : H s = none) : Own H s xs (upd H s (.lst xs)) := ⟨h, same_upd h, upd_same⟩
theorem Own.put {s : Addr} {xs ys : List V} (o : Own H s xs H') : Own H s ys (upd H' s (.lst ys)) := ⟨o.no, fun b x e => by rw [upd_ne (ne_of_none e o.no)]; exact o.sm b x e, upd_same⟩
theorem Own.same {s : Addr} {xs : List V} {H2 : Hp} (o : Own H s xs H') (e : Same H' H2) : Own H s xs H2 := ⟨o.no, o.sm.trans e, e _ _ o.at_⟩
theorem Own.app {s : Addr} {xs : List V} {y : V} (o : Own H s xs H') (hz : xs.length ≤ 100000) (q : ∀ H2, Own H s (xs ++ [y]) H2 → Q .non H2) : rAppend (.ref s) [y] H' Q := g_app o.at_ hz (q _ o.put)
/-- for (i, x) in enumerate(list that stays) -/
theorem forE {a : Addr} {xs : List V} (hn : ∀ QA : List V → Hp → Prop, QA [.ref a] H → tr σ H QA) (Pv : Nat → L2.St → Hp → Prop) (p0 : Pv 0 σ H) (hl : ∀ i σ' H', i ≤ xs.length → Pv i σ' H' → SqL K H' a xs) (hst : ∀ i σ' H' p o, H' p = none → Pv i σ' H' → Pv i σ' (upd H' p o))
    (ps : ∀ (i : Nat) (x : V) σ' H', xs[i]? = some x → Pv i σ' H' → tb { D with nx := Pv (i + 1), ct := Pv (i + 1), bk := D.nx } ((σ'.set j1 (some (.int (i : Int)))).set j2 (some x)) H') (pd : ∀ σ' H', Pv xs.length σ' H' → D.nx σ' H') :
    tFor (iEnum K tr) (gTup K 2 (gCons (gName j1) (gCons (gName j2) gNil))) tb D σ H := by
  refine hn _ ⟨a, xs, rfl, hl 0 σ H (Nat.zero_le _) p0, fun i m σ H => m = xs.length - i ∧ i ≤ xs.length ∧ Pv i σ H, ⟨xs.length, by omega, by omega, p0⟩, ?_⟩
  rintro i m σ' H' ⟨rfl, hi, p⟩
  by_cases hlt : i < xs.length
  · have hx := List.getElem?_eq_getElem hlt
    refine .inr ⟨⟨xs, _, hl i σ' H' hi p, hx⟩, Pv (i + 1), fun σ2 H2 p' => ⟨xs.length - (i + 1), by omega, rfl, by omega, p'⟩, fun v H2 y => ?_⟩
    obtain ⟨T, x, rfl, nT, rfl, hx2⟩ := y
    have ex := hx2 xs (hl i σ' H' hi p)
    exact ⟨T, _, rfl, .inl (.inl upd_same), rfl, _, _, rfl, _, _, rfl, rfl, ps i x σ' _ ex (hst _ _ _ _ _ nT p)⟩
  · have e : i = xs.length := by omega
    subst e
    exact .inl ⟨⟨xs, hl _ σ' H' hi p, Nat.le_refl _⟩, pd σ' H' p⟩
/-- [.. for (i, x) in enumerate(list) if ..], tests and items leave the heap as it is -/
theorem lcPE {a : Addr} {xs : List V} (f : Nat → Bool) (v : Nat → V) (hn : ∀ QA : List V → Hp → Prop, QA [.ref a] H → tr σ H QA) (hx : SqL K H a xs) (hz : xs.length ≤ 100000) (hw : ∀ x y : V, wipe (((wipe σ vs).set j1 (some x)).set j2 (some y)) vs = wipe σ vs)
    (ht : ∀ (i : Nat) x H' (QT : Bool → Hp → Prop), xs[i]? = some x → Same H H' → QT (f i) H' → tt (((wipe σ vs).set j1 (some (.int (i : Int)))).set j2 (some x)) H' QT)
    (he : ∀ (i : Nat) x H' (Q : VK), xs[i]? = some x → Same H H' → f i = true → Q (v i) H' → te (((wipe σ vs).set j1 (some (.int (i : Int)))).set j2 (some x)) H' Q)
    (pd : ∀ Dl H', H Dl = none → Same H H' → H' Dl = some (.lst (given xs.length f v)) → Q (.ref Dl) H') : tLc (iEnum K tr) (gTup K 2 (gCons (gName j1) (gCons (gName j2) gNil))) tt te vs σ H Q := by
  refine hn _ ⟨a, xs, rfl, hx, fun Dl hD => ⟨fun i m H' => m = xs.length - i ∧ i ≤ xs.length ∧ Lw H f v Dl i H', ⟨xs.length, by omega, by omega, lw_start hD⟩, ?_⟩⟩
  rintro i m H' ⟨rfl, hi, p⟩
  by_cases hlt : i < xs.length
  · have hxi := List.getElem?_eq_getElem hlt
    refine .inr ⟨⟨xs, _, p.2.1.seq hx, hxi⟩, fun H2 => Lw H f v Dl (i + 1) H2, fun H2 p' => ⟨xs.length - (i + 1), by omega, rfl, by omega, p'⟩, fun z H2 y => ?_⟩
    obtain ⟨T, x, rfl, nT, rfl, hx2⟩ := y
    have ex := hx2 xs (p.2.1.seq hx)
    have p2 : Lw H f v Dl i (upd H' T (.tup [.int (i : Nat), x])) := ⟨p.1, p.2.1.trans (same_upd nT), same_upd nT _ _ p.2.2⟩
    exact ⟨T, _, rfl, .inl (.inl upd_same), rfl, _, _, rfl, _, _, rfl, rfl, hw _ _, lw_turn (tt := tt) (te := te) p2 (by omega) (fun QT q => ht i x _ QT ex p2.2.1 q) (fun hf Q q => he i x _ Q ex p2.2.1 hf q)⟩
  · have e : i = xs.length := by omega
    subst e
    exact .inl ⟨⟨xs, p.2.1.seq hx, Nat.le_refl _⟩, pd Dl H' p.1 p.2.1 p.2.2⟩
/-- over a list, any target: τ i the state behind the i-th item's assignment -/
theorem lcPG {a : Addr} {xs : List V} (τ : Nat → L2.St) (f : Nat → Bool) (v : Nat → V) (hn : ∀ Q : VK, Q (.ref a) H → ta σ H Q) (hx : SqL K H a xs) (hz : xs.length ≤ 100000)
    (hg : ∀ (i : Nat) x H' (QS : L2.St → Hp → Prop), xs[i]? = some x → Same H H' → QS (τ i) H' → g x (wipe σ vs) H' QS) (hw : ∀ i, i < xs.length → wipe (τ i) vs = wipe σ vs)
    (ht : ∀ (i : Nat) x H' (QT : Bool → Hp → Prop), xs[i]? = some x → Same H H' → QT (f i) H' → tt (τ i) H' QT)
    (he : ∀ (i : Nat) x H' (Q : VK), xs[i]? = some x → Same H H' → f i = true → Q (v i) H' → te (τ i) H' Q)
    (pd : ∀ Dl H', H Dl = none → Same H H' → H' Dl = some (.lst (given xs.length f v)) → Q (.ref Dl) H') : tLc (iList K ta) g tt te vs σ H Q := by
  refine hn _ ⟨a, rfl, ⟨xs, hx⟩, fun Dl hD => lc_list (xs := xs) (Lw H f v Dl) (lw_start hD) (fun i H' _ p => p.2.1.seq hx) (fun i x H' hi p => hg i x H' _ hi p.2.1 ⟨hw i (List.getElem?_eq_some_iff.mp hi).1, ?_⟩) (fun H' p => pd Dl H' p.1 p.2.1 p.2.2)⟩
  have := (List.getElem?_eq_some_iff.mp hi).1
  exact lw_turn (tt := tt) (te := te) p (by omega) (fun QT q => ht i x H' QT hi p.2.1 q) (fun hf Q q => he i x H' Q hi p.2.1 hf q)
theorem lcPG' {a : Addr} {xs : List V} (τ : Nat → L2.St) (f : Nat → Bool) (v : Nat → V) (hn : ∀ Q : VK, Q (.ref a) H → ta σ H Q) (hx : SqL K H a xs) (hz : xs.length ≤ 900000)
    (hg : ∀ (i : Nat) x H' (QS : L2.St → Hp → Prop), xs[i]? = some x → Same H H' → QS (τ i) H' → g x (wipe σ vs) H' QS) (hw : ∀ i, i < xs.length → wipe (τ i) vs = wipe σ vs)
    (ht : ∀ (i : Nat) x H' (QT : Bool → Hp → Prop), xs[i]? = some x → Same H H' → QT (f i) H' → tt (τ i) H' QT)
    (he : ∀ (i : Nat) x H' (Q : VK), xs[i]? = some x → Same H H' → f i = true → Q (v i) H' → te (τ i) H' Q)
    (pd : ∀ Dl H', H Dl = none → Same H H' → H' Dl = some (.lst (given xs.length f v)) → Q (.ref Dl) H') : tLc (iList K ta) g tt te vs σ H Q := by
  refine hn _ ⟨a, rfl, ⟨xs, hx⟩, fun Dl hD => lc_list (xs := xs) (Lw H f v Dl) (lw_start hD) (fun i H' _ p => p.2.1.seq hx) (fun i x H' hi p => hg i x H' _ hi p.2.1 ⟨hw i (List.getElem?_eq_some_iff.mp hi).1, ?_⟩) (fun H' p => pd Dl H' p.1 p.2.1 p.2.2)⟩
  have := (List.getElem?_eq_some_iff.mp hi).1
  exact lw_turn (tt := tt) (te := te) p (by omega) (fun QT q => ht i x H' QT hi p.2.1 q) (fun hf Q q => he i x H' Q hi p.2.1 hf q)
/-- over a tuple -/
theorem lcPT {a : Addr} {xs : List V} (f : Nat → Bool) (v : Nat → V) (hn : ∀ Q : VK, Q (.ref a) H → ta σ H Q) (hx : SqT K H a xs) (hz : xs.length ≤ 100000) (hw : ∀ x : V, wipe ((wipe σ vs).set j (some x)) vs = wipe σ vs)
    (ht : ∀ (i : Nat) x H' (QT : Bool → Hp → Prop), xs[i]? = some x → Same H H' → QT (f i) H' → tt ((wipe σ vs).set j (some x)) H' QT)
    (he : ∀ (i : Nat) x H' (Q : VK), xs[i]? = some x → Same H H' → f i = true → Q (v i) H' → te ((wipe σ vs).set j (some x)) H' Q)
    (pd : ∀ Dl H', H Dl = none → Same H H' → H' Dl = some (.lst (given xs.length f v)) → Q (.ref Dl) H') : tLc (iTup K ta) (gName j) tt te vs σ H Q := by
  refine hn _ ⟨a, rfl, ⟨xs, hx⟩, fun Dl hD => lc_tup (xs := xs) (Lw H f v Dl) (lw_start hD) (fun i H' _ p => Sw.Same.tup p.2.1 hx) (fun i x H' hi p => ⟨hw x, ?_⟩) (fun H' p => pd Dl H' p.1 p.2.1 p.2.2)⟩
  have := (List.getElem?_eq_some_iff.mp hi).1
  exact lw_turn (tt := tt) (te := te) p (by omega) (fun QT q => ht i x H' QT hi p.2.1 q) (fun hf Q q => he i x H' Q hi p.2.1 hf q)
theorem g_listOf {p : Addr} {ys : List V} (h : SqL K H p ys) (q : ∀ l H', H l = none → Same H H' → H' l = some (.lst ys) → Q (.ref l) H') : rListOf K [.ref p] H Q := ⟨p, ys, rfl, .inl h, fun l hl => q l _ hl (same_upd hl) upd_same⟩
/-- the signs of a list of texts of one sign each, joined -/
theorem g_joinN {p : Addr} {l : List Nat} (h : SqL K H p (l.map fun c => V.str (S [c]))) (hz : l.length ≤ 100000) (q : Q (.str (S l)) H) : rJoin K (.str (PySem.Str.ofString "")) [.ref p] H Q := by
  refine ⟨S [], p, l.map fun c => S [c], rfl, rfl, .inl (by rw [List.map_map]; exact h), ?_, ?_⟩
  · rw [sum_one, List.length_map, S_len]
    show l.length + l.length * 0 ≤ _
    omega
  · rw [join_nil]
    exact q
end
theorem dp_tup {K : PySem.W.Frag} {H : Hp} {v : V} {ds : List PyData} (h : Dp K H v (.tuple ds)) : ∃ a xs, v = .ref a ∧ SqT K H a xs ∧ DpAll K H xs ds := by
  cases h with
  | tup h a => exact ⟨_, _, rfl, h, a⟩
theorem dp_lst {K : PySem.W.Frag} {H : Hp} {v : V} {ds : List PyData} (h : Dp K H v (.list ds)) : ∃ a xs, v = .ref a ∧ SqL K H a xs ∧ DpAll K H xs ds := by
  cases h with
  | lst h a => exact ⟨_, _, rfl, h, a⟩
theorem dpA_get {K : PySem.W.Frag} {H : Hp} : ∀ {xs : List V} {ds : List PyData} {i : Nat} {d : PyData}, DpAll K H xs ds → ds[i]? = some d → ∃ x, xs[i]? = some x ∧ Dp K H x d
  | _, _, 0, d, .cons a _, e => ⟨_, rfl, by cases e; exact a⟩
  | _, _, i + 1, d, .cons _ b, e => dpA_get (i := i) b e
theorem dpA_len {K : PySem.W.Frag} {H : Hp} : ∀ {xs : List V} {ds : List PyData}, DpAll K H xs ds → xs.length = ds.length
  | _, _, .nil => rfl
  | _, _, .cons _ b => congrArg (· + 1) (dpA_len b)
theorem dpA_app {K : PySem.W.Frag} {H : Hp} : ∀ {xs ys : List V} {ds es : List PyData}, DpAll K H xs ds → DpAll K H ys es → DpAll K H (xs ++ ys) (ds ++ es)
  | _, _, _, _, .nil, b => b
  | _, _, _, _, .cons a b, c => .cons a (dpA_app b c)
theorem dpA_get2 {K : PySem.W.Frag} {H : Hp} {xs : List V} {ds : List PyData} {i : Nat} {x : V} (h : DpAll K H xs ds) (e : xs[i]? = some x) : ∃ d, ds[i]? = some d ∧ Dp K H x d := by
  have hl := dpA_len h
  obtain ⟨hi, _⟩ := List.getElem?_eq_some_iff.mp e
  have e2 := List.getElem?_eq_getElem (l := ds) (i := i) (by omega)
  obtain ⟨y, e3, p⟩ := dpA_get h e2
  rw [e] at e3
  cases e3
  exact ⟨_, e2, p⟩
/-- pairs of whole numbers -/
def dP (p : Int × Int) : PyData := .tuple [.int p.1, .int p.2]
def dPs (ps : List (Int × Int)) : List PyData := ps.map dP
theorem dp_pair {K : PySem.W.Frag} {H : Hp} {v : V} {p : Int × Int} (h : Dp K H v (dP p)) : ∃ a, v = .ref a ∧ SqT K H a [.int p.1, .int p.2] := by
  obtain ⟨a, xs, e, h1, h2⟩ := dp_tup h
  refine ⟨a, e, ?_⟩
  cases h2 with
  | cons x y =>
    cases y with
    | cons y z =>
      cases z
      cases x
      cases y
      exact h1
theorem ok_dPs {n : Nat} (ps : List (Int × Int)) : ∀ x ∈ dPs ps, Ok (n + 1) x := fun x hx => by
  obtain ⟨p, _, rfl⟩ := List.mem_map.mp hx
  exact ok_tup (ok_cons (ok_int _) (ok_cons (ok_int _) ok_nil))
theorem map_at {ns : List Int} {i : Nat} {x : V} (h : (ns.map V.int)[i]? = some x) : ∃ n, ns[i]? = some n ∧ x = .int n := by
  rw [List.getElem?_map] at h
  obtain ⟨z, hz, rfl⟩ := Option.map_eq_some_iff.mp h
  exact ⟨z, hz, rfl⟩
theorem ixN_nat {n j : Nat} (hj : j < n) : ixN n (j : Int) = some j := by
  unfold ixN
  rw [if_pos (by omega), if_pos (by omega)]
  simp
theorem take_snoc' {α : Type} {l : List α} {i : Nat} {x : α} (h : l[i]? = some x) : l.take (i + 1) = l.take i ++ [x] := by rw [List.take_add_one, h]; rfl
theorem getD_of' {α : Type} {l : List α} {i : Nat} {d x : α} (h : l[i]? = some x) : l.getD i d = x := by rw [List.getD, h]; rfl
/-- what a comprehension over a list gives, by the list -/
theorem given_list {α : Type} (l : List α) (d : α) (p : α → Bool) (g : α → V) : given l.length (fun i => p (l.getD i d)) (fun i => g (l.getD i d)) = (l.filter p).map g := by
  unfold given
  have e : l = (List.range l.length).map (fun i => l.getD i d) := by
    apply List.ext_getElem
    · simp
    · intro i h1 h2
      simp [h1]
  conv => rhs; rw [e]
  rw [List.filter_map, List.map_map]
  rfl
theorem vint_eq {a b : Int} : decide (V.int a = V.int b) = decide (a = b) := by rw [decide_eq_decide]; exact ⟨V.int.inj, congrArg _⟩
theorem take_set_drop {α : Type} {A B : List α} {i : Nat} {x : α} (hA : A[i]? = some x) (hl : A.length = B.length) : (A.take i ++ B.drop i).set i x = A.take (i + 1) ++ B.drop (i + 1) := by
  have hi := (List.getElem?_eq_some_iff.mp hA).1
  have hB : i < B.length := by omega
  rw [List.drop_eq_getElem_cons hB, List.set_append, if_neg (by rw [List.length_take]; omega), List.length_take, Nat.min_eq_left (by omega), Nat.sub_self, List.set_cons_zero, take_snoc' hA, List.append_assoc]
  rfl
theorem take_snoc {α : Type} {l : List α} {i : Nat} {x : α} (h : l[i]? = some x) : l.take (i + 1) = l.take i ++ [x] := by rw [List.take_add_one, h]; rfl
end Sw
local macro_rules | `(tactic| walk_at "go1") => `(tactic| first
  | with_reducible refine Sw.g_seqasg ?_ | with_reducible refine Sw.g_op ?_ | with_reducible refine Sw.g_var rfl ?_ | with_reducible refine Sw.g_c ?_ | with_reducible refine Sw.g_I0 ?_
  | with_reducible refine Sw.g_cons ?_ | with_reducible refine Sw.g_nil ?_ | with_reducible refine Sw.g_call ?_ | with_reducible refine Sw.g_cb ?_ | with_reducible refine Sw.g_test ?_ | with_reducible refine Sw.g_bl ?_
  | with_reducible refine Sw.g_seqdrop ?_ | with_reducible refine Sw.g_seqsub ?_ | with_reducible refine Sw.g_asg ?_ | with_reducible refine Sw.g_asgsub ?_ | with_reducible refine Sw.g_ret ?_ | with_reducible refine Sw.g_drop ?_ | with_reducible refine Sw.g_if ?_ | with_reducible refine Sw.g_next ?_ | with_reducible refine Sw.g_name ?_
  | with_reducible refine Sw.g_B ?_ | with_reducible refine Sw.g_not ?_ | with_reducible refine Sw.g_and ?_ | with_reducible refine Sw.g_or ?_ | with_reducible refine Sw.g_andV ?_ | with_reducible refine Sw.g_orV ?_ | with_reducible refine Sw.g_notV ?_
  | with_reducible refine Sw.g_ifE ?_ | with_reducible refine Sw.g_chain ?_ | with_reducible refine Sw.g_un ?_ | with_reducible refine Sw.g_tup ?_ | with_reducible refine Sw.g_lst ?_ | with_reducible refine Sw.g_sl ?_ | with_reducible refine Sw.g_part ?_ | with_reducible refine Sw.g_nopart ?_
  | with_reducible refine Sw.g_U ?_ | with_reducible refine Sw.g_eq rfl ?_ | with_reducible refine Sw.g_ne rfl ?_ | with_reducible refine Sw.g_int ?_ | with_reducible refine Sw.g_yes ?_ | with_reducible refine L2.iteT ?_ | with_reducible refine L2.iteF ?_ | with_reducible refine Sw.iteNT ?_ | with_reducible refine Sw.iteNF ?_ | with_reducible refine Sw.g_m1 ?_ | with_reducible refine Sw.g_bm ?_ | with_reducible refine ⟨Sw.ty_lst (by assumption), ?_⟩ | with_reducible refine Sw.g_sput ?_ | with_reducible refine Sw.g_put ?_ | with_reducible refine Sw.g_dget2 ?_ | with_reducible refine Sw.g_dget ?_ | with_reducible refine Sw.g_dK ?_ | with_reducible refine Sw.g_dT ?_ | with_reducible refine Sw.g_dnotin ?_ | with_reducible refine Sw.g_din ?_ | with_reducible refine Sw.g_bm0 ?_
  | with_reducible refine Sw.g_ixL (by assumption) rfl ?_ | with_reducible refine Sw.g_ixT (by assumption) rfl ?_)
local macro_rules | `(tactic| walk_at "go") => `(tactic| repeat walk_at "go1")
local macro_rules | `(tactic| walk_at "bd") => `(tactic| repeat (first | with_reducible exact Sw.all_nil | refine Sw.all_cons ⟨_, rfl, by omega, by omega⟩ ?_))
local macro_rules | `(tactic| walk_at "new") => `(tactic| (refine ⟨Nat.le_of_ble_eq_true rfl, fun p np => ?_⟩; generalize hX : L2.upd _ p _ = H'; have sm : L2.Same _ H' := hX ▸ Sw.same_upd np; have hp : H' p = some _ := hX ▸ L2.upd_same; clear hX))
namespace Sw
open PySem PySem.Spec PyProof.Rows L2 SX
/-! ### signs, words, wheels -/
def lowB (c : Nat) : Bool := decide (97 ≤ c) && decide (c ≤ 122)
theorem lowB_iff {c : Nat} : lowB c = true ↔ 97 ≤ c ∧ c ≤ 122 := by unfold lowB; simp
theorem mem_abc (c : Nat) : decide (c ∈ abc) = lowB c := by
  by_cases h : 97 ≤ c ∧ c ≤ 122
  · rw [lowB_iff.mpr h, decide_eq_true_eq]
    unfold abc
    simp only [List.mem_cons, List.not_mem_nil, or_false]
    omega
  · have h2 : lowB c = false := by
      cases e : lowB c with
      | false => rfl
      | true => exact absurd (lowB_iff.mp e) h
    rw [h2, decide_eq_false_iff_not]
    intro hm
    exact h (abc_low c hm)
def sgn (l : List Nat) : Bool := l.all lowB
def isWord (l : List Nat) : Bool := decide (l.length ≤ 80) && sgn l
def isWheel (l : List Nat) : Bool := isWord l && (decide (1 ≤ l.length) && decide (l.length ≤ 30))
theorem sgn_low {l : List Nat} : sgn l = true ↔ Low l := by
  unfold sgn Low
  rw [List.all_eq_true]
  exact forall_congr' fun c => forall_congr' fun _ => lowB_iff
theorem isWord_iff {l : List Nat} : isWord l = true ↔ l.length ≤ 80 ∧ Low l := by
  unfold isWord
  rw [Bool.and_eq_true, decide_eq_true_eq, sgn_low]
theorem isWheel_iff {l : List Nat} : isWheel l = true ↔ 1 ≤ l.length ∧ l.length ≤ 30 ∧ Low l := by
  unfold isWheel
  rw [Bool.and_eq_true, Bool.and_eq_true, decide_eq_true_eq, decide_eq_true_eq, isWord_iff]
  constructor
  · rintro ⟨⟨_, h⟩, h1, h2⟩; exact ⟨h1, h2, h⟩
  · rintro ⟨h1, h2, h⟩; exact ⟨⟨by omega, h⟩, h1, h2⟩
def sp_are_signs (K : PySem.W.Frag) : Sp := fun vs H Q _ => ∃ l : List Nat, vs = [.str (S l)] ∧ Q (.bl (sgn l)) H
theorem ln_are_signs {K : PySem.W.Frag} {vs : List V} {H : Hp} {Q : VK} {E : XK} (h : sp_are_signs K vs H Q E) : vs.length = 1 := by
  obtain ⟨_, rfl, _⟩ := h
  rfl
def t_are_signs (K : PySem.W.Frag) : TS :=
  (tSeq (tFor (iStr (tVar 0)) (gName 1)
  (tIfS (tTest (tOp rNotInSign (tVar 1) (tC (.str "abcdefghijklmnopqrstuvwxyz")))) (tRet (tC (.bl false))) tNext))
  (tRet (tC (.bl true))))

theorem all_take {p : Nat → Bool} {l : List Nat} {i c : Nat} (h : l[i]? = some c) : (l.take (i + 1)).all p = ((l.take i).all p && p c) := by
  rw [List.take_add_one, h, List.all_append]
  simp
theorem rd_are_signs {K : PySem.W.Frag} {vs : List V} {H : Hp} {Q : VK} {E : XK} (h : sp_are_signs K vs H Q E) : t_are_signs K { nx := fun _ H' => Q .non H', rt := Q } (start ["text", "sign"] vs) H := by
  obtain ⟨l, rfl, q⟩ := h
  show t_are_signs K _ [some (.str (S l)), none] H
  unfold t_are_signs
  refine g_seq (forS (l := l) (fun Q h => ?_) (fun i σ' H' => H' = H ∧ (l.take i).all lowB = true ∧ ∃ v, σ' = [some (.str (S l)), v]) ⟨rfl, rfl, _, rfl⟩ (fun i c σ' H' hc hp => ?_) (fun σ' H' hp => ?_))
  · walk_at "go"
    exact h
  · obtain ⟨rfl, ha, v, rfl⟩ := hp
    walk_at "go"
    rw [show (V.str "abcdefghijklmnopqrstuvwxyz") = V.str (S abc) from congrArg V.str abc_S]
    refine ⟨c, S abc, rfl, rfl, ?_⟩
    walk_at "go"
    rw [show (S abc).cps.toList = abc from rfl, mem_abc]
    refine ite_b (fun hb => ?_) (fun hb => ?_)
    · walk_at "go"
      have e : sgn l = false := by
        unfold sgn
        rw [List.all_eq_false]
        refine ⟨c, List.mem_of_getElem? hc, ?_⟩
        intro z
        rw [z] at hb
        cases hb
      rw [e] at q
      exact q
    · walk_at "go"
      refine ⟨rfl, ?_, _, rfl⟩
      rw [all_take hc, ha]
      simpa using hb
  · obtain ⟨rfl, ha, v, rfl⟩ := hp
    walk_at "go"
    rw [List.take_length] at ha
    have e : sgn l = true := ha
    rw [e] at q
    exact q
/-- what is_word tells of a thing -/
inductive WordIs (K : PySem.W.Frag) (H : Hp) : V → Bool → Prop where
  | txt (l : List Nat) (hl : l.length ≤ 100000) : WordIs K H (.str (S l)) (isWord l)
  | no {v : V} {t : String} (ht : TyX K H v (.type t)) (hn : kitB t "str" = some false) : WordIs K H v false
inductive WheelIs (K : PySem.W.Frag) (H : Hp) : V → Bool → Prop where
  | txt (l : List Nat) (hl : l.length ≤ 100000) : WheelIs K H (.str (S l)) (isWheel l)
  | no {v : V} {t : String} (ht : TyX K H v (.type t)) (hn : kitB t "str" = some false) : WheelIs K H v false
def sp_is_word (K : PySem.W.Frag) : Sp := fun vs H Q _ => ∃ (v : V) (b : Bool), vs = [v] ∧ WordIs K H v b ∧ Q (.bl b) H
theorem ln_is_word {K : PySem.W.Frag} {vs : List V} {H : Hp} {Q : VK} {E : XK} (h : sp_is_word K vs H Q E) : vs.length = 1 := by
  obtain ⟨_, _, rfl, _⟩ := h
  rfl
def t_is_word (K : PySem.W.Frag) : TS :=
  (tRet (tAndV (tCB (rIsi K) (tCons (tVar 0) (tCons (tC (.ty "str")) tNil))) (tAndV (tOp rLe (tCB rLenStr (tCons (tVar 0) tNil)) (tC (.int 80))) (tCall (sp_are_signs K) [] E0 (tCons (tVar 0) tNil)))))

theorem g_isStr {K : PySem.W.Frag} {l : Str} {H : Hp} {Q : VK} (q : Q (.bl true) H) : rIsi K [.str l, .ty "str"] H Q := ⟨.str l, .ty "str", .type "str", .type "str", true, rfl, .ty "str", .base (.str l), kit_ty (by decide +kernel), q⟩
theorem g_isNo {K : PySem.W.Frag} {v : V} {t : String} {H : Hp} {Q : VK} (ht : TyX K H v (.type t)) (hn : kitB t "str" = some false) (q : Q (.bl false) H) : rIsi K [v, .ty "str"] H Q := ⟨v, .ty "str", .type t, .type "str", false, rfl, .ty "str", ht, kit_ty hn, q⟩
theorem g_lenS {l : List Nat} {H : Hp} {Q : VK} (h : l.length ≤ 100000) (q : Q (.int (l.length : Int)) H) : rLenStr [.str (S l)] H Q := ⟨S l, rfl, by rw [S_len]; exact Nat.le_trans h (by decide), by rw [S_len]; exact q⟩
theorem rd_is_word {K : PySem.W.Frag} {vs : List V} {H : Hp} {Q : VK} {E : XK} (h : sp_is_word K vs H Q E) : t_is_word K { nx := fun _ H' => Q .non H', rt := Q } (start ["thing"] vs) H := by
  obtain ⟨v, b, rfl, hv, q⟩ := h
  show t_is_word K _ [some v] H
  unfold t_is_word
  walk_at "go"
  cases hv with
  | no ht hn =>
    refine g_isNo ht hn ?_
    walk_at "go"
    exact q
  | txt l hl =>
    refine g_isStr ?_
    walk_at "go"
    refine g_lenS hl ?_
    walk_at "go"
    have e : isWord l = (decide ((l.length : Int) ≤ 80) && sgn l) := by
      unfold isWord
      congr 1
      rw [decide_eq_decide]
      omega
    rw [e] at q
    refine ite_b (fun hb => ?_) (fun hb => ?_)
    · walk_at "go"
      rw [hb] at q
      exact ⟨l, rfl, q⟩
    · walk_at "go"
      rw [hb] at q
      exact q
def sp_is_wheel (K : PySem.W.Frag) : Sp := fun vs H Q _ => ∃ (v : V) (b : Bool), vs = [v] ∧ WheelIs K H v b ∧ Q (.bl b) H
theorem ln_is_wheel {K : PySem.W.Frag} {vs : List V} {H : Hp} {Q : VK} {E : XK} (h : sp_is_wheel K vs H Q E) : vs.length = 1 := by
  obtain ⟨_, _, rfl, _⟩ := h
  rfl
def t_is_wheel (K : PySem.W.Frag) : TS :=
  (tRet (tAndV (tCall (sp_is_word K) [] E0 (tCons (tVar 0) tNil)) (tChain rLe rLe (tC (.int 1)) (tCB rLenStr (tCons (tVar 0) tNil)) (tC (.int 30)))))

theorem rd_is_wheel {K : PySem.W.Frag} {vs : List V} {H : Hp} {Q : VK} {E : XK} (h : sp_is_wheel K vs H Q E) : t_is_wheel K { nx := fun _ H' => Q .non H', rt := Q } (start ["thing"] vs) H := by
  obtain ⟨v, b, rfl, hv, q⟩ := h
  show t_is_wheel K _ [some v] H
  unfold t_is_wheel
  walk_at "go"
  cases hv with
  | no ht hn =>
    refine ⟨v, _, rfl, .no ht hn, ?_⟩
    walk_at "go"
    exact q
  | txt l hl =>
    refine ⟨_, _, rfl, .txt l hl, ?_⟩
    walk_at "go"
    have e : isWheel l = (isWord l && (decide ((1 : Int) ≤ l.length) && decide ((l.length : Int) ≤ 30))) := by
      unfold isWheel
      congr 1
      congr 1
      · rw [decide_eq_decide]; omega
      · rw [decide_eq_decide]; omega
    rw [e] at q
    refine ite_b (fun hb => ?_) (fun hb => ?_)
    · rw [hb] at q
      walk_at "go"
      refine g_lenS hl ?_
      walk_at "go"
      refine ite_b (fun hc => ?_) (fun hc => ?_)
      · walk_at "go"
        rw [hc] at q
        exact q
      · rw [hc] at q
        exact q
    · rw [hb] at q
      walk_at "go"
      exact q
def spx_look_at_wheel (K : PySem.W.Frag) (c : Cl) : Sp := fun vs H Q E => ∃ l : List Nat, vs = [.str (S l)] ∧ l.length ≤ 100000 ∧ (isWheel l = true → Q .non H) ∧ (isWheel l = false → E (.ref c.NoWheel) none H)
theorem lnx_look_at_wheel {K : PySem.W.Frag} {c : Cl} {vs : List V} {H : Hp} {Q : VK} {E : XK} (h : spx_look_at_wheel K c vs H Q E) : vs.length = 1 := by
  obtain ⟨_, rfl, _⟩ := h
  rfl
def tx_look_at_wheel (K : PySem.W.Frag) (c : Cl) (E : XK) : TS :=
  (tIfS (tNot (tB (tCall (sp_is_wheel K) [] E0 (tCons (tVar 0) tNil)))) (tRaise E c.NoWheel) tNext)

theorem wheel_len {l : List Nat} (h : isWheel l = true) : l.length ≤ 100000 := by
  have := isWheel_iff.mp h
  omega
theorem rdx_look_at_wheel {K : PySem.W.Frag} {c : Cl} {vs : List V} {H : Hp} {Q : VK} {E : XK} (h : spx_look_at_wheel K c vs H Q E) : tx_look_at_wheel K c E { nx := fun _ H' => Q .non H', rt := Q } (start ["wheel"] vs) H := by
  obtain ⟨l, rfl, hl, q1, q2⟩ := h
  show tx_look_at_wheel K c E _ [some (.str (S l))] H
  unfold tx_look_at_wheel
  walk_at "go"
  refine ⟨_, _, rfl, .txt l hl, ?_⟩
  walk_at "go"
  cases hw : isWheel l with
  | true => exact iteF (q1 hw)
  | false => exact iteT (q2 hw)
/-! ### turned, in the glass -/
theorem cut_from {a : List Nat} {i : Int} (h : 0 ≤ i) : cutS (S a) (some i) none = S (a.drop i.toNat) := by
  obtain ⟨n, rfl⟩ : ∃ n : Nat, i = (n : Int) := ⟨i.toNat, by omega⟩
  unfold cutS
  rw [HT.sIx_nat, HT.sIx_none, S_len]
  show S ((a.drop (min n a.length)).take (a.length - min n a.length)) = S (a.drop n)
  refine congrArg S ?_
  by_cases hn : n ≤ a.length
  · rw [Nat.min_eq_left hn]
    exact List.take_of_length_le (by rw [List.length_drop]; omega)
  · rw [Nat.min_eq_right (by omega), List.drop_eq_nil_of_le (by omega), List.drop_eq_nil_of_le (by omega)]
    simp
theorem cut_to {a : List Nat} {i : Int} (h : 0 ≤ i) : cutS (S a) none (some i) = S (a.take i.toNat) := by
  obtain ⟨n, rfl⟩ : ∃ n : Nat, i = (n : Int) := ⟨i.toNat, by omega⟩
  unfold cutS
  rw [HT.sIx_nat, HT.sIx_none, S_len]
  show S ((a.drop 0).take (min n a.length - 0)) = S (a.take n)
  refine congrArg S ?_
  rw [List.drop_zero, Nat.sub_zero]
  by_cases hn : n ≤ a.length
  · rw [Nat.min_eq_left hn]
  · rw [Nat.min_eq_right (by omega), List.take_of_length_le (by omega), List.take_of_length_le (by omega)]
theorem g_from {a : List Nat} {i : Int} {H : Hp} {Q : VK} (h : 0 ≤ i) (hl : a.length ≤ 100000) (q : Q (.str (S (a.drop i.toNat))) H) : rSlS (.str (S a)) (some i) none H Q := ⟨S a, rfl, by rw [S_len]; exact Nat.le_trans hl (by decide), by rw [cut_from h]; exact q⟩
theorem g_to {a : List Nat} {i : Int} {H : Hp} {Q : VK} (h : 0 ≤ i) (hl : a.length ≤ 100000) (q : Q (.str (S (a.take i.toNat))) H) : rSlS (.str (S a)) none (some i) H Q := ⟨S a, rfl, by rw [S_len]; exact Nat.le_trans hl (by decide), by rw [cut_to h]; exact q⟩
theorem g_cat {a b : List Nat} {H : Hp} {Q : VK} (hl : a.length + b.length ≤ 1000000) (q : Q (.str (S (a ++ b))) H) : rAddS (.str (S a)) (.str (S b)) H Q := ⟨S a, S b, rfl, rfl, by rw [S_len, S_len]; exact Nat.le_trans hl (by decide), by rw [S_cat]; exact q⟩
def turnL (l : List Nat) (k : Int) : List Nat := l.drop (k % (l.length : Int)).toNat ++ l.take (k % (l.length : Int)).toNat
def glassL (l : List Nat) : List Nat := l.take 1 ++ (l.drop 1).reverse
/-! ### the mathematics of turning -/
theorem turn_len (l : List Nat) (k : Int) : (turnL l k).length = l.length := by
  unfold turnL
  rw [List.length_append, List.length_drop, List.length_take]
  omega
theorem glass_len (l : List Nat) : (glassL l).length = l.length := by
  unfold glassL
  rw [List.length_append, List.length_reverse, List.length_drop, List.length_take]
  omega
theorem turn_low {l : List Nat} {k : Int} (h : Low l) : Low (turnL l k) := fun c hc => by
  unfold turnL at hc
  rcases List.mem_append.mp hc with e | e
  · exact h c (List.mem_of_mem_drop e)
  · exact h c (List.mem_of_mem_take e)
theorem glass_low {l : List Nat} (h : Low l) : Low (glassL l) := fun c hc => by
  unfold glassL at hc
  rcases List.mem_append.mp hc with e | e
  · exact h c (List.mem_of_mem_take e)
  · exact h c (List.mem_of_mem_drop (List.mem_reverse.mp e))
theorem turn_wheel {l : List Nat} {k : Int} (h : isWheel l = true) : isWheel (turnL l k) = true := by
  obtain ⟨h1, h2, h3⟩ := isWheel_iff.mp h
  exact isWheel_iff.mpr ⟨by rw [turn_len]; exact h1, by rw [turn_len]; exact h2, turn_low h3⟩
theorem glass_wheel {l : List Nat} (h : isWheel l = true) : isWheel (glassL l) = true := by
  obtain ⟨h1, h2, h3⟩ := isWheel_iff.mp h
  exact isWheel_iff.mpr ⟨by rw [glass_len]; exact h1, by rw [glass_len]; exact h2, glass_low h3⟩
/-- the sign so far on -/
theorem turn_get {l : List Nat} {k : Int} {i : Nat} (hi : i < l.length) : (turnL l k)[i]? = l[(((i : Int) + k) % (l.length : Int)).toNat]? := by
  obtain ⟨k0, k1⟩ := emod_bd (z := k) (m := (l.length : Int)) (by omega)
  have e : ((i : Int) + k) % (l.length : Int) = ((i : Int) + k % (l.length : Int)) % (l.length : Int) := by rw [Int.add_emod_emod]
  unfold turnL
  generalize k % (l.length : Int) = a at k0 k1 e
  rw [e]
  by_cases h : i < l.length - a.toNat
  · rw [List.getElem?_append_left (by rw [List.length_drop]; exact h), List.getElem?_drop]
    rw [Int.emod_eq_of_lt (by omega) (by omega)]
    congr 1
    omega
  · rw [List.getElem?_append_right (by rw [List.length_drop]; omega), List.length_drop, List.getElem?_take_of_lt (by omega)]
    have e2 : ((i : Int) + a) % (l.length : Int) = (i : Int) + a - (l.length : Int) := by
      rw [← Int.sub_emod_right, Int.emod_eq_of_lt (by omega) (by omega)]
    rw [e2]
    congr 1
    omega
/-- the sign so far back -/
theorem glass_get {l : List Nat} {i : Nat} (hi : i < l.length) : (glassL l)[i]? = l[((0 - (i : Int)) % (l.length : Int)).toNat]? := by
  unfold glassL
  cases i with
  | zero =>
    rw [List.getElem?_append_left (by rw [List.length_take]; omega), List.getElem?_take_of_lt (by omega)]
    simp
  | succ j =>
    rw [List.getElem?_append_right (by rw [List.length_take]; omega), List.length_take, List.getElem?_reverse (by rw [List.length_drop]; omega), List.length_drop, List.getElem?_drop]
    have e2 : (0 - ((j + 1 : Nat) : Int)) % (l.length : Int) = (l.length : Int) - ((j : Int) + 1) := by
      rw [← Int.add_emod_right, Int.emod_eq_of_lt (by omega) (by omega)]
      omega
    rw [e2]
    congr 1
    omega
theorem ext_len {a b : List Nat} (hl : a.length = b.length) (h : ∀ i, i < a.length → a[i]? = b[i]?) : a = b := by
  apply List.ext_getElem?
  intro i
  by_cases hi : i < a.length
  · exact h i hi
  · rw [List.getElem?_eq_none (by omega), List.getElem?_eq_none (by omega)]
theorem emod_toNat {z : Int} {n : Nat} (h : 0 < n) : (z % (n : Int)).toNat < n ∧ (((z % (n : Int)).toNat : Nat) : Int) = z % (n : Int) := by
  obtain ⟨k0, k1⟩ := emod_bd (z := z) (m := (n : Int)) (by omega)
  omega
theorem turn_turn (l : List Nat) (j k : Int) (h : 0 < l.length) : turnL (turnL l j) k = turnL l (j + k) := by
  refine ext_len (by rw [turn_len, turn_len, turn_len]) fun i hi => ?_
  rw [turn_len, turn_len] at hi
  rw [turn_get (by rw [turn_len]; exact hi), turn_len]
  obtain ⟨a, b⟩ := emod_toNat (z := (i : Int) + k) h
  rw [turn_get a, turn_get hi, b]
  congr 2
  rw [Int.emod_add_emod]
  congr 1
  omega
theorem glass_glass (l : List Nat) (h : 0 < l.length) : glassL (glassL l) = l := by
  refine ext_len (by rw [glass_len, glass_len]) fun i hi => ?_
  rw [glass_len, glass_len] at hi
  rw [glass_get (by rw [glass_len]; exact hi), glass_len]
  obtain ⟨a, b⟩ := emod_toNat (z := 0 - (i : Int)) h
  rw [glass_get a, b]
  congr 1
  have : (0 - (0 - (i : Int)) % (l.length : Int)) % (l.length : Int) = (i : Int) := by
    rw [Int.sub_emod_emod, Int.emod_eq_of_lt (by omega) (by omega)]
    omega
  rw [this]
  omega
theorem glass_turn (l : List Nat) (k : Int) (h : 0 < l.length) : glassL (turnL l k) = turnL (glassL l) (0 - k) := by
  refine ext_len (by rw [glass_len, turn_len, turn_len, glass_len]) fun i hi => ?_
  rw [glass_len, turn_len] at hi
  rw [glass_get (by rw [turn_len]; exact hi), turn_len]
  obtain ⟨a, b⟩ := emod_toNat (z := 0 - (i : Int)) h
  rw [turn_get a, b, turn_get (by rw [glass_len]; exact hi), glass_len]
  obtain ⟨c, e⟩ := emod_toNat (z := (i : Int) + (0 - k)) h
  rw [glass_get c, e]
  congr 2
  rw [Int.sub_emod_emod, Int.emod_add_emod]
  congr 1
  omega
end Sw
local macro_rules | `(tactic| walk_at "go1") => `(tactic| first
  | with_reducible refine Sw.g_seqasg ?_ | with_reducible refine Sw.g_op ?_ | with_reducible refine Sw.g_var rfl ?_ | with_reducible refine Sw.g_c ?_ | with_reducible refine Sw.g_I0 ?_
  | with_reducible refine Sw.g_cons ?_ | with_reducible refine Sw.g_nil ?_ | with_reducible refine Sw.g_call ?_ | with_reducible refine Sw.g_cb ?_ | with_reducible refine Sw.g_test ?_ | with_reducible refine Sw.g_bl ?_
  | with_reducible refine Sw.g_seqdrop ?_ | with_reducible refine Sw.g_seqsub ?_ | with_reducible refine Sw.g_asg ?_ | with_reducible refine Sw.g_asgsub ?_ | with_reducible refine Sw.g_ret ?_ | with_reducible refine Sw.g_drop ?_ | with_reducible refine Sw.g_if ?_ | with_reducible refine Sw.g_next ?_ | with_reducible refine Sw.g_name ?_
  | with_reducible refine Sw.g_B ?_ | with_reducible refine Sw.g_not ?_ | with_reducible refine Sw.g_and ?_ | with_reducible refine Sw.g_or ?_ | with_reducible refine Sw.g_andV ?_ | with_reducible refine Sw.g_orV ?_ | with_reducible refine Sw.g_notV ?_
  | with_reducible refine Sw.g_ifE ?_ | with_reducible refine Sw.g_chain ?_ | with_reducible refine Sw.g_un ?_ | with_reducible refine Sw.g_tup ?_ | with_reducible refine Sw.g_lst ?_ | with_reducible refine Sw.g_sl ?_ | with_reducible refine Sw.g_part ?_ | with_reducible refine Sw.g_nopart ?_
  | with_reducible refine Sw.g_U ?_ | with_reducible refine Sw.g_eq rfl ?_ | with_reducible refine Sw.g_ne rfl ?_ | with_reducible refine Sw.g_int ?_ | with_reducible refine Sw.g_yes ?_ | with_reducible refine L2.iteT ?_ | with_reducible refine L2.iteF ?_ | with_reducible refine Sw.iteNT ?_ | with_reducible refine Sw.iteNF ?_ | with_reducible refine Sw.g_m1 ?_ | with_reducible refine Sw.g_bm ?_ | with_reducible refine ⟨Sw.ty_lst (by assumption), ?_⟩ | with_reducible refine Sw.g_sput ?_ | with_reducible refine Sw.g_put ?_ | with_reducible refine Sw.g_dget2 ?_ | with_reducible refine Sw.g_dget ?_ | with_reducible refine Sw.g_dK ?_ | with_reducible refine Sw.g_dT ?_ | with_reducible refine Sw.g_dnotin ?_ | with_reducible refine Sw.g_din ?_ | with_reducible refine Sw.g_bm0 ?_
  | with_reducible refine Sw.g_ixL (by assumption) rfl ?_ | with_reducible refine Sw.g_ixT (by assumption) rfl ?_)
local macro_rules | `(tactic| walk_at "go") => `(tactic| repeat walk_at "go1")
local macro_rules | `(tactic| walk_at "bd") => `(tactic| repeat (first | with_reducible exact Sw.all_nil | refine Sw.all_cons ⟨_, rfl, by omega, by omega⟩ ?_))
local macro_rules | `(tactic| walk_at "new") => `(tactic| (refine ⟨Nat.le_of_ble_eq_true rfl, fun p np => ?_⟩; generalize hX : L2.upd _ p _ = H'; have sm : L2.Same _ H' := hX ▸ Sw.same_upd np; have hp : H' p = some _ := hX ▸ L2.upd_same; clear hX))
namespace Sw
open PySem PySem.Spec PyProof.Rows L2 SX
/-! ### texts of plain signs -/
def Asc (l : List Nat) : Prop := ∀ c ∈ l, c < 128
theorem asc_nil : Asc [] := fun _ h => nomatch h
theorem asc_app {a b : List Nat} (h1 : Asc a) (h2 : Asc b) : Asc (a ++ b) := fun c hc => by
  rcases List.mem_append.mp hc with e | e
  · exact h1 c e
  · exact h2 c e
theorem asc_take {a : List Nat} {n : Nat} (h : Asc a) : Asc (a.take n) := fun c hc => h c (List.mem_of_mem_take hc)
theorem asc_drop {a : List Nat} {n : Nat} (h : Asc a) : Asc (a.drop n) := fun c hc => h c (List.mem_of_mem_drop hc)
theorem asc_low {a : List Nat} (h : Low a) : Asc a := fun c hc => by have := h c hc; omega
theorem asc_one {c : Nat} (h : c < 128) : Asc [c] := fun x hx => by rw [List.mem_singleton.mp hx]; exact h
theorem strOk_S {l : List Nat} (h : Asc l) : PyData.strOk (S l) = true := by
  unfold PyData.strOk
  rw [Array.all_eq_true]
  intro i hi
  have : l[i]'(by simpa using hi) < 128 := h _ (List.getElem_mem _)
  simp
  omega
theorem ok_asc {n : Nat} {l : List Nat} (h : Asc l) : Ok n (.str (S l)) := ok_str (strOk_S h)
theorem str_S (x : Str) : x = S x.cps.toList := (S_tl x).symm
theorem cut_any (a : List Nat) (lo hi : Option Int) : ∃ b, cutS (S a) lo hi = S b ∧ b.length ≤ a.length ∧ ∀ c ∈ b, c ∈ a := by
  refine ⟨_, rfl, ?_, fun c hc => List.mem_of_mem_drop (List.mem_of_mem_take hc)⟩
  rw [List.length_take, List.length_drop]
  show min _ (a.length - _) ≤ _
  omega
theorem g_cut {a : List Nat} {lo hi : Option Int} {H : Hp} {Q : VK} (hl : a.length ≤ 100000) (q : ∀ b, b.length ≤ a.length → (∀ c ∈ b, c ∈ a) → Q (.str (S b)) H) : rSlS (.str (S a)) lo hi H Q := by
  obtain ⟨b, e, h1, h2⟩ := cut_any a lo hi
  exact ⟨S a, rfl, by rw [S_len]; exact Nat.le_trans hl (by decide), by rw [e]; exact q b h1 h2⟩
def IsTxt (n : Nat) (v : V) : Prop := ∃ l : List Nat, v = .str (S l) ∧ l.length ≤ n ∧ Asc l
theorem g_isBool {K : PySem.W.Frag} {b : Bool} {H : Hp} {Q : VK} (q : Q (.bl true) H) : rIsi K [.bl b, .ty "bool"] H Q := ⟨.bl b, .ty "bool", .type "bool", .type "bool", true, rfl, .ty "bool", .base (.bl b), kit_ty (by decide +kernel), q⟩
end Sw
local macro_rules | `(tactic| walk_at "go1") => `(tactic| first
  | with_reducible refine Sw.g_seqasg ?_ | with_reducible refine Sw.g_op ?_ | with_reducible refine Sw.g_var rfl ?_ | with_reducible refine Sw.g_c ?_ | with_reducible refine Sw.g_I0 ?_
  | with_reducible refine Sw.g_cons ?_ | with_reducible refine Sw.g_nil ?_ | with_reducible refine Sw.g_call ?_ | with_reducible refine Sw.g_cb ?_ | with_reducible refine Sw.g_test ?_ | with_reducible refine Sw.g_bl ?_
  | with_reducible refine Sw.g_seqdrop ?_ | with_reducible refine Sw.g_seqsub ?_ | with_reducible refine Sw.g_asg ?_ | with_reducible refine Sw.g_asgsub ?_ | with_reducible refine Sw.g_ret ?_ | with_reducible refine Sw.g_drop ?_ | with_reducible refine Sw.g_if ?_ | with_reducible refine Sw.g_next ?_ | with_reducible refine Sw.g_name ?_
  | with_reducible refine Sw.g_B ?_ | with_reducible refine Sw.g_not ?_ | with_reducible refine Sw.g_and ?_ | with_reducible refine Sw.g_or ?_ | with_reducible refine Sw.g_andV ?_ | with_reducible refine Sw.g_orV ?_ | with_reducible refine Sw.g_notV ?_
  | with_reducible refine Sw.g_ifE ?_ | with_reducible refine Sw.g_chain ?_ | with_reducible refine Sw.g_un ?_ | with_reducible refine Sw.g_tup ?_ | with_reducible refine Sw.g_lst ?_ | with_reducible refine Sw.g_sl ?_ | with_reducible refine Sw.g_part ?_ | with_reducible refine Sw.g_nopart ?_
  | with_reducible refine Sw.g_U ?_ | with_reducible refine Sw.g_eq rfl ?_ | with_reducible refine Sw.g_ne rfl ?_ | with_reducible refine Sw.g_int ?_ | with_reducible refine Sw.g_yes ?_ | with_reducible refine L2.iteT ?_ | with_reducible refine L2.iteF ?_ | with_reducible refine Sw.iteNT ?_ | with_reducible refine Sw.iteNF ?_ | with_reducible refine Sw.g_m1 ?_ | with_reducible refine Sw.g_bm ?_ | with_reducible refine ⟨Sw.ty_lst (by assumption), ?_⟩ | with_reducible refine Sw.g_sput ?_ | with_reducible refine Sw.g_put ?_ | with_reducible refine Sw.g_dget2 ?_ | with_reducible refine Sw.g_dget ?_ | with_reducible refine Sw.g_dK ?_ | with_reducible refine Sw.g_dT ?_ | with_reducible refine Sw.g_dnotin ?_ | with_reducible refine Sw.g_din ?_ | with_reducible refine Sw.g_bm0 ?_
  | with_reducible refine Sw.g_ixL (by assumption) rfl ?_ | with_reducible refine Sw.g_ixT (by assumption) rfl ?_)
local macro_rules | `(tactic| walk_at "go") => `(tactic| repeat walk_at "go1")
local macro_rules | `(tactic| walk_at "bd") => `(tactic| repeat (first | with_reducible exact Sw.all_nil | refine Sw.all_cons ⟨_, rfl, by omega, by omega⟩ ?_))
local macro_rules | `(tactic| walk_at "new") => `(tactic| (refine ⟨Nat.le_of_ble_eq_true rfl, fun p np => ?_⟩; generalize hX : L2.upd _ p _ = H'; have sm : L2.Same _ H' := hX ▸ Sw.same_upd np; have hp : H' p = some _ := hX ▸ L2.upd_same; clear hX))
namespace Sw
open PySem PySem.Spec PyProof.Rows L2 SX
/-! ### what turns strike -/
def posL (n : Int) : Int → List Int → Int
  | p, [] => p
  | p, t :: r => posL n ((p + t) % n) r
def walkL (w : List Nat) : Int → List Int → List Nat
  | _, [] => []
  | p, t :: r => w.getD ((p + t) % (w.length : Int)).toNat 0 :: walkL w ((p + t) % (w.length : Int)) r
theorem posL_app (n : Int) : ∀ (p : Int) (a b : List Int), posL n p (a ++ b) = posL n (posL n p a) b
  | _, [], _ => rfl
  | p, t :: a, b => posL_app n ((p + t) % n) a b
theorem walkL_app (w : List Nat) : ∀ (p : Int) (a b : List Int), walkL w p (a ++ b) = walkL w p a ++ walkL w (posL w.length p a) b
  | _, [], _ => rfl
  | p, t :: a, b => congrArg (_ :: ·) (walkL_app w ((p + t) % (w.length : Int)) a b)
theorem walkL_len (w : List Nat) : ∀ (p : Int) (a : List Int), (walkL w p a).length = a.length
  | _, [] => rfl
  | p, _ :: a => congrArg (· + 1) (walkL_len w _ a)
theorem posL_bd {n : Int} (h : 0 < n) : ∀ (p : Int) (a : List Int), 0 ≤ p → p < n → 0 ≤ posL n p a ∧ posL n p a < n
  | _, [], h0, h1 => ⟨h0, h1⟩
  | p, t :: a, _, _ => posL_bd h ((p + t) % n) a (emod_bd h).1 (emod_bd h).2
theorem posL_snoc (n p : Int) (a : List Int) (t : Int) : posL n p (a ++ [t]) = (posL n p a + t) % n := by rw [posL_app]; rfl
theorem walkL_snoc (w : List Nat) (p : Int) (a : List Int) (t : Int) : walkL w p (a ++ [t]) = walkL w p a ++ [w.getD (posL w.length p (a ++ [t])).toNat 0] := by rw [walkL_app, posL_snoc]; rfl
theorem getD_at {w : List Nat} {z : Int} (h0 : 0 ≤ z) (h1 : z < (w.length : Int)) : atI w z = some (w.getD z.toNat 0) := by
  obtain ⟨v, e, _, e2⟩ := atI_of h0 h1
  rw [e, List.getD, e2]
  rfl
theorem walkL_low {w : List Nat} (hw : Low w) (hn : 0 < w.length) : ∀ (p : Int) (a : List Int), Low (walkL w p a)
  | _, [] => low_nil
  | p, t :: a => fun c hc => by
    rcases List.mem_cons.mp hc with e | e
    · obtain ⟨b0, b1⟩ := emod_bd (z := p + t) (m := (w.length : Int)) (by omega)
      rw [e, List.getD, List.getElem?_eq_getElem (by omega)]
      exact hw _ (List.getElem_mem _)
    · exact walkL_low hw hn _ a c e
end Sw
local macro_rules | `(tactic| walk_at "go1") => `(tactic| first
  | with_reducible refine Sw.g_seqasg ?_ | with_reducible refine Sw.g_op ?_ | with_reducible refine Sw.g_var rfl ?_ | with_reducible refine Sw.g_c ?_ | with_reducible refine Sw.g_I0 ?_
  | with_reducible refine Sw.g_cons ?_ | with_reducible refine Sw.g_nil ?_ | with_reducible refine Sw.g_call ?_ | with_reducible refine Sw.g_cb ?_ | with_reducible refine Sw.g_test ?_ | with_reducible refine Sw.g_bl ?_
  | with_reducible refine Sw.g_seqdrop ?_ | with_reducible refine Sw.g_seqsub ?_ | with_reducible refine Sw.g_asg ?_ | with_reducible refine Sw.g_asgsub ?_ | with_reducible refine Sw.g_ret ?_ | with_reducible refine Sw.g_drop ?_ | with_reducible refine Sw.g_if ?_ | with_reducible refine Sw.g_next ?_ | with_reducible refine Sw.g_name ?_
  | with_reducible refine Sw.g_B ?_ | with_reducible refine Sw.g_not ?_ | with_reducible refine Sw.g_and ?_ | with_reducible refine Sw.g_or ?_ | with_reducible refine Sw.g_andV ?_ | with_reducible refine Sw.g_orV ?_ | with_reducible refine Sw.g_notV ?_
  | with_reducible refine Sw.g_ifE ?_ | with_reducible refine Sw.g_chain ?_ | with_reducible refine Sw.g_un ?_ | with_reducible refine Sw.g_tup ?_ | with_reducible refine Sw.g_lst ?_ | with_reducible refine Sw.g_sl ?_ | with_reducible refine Sw.g_part ?_ | with_reducible refine Sw.g_nopart ?_
  | with_reducible refine Sw.g_U ?_ | with_reducible refine Sw.g_eq rfl ?_ | with_reducible refine Sw.g_ne rfl ?_ | with_reducible refine Sw.g_int ?_ | with_reducible refine Sw.g_yes ?_ | with_reducible refine L2.iteT ?_ | with_reducible refine L2.iteF ?_ | with_reducible refine Sw.iteNT ?_ | with_reducible refine Sw.iteNF ?_ | with_reducible refine Sw.g_m1 ?_ | with_reducible refine Sw.g_bm ?_ | with_reducible refine ⟨Sw.ty_lst (by assumption), ?_⟩ | with_reducible refine Sw.g_sput ?_ | with_reducible refine Sw.g_put ?_ | with_reducible refine Sw.g_dget2 ?_ | with_reducible refine Sw.g_dget ?_ | with_reducible refine Sw.g_dK ?_ | with_reducible refine Sw.g_dT ?_ | with_reducible refine Sw.g_dnotin ?_ | with_reducible refine Sw.g_din ?_ | with_reducible refine Sw.g_bm0 ?_
  | with_reducible refine Sw.g_ixL (by assumption) rfl ?_ | with_reducible refine Sw.g_ixT (by assumption) rfl ?_)
local macro_rules | `(tactic| walk_at "go") => `(tactic| repeat walk_at "go1")
local macro_rules | `(tactic| walk_at "bd") => `(tactic| repeat (first | with_reducible exact Sw.all_nil | refine Sw.all_cons ⟨_, rfl, by omega, by omega⟩ ?_))
local macro_rules | `(tactic| walk_at "new") => `(tactic| (refine ⟨Nat.le_of_ble_eq_true rfl, fun p np => ?_⟩; generalize hX : L2.upd _ p _ = H'; have sm : L2.Same _ H' := hX ▸ Sw.same_upd np; have hp : H' p = some _ := hX ▸ L2.upd_same; clear hX))
namespace Sw
open PySem PySem.Spec PyProof.Rows L2 SX
/-! ### words looked at, plans -/
def spx_look_at_word (K : PySem.W.Frag) (c : Cl) : Sp := fun vs H Q E => ∃ l : List Nat, vs = [.str (S l)] ∧ l.length ≤ 100000 ∧ (isWord l = true → Q .non H) ∧ (isWord l = false → E (.ref c.NoWord) none H)
theorem lnx_look_at_word {K : PySem.W.Frag} {c : Cl} {vs : List V} {H : Hp} {Q : VK} {E : XK} (h : spx_look_at_word K c vs H Q E) : vs.length = 1 := by
  obtain ⟨_, rfl, _⟩ := h
  rfl
def tx_look_at_word (K : PySem.W.Frag) (c : Cl) (E : XK) : TS :=
  (tIfS (tNot (tB (tCall (sp_is_word K) [] E0 (tCons (tVar 0) tNil)))) (tRaise E c.NoWord) tNext)

theorem rdx_look_at_word {K : PySem.W.Frag} {c : Cl} {vs : List V} {H : Hp} {Q : VK} {E : XK} (h : spx_look_at_word K c vs H Q E) : tx_look_at_word K c E { nx := fun _ H' => Q .non H', rt := Q } (start ["word"] vs) H := by
  obtain ⟨l, rfl, hl, q1, q2⟩ := h
  show tx_look_at_word K c E _ [some (.str (S l))] H
  unfold tx_look_at_word
  walk_at "go"
  refine ⟨_, _, rfl, .txt l hl, ?_⟩
  walk_at "go"
  cases hw : isWord l with
  | true => exact iteF (q1 hw)
  | false => exact iteT (q2 hw)
def absI' (i : Int) : Int := if i < 0 then -i else i
def small (n : Int) (ts : List Int) : Bool := ts.all fun t => decide (absI' t < n)
def isPlan (w word : List Nat) (ts : List Int) : Bool := decide (ts.length = word.length) && (small w.length ts && decide (walkL w 0 ts = word))
theorem isPlan_eq (w word : List Nat) (ts : List Int) : isPlan w word ts = (decide (word = walkL w 0 ts) && small w.length ts) := by
  unfold isPlan
  by_cases e : word = walkL w 0 ts
  · have : ts.length = word.length := by rw [e, walkL_len]
    simp [this, e]
  · have e' : ¬ walkL w 0 ts = word := fun z => e z.symm
    simp [e, e']
end Sw
local macro_rules | `(tactic| walk_at "go1") => `(tactic| first
  | with_reducible refine Sw.g_seqasg ?_ | with_reducible refine Sw.g_op ?_ | with_reducible refine Sw.g_var rfl ?_ | with_reducible refine Sw.g_c ?_ | with_reducible refine Sw.g_I0 ?_
  | with_reducible refine Sw.g_cons ?_ | with_reducible refine Sw.g_nil ?_ | with_reducible refine Sw.g_call ?_ | with_reducible refine Sw.g_cb ?_ | with_reducible refine Sw.g_test ?_ | with_reducible refine Sw.g_bl ?_
  | with_reducible refine Sw.g_seqdrop ?_ | with_reducible refine Sw.g_seqsub ?_ | with_reducible refine Sw.g_asg ?_ | with_reducible refine Sw.g_asgsub ?_ | with_reducible refine Sw.g_ret ?_ | with_reducible refine Sw.g_drop ?_ | with_reducible refine Sw.g_if ?_ | with_reducible refine Sw.g_next ?_ | with_reducible refine Sw.g_name ?_
  | with_reducible refine Sw.g_B ?_ | with_reducible refine Sw.g_not ?_ | with_reducible refine Sw.g_and ?_ | with_reducible refine Sw.g_or ?_ | with_reducible refine Sw.g_andV ?_ | with_reducible refine Sw.g_orV ?_ | with_reducible refine Sw.g_notV ?_
  | with_reducible refine Sw.g_ifE ?_ | with_reducible refine Sw.g_chain ?_ | with_reducible refine Sw.g_un ?_ | with_reducible refine Sw.g_tup ?_ | with_reducible refine Sw.g_lst ?_ | with_reducible refine Sw.g_sl ?_ | with_reducible refine Sw.g_part ?_ | with_reducible refine Sw.g_nopart ?_
  | with_reducible refine Sw.g_U ?_ | with_reducible refine Sw.g_eq rfl ?_ | with_reducible refine Sw.g_ne rfl ?_ | with_reducible refine Sw.g_int ?_ | with_reducible refine Sw.g_yes ?_ | with_reducible refine L2.iteT ?_ | with_reducible refine L2.iteF ?_ | with_reducible refine Sw.iteNT ?_ | with_reducible refine Sw.iteNF ?_ | with_reducible refine Sw.g_m1 ?_ | with_reducible refine Sw.g_bm ?_ | with_reducible refine ⟨Sw.ty_lst (by assumption), ?_⟩ | with_reducible refine Sw.g_sput ?_ | with_reducible refine Sw.g_put ?_ | with_reducible refine Sw.g_dget2 ?_ | with_reducible refine Sw.g_dget ?_ | with_reducible refine Sw.g_dK ?_ | with_reducible refine Sw.g_dT ?_ | with_reducible refine Sw.g_dnotin ?_ | with_reducible refine Sw.g_din ?_ | with_reducible refine Sw.g_bm0 ?_
  | with_reducible refine Sw.g_ixL (by assumption) rfl ?_ | with_reducible refine Sw.g_ixT (by assumption) rfl ?_)
local macro_rules | `(tactic| walk_at "go") => `(tactic| repeat walk_at "go1")
local macro_rules | `(tactic| walk_at "bd") => `(tactic| repeat (first | with_reducible exact Sw.all_nil | refine Sw.all_cons ⟨_, rfl, by omega, by omega⟩ ?_))
local macro_rules | `(tactic| walk_at "new") => `(tactic| (refine ⟨Nat.le_of_ble_eq_true rfl, fun p np => ?_⟩; generalize hX : L2.upd _ p _ = H'; have sm : L2.Same _ H' := hX ▸ Sw.same_upd np; have hp : H' p = some _ := hX ▸ L2.upd_same; clear hX))
namespace Sw
open PySem PySem.Spec PyProof.Rows L2 SX
/-! ### turns, ways, costs -/
def wayOf (t w : Int) : Int := if 0 < t then 1 else if t < 0 then -1 else w
def absI (i : Int) : Int := if i < 0 then -i else i
def stepCost (t w s : Int) : Int := if w ≠ 0 ∧ wayOf t w ≠ w then absI t + s else absI t
def cst (s : Int) : Int → List Int → Int
  | _, [] => 0
  | w, t :: r => stepCost t w s + cst s (wayOf t w) r
def wayAll : Int → List Int → Int
  | w, [] => w
  | w, t :: r => wayAll (wayOf t w) r
theorem cst_app (s : Int) : ∀ (w : Int) (a b : List Int), cst s w (a ++ b) = cst s w a + cst s (wayAll w a) b
  | w, [], b => by simp [cst, wayAll]
  | w, t :: a, b => by
    show stepCost t w s + cst s (wayOf t w) (a ++ b) = stepCost t w s + cst s (wayOf t w) a + cst s (wayAll (wayOf t w) a) b
    rw [cst_app s _ a b]; omega
theorem wayAll_app : ∀ (w : Int) (a b : List Int), wayAll w (a ++ b) = wayAll (wayAll w a) b
  | w, [], b => rfl
  | w, t :: a, b => wayAll_app (wayOf t w) a b
def sp_way_of (K : PySem.W.Frag) : Sp := fun vs H Q _ => ∃ t w : Int, vs = [.int t, .int w] ∧ Q (.int (wayOf t w)) H
theorem ln_way_of {K : PySem.W.Frag} {vs : List V} {H : Hp} {Q : VK} {E : XK} (h : sp_way_of K vs H Q E) : vs.length = 2 := by
  obtain ⟨_, _, rfl, _⟩ := h
  rfl
def t_way_of (K : PySem.W.Frag) : TS :=
  (tSeq (tIfS (tTest (tOp rGt (tVar 0) (tC (.int 0)))) (tRet (tC (.int 1))) tNext)
  (tSeq (tIfS (tTest (tOp rLt (tVar 0) (tC (.int 0)))) (tRet (tUn rNeg (tC (.int 1)))) tNext)
  (tRet (tVar 1))))

theorem rd_way_of {K : PySem.W.Frag} {vs : List V} {H : Hp} {Q : VK} {E : XK} (h : sp_way_of K vs H Q E) : t_way_of K { nx := fun _ H' => Q .non H', rt := Q } (start ["turn", "way"] vs) H := by
  obtain ⟨t, w, rfl, q⟩ := h
  show t_way_of K _ [some (.int t), some (.int w)] H
  unfold t_way_of
  unfold wayOf at q
  refine g_seq ?_
  walk_at "go"
  refine ite_d (fun hc => ?_) (fun hc => ?_)
  · walk_at "go"
    rw [if_pos hc] at q
    exact q
  · rw [if_neg hc] at q
    walk_at "go"
    dsimp only
    refine g_seq ?_
    walk_at "go"
    refine ite_d (fun hc => ?_) (fun hc => ?_)
    · walk_at "go"
      rw [if_pos hc] at q
      exact q
    · rw [if_neg hc] at q
      walk_at "go"
      exact q
def sp_step_cost (K : PySem.W.Frag) : Sp := fun vs H Q _ => ∃ t w s : Int, vs = [.int t, .int w, .int s] ∧ Q (.int (stepCost t w s)) H
theorem ln_step_cost {K : PySem.W.Frag} {vs : List V} {H : Hp} {Q : VK} {E : XK} (h : sp_step_cost K vs H Q E) : vs.length = 3 := by
  obtain ⟨_, _, _, rfl, _⟩ := h
  rfl
def t_step_cost (K : PySem.W.Frag) : TS :=
  (tSeq (tAsg (tCall (sp_way_of K) [] E0 (tCons (tVar 0) (tCons (tVar 1) tNil))) (gName 3))
  (tSeq (tIfS (tAnd (tTest (tOp rNe (tVar 1) (tC (.int 0)))) (tTest (tOp rNe (tVar 3) (tVar 1)))) (tRet (tOp rAdd (tCB rAbs (tCons (tVar 0) tNil)) (tVar 2))) tNext)
  (tRet (tCB rAbs (tCons (tVar 0) tNil)))))

theorem rd_step_cost {K : PySem.W.Frag} {vs : List V} {H : Hp} {Q : VK} {E : XK} (h : sp_step_cost K vs H Q E) : t_step_cost K { nx := fun _ H' => Q .non H', rt := Q } (start ["turn", "way", "slack", "later"] vs) H := by
  obtain ⟨t, w, s, rfl, q⟩ := h
  show t_step_cost K _ [some (.int t), some (.int w), some (.int s), none] H
  unfold t_step_cost
  unfold stepCost at q
  walk_at "go"
  refine ⟨t, w, rfl, ?_⟩
  refine g_seq ?_
  walk_at "go"
  have e : ∀ a b : Int, (V.int a = V.int b) ↔ a = b := fun a b => ⟨V.int.inj, congrArg _⟩
  refine ite_n (fun h1 => ?_) (fun h1 => ?_)
  · rw [e] at h1
    walk_at "go"
    refine ite_n (fun h2 => ?_) (fun h2 => ?_)
    · rw [e] at h2
      rw [if_pos ⟨h1, h2⟩] at q
      walk_at "go"
      refine ⟨t, rfl, ?_⟩
      walk_at "go"
      exact q
    · rw [e] at h2
      rw [if_neg (fun z => z.2 h2)] at q
      walk_at "go"
      exact ⟨t, rfl, q⟩
  · rw [e] at h1
    rw [if_neg (fun z => z.1 h1)] at q
    walk_at "go"
    exact ⟨t, rfl, q⟩
def spx_look_at_slack (K : PySem.W.Frag) (c : Cl) : Sp := fun vs H Q E => ∃ s : Int, vs = [.int s] ∧ (0 ≤ s ∧ s ≤ 9 → Q .non H) ∧ (¬ (0 ≤ s ∧ s ≤ 9) → E (.ref c.NoSlack) none H)
theorem lnx_look_at_slack {K : PySem.W.Frag} {c : Cl} {vs : List V} {H : Hp} {Q : VK} {E : XK} (h : spx_look_at_slack K c vs H Q E) : vs.length = 1 := by
  obtain ⟨_, rfl, _⟩ := h
  rfl
def tx_look_at_slack (K : PySem.W.Frag) (c : Cl) (E : XK) : TS :=
  (tIfS (tOr (tTest (tOp rLt (tVar 0) (tC (.int 0)))) (tTest (tOp rGt (tVar 0) (tC (.int 9))))) (tRaise E c.NoSlack) tNext)

theorem rdx_look_at_slack {K : PySem.W.Frag} {c : Cl} {vs : List V} {H : Hp} {Q : VK} {E : XK} (h : spx_look_at_slack K c vs H Q E) : tx_look_at_slack K c E { nx := fun _ H' => Q .non H', rt := Q } (start ["slack"] vs) H := by
  obtain ⟨s, rfl, q1, q2⟩ := h
  show tx_look_at_slack K c E _ [some (.int s)] H
  unfold tx_look_at_slack
  walk_at "go"
  refine ite_d (fun h1 => ?_) (fun h1 => ?_)
  · refine iteT ?_
    exact q2 (by omega)
  · walk_at "go"
    refine ite_d (fun h2 => ?_) (fun h2 => ?_)
    · exact q2 (by omega)
    · exact q1 (by omega)
/-! ### the plain law of costs -/
def sgI (t : Int) : Int := if 0 < t then 1 else -1
def chgW : Int → List Int → Int
  | _, [] => 0
  | w, t :: r => (if w ≠ 0 ∧ sgI t ≠ w then 1 else 0) + chgW (sgI t) r
def gone (ts : List Int) : List Int := ts.filter (fun t => decide (t ≠ 0))
theorem cst_gone (s : Int) : ∀ (w : Int) (ts : List Int), cst s w ts = ((gone ts).map absI).sum + s * chgW w (gone ts)
  | w, [] => by simp [cst, gone, chgW]
  | w, t :: r => by
    have ih := cst_gone s (wayOf t w) r
    show stepCost t w s + cst s (wayOf t w) r = _
    rw [ih]
    unfold gone at *
    by_cases ht : t = 0
    · subst ht
      have e : wayOf 0 w = w := by unfold wayOf; simp
      have e2 : stepCost 0 w s = 0 := by unfold stepCost; rw [e]; simp [absI]
      rw [e, e2, List.filter_cons_of_neg (by simp)]
      omega
    · have e : wayOf t w = sgI t := by unfold wayOf sgI; split <;> (try split) <;> omega
      rw [e, List.filter_cons_of_pos (by simpa using ht), List.map_cons, List.sum_cons]
      show _ = absI t + _ + s * ((if w ≠ 0 ∧ sgI t ≠ w then 1 else 0) + chgW (sgI t) (r.filter fun t => decide (t ≠ 0)))
      unfold stepCost
      rw [e]
      by_cases hc : w ≠ 0 ∧ sgI t ≠ w
      · rw [if_pos hc, if_pos hc, Int.mul_add]
        omega
      · rw [if_neg hc, if_neg hc, Int.zero_add]
        omega
/-- how often two that follow each other go unlike ways -/
def unlike (g : List Int) (i : Nat) : Bool := decide (0 < g.getD (i + 1) 0) != decide (0 < g.getD i 0)
def cnt (n : Nat) (f : Nat → Bool) : Nat := ((List.range n).filter f).length
theorem cnt_succ (n : Nat) (f : Nat → Bool) : cnt (n + 1) f = (if f 0 = true then 1 else 0) + cnt n (fun i => f (i + 1)) := by
  unfold cnt
  rw [List.range_succ_eq_map, List.filter_cons]
  have e : (List.filter f (List.map Nat.succ (List.range n))).length = (List.filter (fun i => f (i + 1)) (List.range n)).length := by
    rw [List.filter_map, List.length_map]
    rfl
  split
  · rw [List.length_cons, e]; omega
  · rw [e]; omega
theorem chg_cnt : ∀ (t : Int) (r : List Int), t ≠ 0 → (∀ x ∈ r, x ≠ 0) → chgW (sgI t) r = (cnt r.length (unlike (t :: r)) : Nat)
  | t, [], _, _ => rfl
  | t, u :: r, ht, hr => by
    have hu := hr u List.mem_cons_self
    have ih := chg_cnt u r hu fun x hx => hr x (List.mem_cons_of_mem _ hx)
    show (if sgI t ≠ 0 ∧ sgI u ≠ sgI t then (1 : Int) else 0) + chgW (sgI u) r = _
    rw [ih, List.length_cons, cnt_succ]
    have e : (fun i => unlike (t :: u :: r) (i + 1)) = unlike (u :: r) := by funext i; rfl
    rw [e]
    have e2 : unlike (t :: u :: r) 0 = (decide (0 < u) != decide (0 < t)) := rfl
    rw [e2]
    have h3 : (if sgI t ≠ 0 ∧ sgI u ≠ sgI t then (1 : Int) else 0) = ((if (decide (0 < u) != decide (0 < t)) = true then 1 else 0 : Nat) : Int) := by
      unfold sgI
      by_cases h1 : 0 < t <;> by_cases h2 : 0 < u <;> simp [h1, h2]
    rw [h3]
    omega
theorem chg_all (g : List Int) (h : ∀ x ∈ g, x ≠ 0) : chgW 0 g = (cnt (g.length - 1) (unlike g) : Nat) := by
  cases g with
  | nil => rfl
  | cons t r =>
    show (if (0 : Int) ≠ 0 ∧ sgI t ≠ 0 then (1 : Int) else 0) + chgW (sgI t) r = _
    rw [if_neg (fun z => z.1 rfl), Int.zero_add, chg_cnt t r (h t List.mem_cons_self) fun x hx => h x (List.mem_cons_of_mem _ hx)]
    rfl
end Sw
local macro_rules | `(tactic| walk_at "go1") => `(tactic| first
  | with_reducible refine Sw.g_seqasg ?_ | with_reducible refine Sw.g_op ?_ | with_reducible refine Sw.g_var rfl ?_ | with_reducible refine Sw.g_c ?_ | with_reducible refine Sw.g_I0 ?_
  | with_reducible refine Sw.g_cons ?_ | with_reducible refine Sw.g_nil ?_ | with_reducible refine Sw.g_call ?_ | with_reducible refine Sw.g_cb ?_ | with_reducible refine Sw.g_test ?_ | with_reducible refine Sw.g_bl ?_
  | with_reducible refine Sw.g_seqdrop ?_ | with_reducible refine Sw.g_seqsub ?_ | with_reducible refine Sw.g_asg ?_ | with_reducible refine Sw.g_asgsub ?_ | with_reducible refine Sw.g_ret ?_ | with_reducible refine Sw.g_drop ?_ | with_reducible refine Sw.g_if ?_ | with_reducible refine Sw.g_next ?_ | with_reducible refine Sw.g_name ?_
  | with_reducible refine Sw.g_B ?_ | with_reducible refine Sw.g_not ?_ | with_reducible refine Sw.g_and ?_ | with_reducible refine Sw.g_or ?_ | with_reducible refine Sw.g_andV ?_ | with_reducible refine Sw.g_orV ?_ | with_reducible refine Sw.g_notV ?_
  | with_reducible refine Sw.g_ifE ?_ | with_reducible refine Sw.g_chain ?_ | with_reducible refine Sw.g_un ?_ | with_reducible refine Sw.g_tup ?_ | with_reducible refine Sw.g_lst ?_ | with_reducible refine Sw.g_sl ?_ | with_reducible refine Sw.g_part ?_ | with_reducible refine Sw.g_nopart ?_
  | with_reducible refine Sw.g_U ?_ | with_reducible refine Sw.g_eq rfl ?_ | with_reducible refine Sw.g_ne rfl ?_ | with_reducible refine Sw.g_int ?_ | with_reducible refine Sw.g_yes ?_ | with_reducible refine L2.iteT ?_ | with_reducible refine L2.iteF ?_ | with_reducible refine Sw.iteNT ?_ | with_reducible refine Sw.iteNF ?_ | with_reducible refine Sw.g_m1 ?_ | with_reducible refine Sw.g_bm ?_ | with_reducible refine ⟨Sw.ty_lst (by assumption), ?_⟩ | with_reducible refine Sw.g_sput ?_ | with_reducible refine Sw.g_put ?_ | with_reducible refine Sw.g_dget2 ?_ | with_reducible refine Sw.g_dget ?_ | with_reducible refine Sw.g_dK ?_ | with_reducible refine Sw.g_dT ?_ | with_reducible refine Sw.g_dnotin ?_ | with_reducible refine Sw.g_din ?_ | with_reducible refine Sw.g_bm0 ?_
  | with_reducible refine Sw.g_ixL (by assumption) rfl ?_ | with_reducible refine Sw.g_ixT (by assumption) rfl ?_)
local macro_rules | `(tactic| walk_at "go") => `(tactic| repeat walk_at "go1")
local macro_rules | `(tactic| walk_at "bd") => `(tactic| repeat (first | with_reducible exact Sw.all_nil | refine Sw.all_cons ⟨_, rfl, by omega, by omega⟩ ?_))
local macro_rules | `(tactic| walk_at "new") => `(tactic| (refine ⟨Nat.le_of_ble_eq_true rfl, fun p np => ?_⟩; generalize hX : L2.upd _ p _ = H'; have sm : L2.Same _ H' := hX ▸ Sw.same_upd np; have hp : H' p = some _ := hX ▸ L2.upd_same; clear hX))
namespace Sw
open PySem PySem.Spec PyProof.Rows L2 SX
/-! ### tables: dicts with pairs as keys -/
/-- {k: v}, k a tuple -/
def tDispT (tk tv : TE) : TE := fun σ H Q => ∀ p, H p = none → tk σ (upd H p (.dT [])) fun x H1 => tv σ H1 fun y H2 => H2 p = some (.dT []) ∧ ∃ b k, x = .ref b ∧ H2 b = some (.tup (k.map kV)) ∧ Q (.ref p) (upd H2 p (.dT [(k, y)]))
section
variable {X : Cx} {pos : Pos}
theorem pe_dispT {kx vx : Expr} {tk tv : TE} (hu : X.A.units + 1 < cLine) (hk : PE X kx tk) (hv : PE X vx tv) : PE X (.Dict [some kx] [vx] pos) (tDispT tk tv) := by
  refine ⟨fun pins s σ H Q I q => ?_⟩
  have hn := I.hok.fresh (Nat.le_refl s.heap.objs.size)
  have I1 := I.laid (a := s.heap.objs.size) (o := .dT []) (h' := s.heap.push { cls := .type "dict", data := .dict #[] }) (t' := s.toks) (fun _ _ q => Heap.get?_push_of_some _ q) (Nat.le_refl _) (dt_empty s.heap I.big)
  rw [PySem.arm_eval_Dict, PySem.zip_pairTrees [some kx] [vx] X.env pos rfl rfl, PySem.dictDisplay_pairs _ (by intro z; have := congrArg List.length z; simp [pairTrees] at this) (by simp [pairTrees])]
  refine wpAny_bind (wpAny_standAt (wpAny_bind (wpAny_subDictH (knd := tupleKind (mixKind X.prog X.w)) (Q := fun d s' => wpAny (model X.prog X.w) X.A (pure (Value.ref d)) (EP X pins σ Q) X.xe s') (show X.A.units < cLine by omega) (by simp [pairTrees]) ?_)))
  refine pairTrees_cons_walk (thn (hk.run pins _ σ _ _ I1 (q _ hn)) fun kv s1 ⟨x, H1, J1, r1, q1⟩ => thn (hv.run pins s1 σ H1 _ J1 q1) fun vv s2 ⟨y, H2, J2, r2, q2⟩ => pairTrees_nil_walk ?_)
  obtain ⟨e, b, k, rfl, hb, q2⟩ := q2
  cases (show kv = Value.ref b from r1)
  obtain ⟨z, hd, xs, rel, dd⟩ := dt_of J2.hok e
  cases rel
  have key := key_of J2.hok hb
  refine ⟨[(k, b, vv)], ⟨rfl, rfl, key, trivial⟩, dd, fun h' tk dd' hs => wpAny_pure ⟨.ref s.heap.objs.size, _, ?_, rfl, q2⟩⟩
  obtain ⟨o, es, ep, ho, h2, h3, h4, _, h5⟩ := dd'
  refine d_write J2 (by rw [e]; exact True.intro) hs ⟨o, ho⟩ ⟨by show 1 ≤ sizeLine; decide, hd, [(k, b, vv)], .cons ⟨rfl, ?_, r2⟩ .nil, o, es, ep, ho, h2, h3, h4, h5⟩
  rw [upd_ne (ne_of hb e (fun z => nomatch z))]
  exact hb
end
/-! ### min(d.values()) of such a dict -/
def tMinValsT (td : TE) : TE := fun σ H Q => td σ H fun x H1 => ∃ a kvs is, x = V.ref a ∧ H1 a = some (.dT kvs) ∧ kvs.map (·.2) = is.map V.int ∧ is ≠ [] ∧ ∀ m, m ∈ is → (∀ j ∈ is, m ≤ j) → Q (.int m) H1
theorem KT.at' {H : Hp} {kvs : List (List Key × V)} {xs : List (List Key × Addr × Value)} (r : KT H kvs xs) : ∀ {i : Nat} {y : List Key × Addr × Value}, xs[i]? = some y → ∃ x, (kvs.map (·.2))[i]? = some x ∧ RelV x y.2.2 := by
  unfold KT at r
  induction r with
  | nil => intro i y e; simp at e
  | cons r t ih =>
    intro i y e
    cases i with
    | zero =>
      have e' := Option.some.inj (show some _ = some y from e)
      subst e'
      exact ⟨_, rfl, r.2.2⟩
    | succ i =>
      obtain ⟨x, h1, h2⟩ := ih (i := i) (y := y) (by simpa using e)
      exact ⟨x, by simpa using h1, h2⟩
section
variable {X : Cx} {o : Expr} {p pos apos mpos : Pos} {td : TE}
theorem pe_minValsT (hc : X.calm = true) (hg : Gl X "min") (hm : X.mg "min" = none) (hd : PE X o td) (hbase : attributeBase o "values" X.env (eval o X.env) = eval o X.env := by rfl) (hline : (apos.endLine == mpos.line) = true := by rfl)
    (hse : starEach [Expr.Call (.Attribute o "values" apos) [] [] mpos] X.env = [(false, eval (Expr.Call (.Attribute o "values" apos) [] [] mpos) X.env)] := by rfl) :
    PE X (.Call (.Name "min" p) [.Call (.Attribute o "values" apos) [] [] mpos] [] pos) (tMinValsT td) := by
  refine ⟨fun pins s σ H Q I h => ?_⟩
  refine wpAny_Call_Name_kw (ld_blt I hg hm (u := .builtin "min") (by first | rfl | decide +kernel) ?_ (by first | decide +kernel | decide) (by first | decide +kernel | decide))
  rw [hse]
  refine PySem.callWith_builtin1 (wpAny_Call_method0_late hbase hline (thn (hd.run pins s σ H _ I h) fun v s1 ⟨x, H1, I1, r1, a, kvs, is, ex, ha, hv, hne, q⟩ => ?_))
  subst ex
  obtain rfl : v = Value.ref a := r1
  obtain ⟨_, hsys, xs, rel, dof⟩ := dt_of I1.hok ha
  obtain ⟨es, ep, raw, hsz0, hx⟩ := dof.raw
  obtain ⟨ob, ho, ex, hdat⟩ := id raw
  refine ⟨"dict", "dict.values", F.plainAttrs_dict, F.slot_dict_values, F.type_dict_values, ⟨ob, ho, ex.1⟩, fun b e => ?_, Calls.callWith_builtin rfl (PySem.evalArgs_none ?_)⟩
  · cases e
    exact ⟨ob, ho, ex.2.1⟩
  refine call_meetsIn F.slot_dict_values ⟨ob, ho, ex.1⟩ F.entry_dict_values (F.args_dict_values_1 _) (meets_dict_values_raw a hsys) ⟨⟨es, ep, raw⟩, ?_⟩
  have k1 : ∀ b u, s1.heap.get? b = some u → (s1.heap.push { cls := .type "dict_values", data := .fields #[.ref a] }).get? b = some u := fun b u e => Heap.get?_push_of_some _ e
  have raw1 : (s1.heap.push { cls := .type "dict_values", data := .fields #[.ref a] }).DictRaw a es ep := raw.at fun o e => k1 a o e
  have hlx : xs.length = is.length := by
    have e1 := congrArg List.length hv
    rw [List.length_map, List.length_map] at e1
    rw [← e1]
    exact (Paired.length rel).symm
  have hlen : 0 < es.size := by
    rw [hsz0, hlx]
    exact List.length_pos_iff.mpr hne
  have hval : ∀ (i : Nat) (v : Value), (∃ y, xs[i]? = some y ∧ v = y.2.2) → ∃ t, v = Value.int (is.getD i 0) t := fun i v ⟨y, hy, ev⟩ => by
    obtain ⟨x, h1, h2⟩ := KT.at' rel hy
    rw [hv, List.getElem?_map] at h1
    obtain ⟨j, hj, e2⟩ := Option.map_eq_some_iff.mp h1
    subst e2
    obtain ⟨t, e3⟩ := h2
    refine ⟨t, ?_⟩
    rw [ev, e3, List.getD_eq_getElem?_getD, hj]
    rfl
  refine call_min_walk (wpAny_pyIter_values_raw (v := s1.heap.objs.size) (d := a) ⟨_, Heap.get?_push_size _ rfl, rfl, rfl⟩ raw1 ?_)
  have hlt : a < s1.heap.objs.size := Heap.lt_size ho
  have hsz : (s1.heap.push { cls := .type "dict_values", data := .fields #[.ref a] }).objs.size = s1.heap.objs.size + 1 := Heap.size_push _ _
  refine ⟨_, _, _, _, _, _, _, rfl, Walks.valuesH (xs := xs) (A := X.A.in1) (I.ok.hd hc) (s1.heap.push { cls := .type "dict_values", data := .fields #[.ref a] }).objs.size a (by rw [hsz]; exact Nat.ne_of_lt (Nat.lt_succ_of_lt hlt)) es ep (fun i hi => let ⟨y, h1, h2, h3, _⟩ := hx i hi; ⟨y, h1, h2, h3⟩),
    ⟨⟨_, Heap.get?_push_size _ rfl, rfl, rfl⟩, raw1.at fun o e => Heap.get?_push_of_some _ e⟩, fun b hb => ?_, hlen, CmpOf.ints_lt (fun i => is.getD i 0) hval, fun v h' tk hP hk => ?_⟩
  · show b < ((s1.heap.push _).push _).objs.size
    rw [Heap.size_push, Heap.size_push]
    rw [hsz] at hb
    rcases List.mem_cons.mp hb with e | hb
    · rw [e]
      exact Nat.lt_succ_self _
    · have e : b = a := List.mem_singleton.mp hb
      rw [e]
      exact Nat.lt_succ_of_lt (Nat.lt_succ_of_lt hlt)
  · obtain ⟨t, rfl⟩ := hval _ v hP
    obtain ⟨b1, b2⟩ := argBest_lt (fun i => is.getD i 0) (es.size - 1)
    refine ⟨.int _, H1, I1.kept (t' := tk) fun b u e => hk b u (fun hmem => ?_) (Heap.get?_push_of_some _ (k1 b u e)), ⟨t, rfl⟩, q _ ?_ fun j hj => ?_⟩
    · have e1 : b = (s1.heap.push { cls := .type "dict_values", data := .fields #[.ref a] }).objs.size := List.mem_singleton.mp hmem
      have e2 := Heap.lt_size e
      rw [hsz] at e1
      rw [e1] at e2
      exact absurd e2 (Nat.not_lt.mpr (Nat.le_succ _))
    · have hb : argBest (fun i j => decide (is.getD i 0 < is.getD j 0)) (es.size - 1) < is.length := by omega
      rw [List.getD_eq_getElem?_getD, List.getElem?_eq_getElem hb]
      exact List.getElem_mem hb
    · obtain ⟨i, hi, e⟩ := List.mem_iff_getElem.mp hj
      have e2 : is.getD i 0 = j := by rw [List.getD_eq_getElem?_getD, List.getElem?_eq_getElem hi, ← e]; rfl
      rw [← e2]
      exact b2 i (by omega)
end
end Sw
local macro_rules | `(tactic| walk_at "go1") => `(tactic| first
  | with_reducible refine Sw.g_seqasg ?_ | with_reducible refine Sw.g_op ?_ | with_reducible refine Sw.g_var rfl ?_ | with_reducible refine Sw.g_c ?_ | with_reducible refine Sw.g_I0 ?_
  | with_reducible refine Sw.g_cons ?_ | with_reducible refine Sw.g_nil ?_ | with_reducible refine Sw.g_call ?_ | with_reducible refine Sw.g_cb ?_ | with_reducible refine Sw.g_test ?_ | with_reducible refine Sw.g_bl ?_
  | with_reducible refine Sw.g_seqdrop ?_ | with_reducible refine Sw.g_seqsub ?_ | with_reducible refine Sw.g_asg ?_ | with_reducible refine Sw.g_asgsub ?_ | with_reducible refine Sw.g_ret ?_ | with_reducible refine Sw.g_drop ?_ | with_reducible refine Sw.g_if ?_ | with_reducible refine Sw.g_next ?_ | with_reducible refine Sw.g_name ?_
  | with_reducible refine Sw.g_B ?_ | with_reducible refine Sw.g_not ?_ | with_reducible refine Sw.g_and ?_ | with_reducible refine Sw.g_or ?_ | with_reducible refine Sw.g_andV ?_ | with_reducible refine Sw.g_orV ?_ | with_reducible refine Sw.g_notV ?_
  | with_reducible refine Sw.g_ifE ?_ | with_reducible refine Sw.g_chain ?_ | with_reducible refine Sw.g_un ?_ | with_reducible refine Sw.g_tup ?_ | with_reducible refine Sw.g_lst ?_ | with_reducible refine Sw.g_sl ?_ | with_reducible refine Sw.g_part ?_ | with_reducible refine Sw.g_nopart ?_
  | with_reducible refine Sw.g_U ?_ | with_reducible refine Sw.g_eq rfl ?_ | with_reducible refine Sw.g_ne rfl ?_ | with_reducible refine Sw.g_int ?_ | with_reducible refine Sw.g_yes ?_ | with_reducible refine L2.iteT ?_ | with_reducible refine L2.iteF ?_ | with_reducible refine Sw.iteNT ?_ | with_reducible refine Sw.iteNF ?_ | with_reducible refine Sw.g_m1 ?_ | with_reducible refine Sw.g_bm ?_ | with_reducible refine ⟨Sw.ty_lst (by assumption), ?_⟩ | with_reducible refine Sw.g_sput ?_ | with_reducible refine Sw.g_put ?_ | with_reducible refine Sw.g_dget2 ?_ | with_reducible refine Sw.g_dget ?_ | with_reducible refine Sw.g_dK ?_ | with_reducible refine Sw.g_dT ?_ | with_reducible refine Sw.g_dnotin ?_ | with_reducible refine Sw.g_din ?_ | with_reducible refine Sw.g_bm0 ?_
  | with_reducible refine Sw.g_ixL (by assumption) rfl ?_ | with_reducible refine Sw.g_ixT (by assumption) rfl ?_)
local macro_rules | `(tactic| walk_at "go") => `(tactic| repeat walk_at "go1")
local macro_rules | `(tactic| walk_at "bd") => `(tactic| repeat (first | with_reducible exact Sw.all_nil | refine Sw.all_cons ⟨_, rfl, by omega, by omega⟩ ?_))
local macro_rules | `(tactic| walk_at "new") => `(tactic| (refine ⟨Nat.le_of_ble_eq_true rfl, fun p np => ?_⟩; generalize hX : L2.upd _ p _ = H'; have sm : L2.Same _ H' := hX ▸ Sw.same_upd np; have hp : H' p = some _ := hX ▸ L2.upd_same; clear hX))
namespace Sw
open PySem PySem.Spec PyProof.Rows L2 SX
/-! ### lists of one's own, their items told by R -/
theorem paired_get {α β : Type} {R : α → β → Prop} {xs : List α} {ys : List β} (h : Paired R xs ys) : ∀ {i : Nat} {x : α}, xs[i]? = some x → ∃ y, ys[i]? = some y ∧ R x y := by
  induction h with
  | nil => intro i x e; simp at e
  | cons r t ih =>
    intro i x e
    cases i with
    | zero =>
      have e' := Option.some.inj (show some _ = some x from e)
      subst e'
      exact ⟨_, rfl, r⟩
    | succ i => exact ih (i := i) (x := x) (by simpa using e)
theorem paired_imp {α β : Type} {R R' : α → β → Prop} {xs : List α} {ys : List β} (h : Paired R xs ys) (hi : ∀ x y, R x y → R' x y) : Paired R' xs ys := by
  induction h with
  | nil => exact .nil
  | cons r t ih => exact .cons (hi _ _ r) ih
theorem paired_app {α β : Type} {R : α → β → Prop} {xs xs' : List α} {ys ys' : List β} (h : Paired R xs ys) (h' : Paired R xs' ys') : Paired R (xs ++ xs') (ys ++ ys') := by
  induction h with
  | nil => exact h'
  | cons r t ih => exact .cons r ih
theorem but_ne {H : Hp} {l b : Addr} {o : HO} (h : H b = some o) (hb : b ≠ l) : but H l b = some o := by unfold but; rw [if_neg hb]; exact h
theorem but_sub {H : Hp} {l : Addr} : Same (but H l) H := fun b o e => by
  unfold but at e
  by_cases hb : b = l
  · rw [if_pos hb] at e; cases e
  · rw [if_neg hb] at e; exact e
theorem but_mono {H H' : Hp} {l : Addr} (h : Same H H') : Same (but H l) (but H' l) := fun b o e => by
  unfold but at e ⊢
  by_cases hb : b = l
  · rw [if_pos hb] at e; cases e
  · rw [if_neg hb] at e ⊢; exact h b o e
theorem but_upd {H : Hp} {l : Addr} {o : HO} : but (upd H l o) l = but H l := by
  funext b
  unfold but
  by_cases hb : b = l
  · rw [if_pos hb, if_pos hb]
  · rw [if_neg hb, if_neg hb, upd_ne hb]
/-- what is told of a thing stays where the heap only grows -/
def Mono {α : Type} (R : Hp → V → α → Prop) : Prop := ∀ G G' v y, Same G G' → R G v y → R G' v y
def OwnP {α : Type} (R : Hp → V → α → Prop) (H : Hp) (l : Addr) (ys : List α) (H' : Hp) : Prop := ∃ xs, H l = none ∧ Same H H' ∧ H' l = some (.lst xs) ∧ Paired (R (but H' l)) xs ys
section
variable {α : Type} {R : Hp → V → α → Prop} {H H' H2 : Hp} {l : Addr} {ys : List α} {y : α} {v : V} {Q : VK}
theorem OwnP.new (h : H l = none) : OwnP R H l [] (upd H l (.lst [])) := ⟨[], h, same_upd h, upd_same, .nil⟩
theorem OwnP.same (m : Mono R) (o : OwnP R H l ys H') (e : Same H' H2) : OwnP R H l ys H2 := by
  obtain ⟨xs, h1, h2, h3, h4⟩ := o
  exact ⟨xs, h1, h2.trans e, e _ _ h3, paired_imp h4 fun x y r => m _ _ _ _ (but_mono e) r⟩
theorem OwnP.sm (o : OwnP R H l ys H') : Same H H' := by obtain ⟨xs, h1, h2, h3, h4⟩ := o; exact h2
theorem OwnP.ty {K : PySem.W.Frag} (o : OwnP R H l ys H') : tyV K "list" (.ref l) H' := by obtain ⟨xs, h1, h2, h3, h4⟩ := o; exact ty_lst h3
theorem OwnP.all (m : Mono R) (o : OwnP R H l ys H') : ∃ xs, H' l = some (.lst xs) ∧ Paired (R H') xs ys := by
  obtain ⟨xs, h1, h2, h3, h4⟩ := o
  exact ⟨xs, h3, paired_imp h4 fun x y r => m _ _ _ _ but_sub r⟩
theorem OwnP.app (m : Mono R) (o : OwnP R H l ys H') (e : Same H' H2) (hz : ys.length ≤ 10000000) (r : R (but H2 l) v y) (q : ∀ H3, OwnP R H l (ys ++ [y]) H3 → (∀ b, b ≠ l → H3 b = H2 b) → Q .non H3) : rAppend (.ref l) [v] H2 Q := by
  obtain ⟨xs, h1, h2, h3, h4⟩ := o.same m e
  refine ⟨l, xs, v, rfl, rfl, h3, ?_, q _ ⟨xs ++ [v], h1, fun b x e => by rw [upd_ne (ne_of_none e h1)]; exact h2 b x e, upd_same, ?_⟩ fun b hb => upd_ne hb⟩
  · rw [Paired.length h4]
    exact Nat.lt_of_le_of_lt hz (by decide)
  · rw [but_upd]
    exact paired_app h4 (.cons r .nil)
end
/-! ### turns to a sign, steps from a stand -/
abbrev Std := Int × Int
abbrev Stp := Int × Std × Int
def hits (w : List Nat) (p : Int) (sg : List Nat) (t : Int) : Bool := decide ([w.getD ((p + t) % (w.length : Int)).toNat 0] = sg)
def offs (n : Nat) (k : Nat) : List Int := (List.range k).map fun i : Nat => 1 - (n : Int) + (i : Int)
def turnsTo (w : List Nat) (p : Int) (sg : List Nat) : List Int := (offs w.length (2 * w.length - 1)).filter (hits w p sg)
theorem offs_succ (n k : Nat) : offs n (k + 1) = offs n k ++ [1 - (n : Int) + (k : Int)] := by unfold offs; rw [List.range_succ, List.map_append]; rfl
theorem mem_offs {n k : Nat} {t : Int} : t ∈ offs n k ↔ 1 - (n : Int) ≤ t ∧ t < 1 - (n : Int) + (k : Int) := by
  unfold offs
  rw [List.mem_map]
  constructor
  · rintro ⟨i, hi, rfl⟩
    have := List.mem_range.mp hi
    omega
  · intro h
    exact ⟨(t - (1 - (n : Int))).toNat, List.mem_range.mpr (by omega), by omega⟩
theorem mem_turnsTo {w : List Nat} {p : Int} {sg : List Nat} {t : Int} (hn : 0 < w.length) : t ∈ turnsTo w p sg ↔ -(w.length : Int) < t ∧ t < (w.length : Int) ∧ hits w p sg t = true := by
  unfold turnsTo
  rw [List.mem_filter, mem_offs]
  constructor
  · rintro ⟨h1, h2⟩; exact ⟨by omega, by omega, h2⟩
  · rintro ⟨h1, h2, h3⟩; exact ⟨by omega, h3⟩
theorem turnsTo_len (w : List Nat) (p : Int) (sg : List Nat) : (turnsTo w p sg).length ≤ 2 * w.length - 1 := by
  unfold turnsTo
  refine Nat.le_trans (List.length_filter_le _ _) ?_
  unfold offs
  simp
def sp_turns_to (K : PySem.W.Frag) : Sp := fun vs H Q _ => ∃ (w : List Nat) (p : Int) (sg : List Nat), vs = [.str (S w), .int p, .str (S sg)] ∧ 1 ≤ w.length ∧ w.length ≤ 1000 ∧ ∀ q H', H q = none → Same H H' → H' q = some (.lst ((turnsTo w p sg).map V.int)) → Q (.ref q) H'
theorem ln_turns_to {K : PySem.W.Frag} {vs : List V} {H : Hp} {Q : VK} {E : XK} (h : sp_turns_to K vs H Q E) : vs.length = 3 := by
  obtain ⟨_, _, _, rfl, _⟩ := h
  rfl
def t_turns_to (K : PySem.W.Frag) : TS :=
  (tSeq (tAsg (tCB rLenStr (tCons (tVar 0) tNil)) (gName 3))
  (tSeq (tAsg (tLst tNil) (gName 4))
  (tSeq (tFor (iRng2 (tCons (tOp rSub (tC (.int 1)) (tVar 3)) (tCons (tVar 3) tNil))) (gName 5)
  (tIfS (tTest (tOp rEq (tOp rIxS (tVar 0) (tOp rMod (tOp rAdd (tVar 1) (tVar 5)) (tVar 3))) (tVar 2))) (tDrop (tBM K "list" rAppend (tVar 4) (tCons (tVar 5) tNil))) tNext))
  (tRet (tVar 4)))))

theorem rd_turns_to {K : PySem.W.Frag} {vs : List V} {H : Hp} {Q : VK} {E : XK} (h : sp_turns_to K vs H Q E) : t_turns_to K { nx := fun _ H' => Q .non H', rt := Q } (start ["wheel", "place", "sign", "many", "found", "turn"] vs) H := by
  obtain ⟨w, p, sg, rfl, w1, w2, q⟩ := h
  show t_turns_to K _ [some (.str (S w)), some (.int p), some (.str (S sg)), none, none, none] H
  unfold t_turns_to
  walk_at "go"
  refine g_lenS (by omega) ?_
  walk_at "go"
  refine ⟨by decide, fun l nl => ?_⟩
  refine g_seq (for2 (fun m n Hn => m = 1 - (w.length : Int) ∧ n = (w.length : Int) ∧ Hn = upd H l (.lst [])) (fun QA h => ?_) (fun m n i σ' H' => m = 1 - (w.length : Int) ∧ n = (w.length : Int) ∧ Own H l (((offs w.length i).filter (hits w p sg)).map V.int) H' ∧ ∃ (v5 : Option V), σ' = [some (.str (S w)), some (.int p), some (.str (S sg)), some (.int (w.length : Int)), some (.ref l), v5]) (fun m n Hn hc => ?_) (fun m n i σ' H' hi hp => ?_) (fun m n σ' H' hp => ?_))
  · walk_at "go"
    exact h _ _ _ ⟨rfl, rfl, rfl⟩
  · obtain ⟨rfl, rfl, rfl⟩ := hc
    exact ⟨by omega, by omega, by omega, by omega, rfl, rfl, Own.mk_ nl, _, rfl⟩
  · obtain ⟨rfl, rfl, ow, v5, rfl⟩ := hp
    have hl := ow.at_
    obtain ⟨b0, b1⟩ := emod_bd (z := p + (1 - (w.length : Int) + (i : Int))) (m := (w.length : Int)) (by omega)
    walk_at "go"
    refine g_I (by omega) ?_
    refine g_ixS (K := K) (by omega) (getD_at b0 b1) ?_
    walk_at "go"
    rw [show decide (V.str (S [w.getD ((p + (1 - (w.length : Int) + (i : Int))) % (w.length : Int)).toNat 0]) = V.str (S sg)) = hits w p sg (1 - (w.length : Int) + (i : Int)) from decide_eq_decide.mpr S_inj']
    refine ite_b (fun hb => ?_) (fun hb => ?_)
    · walk_at "go"
      refine ow.app (by
        rw [List.length_map]
        refine Nat.le_trans (List.length_filter_le _ _) ?_
        unfold offs
        simp
        omega) fun H2 ow2 => ⟨rfl, rfl, ?_, _, rfl⟩
      rw [offs_succ, List.filter_append, List.map_append, List.filter_cons_of_pos hb]
      exact ow2
    · walk_at "go"
      refine ⟨rfl, rfl, ?_, _, rfl⟩
      rw [offs_succ, List.filter_append, List.filter_cons_of_neg (by rw [hb]; exact Bool.false_ne_true)]
      simpa using ow
  · obtain ⟨rfl, rfl, ow, v5, rfl⟩ := hp
    walk_at "go"
    have e : ((w.length : Int) - (1 - (w.length : Int))).toNat = 2 * w.length - 1 := by omega
    rw [e] at ow
    exact q l H' nl ow.sm ow.at_
theorem turns_given (w : List Nat) (p : Int) (sg : List Nat) : given (2 * w.length - 1) (fun i => hits w p sg (1 - (w.length : Int) + (i : Int))) (fun i => .int (1 - (w.length : Int) + (i : Int))) = (turnsTo w p sg).map V.int := by
  unfold given turnsTo offs
  rw [List.filter_map, List.map_map]
  rfl
def sp_law_reach_turns (K : PySem.W.Frag) : Sp := fun vs H Q _ => ∃ (w : List Nat) (p : Int) (sg : List Nat), vs = [.str (S w), .int p, .str (S sg)] ∧ 1 ≤ w.length ∧ w.length ≤ 1000 ∧ ∀ q H', H q = none → Same H H' → H' q = some (.lst ((turnsTo w p sg).map V.int)) → Q (.ref q) H'
theorem ln_law_reach_turns {K : PySem.W.Frag} {vs : List V} {H : Hp} {Q : VK} {E : XK} (h : sp_law_reach_turns K vs H Q E) : vs.length = 3 := by
  obtain ⟨_, _, _, rfl, _⟩ := h
  rfl
def t_law_reach_turns (K : PySem.W.Frag) : TS :=
  (tSeq (tAsg (tCB rLenStr (tCons (tVar 0) tNil)) (gName 3))
  (tRet (tLc (iRng2 (tCons (tOp rSub (tC (.int 1)) (tVar 3)) (tCons (tVar 3) tNil))) (gName 4) (tTest (tOp rEq (tOp rIxS (tVar 0) (tOp rMod (tOp rAdd (tVar 1) (tVar 4)) (tVar 3))) (tVar 2))) (tVar 4) [4])))

theorem rd_law_reach_turns {K : PySem.W.Frag} {vs : List V} {H : Hp} {Q : VK} {E : XK} (h : sp_law_reach_turns K vs H Q E) : t_law_reach_turns K { nx := fun _ H' => Q .non H', rt := Q } (start ["wheel", "place", "sign", "many", "turn"] vs) H := by
  obtain ⟨w, p, sg, rfl, w1, w2, q⟩ := h
  show t_law_reach_turns K _ [some (.str (S w)), some (.int p), some (.str (S sg)), none, none] H
  unfold t_law_reach_turns
  walk_at "go"
  refine g_lenS (by omega) ?_
  walk_at "go"
  refine lcP2 (m := 1 - (w.length : Int)) (n := (w.length : Int)) (fun i => hits w p sg (1 - (w.length : Int) + (i : Int))) (fun i => .int (1 - (w.length : Int) + (i : Int))) (fun QA h => ?_) (by omega) (by omega) (by omega) (by omega) (fun x => rfl) (fun i H' QT hi sm h => ?_) (fun i H' Q hi sm hf h => ?_) (fun l H' nl sm hl => ?_)
  · walk_at "go"
    exact h
  · obtain ⟨b0, b1⟩ := emod_bd (z := p + (1 - (w.length : Int) + (i : Int))) (m := (w.length : Int)) (by omega)
    walk_at "go"
    refine g_I (by omega) ?_
    refine g_ixS (K := K) (by omega) (getD_at b0 b1) ?_
    walk_at "go"
    rw [show decide (V.str (S [w.getD ((p + (1 - (w.length : Int) + (i : Int))) % (w.length : Int)).toNat 0]) = V.str (S sg)) = hits w p sg (1 - (w.length : Int) + (i : Int)) from decide_eq_decide.mpr S_inj']
    exact h
  · walk_at "go"
    exact h
  · have e : ((w.length : Int) - (1 - (w.length : Int))).toNat = 2 * w.length - 1 := by omega
    rw [e, turns_given] at hl
    exact q l H' nl sm hl
def stepsFrom (w : List Nat) (st : Std) (sg : List Nat) (s : Int) : List Stp := (turnsTo w st.1 sg).map fun t => (t, ((st.1 + t) % (w.length : Int), wayOf t st.2), stepCost t st.2 s)
def StepV (H : Hp) (v : V) (x : Stp) : Prop := ∃ a b, v = .ref a ∧ H a = some (.tup [.int x.1, .ref b, .int x.2.2]) ∧ H b = some (.tup [.int x.2.1.1, .int x.2.1.2])
theorem mono_step : Mono StepV := fun G G' v y e ⟨a, b, h1, h2, h3⟩ => ⟨a, b, h1, e _ _ h2, e _ _ h3⟩
def sp_steps_from (K : PySem.W.Frag) : Sp := fun vs H Q _ => ∃ (w : List Nat) (b : Addr) (st : Std) (sg : List Nat) (s : Int), vs = [.str (S w), .ref b, .str (S sg), .int s] ∧ H b = some (.tup [.int st.1, .int st.2]) ∧ 1 ≤ w.length ∧ w.length ≤ 1000 ∧
  ∀ q xs H', H q = none → Same H H' → H' q = some (.lst xs) → Paired (StepV H') xs (stepsFrom w st sg s) → Q (.ref q) H'
theorem ln_steps_from {K : PySem.W.Frag} {vs : List V} {H : Hp} {Q : VK} {E : XK} (h : sp_steps_from K vs H Q E) : vs.length = 4 := by
  obtain ⟨_, _, _, _, _, rfl, _⟩ := h
  rfl
def t_steps_from (K : PySem.W.Frag) : TS :=
  (tSeq (tAsg (tVar 1) (gTup K 2 (gCons (gName 4) (gCons (gName 5) gNil))))
  (tSeq (tAsg (tLst tNil) (gName 6))
  (tSeq (tFor (iList K (tCall (sp_turns_to K) [] E0 (tCons (tVar 0) (tCons (tVar 4) (tCons (tVar 2) tNil))))) (gName 7)
  (tSeq (tAsg (tTup (tCons (tOp rMod (tOp rAdd (tVar 4) (tVar 7)) (tCB rLenStr (tCons (tVar 0) tNil))) (tCons (tCall (sp_way_of K) [] E0 (tCons (tVar 7) (tCons (tVar 5) tNil))) tNil))) (gName 8))
  (tDrop (tBM K "list" rAppend (tVar 6) (tCons (tTup (tCons (tVar 7) (tCons (tVar 8) (tCons (tCall (sp_step_cost K) [] E0 (tCons (tVar 7) (tCons (tVar 5) (tCons (tVar 3) tNil)))) tNil)))) tNil)))))
  (tRet (tVar 6)))))

theorem rd_steps_from {K : PySem.W.Frag} {vs : List V} {H : Hp} {Q : VK} {E : XK} (h : sp_steps_from K vs H Q E) : t_steps_from K { nx := fun _ H' => Q .non H', rt := Q } (start ["wheel", "stand", "sign", "slack", "place", "way", "found", "turn", "later"] vs) H := by
  obtain ⟨w, b, st, sg, s, rfl, hb, w1, w2, q⟩ := h
  show t_steps_from K _ [some (.str (S w)), some (.ref b), some (.str (S sg)), some (.int s), none, none, none, none, none] H
  unfold t_steps_from
  refine g_seq ⟨_, rfl, b, _, rfl, .inl (.inl hb), rfl, _, _, rfl, _, _, rfl, rfl, ?_⟩
  show tSeq _ _ _ [some (.str (S w)), some (.ref b), some (.str (S sg)), some (.int s), some (.int st.1), some (.int st.2), none, none, none] H
  walk_at "go"
  refine ⟨by decide, fun l nl => ?_⟩
  dsimp only
  refine g_seq ?_
  show tCall (sp_turns_to K) [] E0 _ _ _ _
  walk_at "go"
  refine ⟨w, st.1, sg, rfl, w1, w2, fun t H1 nt s1 ht => ?_⟩
  have ltn := turnsTo_len w st.1 sg
  refine ⟨t, rfl, ⟨_, .inl (.inl ht)⟩, for_list (xs := (turnsTo w st.1 sg).map V.int) (fun i σ' H' => H' t = some (.lst ((turnsTo w st.1 sg).map V.int)) ∧ OwnP StepV H l ((stepsFrom w st sg s).take i) H' ∧ ∃ (v7 v8 : Option V), σ' = [some (.str (S w)), some (.ref b), some (.str (S sg)), some (.int s), some (.int st.1), some (.int st.2), some (.ref l), v7, v8]) ⟨ht, (OwnP.new nl).same mono_step s1, _, _, rfl⟩ (fun i σ' H' _ hp => .inl (.inl hp.1)) (fun i x σ' H' hx hp => ?_) (fun σ' H' hp => ?_)⟩
  · obtain ⟨s2, ow, v7, v8, rfl⟩ := hp
    obtain ⟨tn, htn, rfl⟩ := map_at hx
    have hst : (stepsFrom w st sg s)[i]? = some (tn, ((st.1 + tn) % (w.length : Int), wayOf tn st.2), stepCost tn st.2 s) := by unfold stepsFrom; rw [List.getElem?_map, htn]; rfl
    show tSeq _ _ _ _ _
    walk_at "go"
    refine g_lenS (by omega) ?_
    refine g_I (by omega) ?_
    walk_at "go"
    refine ⟨tn, st.2, rfl, ?_⟩
    walk_at "go"
    walk_at "new"
    rename_i p2 np2 H3 s3 hp2
    have ow3 := ow.same mono_step s3
    walk_at "go"
    refine ⟨ow3.ty, ?_⟩
    walk_at "go"
    refine ⟨tn, st.2, s, rfl, ?_⟩
    walk_at "go"
    walk_at "new"
    rename_i p4 np4 H5 s5 hp4
    walk_at "go"
    obtain ⟨xs0, _, _, hl3, _⟩ := id ow3
    have hl5 := s5 _ _ hl3
    refine ow3.app mono_step s5 ?_ (y := (tn, ((st.1 + tn) % (w.length : Int), wayOf tn st.2), stepCost tn st.2 s)) ⟨p4, p2, rfl, but_ne hp4 ?_, but_ne (s5 _ _ hp2) ?_⟩ fun H6 ow6 k6 => ⟨?_, ?_, _, _, rfl⟩
    · rw [List.length_take]
      unfold stepsFrom
      rw [List.length_map]
      omega
    · intro z; rw [z, hl5] at hp4; cases hp4
    · intro z; have := s5 _ _ hp2; rw [z, hl5] at this; cases this
    · rw [k6 t (fun z => by rw [z, upd_same] at nt; cases nt)]
      exact s5 _ _ (s3 _ _ s2)
    · rw [take_snoc hst]
      exact ow6
  · obtain ⟨s2, ow, v7, v8, rfl⟩ := hp
    have el : ((turnsTo w st.1 sg).map V.int).length = (stepsFrom w st sg s).length := by unfold stepsFrom; rw [List.length_map, List.length_map]
    rw [el, List.take_length] at ow
    obtain ⟨xs, h3, h4⟩ := ow.all mono_step
    walk_at "go"
    exact q l xs H' nl ow.sm h3 h4
end Sw
local macro_rules | `(tactic| walk_at "go1") => `(tactic| first
  | with_reducible refine Sw.g_seqasg ?_ | with_reducible refine Sw.g_op ?_ | with_reducible refine Sw.g_var rfl ?_ | with_reducible refine Sw.g_c ?_ | with_reducible refine Sw.g_I0 ?_
  | with_reducible refine Sw.g_cons ?_ | with_reducible refine Sw.g_nil ?_ | with_reducible refine Sw.g_call ?_ | with_reducible refine Sw.g_cb ?_ | with_reducible refine Sw.g_test ?_ | with_reducible refine Sw.g_bl ?_
  | with_reducible refine Sw.g_seqdrop ?_ | with_reducible refine Sw.g_seqsub ?_ | with_reducible refine Sw.g_asg ?_ | with_reducible refine Sw.g_asgsub ?_ | with_reducible refine Sw.g_ret ?_ | with_reducible refine Sw.g_drop ?_ | with_reducible refine Sw.g_if ?_ | with_reducible refine Sw.g_next ?_ | with_reducible refine Sw.g_name ?_
  | with_reducible refine Sw.g_B ?_ | with_reducible refine Sw.g_not ?_ | with_reducible refine Sw.g_and ?_ | with_reducible refine Sw.g_or ?_ | with_reducible refine Sw.g_andV ?_ | with_reducible refine Sw.g_orV ?_ | with_reducible refine Sw.g_notV ?_
  | with_reducible refine Sw.g_ifE ?_ | with_reducible refine Sw.g_chain ?_ | with_reducible refine Sw.g_un ?_ | with_reducible refine Sw.g_tup ?_ | with_reducible refine Sw.g_lst ?_ | with_reducible refine Sw.g_sl ?_ | with_reducible refine Sw.g_part ?_ | with_reducible refine Sw.g_nopart ?_
  | with_reducible refine Sw.g_U ?_ | with_reducible refine Sw.g_eq rfl ?_ | with_reducible refine Sw.g_ne rfl ?_ | with_reducible refine Sw.g_int ?_ | with_reducible refine Sw.g_yes ?_ | with_reducible refine L2.iteT ?_ | with_reducible refine L2.iteF ?_ | with_reducible refine Sw.iteNT ?_ | with_reducible refine Sw.iteNF ?_ | with_reducible refine Sw.g_m1 ?_ | with_reducible refine Sw.g_bm ?_ | with_reducible refine ⟨Sw.ty_lst (by assumption), ?_⟩ | with_reducible refine Sw.g_sput ?_ | with_reducible refine Sw.g_put ?_ | with_reducible refine Sw.g_dget2 ?_ | with_reducible refine Sw.g_dget ?_ | with_reducible refine Sw.g_dK ?_ | with_reducible refine Sw.g_dT ?_ | with_reducible refine Sw.g_dnotin ?_ | with_reducible refine Sw.g_din ?_ | with_reducible refine Sw.g_bm0 ?_
  | with_reducible refine Sw.g_ixL (by assumption) rfl ?_ | with_reducible refine Sw.g_ixT (by assumption) rfl ?_)
local macro_rules | `(tactic| walk_at "go") => `(tactic| repeat walk_at "go1")
local macro_rules | `(tactic| walk_at "bd") => `(tactic| repeat (first | with_reducible exact Sw.all_nil | refine Sw.all_cons ⟨_, rfl, by omega, by omega⟩ ?_))
local macro_rules | `(tactic| walk_at "new") => `(tactic| (refine ⟨Nat.le_of_ble_eq_true rfl, fun p np => ?_⟩; generalize hX : L2.upd _ p _ = H'; have sm : L2.Same _ H' := hX ▸ Sw.same_upd np; have hp : H' p = some _ := hX ▸ L2.upd_same; clear hX))
namespace Sw
open PySem PySem.Spec PyProof.Rows L2 SX
/-! ### tables of least costs, by stands -/
section
variable {σ : L2.St} {H : Hp} {D : Ends} {te : TE} {tb : TS} {j : Nat}
/-- for k in d, the keys tuples -/
theorem forKeys {d : Addr} {kvs : List (List Key × V)} (hd : H d = some (.dT kvs)) (hn : ∀ (od : Obj) (Q : VK), Q (.ref d) (upd H d (.frz od (.dT kvs))) → te σ (upd H d (.frz od (.dT kvs))) Q)
    (Pv : Obj → Nat → L2.St → Hp → Prop) (p0 : ∀ od, Pv od 0 σ (upd H d (.frz od (.dT kvs)))) (hl : ∀ od i σ' H', Pv od i σ' H' → H' d = some (.frz od (.dT kvs)))
    (ps : ∀ (od : Obj) (i : Nat) (k : List Key) (v : V) (q : Addr) σ' H' (D' : Ends), kvs[i]? = some (k, v) → H' q = some (.tup (k.map kV)) → Pv od i σ' H' → (∀ σ2 H2, Pv od (i + 1) σ2 H2 → D'.nx σ2 H2) → tb D' (σ'.set j (some (.ref q))) H')
    (pd : ∀ (od : Obj) σ' H', Pv od kvs.length σ' H' → D.nx σ' (upd H' d (.dT kvs))) : tLock (tFor (iKeys te) (gName j) tb) D σ H := by
  refine ⟨d, .dT kvs, hd, True.intro, fun od => hn od _ ⟨d, od, rfl, .inr ⟨kvs, upd_same, fun i m σ H => m = kvs.length - i ∧ i ≤ kvs.length ∧ Pv od i σ H, ⟨kvs.length, by omega, by omega, p0 od⟩, ?_⟩⟩⟩
  rintro i m σ' H' ⟨rfl, hi, p⟩
  have hf := hl od i σ' H' p
  by_cases hlt : i < kvs.length
  · refine .inr ⟨⟨hf, hlt⟩, Pv od (i + 1), fun σ2 H2 p' => ⟨kvs.length - (i + 1), by omega, rfl, by omega, p'⟩, fun x H2 y => ?_⟩
    obtain ⟨rfl, k, v, q, hk, rfl, hq⟩ := y
    exact ps od i k v q σ' _ _ hk hq p fun _ _ z => z
  · have e : i = kvs.length := by omega
    subst e
    exact .inl ⟨⟨hf, Nat.le_refl _⟩, hf, pd od σ' H' p⟩
end
abbrev Row := List (Std × Int)
def encK (st : Std) : List Key := [.inl st.1, .inl st.2]
theorem encK_inj {a b : Std} : encK a = encK b ↔ a = b := by
  constructor
  · intro h
    unfold encK at h
    simp only [List.cons.injEq, Sum.inl.injEq, and_true] at h
    exact Prod.ext h.1 h.2
  · intro h; rw [h]
def encR (R : Row) : List (List Key × V) := R.map fun e => (encK e.1, .int e.2)
def valI (R : Row) (st : Std) : Option Int := (R.find? fun e => decide (e.1 = st)).map (·.2)
def putI (R : Row) (st : Std) (c : Int) : Row := if (R.any fun e => decide (e.1 = st)) = true then R.map (fun e => if e.1 = st then (e.1, c) else e) else R ++ [(st, c)]
theorem valV_enc (R : Row) (st : Std) : valV (encR R) (encK st) = (valI R st).map V.int := by
  induction R with
  | nil => rfl
  | cons e R ih =>
    show valV ((encK e.1, V.int e.2) :: encR R) (encK st) = _
    by_cases h : e.1 = st
    · rw [valV_pos (by show encK e.1 = encK st; rw [h])]
      unfold valI
      rw [List.find?_cons_of_pos (by simpa using h)]
      rfl
    · rw [valV_neg (by show ¬ encK e.1 = encK st; rw [encK_inj]; exact h), ih]
      unfold valI
      rw [List.find?_cons_of_neg (by simpa using h)]
theorem any_enc (R : Row) (st : Std) : ((encR R).any fun kv => decide (kv.1 = encK st)) = R.any fun e => decide (e.1 = st) := by
  unfold encR
  rw [List.any_map]
  congr 1
  funext e
  show decide (encK e.1 = encK st) = decide (e.1 = st)
  rw [decide_eq_decide]
  exact encK_inj
theorem put_enc (R : Row) (st : Std) (c : Int) : putK (encR R) (encK st) (.int c) = encR (putI R st c) := by
  unfold putK putI
  rw [any_enc]
  by_cases h : (R.any fun e => decide (e.1 = st)) = true
  · rw [if_pos h, if_pos h]
    unfold encR
    rw [List.map_map, List.map_map]
    apply List.map_congr_left
    intro e _
    show (if encK e.1 = encK st then (encK e.1, V.int c) else (encK e.1, V.int e.2)) = _
    by_cases z : e.1 = st
    · rw [if_pos (encK_inj.mpr z)]
      show _ = (encK (if e.1 = st then (e.1, c) else e).1, V.int (if e.1 = st then (e.1, c) else e).2)
      rw [if_pos z]
    · rw [if_neg (fun y => z (encK_inj.mp y))]
      show _ = (encK (if e.1 = st then (e.1, c) else e).1, V.int (if e.1 = st then (e.1, c) else e).2)
      rw [if_neg z]
  · rw [if_neg h, if_neg h]
    unfold encR
    rw [List.map_append]
    rfl
theorem vmap_inj {a b : Option Int} (h : a.map V.int = b.map V.int) : a = b := by
  cases a <;> cases b <;> simp_all
theorem valI_put (R : Row) (st st' : Std) (c : Int) : valI (putI R st c) st' = if st' = st then some c else valI R st' := by
  apply vmap_inj
  rw [← valV_enc, ← put_enc, valV_put]
  by_cases h : st' = st
  · rw [if_pos (encK_inj.mpr h), if_pos h]; rfl
  · rw [if_neg (fun z => h (encK_inj.mp z)), if_neg h, valV_enc]
def Nd (R : Row) : Prop := (R.map (·.1)).Nodup
theorem nd_put {R : Row} {st : Std} {c : Int} (h : Nd R) : Nd (putI R st c) := by
  unfold Nd putI at *
  by_cases z : (R.any fun e => decide (e.1 = st)) = true
  · rw [if_pos z]
    have e : (R.map fun e => if e.1 = st then (e.1, c) else e).map (·.1) = R.map (·.1) := by
      rw [List.map_map]
      apply List.map_congr_left
      intro e _
      show (if e.1 = st then (e.1, c) else e).1 = e.1
      split <;> rfl
    rw [e]
    exact h
  · rw [if_neg z, List.map_append, List.nodup_append]
    refine ⟨h, by simp, ?_⟩
    intro a ha b hb
    have eb : b = st := by simpa using hb
    subst eb
    intro e
    subst e
    apply z
    rw [List.any_eq_true]
    obtain ⟨x, hx, ex⟩ := List.mem_map.mp ha
    exact ⟨x, hx, by simpa using ex⟩
theorem valI_mem {R : Row} (h : Nd R) {st : Std} {c : Int} : (st, c) ∈ R ↔ valI R st = some c := by
  induction R with
  | nil => simp [valI]
  | cons e R ih =>
    unfold Nd at h
    rw [List.map_cons, List.nodup_cons] at h
    by_cases z : e.1 = st
    · unfold valI
      rw [List.find?_cons_of_pos (by simpa using z)]
      constructor
      · intro hm
        rcases List.mem_cons.mp hm with y | y
        · rw [← y]; rfl
        · exact absurd (List.mem_map.mpr ⟨_, y, z.symm⟩) h.1
      · intro hm
        have : e = (st, c) := Prod.ext z (by simpa using hm)
        rw [this]
        exact List.mem_cons_self
    · have hv : valI (e :: R) st = valI R st := by unfold valI; rw [List.find?_cons_of_neg (by simpa using z)]
      rw [hv, ← ih h.2, List.mem_cons]
      constructor
      · rintro (y | y)
        · exact absurd (by rw [← y]) z
        · exact y
      · exact Or.inr
theorem putI_len (R : Row) (st : Std) (c : Int) : (putI R st c).length ≤ R.length + 1 := by
  unfold putI
  split
  · rw [List.length_map]; omega
  · rw [List.length_append]; exact Nat.le_refl _
def relax (R : Row) (e : Std × Int) : Row := match valI R e.1 with
  | none => putI R e.1 e.2
  | some c => if e.2 < c then putI R e.1 e.2 else R
def relaxAll (L : List (Std × Int)) : Row := L.foldl relax []
theorem relax_nd {R : Row} {e : Std × Int} (h : Nd R) : Nd (relax R e) := by
  unfold relax
  split
  · exact nd_put h
  · split
    · exact nd_put h
    · exact h
theorem relaxAll_snoc (L : List (Std × Int)) (e : Std × Int) : relaxAll (L ++ [e]) = relax (relaxAll L) e := by unfold relaxAll; rw [List.foldl_append]; rfl
theorem foldr_nd : ∀ (L : List (Std × Int)) (R : Row), Nd R → Nd (L.foldl relax R)
  | [], _, h => h
  | e :: L, R, h => foldr_nd L (relax R e) (relax_nd h)
theorem relaxAll_nd (L : List (Std × Int)) : Nd (relaxAll L) := foldr_nd L [] (by unfold Nd; simp)
theorem relax_len (R : Row) (e : Std × Int) : (relax R e).length ≤ R.length + 1 := by
  unfold relax
  split
  · exact putI_len _ _ _
  · split
    · exact putI_len _ _ _
    · omega
def nextOf (w : List Nat) (s : Int) (sg : List Nat) (e : Std × Int) : List (Std × Int) := (stepsFrom w e.1 sg s).map fun x => (x.2.1, e.2 + x.2.2)
def nexts (w : List Nat) (s : Int) (sg : List Nat) (R : Row) : List (Std × Int) := R.flatMap (nextOf w s sg)
def rowNext (w : List Nat) (s : Int) (sg : List Nat) (R : Row) : Row := relaxAll (nexts w s sg R)
def rowI (w : List Nat) (s : Int) (p : Int) (word : List Nat) : Row := word.foldl (fun R c => rowNext w s [c] R) [((p, 0), 0)]
theorem rowI_snoc (w : List Nat) (s p : Int) (word : List Nat) (c : Nat) : rowI w s p (word ++ [c]) = rowNext w s [c] (rowI w s p word) := by unfold rowI; rw [List.foldl_append]; rfl
theorem rowI_nd (w : List Nat) (s p : Int) : ∀ word : List Nat, Nd (rowI w s p word) := fun word => by
  rcases List.eq_nil_or_concat word with rfl | ⟨l, c, rfl⟩
  · unfold Nd rowI; simp
  · rw [List.concat_eq_append, rowI_snoc]
    exact relaxAll_nd _
/-! ### the stands that may come -/
def StOk (n : Nat) (st : Std) : Prop := 0 ≤ st.1 ∧ st.1 < (n : Int) ∧ -1 ≤ st.2 ∧ st.2 ≤ 1
def RowOk (n : Nat) (R : Row) : Prop := Nd R ∧ ∀ e ∈ R, StOk n e.1
def code (n : Nat) (st : Std) : Nat := (st.1 + (st.2 + 1) * (n : Int)).toNat
theorem code_lt {n : Nat} {st : Std} (h : StOk n st) : code n st < 3 * n := by
  obtain ⟨h1, h2, h3, h4⟩ := h
  unfold code
  have : st.2 = -1 ∨ st.2 = 0 ∨ st.2 = 1 := by omega
  rcases this with e | e | e <;> rw [e] <;> omega
theorem code_inj {n : Nat} {a b : Std} (ha : StOk n a) (hb : StOk n b) (h : code n a = code n b) : a = b := by
  obtain ⟨a1, a2, a3, a4⟩ := ha
  obtain ⟨b1, b2, b3, b4⟩ := hb
  unfold code at h
  have x : a.2 = -1 ∨ a.2 = 0 ∨ a.2 = 1 := by omega
  have y : b.2 = -1 ∨ b.2 = 0 ∨ b.2 = 1 := by omega
  apply Prod.ext
  · rcases x with e | e | e <;> rcases y with e' | e' | e' <;> rw [e, e'] at h <;> omega
  · rcases x with e | e | e <;> rcases y with e' | e' | e' <;> rw [e, e'] at h <;> omega
theorem nodup_lt : ∀ (n : Nat) (l : List Nat), l.Nodup → (∀ x ∈ l, x < n) → l.length ≤ n
  | 0, l, _, h => by
    cases l with
    | nil => exact Nat.le_refl _
    | cons a l => exact absurd (h a List.mem_cons_self) (Nat.not_lt_zero _)
  | n + 1, l, nd, h => by
    by_cases hm : n ∈ l
    · have h1 := nodup_lt n (l.erase n) (nd.erase n) fun x hx => by
        have z := (List.Nodup.mem_erase_iff nd).mp hx
        have := h x z.2
        have := z.1
        omega
      rw [List.length_erase_of_mem hm] at h1
      have : 0 < l.length := List.length_pos_of_mem hm
      omega
    · have h1 := nodup_lt n l nd fun x hx => by
        have := h x hx
        have : x ≠ n := fun e => hm (e ▸ hx)
        omega
      omega
theorem row_len {n : Nat} {R : Row} (h : RowOk n R) : R.length ≤ 3 * n := by
  have hnd : (R.map fun e => code n e.1).Nodup := by
    have h1 := h.1
    unfold Nd at h1
    have e : (R.map fun e => code n e.1) = (R.map (·.1)).map (code n) := by rw [List.map_map]; rfl
    rw [e]
    have all : ∀ st ∈ R.map (·.1), StOk n st := fun st hst => by
      obtain ⟨x, hx, rfl⟩ := List.mem_map.mp hst
      exact h.2 x hx
    revert h1 all
    generalize R.map (·.1) = l
    intro h1 all
    induction l with
    | nil => simp
    | cons a l ih =>
      rw [List.nodup_cons] at h1
      rw [List.map_cons, List.nodup_cons]
      refine ⟨fun hm => ?_, ih h1.2 fun st hst => all st (List.mem_cons_of_mem _ hst)⟩
      obtain ⟨b, hb, eb⟩ := List.mem_map.mp hm
      have := code_inj (all b (List.mem_cons_of_mem _ hb)) (all a List.mem_cons_self) eb
      exact h1.1 (this ▸ hb)
  have := nodup_lt (3 * n) _ hnd fun x hx => by
    obtain ⟨e, he, rfl⟩ := List.mem_map.mp hx
    exact code_lt (h.2 e he)
  rw [List.length_map] at this
  exact this
theorem put_mem {R : Row} {st : Std} {c : Int} {e : Std × Int} (h : e ∈ putI R st c) : e ∈ R ∨ e = (st, c) := by
  unfold putI at h
  split at h
  · obtain ⟨x, hx, ex⟩ := List.mem_map.mp h
    by_cases z : x.1 = st
    · rw [if_pos z] at ex
      exact .inr (by rw [← ex, z])
    · rw [if_neg z] at ex
      exact .inl (ex ▸ hx)
  · rcases List.mem_append.mp h with z | z
    · exact .inl z
    · exact .inr (List.mem_singleton.mp z)
theorem relax_mem {R : Row} {x e : Std × Int} (h : e ∈ relax R x) : e ∈ R ∨ e = x := by
  unfold relax at h
  split at h
  · exact put_mem h
  · split at h
    · exact put_mem h
    · exact .inl h
theorem fold_mem : ∀ (L : List (Std × Int)) (R : Row) {e : Std × Int}, e ∈ L.foldl relax R → e ∈ R ∨ e ∈ L
  | [], _, _, h => .inl h
  | x :: L, R, e, h => by
    rcases fold_mem L (relax R x) h with z | z
    · rcases relax_mem z with y | y
      · exact .inl y
      · exact .inr (y ▸ List.mem_cons_self)
    · exact .inr (List.mem_cons_of_mem _ z)
theorem relaxAll_mem {L : List (Std × Int)} {e : Std × Int} (h : e ∈ relaxAll L) : e ∈ L := by
  rcases fold_mem L [] h with z | z
  · exact nomatch z
  · exact z
theorem wayOf_bd {t w : Int} (h1 : -1 ≤ w) (h2 : w ≤ 1) : -1 ≤ wayOf t w ∧ wayOf t w ≤ 1 := by
  unfold wayOf
  split
  · omega
  · split <;> omega
theorem nextOf_ok {w : List Nat} {s : Int} {sg : List Nat} {e x : Std × Int} (hw : 0 < w.length) (h : StOk w.length e.1) (hx : x ∈ nextOf w s sg e) : StOk w.length x.1 := by
  unfold nextOf stepsFrom at hx
  rw [List.map_map] at hx
  obtain ⟨t, _, rfl⟩ := List.mem_map.mp hx
  obtain ⟨a, b⟩ := emod_bd (z := e.1.1 + t) (m := (w.length : Int)) (by omega)
  obtain ⟨c, d⟩ := wayOf_bd (t := t) h.2.2.1 h.2.2.2
  exact ⟨a, b, c, d⟩
theorem nexts_ok {w : List Nat} {s : Int} {sg : List Nat} {R : Row} (hw : 0 < w.length) (h : ∀ e ∈ R, StOk w.length e.1) : ∀ x ∈ nexts w s sg R, StOk w.length x.1 := fun x hx => by
  unfold nexts at hx
  obtain ⟨e, he, hx⟩ := List.mem_flatMap.mp hx
  exact nextOf_ok hw (h e he) hx
theorem relaxAll_ok {n : Nat} {L : List (Std × Int)} (h : ∀ x ∈ L, StOk n x.1) : RowOk n (relaxAll L) := ⟨relaxAll_nd L, fun e he => h e (relaxAll_mem he)⟩
theorem rowI_ok {w : List Nat} {s p : Int} (hw : 0 < w.length) (h0 : 0 ≤ p) (h1 : p < (w.length : Int)) : ∀ (word : List Nat), RowOk w.length (rowI w s p word) := fun word => by
  have : ∀ (k : Nat), k ≤ word.length → RowOk w.length (rowI w s p (word.take k)) := by
    intro k
    induction k with
    | zero =>
      intro _
      refine ⟨by unfold Nd rowI; simp, fun e he => ?_⟩
      have : e = ((p, 0), 0) := by simpa [rowI] using he
      rw [this]
      exact ⟨h0, h1, by show (-1 : Int) ≤ 0; decide, by show (0 : Int) ≤ 1; decide⟩
    | succ k ih =>
      intro hk
      obtain ⟨x, hx⟩ : ∃ x, word[k]? = some x := ⟨_, List.getElem?_eq_getElem (by omega)⟩
      rw [take_snoc hx, rowI_snoc]
      exact relaxAll_ok (nexts_ok hw (ih (by omega)).2)
  have h := this word.length (Nat.le_refl _)
  rwa [List.take_length] at h
def RowV (H : Hp) (v : V) (R : Row) : Prop := ∃ a, v = .ref a ∧ H a = some (.dT (encR R))
theorem mono_row : Mono RowV := fun G G' v y e ⟨a, h1, h2⟩ => ⟨a, h1, e _ _ h2⟩
def rowsI (w : List Nat) (s p : Int) (word : List Nat) (k : Nat) : List Row := (List.range k).map fun i => rowI w s p (word.take i)
theorem rowsI_succ (w : List Nat) (s p : Int) (word : List Nat) (k : Nat) : rowsI w s p word (k + 1) = rowsI w s p word k ++ [rowI w s p (word.take k)] := by unfold rowsI; rw [List.range_succ, List.map_append]; rfl
theorem enc_len (R : Row) : (encR R).length = R.length := by unfold encR; rw [List.length_map]
theorem nexts_take {w : List Nat} {s : Int} {sg : List Nat} {R : Row} {k : Nat} {e : Std × Int} (h : R[k]? = some e) : nexts w s sg (R.take (k + 1)) = nexts w s sg (R.take k) ++ nextOf w s sg e := by
  unfold nexts
  rw [take_snoc h, List.flatMap_append]
  simp
def sp_rows_from (K : PySem.W.Frag) : Sp := fun vs H Q _ => ∃ (w word : List Nat) (s p : Int), vs = [.str (S w), .str (S word), .int s, .int p] ∧ 1 ≤ w.length ∧ w.length ≤ 1000 ∧ word.length ≤ 1000 ∧ 0 ≤ p ∧ p < (w.length : Int) ∧
  ∀ q xs H', H q = none → Same H H' → H' q = some (.lst xs) → Paired (RowV H') xs (rowsI w s p word (word.length + 1)) → Q (.ref q) H'
theorem ln_rows_from {K : PySem.W.Frag} {vs : List V} {H : Hp} {Q : VK} {E : XK} (h : sp_rows_from K vs H Q E) : vs.length = 4 := by
  obtain ⟨_, _, _, _, rfl, _⟩ := h
  rfl
def t_rows_from (K : PySem.W.Frag) : TS :=
  (tSeq (tAsg (tDispT (tTup (tCons (tVar 3) (tCons (tC (.int 0)) tNil))) (tC (.int 0))) (gName 4))
  (tSeq (tAsg (tLst (tCons (tVar 4) tNil)) (gName 5))
  (tSeq (tFor (iStr (tVar 1)) (gName 6)
  (tSeq (tAsg tDNewT (gName 7))
  (tSeq (tLock (tFor (iKeys (tVar 4)) (gName 8)
  (tFor (iList K (tCall (sp_steps_from K) [] E0 (tCons (tVar 0) (tCons (tVar 8) (tCons (tVar 6) (tCons (tVar 2) tNil)))))) (gTup K 3 (gCons (gName 9) (gCons (gName 10) (gCons (gName 11) gNil))))
  (tSeq (tAsg (tOp rAdd (tDGet (tVar 4) (tVar 8)) (tVar 11)) (gName 12))
  (tIfS (tOr (tB (tDNotIn (tVar 10) (tVar 7))) (tTest (tOp rLt (tVar 12) (tDGet (tVar 7) (tVar 10))))) (sDPut (tVar 7) (tVar 10) (tVar 12)) tNext)))))
  (tSeq (tAsg (tVar 7) (gName 4))
  (tDrop (tBM K "list" rAppend (tVar 5) (tCons (tVar 4) tNil)))))))
  (tRet (tVar 5)))))

set_option maxHeartbeats 8000000 in
theorem rd_rows_from {K : PySem.W.Frag} {vs : List V} {H : Hp} {Q : VK} {E : XK} (h : sp_rows_from K vs H Q E) : t_rows_from K { nx := fun _ H' => Q .non H', rt := Q } (start ["wheel", "word", "slack", "place", "row", "rows", "sign", "later", "stand", "turn", "there", "more", "least"] vs) H := by
  obtain ⟨w, word, s, p, rfl, w1, w2, lwd, p0, p1, q⟩ := h
  show t_rows_from K _ [some (.str (S w)), some (.str (S word)), some (.int s), some (.int p), none, none, none, none, none, none, none, none, none] H
  unfold t_rows_from
  refine g_seqasg fun d nd => ?_
  walk_at "go"
  refine ⟨by show 2 ≤ sizeLine; decide, fun b nb => ?_⟩
  have nbd : d ≠ b := fun z => by rw [← z, upd_same] at nb; cases nb
  refine g_c ⟨by rw [upd_ne nbd]; exact upd_same, b, encK (p, 0), rfl, upd_same, ?_⟩
  have sH : Same H (upd (upd (upd H d (.dT [])) b (.tup [.int p, .int 0])) d (.dT [(encK (p, 0), .int 0)])) := fun x o e => by
    rw [upd_ne (ne_of_none e nd)]
    exact same_upd nb _ _ (same_upd nd _ _ e)
  have hd : upd (upd (upd H d (.dT [])) b (.tup [.int p, .int 0])) d (.dT [(encK (p, 0), .int 0)]) d = some (.dT (encR (rowI w s p (word.take 0)))) := upd_same
  generalize upd (upd (upd H d (.dT [])) b (.tup [.int p, .int 0])) d (.dT [(encK (p, 0), .int 0)]) = H0 at sH hd
  walk_at "go"
  refine ⟨by show 1 ≤ sizeLine; decide, fun r nr => ?_⟩
  have ndr : d ≠ r := fun z => by rw [← z, hd] at nr; cases nr
  have ow0 : OwnP RowV H r (rowsI w s p word 1) (upd H0 r (.lst [.ref d])) := ⟨[.ref d], sH.free nr, sH.trans (same_upd nr), upd_same, .cons ⟨d, rfl, but_ne (same_upd nr _ _ hd) ndr⟩ .nil⟩
  have hd0 : upd H0 r (.lst [.ref d]) d = some (.dT (encR (rowI w s p (word.take 0)))) := same_upd nr _ _ hd
  generalize upd H0 r (.lst [.ref d]) = H1 at ow0 hd0
  clear hd sH nbd nb b nr
  have hnone : H d = none := nd
  refine g_seq (forS (l := word) (fun Q h => ?_) (fun i σ' H' => OwnP RowV H r (rowsI w s p word (i + 1)) H' ∧ ∃ d, d ≠ r ∧ H' d = some (.dT (encR (rowI w s p (word.take i)))) ∧ ∃ (v6 v7 v8 v9 v10 v11 v12 : Option V), σ' = [some (.str (S w)), some (.str (S word)), some (.int s), some (.int p), some (.ref d), some (.ref r), v6, v7, v8, v9, v10, v11, v12]) ⟨ow0, d, ndr, hd0, _, _, _, _, _, _, _, rfl⟩ (fun i c σ' H' hc hp => ?_) (fun σ' H' hp => ?_))
  · walk_at "go"
    exact h
  · obtain ⟨ow, d, ndr, hd, v6, v7, v8, v9, v10, v11, v12, rfl⟩ := hp
    have hok := rowI_ok (s := s) (by omega) p0 p1 (word.take i)
    have li : i < word.length := (List.getElem?_eq_some_iff.mp hc).1
    rw [take_snoc hc, rowI_snoc] at *
    generalize hR : rowI w s p (word.take i) = R at hd hok
    walk_at "go"
    intro m nm
    have nmd : m ≠ d := fun z => by rw [z, hd] at nm; cases nm
    obtain ⟨xs0, hr0, _, hr, _⟩ := id ow
    have nmr : m ≠ r := fun z => by rw [z, hr] at nm; cases nm
    have hd1 : upd H' m (.dT []) d = some (.dT (encR R)) := same_upd nm _ _ hd
    refine g_seq (forKeys (d := d) (kvs := encR R) hd1 (fun od Q h => ?_) (fun od k σ' H2 => Same (but (upd (upd H' m (.dT [])) d (.frz od (.dT (encR R)))) m) H2 ∧ H2 m = some (.dT (encR (relaxAll (nexts w s [c] (R.take k))))) ∧ ∃ (v8 v9 v10 v11 v12 : Option V), σ' = [some (.str (S w)), some (.str (S word)), some (.int s), some (.int p), some (.ref d), some (.ref r), some (.str (S [c])), some (.ref m), v8, v9, v10, v11, v12]) (fun od => ⟨but_sub, by rw [upd_ne nmd]; exact upd_same, _, _, _, _, _, rfl⟩) (fun od k σ' H2 hp => hp.1 _ _ (but_ne upd_same nmd.symm)) (fun od k key v qk σ' H2 D' hk hq hp hD => ?_) (fun od σ' H2 hp => ?_))
    · walk_at "go"
      exact h
    · obtain ⟨s2, hm2, v8, v9, v10, v11, v12, rfl⟩ := hp
      unfold encR at hk
      rw [List.getElem?_map] at hk
      obtain ⟨e, he, ee⟩ := Option.map_eq_some_iff.mp hk
      cases ee
      have hfr : H2 d = some (.frz od (.dT (encR R))) := s2 _ _ (but_ne upd_same nmd.symm)
      have hst := hok.2 e (List.mem_of_getElem? he)
      have hL : ∀ x ∈ nexts w s [c] (R.take k), StOk w.length x.1 := nexts_ok (by omega) fun x hx => hok.2 x (List.mem_of_mem_take hx)
      have hv : valI R e.1 = some e.2 := (valI_mem hok.1).mp (List.mem_of_getElem? he)
      show tCall (sp_steps_from K) [] E0 _ _ _ _
      walk_at "go"
      refine ⟨w, qk, e.1, [c], s, rfl, hq, w1, w2, fun ls xs H4 nls s4 hls hpd => ?_⟩
      have nml : ls ≠ m := fun z => by rw [z, hm2] at nls; cases nls
      have hm4 := s4 _ _ hm2
      have hfr4 := s4 _ _ hfr
      have hq4 := s4 _ _ hq
      refine ⟨ls, rfl, ⟨xs, .inl (.inl hls)⟩, for_list (xs := xs) (fun z σ' H5 => Same (but H4 m) H5 ∧ H5 m = some (.dT (encR (relaxAll (nexts w s [c] (R.take k) ++ (nextOf w s [c] e).take z)))) ∧ ∃ (v9 v10 v11 v12 : Option V), σ' = [some (.str (S w)), some (.str (S word)), some (.int s), some (.int p), some (.ref d), some (.ref r), some (.str (S [c])), some (.ref m), some (.ref qk), v9, v10, v11, v12]) ⟨but_sub, by rw [List.take_zero, List.append_nil]; exact hm4, _, _, _, _, rfl⟩ (fun z σ' H5 _ hp => .inl (.inl (hp.1 _ _ (but_ne hls nml)))) (fun z x σ' H5 hx hp => ?_) (fun σ' H5 hp => ?_)⟩
      · obtain ⟨s5, hm5, v9, v10, v11, v12, rfl⟩ := hp
        obtain ⟨stp, hstp, a, b, rfl, ha, hb⟩ := paired_get hpd hx
        have hnx : (nextOf w s [c] e)[z]? = some (stp.2.1, e.2 + stp.2.2) := by unfold nextOf; rw [List.getElem?_map, hstp]; rfl
        have ha5 := s5 _ _ (but_ne ha fun y => by rw [y, hm4] at ha; cases ha)
        have hb5 := s5 _ _ (but_ne hb fun y => by rw [y, hm4] at hb; cases hb)
        have hq5 := s5 _ _ (but_ne hq4 fun y => by rw [y, hm4] at hq4; cases hq4)
        have hfr5 := s5 _ _ (but_ne hfr4 nmd.symm)
        refine ⟨a, _, rfl, .inl (.inl ha5), rfl, _, _, rfl, _, _, rfl, _, _, rfl, rfl, ?_⟩
        show tSeq _ _ _ [some (.str (S w)), some (.str (S word)), some (.int s), some (.int p), some (.ref d), some (.ref r), some (.str (S [c])), some (.ref m), some (.ref qk), some (.int stp.1), some (.ref b), some (.int stp.2.2), v12] H5
        have hL5 : ∀ x ∈ nexts w s [c] (R.take k) ++ (nextOf w s [c] e).take z, StOk w.length x.1 := fun x hx => by
          rcases List.mem_append.mp hx with y | y
          · exact hL x y
          · exact nextOf_ok (by omega) hst (List.mem_of_mem_take y)
        have hlen := row_len (relaxAll_ok hL5)
        walk_at "go"
        refine ⟨d, .int e.2, rfl, .inr ⟨encR R, encK e.1, qk, .inr ⟨od, hfr5⟩, rfl, hq5, by rw [valV_enc, hv]; rfl⟩, ?_⟩
        walk_at "go"
        rw [take_snoc hnx, ← List.append_assoc, relaxAll_snoc]
        generalize relaxAll (nexts w s [c] (R.take k) ++ (nextOf w s [c] e).take z) = T at hm5 hlen
        have hTl : (encR T).length < sizeLine := by rw [enc_len]; exact Nat.lt_of_le_of_lt (show T.length ≤ 3000 by omega) (by decide)
        refine ⟨m, _, rfl, .inr ⟨encR T, encK stp.2.1, b, .inl hm5, rfl, hb5, rfl⟩, ?_⟩
        rw [valV_enc]
        unfold relax
        cases hvt : valI T stp.2.1 with
        | none =>
          walk_at "go"
          refine iteT ?_
          walk_at "go"
          refine ⟨m, _, rfl, .inr ⟨encR T, encK stp.2.1, b, hm5, rfl, hb5, hTl, rfl⟩, ?_⟩
          rw [put_enc]
          refine ⟨fun x o y => ?_, upd_same, _, _, _, _, rfl⟩
          rw [upd_ne (fun u => by rw [u] at y; unfold but at y; rw [if_pos rfl] at y; cases y)]
          exact s5 _ _ y
        | some c0 =>
          walk_at "go"
          refine iteF ?_
          walk_at "go"
          refine ⟨m, .int c0, rfl, .inr ⟨encR T, encK stp.2.1, b, .inl hm5, rfl, hb5, by rw [valV_enc, hvt]; rfl⟩, ?_⟩
          walk_at "go"
          refine ite_d (fun hlt => ?_) (fun hlt => ?_)
          · walk_at "go"
            refine ⟨m, _, rfl, .inr ⟨encR T, encK stp.2.1, b, hm5, rfl, hb5, hTl, rfl⟩, ?_⟩
            rw [put_enc]
            refine ⟨fun x o y => ?_, ?_, _, _, _, _, rfl⟩
            · rw [upd_ne (fun u => by rw [u] at y; unfold but at y; rw [if_pos rfl] at y; cases y)]
              exact s5 _ _ y
            · rw [upd_same]
              show _ = some (HO.dT (encR (if _ < c0 then _ else _)))
              rw [if_pos hlt]
          · walk_at "go"
            refine ⟨s5, ?_, _, _, _, _, rfl⟩
            rw [hm5]
            show _ = some (HO.dT (encR (if _ < c0 then _ else _)))
            rw [if_neg hlt]
      · obtain ⟨s5, hm5, v9, v10, v11, v12, rfl⟩ := hp
        have el : xs.length = (nextOf w s [c] e).length := by rw [Paired.length hpd]; unfold nextOf; rw [List.length_map]
        rw [el, List.take_length, ← nexts_take he] at hm5
        refine hD _ _ ⟨fun x o y => ?_, hm5, _, _, _, _, _, rfl⟩
        have hx : x ≠ m := fun u => by rw [u] at y; unfold but at y; rw [if_pos rfl] at y; cases y
        exact s5 _ _ (but_ne (s4 _ _ (s2 _ _ y)) hx)
    · obtain ⟨s2, hm2, v8, v9, v10, v11, v12, rfl⟩ := hp
      rw [enc_len, List.take_length] at hm2
      have s3 : Same H' (upd H2 d (.dT (encR R))) := fun x o y => by
        by_cases hx : x = d
        · subst hx
          rw [upd_same]
          rw [hd] at y
          exact y
        · rw [upd_ne hx]
          have hxm : x ≠ m := ne_of_none y nm
          exact s2 _ _ (but_ne (by rw [upd_ne hx, upd_ne hxm]; exact y) hxm)
      have hm3 : upd H2 d (.dT (encR R)) m = some (.dT (encR (rowNext w s [c] R))) := by rw [upd_ne nmd]; exact hm2
      generalize upd H2 d (.dT (encR R)) = H3 at s3 hm3
      walk_at "go"
      refine ⟨(ow.same mono_row s3).ty, ?_⟩
      walk_at "go"
      refine ow.app mono_row s3 (by unfold rowsI; simp; omega) (y := rowNext w s [c] R) ⟨m, rfl, but_ne hm3 nmr⟩ fun H4 ow4 k4 => ⟨?_, m, nmr, ?_, _, _, _, _, _, _, _, rfl⟩
      · rw [rowsI_succ, take_snoc hc, rowI_snoc, hR]
        exact ow4
      · rw [k4 m nmr]
        exact hm3
  · obtain ⟨ow, d, ndr, hd, v6, v7, v8, v9, v10, v11, v12, rfl⟩ := hp
    obtain ⟨xs, h3, h4⟩ := ow.all mono_row
    walk_at "go"
    obtain ⟨_, hr0, _⟩ := id ow
    exact q r xs H' hr0 ow.sm h3 h4
end Sw
local macro_rules | `(tactic| walk_at "go1") => `(tactic| first
  | with_reducible refine Sw.g_seqasg ?_ | with_reducible refine Sw.g_op ?_ | with_reducible refine Sw.g_var rfl ?_ | with_reducible refine Sw.g_c ?_ | with_reducible refine Sw.g_I0 ?_
  | with_reducible refine Sw.g_cons ?_ | with_reducible refine Sw.g_nil ?_ | with_reducible refine Sw.g_call ?_ | with_reducible refine Sw.g_cb ?_ | with_reducible refine Sw.g_test ?_ | with_reducible refine Sw.g_bl ?_
  | with_reducible refine Sw.g_seqdrop ?_ | with_reducible refine Sw.g_seqsub ?_ | with_reducible refine Sw.g_asg ?_ | with_reducible refine Sw.g_asgsub ?_ | with_reducible refine Sw.g_ret ?_ | with_reducible refine Sw.g_drop ?_ | with_reducible refine Sw.g_if ?_ | with_reducible refine Sw.g_next ?_ | with_reducible refine Sw.g_name ?_
  | with_reducible refine Sw.g_B ?_ | with_reducible refine Sw.g_not ?_ | with_reducible refine Sw.g_and ?_ | with_reducible refine Sw.g_or ?_ | with_reducible refine Sw.g_andV ?_ | with_reducible refine Sw.g_orV ?_ | with_reducible refine Sw.g_notV ?_
  | with_reducible refine Sw.g_ifE ?_ | with_reducible refine Sw.g_chain ?_ | with_reducible refine Sw.g_un ?_ | with_reducible refine Sw.g_tup ?_ | with_reducible refine Sw.g_lst ?_ | with_reducible refine Sw.g_sl ?_ | with_reducible refine Sw.g_part ?_ | with_reducible refine Sw.g_nopart ?_
  | with_reducible refine Sw.g_U ?_ | with_reducible refine Sw.g_eq rfl ?_ | with_reducible refine Sw.g_ne rfl ?_ | with_reducible refine Sw.g_int ?_ | with_reducible refine Sw.g_yes ?_ | with_reducible refine L2.iteT ?_ | with_reducible refine L2.iteF ?_ | with_reducible refine Sw.iteNT ?_ | with_reducible refine Sw.iteNF ?_ | with_reducible refine Sw.g_m1 ?_ | with_reducible refine Sw.g_bm ?_ | with_reducible refine ⟨Sw.ty_lst (by assumption), ?_⟩ | with_reducible refine Sw.g_sput ?_ | with_reducible refine Sw.g_put ?_ | with_reducible refine Sw.g_dget2 ?_ | with_reducible refine Sw.g_dget ?_ | with_reducible refine Sw.g_dK ?_ | with_reducible refine Sw.g_dT ?_ | with_reducible refine Sw.g_dnotin ?_ | with_reducible refine Sw.g_din ?_ | with_reducible refine Sw.g_bm0 ?_
  | with_reducible refine Sw.g_ixL (by assumption) rfl ?_ | with_reducible refine Sw.g_ixT (by assumption) rfl ?_)
local macro_rules | `(tactic| walk_at "go") => `(tactic| repeat walk_at "go1")
local macro_rules | `(tactic| walk_at "bd") => `(tactic| repeat (first | with_reducible exact Sw.all_nil | refine Sw.all_cons ⟨_, rfl, by omega, by omega⟩ ?_))
local macro_rules | `(tactic| walk_at "new") => `(tactic| (refine ⟨Nat.le_of_ble_eq_true rfl, fun p np => ?_⟩; generalize hX : L2.upd _ p _ = H'; have sm : L2.Same _ H' := hX ▸ Sw.same_upd np; have hp : H' p = some _ := hX ▸ L2.upd_same; clear hX))
namespace Sw
open PySem PySem.Spec PyProof.Rows L2 SX
/-! ### the least of some numbers -/
def IsBest (P : Int → Prop) : Option Int → Prop
  | none => ∀ c, ¬ P c
  | some c => P c ∧ ∀ c', P c' → c ≤ c'
theorem IsBest.uniq {P : Int → Prop} {o o' : Option Int} (h : IsBest P o) (h' : IsBest P o') : o = o' := by
  cases o with
  | none =>
    cases o' with
    | none => rfl
    | some c => exact absurd h'.1 (h c)
  | some c =>
    cases o' with
    | none => exact absurd h.1 (h' c)
    | some c' =>
      have h1 := h.2 c' h'.1
      have h2 := h'.2 c h.1
      have : c = c' := by omega
      rw [this]
/-- what is dominated does not matter -/
theorem IsBest.dom {P P' : Int → Prop} {o : Option Int} (h : IsBest P o) (h1 : ∀ c, P c → P' c) (h2 : ∀ c, P' c → ∃ c', c' ≤ c ∧ P c') : IsBest P' o := by
  cases o with
  | none => exact fun c hc => by obtain ⟨c', _, hc'⟩ := h2 c hc; exact h c' hc'
  | some c =>
    refine ⟨h1 c h.1, fun c' hc' => ?_⟩
    obtain ⟨d, hd, hp⟩ := h2 c' hc'
    have := h.2 d hp
    omega
theorem IsBest.congr {P P' : Int → Prop} {o : Option Int} (h : IsBest P o) (e : ∀ c, P c ↔ P' c) : IsBest P' o := h.dom (fun c => (e c).mp) fun c hc => ⟨c, Int.le_refl _, (e c).mpr hc⟩
theorem valI_relax (R : Row) (e : Std × Int) (st : Std) : valI (relax R e) st = if e.1 = st then (match valI R st with | none => some e.2 | some c => some (if e.2 < c then e.2 else c)) else valI R st := by
  unfold relax
  by_cases h : e.1 = st
  · rw [if_pos h]
    subst h
    cases hv : valI R e.1 with
    | none =>
      show valI (putI R e.1 e.2) e.1 = some e.2
      rw [valI_put, if_pos rfl]
    | some c =>
      show valI (if e.2 < c then putI R e.1 e.2 else R) e.1 = some (if e.2 < c then e.2 else c)
      by_cases z : e.2 < c
      · rw [if_pos z, if_pos z, valI_put, if_pos rfl]
      · rw [if_neg z, if_neg z, hv]
  · rw [if_neg h]
    have h' : ¬ st = e.1 := fun z => h z.symm
    split
    · rw [valI_put, if_neg h']
    · split
      · rw [valI_put, if_neg h']
      · rfl
theorem relaxAll_best (L : List (Std × Int)) (st : Std) : IsBest (fun c => (st, c) ∈ L) (valI (relaxAll L) st) := by
  have : ∀ k, k ≤ L.length → IsBest (fun c => (st, c) ∈ L.take k) (valI (relaxAll (L.take k)) st) := by
    intro k
    induction k with
    | zero =>
      intro _
      rw [List.take_zero]
      exact fun c h => nomatch h
    | succ k ih =>
      intro hk
      obtain ⟨e, he⟩ : ∃ e, L[k]? = some e := ⟨_, List.getElem?_eq_getElem (by omega)⟩
      have ih := ih (by omega)
      rw [take_snoc he, relaxAll_snoc, valI_relax]
      by_cases h : e.1 = st
      · rw [if_pos h]
        have em : ∀ c, (st, c) ∈ L.take k ++ [e] ↔ (st, c) ∈ L.take k ∨ c = e.2 := fun c => by
          rw [List.mem_append, List.mem_singleton]
          constructor
          · rintro (y | y)
            · exact .inl y
            · exact .inr (by rw [← y])
          · rintro (y | y)
            · exact .inl y
            · exact .inr (Prod.ext h.symm y)
        cases hv : valI (relaxAll (L.take k)) st with
        | none =>
          rw [hv] at ih
          exact ⟨(em _).mpr (.inr rfl), fun c' hc' => by
            rcases (em c').mp hc' with y | y
            · exact absurd y (ih c')
            · omega⟩
        | some c =>
          rw [hv] at ih
          show IsBest _ (some (if e.2 < c then e.2 else c))
          by_cases z : e.2 < c
          · rw [if_pos z]
            exact ⟨(em _).mpr (.inr rfl), fun c' hc' => by
              rcases (em c').mp hc' with y | y
              · have := ih.2 c' y; omega
              · omega⟩
          · rw [if_neg z]
            exact ⟨(em _).mpr (.inl ih.1), fun c' hc' => by
              rcases (em c').mp hc' with y | y
              · exact ih.2 c' y
              · omega⟩
      · rw [if_neg h]
        refine ih.congr fun c => ?_
        rw [List.mem_append, List.mem_singleton]
        constructor
        · exact .inl
        · rintro (y | y)
          · exact y
          · exact absurd (by rw [← y]) h
  have h := this L.length (Nat.le_refl _)
  rwa [List.take_length] at h
/-! ### plans, from a stand to a stand -/
def stepTo (w : List Nat) (a : Std) (t : Int) : Std := ((a.1 + t) % (w.length : Int), wayOf t a.2)
inductive Run (w : List Nat) (s : Int) : Std → List Nat → List Int → Std → Int → Prop where
  | nil (a : Std) : Run w s a [] [] a 0
  | cons {a b : Std} {x : Nat} {t : Int} {word : List Nat} {ts : List Int} {c : Int} (ht : t ∈ turnsTo w a.1 [x]) (r : Run w s (stepTo w a t) word ts b c) : Run w s a (x :: word) (t :: ts) b (stepCost t a.2 s + c)
theorem run_snoc {w : List Nat} {s : Int} : ∀ {a b : Std} {word : List Nat} {ts : List Int} {c : Int}, Run w s a word ts b c → ∀ {x : Nat} {t : Int}, t ∈ turnsTo w b.1 [x] → Run w s a (word ++ [x]) (ts ++ [t]) (stepTo w b t) (c + stepCost t b.2 s) := by
  intro a b word ts c r
  induction r with
  | nil a =>
    intro x t ht
    have z := Run.cons ht (Run.nil (w := w) (s := s) (stepTo w a t))
    rw [Int.add_zero] at z
    rw [Int.zero_add]
    exact z
  | cons ht r ih =>
    intro x t ht2
    have z := Run.cons ht (ih ht2)
    rw [← Int.add_assoc] at z
    exact z
theorem run_unsnoc {w : List Nat} {s : Int} : ∀ (word : List Nat) {a b : Std} {x : Nat} {ts : List Int} {c : Int}, Run w s a (word ++ [x]) ts b c → ∃ ts' t b' c', ts = ts' ++ [t] ∧ Run w s a word ts' b' c' ∧ t ∈ turnsTo w b'.1 [x] ∧ b = stepTo w b' t ∧ c = c' + stepCost t b'.2 s
  | [], a, b, x, ts, c, r => by
    cases r with
    | cons ht r =>
      cases r with
      | nil => exact ⟨[], _, a, 0, rfl, .nil a, ht, rfl, by omega⟩
  | y :: word, a, b, x, ts, c, r => by
    cases r with
    | cons ht r =>
      obtain ⟨ts', t, b', c', e1, r', ht', e2, e3⟩ := run_unsnoc word r
      exact ⟨_ :: ts', t, b', _, by rw [e1]; rfl, .cons ht r', ht', e2, by omega⟩
theorem run_len {w : List Nat} {s : Int} {a b : Std} {word : List Nat} {ts : List Int} {c : Int} (r : Run w s a word ts b c) : ts.length = word.length := by
  induction r with
  | nil => rfl
  | cons ht r ih => rw [List.length_cons, List.length_cons, ih]
theorem run_cost {w : List Nat} {s : Int} {a b : Std} {word : List Nat} {ts : List Int} {c : Int} (r : Run w s a word ts b c) : c = cst s a.2 ts := by
  induction r with
  | nil => rfl
  | cons ht r ih => rw [ih]; rfl
theorem run_way {w : List Nat} {s : Int} {a b : Std} {word : List Nat} {ts : List Int} {c : Int} (r : Run w s a word ts b c) : b.2 = wayAll a.2 ts := by
  induction r with
  | nil => rfl
  | cons ht r ih => rw [ih]; rfl
theorem run_pos {w : List Nat} {s : Int} {a b : Std} {word : List Nat} {ts : List Int} {c : Int} (r : Run w s a word ts b c) : b.1 = posL w.length a.1 ts := by
  induction r with
  | nil => rfl
  | cons ht r ih => rw [ih]; rfl
/-- some plan of the word leads there for that cost -/
def Lands (w : List Nat) (s p : Int) (word : List Nat) (st : Std) (c : Int) : Prop := ∃ ts, Run w s (p, 0) word ts st c
theorem mem_next {w : List Nat} {s : Int} {sg : List Nat} {R : Row} {st : Std} {c : Int} : (st, c) ∈ nexts w s sg R ↔ ∃ a c0 t, (a, c0) ∈ R ∧ t ∈ turnsTo w a.1 sg ∧ st = stepTo w a t ∧ c = c0 + stepCost t a.2 s := by
  unfold nexts nextOf stepsFrom
  rw [List.mem_flatMap]
  constructor
  · rintro ⟨e, he, hx⟩
    rw [List.map_map] at hx
    obtain ⟨t, ht, ex⟩ := List.mem_map.mp hx
    cases ex
    exact ⟨e.1, e.2, t, he, ht, rfl, rfl⟩
  · rintro ⟨a, c0, t, he, ht, e1, e2⟩
    refine ⟨(a, c0), he, ?_⟩
    rw [List.map_map]
    exact List.mem_map.mpr ⟨t, ht, Prod.ext e1.symm e2.symm⟩
theorem rowI_best (w : List Nat) (s p : Int) (word : List Nat) (st : Std) : IsBest (Lands w s p word st) (valI (rowI w s p word) st) := by
  have : ∀ k, k ≤ word.length → ∀ st, IsBest (Lands w s p (word.take k) st) (valI (rowI w s p (word.take k)) st) := by
    intro k
    induction k with
    | zero =>
      intro _ st
      rw [List.take_zero]
      show IsBest _ (valI [((p, 0), 0)] st)
      by_cases h : (p, 0) = st
      · subst h
        have : valI [((p, 0), (0 : Int))] (p, 0) = some 0 := by simp [valI]
        rw [this]
        exact ⟨⟨[], .nil _⟩, fun c' ⟨ts, r⟩ => by cases r; exact Int.le_refl _⟩
      · have : valI [((p, 0), (0 : Int))] st = none := by
          unfold valI
          rw [List.find?_cons_of_neg (by simpa using h)]
          rfl
        rw [this]
        exact fun c ⟨ts, r⟩ => by cases r; exact h rfl
    | succ k ih =>
      intro hk st
      have ih := ih (by omega)
      obtain ⟨x, hx⟩ : ∃ x, word[k]? = some x := ⟨_, List.getElem?_eq_getElem (by omega)⟩
      rw [take_snoc hx, rowI_snoc]
      have hnd := rowI_nd w s p (word.take k)
      refine (relaxAll_best (nexts w s [x] (rowI w s p (word.take k))) st).dom (fun c hc => ?_) (fun c hc => ?_)
      · obtain ⟨a, c0, t, hm, ht, e1, e2⟩ := mem_next.mp hc
        have hb := ih a
        rw [(valI_mem hnd).mp hm] at hb
        obtain ⟨ts, r⟩ := hb.1
        rw [e1, e2]
        exact ⟨_, run_snoc r ht⟩
      · obtain ⟨ts, r⟩ := hc
        obtain ⟨ts', t, b', c', _, r', ht, e1, e2⟩ := run_unsnoc _ r
        have hb := ih b'
        cases hv : valI (rowI w s p (word.take k)) b' with
        | none => rw [hv] at hb; exact absurd ⟨ts', r'⟩ (hb c')
        | some c0 =>
          rw [hv] at hb
          have := hb.2 c' ⟨ts', r'⟩
          exact ⟨c0 + stepCost t b'.2 s, by omega, mem_next.mpr ⟨b', c0, t, (valI_mem hnd).mpr hv, ht, e1, rfl⟩⟩
  have h := this word.length (Nat.le_refl _) st
  rwa [List.take_length] at h
end Sw
local macro_rules | `(tactic| walk_at "go1") => `(tactic| first
  | with_reducible refine Sw.g_seqasg ?_ | with_reducible refine Sw.g_op ?_ | with_reducible refine Sw.g_var rfl ?_ | with_reducible refine Sw.g_c ?_ | with_reducible refine Sw.g_I0 ?_
  | with_reducible refine Sw.g_cons ?_ | with_reducible refine Sw.g_nil ?_ | with_reducible refine Sw.g_call ?_ | with_reducible refine Sw.g_cb ?_ | with_reducible refine Sw.g_test ?_ | with_reducible refine Sw.g_bl ?_
  | with_reducible refine Sw.g_seqdrop ?_ | with_reducible refine Sw.g_seqsub ?_ | with_reducible refine Sw.g_asg ?_ | with_reducible refine Sw.g_asgsub ?_ | with_reducible refine Sw.g_ret ?_ | with_reducible refine Sw.g_drop ?_ | with_reducible refine Sw.g_if ?_ | with_reducible refine Sw.g_next ?_ | with_reducible refine Sw.g_name ?_
  | with_reducible refine Sw.g_B ?_ | with_reducible refine Sw.g_not ?_ | with_reducible refine Sw.g_and ?_ | with_reducible refine Sw.g_or ?_ | with_reducible refine Sw.g_andV ?_ | with_reducible refine Sw.g_orV ?_ | with_reducible refine Sw.g_notV ?_
  | with_reducible refine Sw.g_ifE ?_ | with_reducible refine Sw.g_chain ?_ | with_reducible refine Sw.g_un ?_ | with_reducible refine Sw.g_tup ?_ | with_reducible refine Sw.g_lst ?_ | with_reducible refine Sw.g_sl ?_ | with_reducible refine Sw.g_part ?_ | with_reducible refine Sw.g_nopart ?_
  | with_reducible refine Sw.g_U ?_ | with_reducible refine Sw.g_eq rfl ?_ | with_reducible refine Sw.g_ne rfl ?_ | with_reducible refine Sw.g_int ?_ | with_reducible refine Sw.g_yes ?_ | with_reducible refine L2.iteT ?_ | with_reducible refine L2.iteF ?_ | with_reducible refine Sw.iteNT ?_ | with_reducible refine Sw.iteNF ?_ | with_reducible refine Sw.g_m1 ?_ | with_reducible refine Sw.g_bm ?_ | with_reducible refine ⟨Sw.ty_lst (by assumption), ?_⟩ | with_reducible refine Sw.g_sput ?_ | with_reducible refine Sw.g_put ?_ | with_reducible refine Sw.g_dget2 ?_ | with_reducible refine Sw.g_dget ?_ | with_reducible refine Sw.g_dK ?_ | with_reducible refine Sw.g_dT ?_ | with_reducible refine Sw.g_dnotin ?_ | with_reducible refine Sw.g_din ?_ | with_reducible refine Sw.g_bm0 ?_
  | with_reducible refine Sw.g_ixL (by assumption) rfl ?_ | with_reducible refine Sw.g_ixT (by assumption) rfl ?_)
local macro_rules | `(tactic| walk_at "go") => `(tactic| repeat walk_at "go1")
local macro_rules | `(tactic| walk_at "bd") => `(tactic| repeat (first | with_reducible exact Sw.all_nil | refine Sw.all_cons ⟨_, rfl, by omega, by omega⟩ ?_))
local macro_rules | `(tactic| walk_at "new") => `(tactic| (refine ⟨Nat.le_of_ble_eq_true rfl, fun p np => ?_⟩; generalize hX : L2.upd _ p _ = H'; have sm : L2.Same _ H' := hX ▸ Sw.same_upd np; have hp : H' p = some _ := hX ▸ L2.upd_same; clear hX))
namespace Sw
open PySem PySem.Spec PyProof.Rows L2 SX
/-! ### comprehensions that make new things -/
section
variable {K : PySem.W.Frag} {σ : L2.St} {H : Hp} {Q : VK} {te ta : TE} {j : Nat} {vs : List Nat} {α : Type} {R : Hp → V → α → Prop}
/-- over a list, any new things may be made; Aux: what is known of the list, f: the items' telling -/
theorem lcAL (m : Mono R) (Aux : List V → (Nat → α) → Hp → Prop) (hn : ∀ Q : VK, (∀ a ys f H1, SqL K H1 a ys → ys.length ≤ 100000 → Same H H1 → Aux ys f H1 → Q (.ref a) H1) → ta σ H Q) (hw : ∀ x : V, wipe ((wipe σ vs).set j (some x)) vs = wipe σ vs)
    (he : ∀ ys f H1, Aux ys f H1 → Same H H1 → ∀ (i : Nat) y H' Dl acc (Q : VK), ys[i]? = some y → Same H1 H' → H' Dl = some (.lst acc) → (∀ v H2, Same H' H2 → R (but H2 Dl) v (f i) → Q v H2) → te ((wipe σ vs).set j (some y)) H' Q)
    (pd : ∀ ys f H1, Aux ys f H1 → ∀ Dl xs H', H Dl = none → Same H H' → H' Dl = some (.lst xs) → Paired (R (but H' Dl)) xs ((List.range ys.length).map f) → Q (.ref Dl) H') : tLc (iList K ta) (gName j) tYes te vs σ H Q := by
  refine hn _ fun a ys f H1 hx hz s1 c => ?_
  refine ⟨a, rfl, ⟨ys, hx⟩, fun Dl hD => lc_list (xs := ys) (fun i H' => Same H1 H' ∧ OwnP R H1 Dl ((List.range i).map f) H') ⟨same_upd hD, OwnP.new hD⟩ (fun i H' _ p => p.1.seq hx) (fun i y H' hi p => ⟨hw y, ?_⟩) (fun H' p => ?_)⟩
  · obtain ⟨p1, ow⟩ := p
    obtain ⟨xs, h1, h2, h3, h4⟩ := id ow
    have li := (List.getElem?_eq_some_iff.mp hi).1
    refine g_yes ?_
    refine iteT ?_
    refine he ys f H1 c s1 i y H' Dl xs _ hi p1 h3 fun v H2 s2 r => ⟨xs, s2 _ _ h3, ?_, fun b o e => ?_, ?_⟩
    · rw [Paired.length h4, List.length_map, List.length_range]
      exact Nat.lt_of_le_of_lt (show i ≤ 100000 by omega) (by decide)
    · rw [upd_ne (ne_of_none e h1)]
      exact s2 _ _ (p1 b o e)
    · rw [List.range_succ, List.map_append]
      refine ⟨xs ++ [v], h1, fun b o e => ?_, upd_same, ?_⟩
      · rw [upd_ne (ne_of_none e h1)]
        exact s2 _ _ (p1 b o e)
      · rw [but_upd]
        exact paired_app (paired_imp h4 fun x y r => m _ _ _ _ (but_mono s2) r) (.cons r .nil)
  · obtain ⟨p1, xs, h1, h2, h3, h4⟩ := p
    exact pd ys f H1 c Dl xs H' (s1.free h1) (s1.trans p1) h3 h4
end
/-! ### a row told: its stands rising, each with its cost -/
abbrev Tri := Int × Int × Int
def ltS (a b : Int × Int) : Prop := a.1 < b.1 ∨ (a.1 = b.1 ∧ a.2 < b.2)
def stOf (x : Tri) : Std := (x.1, x.2.1)
/-- L tells the row f -/
structure Told (f : Std → Option Int) (L : List Tri) : Prop where
  srt : L.Pairwise fun a b => ltS (stOf a) (stOf b)
  mem : ∀ x : Tri, x ∈ L ↔ f (stOf x) = some x.2.2
theorem told_uniq {f : Std → Option Int} : ∀ {L L' : List Tri}, Told f L → Told f L' → L = L' := by
  have key : ∀ (L L' : List Tri), L.Pairwise (fun a b => ltS (stOf a) (stOf b)) → L'.Pairwise (fun a b => ltS (stOf a) (stOf b)) → (∀ x, x ∈ L ↔ x ∈ L') → L = L' := by
    intro L
    induction L with
    | nil =>
      intro L' _ _ h
      cases L' with
      | nil => rfl
      | cons a L' => exact absurd ((h a).mpr List.mem_cons_self) (fun z => nomatch z)
    | cons a L ih =>
      intro L' p p' h
      cases L' with
      | nil => exact absurd ((h a).mp List.mem_cons_self) (fun z => nomatch z)
      | cons b L' =>
        rw [List.pairwise_cons] at p p'
        have irr : ∀ x : Std, ¬ ltS x x := fun x z => by unfold ltS at z; omega
        have asy : ∀ x y : Std, ltS x y → ¬ ltS y x := fun x y z u => by unfold ltS at z u; omega
        have e : a = b := by
          rcases List.mem_cons.mp ((h a).mp List.mem_cons_self) with e | e
          · exact e
          · rcases List.mem_cons.mp ((h b).mpr List.mem_cons_self) with e' | e'
            · exact e'.symm
            · exact absurd (p.1 b e') (asy _ _ (p'.1 a e))
        subst e
        congr 1
        refine ih L' p.2 p'.2 fun x => ?_
        constructor
        · intro hx
          rcases List.mem_cons.mp ((h x).mp (List.mem_cons_of_mem _ hx)) with e | e
          · subst e; exact absurd (p.1 x hx) (irr _)
          · exact e
        · intro hx
          rcases List.mem_cons.mp ((h x).mpr (List.mem_cons_of_mem _ hx)) with e | e
          · subst e; exact absurd (p'.1 x hx) (irr _)
          · exact e
  intro L L' h h'
  exact key L L' h.srt h'.srt fun x => by rw [h.mem, h'.mem]
/-- a new tuple of three -/
def TriV (H : Hp) (v : V) (x : Tri) : Prop := ∃ a, v = .ref a ∧ H a = some (.tup [.int x.1, .int x.2.1, .int x.2.2])
theorem mono_tri : Mono TriV := fun G G' v y e ⟨a, h1, h2⟩ => ⟨a, h1, e _ _ h2⟩
/-- the pair that stands at a reference -/
def keyAt (H : Hp) : V → Int × Int
  | .ref t => match H t with
    | some (.tup [.int a, .int b]) => (a, b)
    | _ => (0, 0)
  | _ => (0, 0)
theorem keyAt_of {H : Hp} {t : Addr} {a b : Int} (h : H t = some (.tup [.int a, .int b])) : keyAt H (.ref t) = (a, b) := by
  show (match H t with | some (.tup [.int a, .int b]) => (a, b) | _ => (0, 0)) = (a, b)
  rw [h]
theorem lexB_not {a b : Int × Int} (h : SrtO.lexB b a = false) : ¬ ltS b a := by
  intro z
  rw [SrtO.lexB_iff.mpr z] at h
  cases h
/-- the keys of a row, told in their order -/
theorem sorted_keys {K : PySem.W.Frag} {H : Hp} {d : Addr} {kvs : List (List Key × V)} {sts : List Std} {Q : VK} (hd : Rd H d (.dT kvs)) (hk : kvs.map (·.1) = sts.map encK) (hnd : sts.Nodup)
    (q : ∀ p l ys (so : List Std) H', H l = none → H p = none → Same H H' → H' p = some (.lst ys) → so.Pairwise ltS → so.Perm sts → Paired (fun (v : V) (st : Std) => ∃ t, v = .ref t ∧ H' t = some (.tup [.int st.1, .int st.2])) ys so → Q (.ref p) H') :
    rListT [.ref d] H fun x H1 => rSortedPO K [x] H1 Q := by
  refine ⟨d, kvs, rfl, hd, fun l bs nl ik => ?_⟩
  have s1 := same_upd (o := .lst (bs.map V.ref)) nl
  have hl : upd H l (.lst (bs.map V.ref)) l = some (.lst (bs.map V.ref)) := upd_same
  generalize upd H l (.lst (bs.map V.ref)) = H1 at s1 hl
  -- the tuples
  have pr : Paired (fun (b : Addr) (st : Std) => H1 b = some (.tup [.int st.1, .int st.2])) bs sts := by
    clear hl hd hnd q
    unfold IsKeys at ik
    revert sts
    induction ik with
    | nil =>
      intro sts hk
      cases sts with
      | nil => exact .nil
      | cons a sts => cases hk
    | @cons p b kvs bs h t ih =>
      intro sts hk
      cases sts with
      | nil => cases hk
      | cons a sts =>
        rw [List.map_cons, List.map_cons, List.cons.injEq] at hk
        refine .cons (s1 _ _ ?_) (ih hk.2)
        rw [h, hk.1]
        rfl
  have hkeys : bs.map (fun b => keyAt H1 (.ref b)) = sts := by
    clear q hk hnd hd hl ik nl
    induction pr with
    | nil => rfl
    | cons h t ih => rw [List.map_cons, keyAt_of h, ih]
  refine ⟨l, bs.map V.ref, keyAt H1, rfl, .inl (.inl hl), fun x hx => ?_, fun ys p srt stb np => ?_⟩
  · obtain ⟨b, hb, rfl⟩ := List.mem_map.mp hx
    obtain ⟨i, hi⟩ := List.getElem?_of_mem hb
    obtain ⟨st, _, h⟩ := paired_get pr hi
    refine ⟨b, rfl, ?_⟩
    rw [keyAt_of h]
    exact h
  · have hperm : (ys.map (keyAt H1)).Perm sts := by
      have := stb.perm.map (keyAt H1)
      rw [List.map_map] at this
      have e : (bs.map (keyAt H1 ∘ V.ref)) = sts := hkeys
      rwa [e] at this
    refine q p l ys (ys.map (keyAt H1)) (upd H1 p (.lst ys)) nl (s1.free np) (s1.trans (same_upd np)) upd_same ?_ hperm ?_
    · have hnd' : (ys.map (keyAt H1)).Nodup := hperm.nodup_iff.mpr hnd
      have h1 : (ys.map (keyAt H1)).Pairwise fun a b => ¬ ltS b a := by
        rw [List.pairwise_map]
        refine srt.imp fun {a b} h => ?_
        exact lexB_not h
      have h2 := List.pairwise_and_iff.mpr ⟨h1, hnd'⟩
      refine h2.imp fun {a b} h => ?_
      unfold ltS at *
      have : a.1 ≠ b.1 ∨ a.2 ≠ b.2 := by
        by_cases e : a.1 = b.1
        · exact .inr fun e2 => h.2 (Prod.ext e e2)
        · exact .inl e
      omega
    · have hmem : ∀ y ∈ ys, ∃ t, y = .ref t ∧ ∃ st : Std, H1 t = some (.tup [.int st.1, .int st.2]) := fun y hy => by
        obtain ⟨b, hb, rfl⟩ := List.mem_map.mp (stb.perm.mem_iff.mp hy)
        obtain ⟨i, hi⟩ := List.getElem?_of_mem hb
        obtain ⟨st, _, h⟩ := paired_get pr hi
        exact ⟨b, rfl, st, h⟩
      have gen : ∀ zs : List V, (∀ y ∈ zs, ∃ t, y = .ref t ∧ ∃ st : Std, H1 t = some (.tup [.int st.1, .int st.2])) → Paired (fun (v : V) (st : Std) => ∃ t, v = .ref t ∧ upd H1 p (.lst ys) t = some (.tup [.int st.1, .int st.2])) zs (zs.map (keyAt H1)) := by
        intro zs
        induction zs with
        | nil => intro _; exact .nil
        | cons y zs ih =>
          intro hm
          obtain ⟨t, rfl, st, h⟩ := hm y List.mem_cons_self
          rw [List.map_cons]
          refine .cons ⟨t, rfl, ?_⟩ (ih fun z hz => hm z (List.mem_cons_of_mem _ hz))
          rw [keyAt_of h]
          exact same_upd np _ _ h
      exact gen ys hmem
/-! ### errands -/
def Good (w word : List Nat) (s : Int) : Prop := isWheel w = true ∧ isWord word = true ∧ (0 ≤ s ∧ s ≤ 9) ∧ ∀ c ∈ word, c ∈ w
def ErrE (c : Cl) (w word : List Nat) (s : Int) (E : XK) (H : Hp) : Prop := (isWheel w = false → E (.ref c.NoWheel) none H) ∧ (isWheel w = true → isWord word = false → E (.ref c.NoWord) none H) ∧
  (isWheel w = true → isWord word = true → ¬ (0 ≤ s ∧ s ≤ 9) → E (.ref c.NoSlack) none H) ∧ (isWheel w = true → isWord word = true → 0 ≤ s ∧ s ≤ 9 → ¬ (∀ c ∈ word, c ∈ w) → E (.ref c.Lacks) none H)
theorem errE0 {c : Cl} {w word : List Nat} {s : Int} {E : XK} {H : Hp} (g : Good w word s) : ErrE c w word s E H :=
  ⟨(fun h => by rw [g.1] at h; exact nomatch h), (fun _ h => by rw [g.2.1] at h; exact nomatch h), fun _ _ h => absurd g.2.2.1 h, fun _ _ _ h => absurd g.2.2.2 h⟩
def spx_look_at_errand (K : PySem.W.Frag) (c : Cl) : Sp := fun vs H Q E => ∃ (w word : List Nat) (s : Int), vs = [.str (S w), .str (S word), .int s] ∧ w.length ≤ 100000 ∧ word.length ≤ 100000 ∧ (Good w word s → Q .non H) ∧ ErrE c w word s E H
theorem lnx_look_at_errand {K : PySem.W.Frag} {c : Cl} {vs : List V} {H : Hp} {Q : VK} {E : XK} (h : spx_look_at_errand K c vs H Q E) : vs.length = 3 := by
  obtain ⟨_, _, _, rfl, _⟩ := h
  rfl
def tx_look_at_errand (K : PySem.W.Frag) (c : Cl) (E : XK) : TS :=
  (tSeq (tDrop (tCall (spx_look_at_wheel K c) [] E (tCons (tVar 0) tNil)))
  (tSeq (tDrop (tCall (spx_look_at_word K c) [] E (tCons (tVar 1) tNil)))
  (tSeq (tDrop (tCall (spx_look_at_slack K c) [] E (tCons (tVar 2) tNil)))
  (tFor (iStr (tVar 1)) (gName 3)
  (tIfS (tTest (tOp rNotInSign (tVar 3) (tVar 0))) (tRaise E c.Lacks) tNext)))))

theorem rdx_look_at_errand {K : PySem.W.Frag} {c : Cl} {vs : List V} {H : Hp} {Q : VK} {E : XK} (h : spx_look_at_errand K c vs H Q E) : tx_look_at_errand K c E { nx := fun _ H' => Q .non H', rt := Q } (start ["wheel", "word", "slack", "sign"] vs) H := by
  obtain ⟨w, word, s, rfl, hz, hz2, q, e1, e2, e3, e4⟩ := h
  show tx_look_at_errand K c E _ [some (.str (S w)), some (.str (S word)), some (.int s), none] H
  unfold tx_look_at_errand
  walk_at "go"
  refine ⟨w, rfl, hz, fun hw => ?_, e1⟩
  walk_at "go"
  refine ⟨word, rfl, hz2, fun hwd => ?_, e2 hw⟩
  walk_at "go"
  refine ⟨s, rfl, fun hs => ?_, e3 hw hwd⟩
  refine forS (l := word) (fun Q h => ?_) (fun i σ' H' => H' = H ∧ (∀ c ∈ word.take i, c ∈ w) ∧ ∃ v, σ' = [some (.str (S w)), some (.str (S word)), some (.int s), v]) ⟨rfl, (fun _ z => nomatch z), none, rfl⟩ (fun i x σ' H' hx hp => ?_) (fun σ' H' hp => ?_)
  · walk_at "go"
    exact h
  · obtain ⟨rfl, hi, v, rfl⟩ := hp
    walk_at "go"
    refine ⟨x, S w, rfl, rfl, ?_⟩
    walk_at "go"
    refine ite_n (fun hn => ?_) (fun hy => ?_)
    · refine e4 hw hwd hs fun hall => hn ?_
      exact hall x (List.mem_of_getElem? hx)
    · refine ⟨rfl, fun c hc => ?_, _, rfl⟩
      rw [take_snoc hx] at hc
      rcases List.mem_append.mp hc with e | e
      · exact hi c e
      · rw [List.mem_singleton.mp e]; exact hy
  · obtain ⟨rfl, hi, v, rfl⟩ := hp
    rw [List.take_length] at hi
    exact q ⟨hw, hwd, hs, hi⟩
theorem Good.len {w word : List Nat} {s : Int} (g : Good w word s) : 1 ≤ w.length ∧ w.length ≤ 30 ∧ word.length ≤ 80 := by
  have h1 := isWheel_iff.mp g.1
  have h2 := isWord_iff.mp g.2.1
  exact ⟨h1.1, h1.2.1, h2.1⟩
/-! ### the table told -/
def TrisV (H : Hp) (v : V) (L : List Tri) : Prop := ∃ a ys, v = .ref a ∧ H a = some (.lst ys) ∧ Paired (TriV H) ys L
theorem mono_tris : Mono TrisV := fun G G' v y e ⟨a, ys, h1, h2, h3⟩ => ⟨a, ys, h1, e _ _ h2, paired_imp h3 fun x y r => mono_tri _ _ _ _ e r⟩
/-- .. and the list is new since H0 -/
def TrisF (H0 : Hp) (H : Hp) (v : V) (L : List Tri) : Prop := ∃ a ys, v = .ref a ∧ H0 a = none ∧ H a = some (.lst ys) ∧ Paired (TriV H) ys L
theorem mono_trisF {H0 : Hp} : Mono (TrisF H0) := fun G G' v y e ⟨a, ys, h1, h0, h2, h3⟩ => ⟨a, ys, h1, h0, e _ _ h2, paired_imp h3 fun x y r => mono_tri _ _ _ _ e r⟩
theorem trisF_v {H0 : Hp} {H : Hp} {l : Addr} {LL : List (List Tri)} {G : Hp} (h : OwnP (TrisF H0) G l LL H) : OwnP TrisV G l LL H := by
  obtain ⟨xs, h1, h2, h3, h4⟩ := h
  exact ⟨xs, h1, h2, h3, paired_imp h4 fun x y ⟨a, ys, e1, _, e2, e3⟩ => ⟨a, ys, e1, e2, e3⟩⟩
/-- LL tells the first k rows -/
def Tabs (w : List Nat) (s : Int) (word : List Nat) (k : Nat) (LL : List (List Tri)) : Prop := LL.length = k ∧ ∀ i L, LL[i]? = some L → Told (valI (rowI w s 0 (word.take i))) L
theorem tabs_uniq {w : List Nat} {s : Int} {word : List Nat} {k : Nat} {LL LL' : List (List Tri)} (h : Tabs w s word k LL) (h' : Tabs w s word k LL') : LL = LL' := by
  apply List.ext_getElem?
  intro i
  by_cases hi : i < k
  · have e1 := List.getElem?_eq_getElem (l := LL) (i := i) (by rw [h.1]; exact hi)
    have e2 := List.getElem?_eq_getElem (l := LL') (i := i) (by rw [h'.1]; exact hi)
    rw [e1, e2, told_uniq (h.2 i _ e1) (h'.2 i _ e2)]
  · rw [List.getElem?_eq_none (by rw [h.1]; omega), List.getElem?_eq_none (by rw [h'.1]; omega)]
theorem enc_keys (R : Row) : (encR R).map (·.1) = (R.map (·.1)).map encK := by
  unfold encR
  rw [List.map_map, List.map_map]
  rfl
def triAt (R : Row) (so : List Std) (i : Nat) : Tri := ((so.getD i (0, 0)).1, (so.getD i (0, 0)).2, (valI R (so.getD i (0, 0))).getD 0)
theorem range_getD {α β : Type} (l : List α) (d : α) (g : α → β) : (List.range l.length).map (fun i => g (l.getD i d)) = l.map g := by
  apply List.ext_getElem
  · simp
  · intro i h1 h2
    simp at h1
    simp [h1]
theorem told_row {R : Row} {so : List Std} (hnd : Nd R) (hs : so.Pairwise ltS) (hp : so.Perm (R.map (·.1))) : Told (valI R) ((List.range so.length).map (triAt R so)) := by
  have e : (List.range so.length).map (triAt R so) = so.map fun st => (st.1, st.2, (valI R st).getD 0) := range_getD so (0, 0) fun st => (st.1, st.2, (valI R st).getD 0)
  rw [e]
  have isin : ∀ st, st ∈ so ↔ ∃ c, valI R st = some c := fun st => by
    rw [hp.mem_iff]
    constructor
    · intro h
      obtain ⟨x, hx, rfl⟩ := List.mem_map.mp h
      exact ⟨x.2, (valI_mem hnd).mp hx⟩
    · rintro ⟨c, h⟩
      exact List.mem_map.mpr ⟨(st, c), (valI_mem hnd).mpr h, rfl⟩
  refine ⟨?_, fun x => ?_⟩
  · rw [List.pairwise_map]
    exact hs
  · rw [List.mem_map]
    constructor
    · rintro ⟨st, hst, rfl⟩
      obtain ⟨c, hc⟩ := (isin st).mp hst
      show valI R st = some ((valI R st).getD 0)
      rw [hc]
      rfl
    · intro h
      refine ⟨stOf x, (isin _).mpr ⟨_, h⟩, ?_⟩
      rw [h]
      rfl
def spx_table (K : PySem.W.Frag) (c : Cl) : Sp := fun vs H Q E => ∃ (w word : List Nat) (s : Int), vs = [.str (S w), .str (S word), .int s] ∧ w.length ≤ 100000 ∧ word.length ≤ 100000 ∧
  (Good w word s → ∀ q LL H', H q = none → OwnP (TrisF H) H q LL H' → Tabs w s word (word.length + 1) LL → Q (.ref q) H') ∧ ErrE c w word s E H
theorem lnx_table {K : PySem.W.Frag} {c : Cl} {vs : List V} {H : Hp} {Q : VK} {E : XK} (h : spx_table K c vs H Q E) : vs.length = 3 := by
  obtain ⟨_, _, _, rfl, _⟩ := h
  rfl
def tx_table (K : PySem.W.Frag) (c : Cl) (E : XK) : TS :=
  (tSeq (tDrop (tCall (spx_look_at_errand K c) [] E (tCons (tVar 0) (tCons (tVar 1) (tCons (tVar 2) tNil)))))
  (tSeq (tAsg (tLst tNil) (gName 3))
  (tSeq (tFor (iList K (tCall (sp_rows_from K) [] E0 (tCons (tVar 0) (tCons (tVar 1) (tCons (tVar 2) (tCons (tC (.int 0)) tNil)))))) (gName 4)
  (tDrop (tBM K "list" rAppend (tVar 3) (tCons (tLc (iList K (tCB (rSortedPO K) (tCons (tCB rListT (tCons (tVar 4) tNil)) tNil))) (gName 5) tYes (tOp (rCatA K) (tVar 5) (tTup (tCons (tDGet (tVar 4) (tVar 5)) tNil))) [5]) tNil))))
  (tRet (tVar 3)))))

theorem rdx_table {K : PySem.W.Frag} {c : Cl} {vs : List V} {H : Hp} {Q : VK} {E : XK} (h : spx_table K c vs H Q E) : tx_table K c E { nx := fun _ H' => Q .non H', rt := Q } (start ["wheel", "word", "slack", "told", "row", "stand"] vs) H := by
  obtain ⟨w, word, s, rfl, hz, hz2, q, er⟩ := h
  show tx_table K c E _ [some (.str (S w)), some (.str (S word)), some (.int s), none, none, none] H
  unfold tx_table
  walk_at "go"
  refine ⟨w, word, s, rfl, hz, hz2, fun g => ?_, er⟩
  replace q := q g
  obtain ⟨w1, w2, l2⟩ := g.len
  walk_at "go"
  refine ⟨by decide, fun l nl => ?_⟩
  try dsimp only
  refine g_seq ?_
  show tCall (sp_rows_from K) [] E0 _ _ _ _
  walk_at "go"
  refine ⟨w, word, s, 0, rfl, w1, by omega, by omega, by omega, by omega, fun r xs H1 nr s1 hr hpr => ?_⟩
  have nlr : r ≠ l := fun z => by rw [z, upd_same] at nr; cases nr
  have lx : xs.length = word.length + 1 := by rw [Paired.length hpr]; unfold rowsI; simp
  refine ⟨r, rfl, ⟨xs, .inl (.inl hr)⟩, for_list (xs := xs) (fun i σ' H' => Same (but H1 l) H' ∧ ∃ LL, OwnP (TrisF H) H l LL H' ∧ Tabs w s word i LL ∧ ∃ (v4 v5 : Option V), σ' = [some (.str (S w)), some (.str (S word)), some (.int s), some (.ref l), v4, v5]) ⟨but_sub, [], (OwnP.new nl).same mono_trisF s1, ⟨rfl, fun i L e => by simp at e⟩, _, _, rfl⟩ (fun i σ' H' _ hp => .inl (.inl (hp.1 _ _ (but_ne hr nlr)))) (fun i x σ' H' hx hp => ?_) (fun σ' H' hp => ?_)⟩
  · obtain ⟨s2, LL, ow, tb, v4, v5, rfl⟩ := hp
    have li := (List.getElem?_eq_some_iff.mp hx).1
    obtain ⟨R, hR, d, rfl, hd⟩ := paired_get hpr hx
    have hRe : R = rowI w s 0 (word.take i) := by
      unfold rowsI at hR
      rw [List.getElem?_map] at hR
      obtain ⟨z, hz, rfl⟩ := Option.map_eq_some_iff.mp hR
      rw [List.getElem?_range (by omega)] at hz
      cases hz
      rfl
    have hok : RowOk w.length R := by rw [hRe]; exact rowI_ok (by omega) (by omega) (by omega) _
    have ndl : d ≠ l := fun z => by rw [z, s1 _ _ (show upd H l (.lst []) l = _ from upd_same)] at hd; cases hd
    have hd2 := s2 _ _ (but_ne hd ndl)
    obtain ⟨xs0, hl0, hsm0, hl2, _⟩ := id ow
    show tDrop _ _ _ _
    walk_at "go"
    refine lcAL (R := TriV) mono_tri (fun ys f Ha => ys.length ≤ 90 ∧ ∃ so : List Std, ys.length = so.length ∧ so.Pairwise ltS ∧ so.Perm (R.map (·.1)) ∧ Paired (fun (v : V) (st : Std) => ∃ t, v = .ref t ∧ Ha t = some (.tup [.int st.1, .int st.2])) ys so ∧ f = triAt R so) (fun Q h => ?_) (fun x => rfl) (fun ys f Ha ha sa k y H3 Dl acc Q hy s3 hDl h => ?_) (fun ys f Ha ha Dl zs H3 nD s3 hDl hp3 => ?_)
    · walk_at "go"
      refine sorted_keys (.inl hd2) (enc_keys R) hok.1 fun pp ll ys so H3 _ _ s3 hpp hso hper hpd => ?_
      have lso : so.length ≤ 90 := by rw [hper.length_eq, List.length_map]; exact Nat.le_trans (row_len hok) (by omega)
      have lys := Paired.length hpd
      exact h pp ys _ H3 (.inl (.inl hpp)) (by omega) s3 ⟨by omega, so, lys, hso, hper, hpd, rfl⟩
    · obtain ⟨_, so, lys, hso, hper, hpd, rfl⟩ := ha
      obtain ⟨st, hst, t, rfl, ht⟩ := paired_get hpd hy
      have hin : st ∈ R.map (·.1) := hper.mem_iff.mp (List.mem_of_getElem? hst)
      obtain ⟨e, he, rfl⟩ := List.mem_map.mp hin
      have hv : valI R e.1 = some e.2 := (valI_mem hok.1).mp he
      have ht3 := s3 _ _ ht
      have hd3 := s3 _ _ (sa _ _ hd2)
      walk_at "go"
      refine ⟨d, .int e.2, rfl, .inr ⟨encR R, encK e.1, t, .inl hd3, rfl, ht3, by rw [valV_enc, hv]; rfl⟩, ?_⟩
      walk_at "go"
      walk_at "new"
      rename_i p1 np1 H4 s4 hp1
      refine ⟨t, p1, _, _, rfl, rfl, .inl (.inl (s4 _ _ ht3)), .inl (.inl hp1), by show 3 ≤ sizeLine; decide, (fun z => nomatch z), (fun _ z => nomatch z), fun _ _ p2 np2 => ?_⟩
      refine h _ _ (s4.trans (same_upd np2)) ⟨p2, rfl, but_ne ?_ fun z => by rw [z, s4 _ _ hDl] at np2; cases np2⟩
      rw [upd_same]
      unfold triAt
      rw [getD_of' hst, hv]
      rfl
    · obtain ⟨ly, so, lys, hso, hper, hpd, rfl⟩ := ha
      have told := told_row hok.1 hso hper
      rw [lys] at hp3
      walk_at "go"
      have nDl : Dl ≠ l := fun z => by rw [z, hl2] at nD; cases nD
      refine ow.app mono_trisF s3 (by rw [tb.1]; omega) (y := (List.range so.length).map (triAt R so)) ⟨Dl, zs, rfl, ow.sm.free nD, but_ne hDl nDl, paired_imp hp3 fun x y ⟨a, h1, h2⟩ => ⟨a, h1, but_ne (but_sub _ _ h2) fun z => ?_⟩⟩ fun H4 ow4 k4 => ⟨fun b o e => ?_, _, ow4, ⟨by rw [List.length_append, tb.1]; rfl, fun k L hL => ?_⟩, _, _, rfl⟩
      · have := but_sub _ _ h2
        rw [z, s3 _ _ hl2] at this
        cases this
      · have hb : b ≠ l := fun z => by rw [z] at e; unfold but at e; rw [if_pos rfl] at e; cases e
        rw [k4 b hb]
        exact s3 _ _ (s2 _ _ e)
      · by_cases hk : k < LL.length
        · rw [List.getElem?_append_left hk] at hL
          exact tb.2 k L hL
        · rw [List.getElem?_append_right (by omega)] at hL
          have e0 : k - LL.length = 0 := by
            cases e : k - LL.length with
            | zero => rfl
            | succ n => rw [e] at hL; simp at hL
          rw [e0] at hL
          have : k = i := by have := tb.1; omega
          subst this
          cases hL
          rw [← hRe]
          exact told
  · obtain ⟨s2, LL, ow, tb, v4, v5, rfl⟩ := hp
    rw [lx] at tb
    walk_at "go"
    exact q l LL H' nl ow tb
end Sw
local macro_rules | `(tactic| walk_at "go1") => `(tactic| first
  | with_reducible refine Sw.g_seqasg ?_ | with_reducible refine Sw.g_op ?_ | with_reducible refine Sw.g_var rfl ?_ | with_reducible refine Sw.g_c ?_ | with_reducible refine Sw.g_I0 ?_
  | with_reducible refine Sw.g_cons ?_ | with_reducible refine Sw.g_nil ?_ | with_reducible refine Sw.g_call ?_ | with_reducible refine Sw.g_cb ?_ | with_reducible refine Sw.g_test ?_ | with_reducible refine Sw.g_bl ?_
  | with_reducible refine Sw.g_seqdrop ?_ | with_reducible refine Sw.g_seqsub ?_ | with_reducible refine Sw.g_asg ?_ | with_reducible refine Sw.g_asgsub ?_ | with_reducible refine Sw.g_ret ?_ | with_reducible refine Sw.g_drop ?_ | with_reducible refine Sw.g_if ?_ | with_reducible refine Sw.g_next ?_ | with_reducible refine Sw.g_name ?_
  | with_reducible refine Sw.g_B ?_ | with_reducible refine Sw.g_not ?_ | with_reducible refine Sw.g_and ?_ | with_reducible refine Sw.g_or ?_ | with_reducible refine Sw.g_andV ?_ | with_reducible refine Sw.g_orV ?_ | with_reducible refine Sw.g_notV ?_
  | with_reducible refine Sw.g_ifE ?_ | with_reducible refine Sw.g_chain ?_ | with_reducible refine Sw.g_un ?_ | with_reducible refine Sw.g_tup ?_ | with_reducible refine Sw.g_lst ?_ | with_reducible refine Sw.g_sl ?_ | with_reducible refine Sw.g_part ?_ | with_reducible refine Sw.g_nopart ?_
  | with_reducible refine Sw.g_U ?_ | with_reducible refine Sw.g_eq rfl ?_ | with_reducible refine Sw.g_ne rfl ?_ | with_reducible refine Sw.g_int ?_ | with_reducible refine Sw.g_yes ?_ | with_reducible refine L2.iteT ?_ | with_reducible refine L2.iteF ?_ | with_reducible refine Sw.iteNT ?_ | with_reducible refine Sw.iteNF ?_ | with_reducible refine Sw.g_m1 ?_ | with_reducible refine Sw.g_bm ?_ | with_reducible refine ⟨Sw.ty_lst (by assumption), ?_⟩ | with_reducible refine Sw.g_sput ?_ | with_reducible refine Sw.g_put ?_ | with_reducible refine Sw.g_dget2 ?_ | with_reducible refine Sw.g_dget ?_ | with_reducible refine Sw.g_dK ?_ | with_reducible refine Sw.g_dT ?_ | with_reducible refine Sw.g_dnotin ?_ | with_reducible refine Sw.g_din ?_ | with_reducible refine Sw.g_bm0 ?_
  | with_reducible refine Sw.g_ixL (by assumption) rfl ?_ | with_reducible refine Sw.g_ixT (by assumption) rfl ?_)
local macro_rules | `(tactic| walk_at "go") => `(tactic| repeat walk_at "go1")
local macro_rules | `(tactic| walk_at "bd") => `(tactic| repeat (first | with_reducible exact Sw.all_nil | refine Sw.all_cons ⟨_, rfl, by omega, by omega⟩ ?_))
local macro_rules | `(tactic| walk_at "new") => `(tactic| (refine ⟨Nat.le_of_ble_eq_true rfl, fun p np => ?_⟩; generalize hX : L2.upd _ p _ = H'; have sm : L2.Same _ H' := hX ▸ Sw.same_upd np; have hp : H' p = some _ := hX ▸ L2.upd_same; clear hX))
namespace Sw
open PySem PySem.Spec PyProof.Rows L2 SX
/-! ### the law's own steps, costs -/
def sp_law_step (K : PySem.W.Frag) : Sp := fun vs H Q _ => ∃ t w s : Int, vs = [.int t, .int w, .int s] ∧ 0 ≤ s ∧ s ≤ 1000 ∧ ∀ p H', H p = none → Same H H' → H' p = some (.tup [.int (wayOf t w), .int (stepCost t w s)]) → Q (.ref p) H'
theorem ln_law_step {K : PySem.W.Frag} {vs : List V} {H : Hp} {Q : VK} {E : XK} (h : sp_law_step K vs H Q E) : vs.length = 3 := by
  obtain ⟨_, _, _, rfl, _⟩ := h
  rfl
def t_law_step (K : PySem.W.Frag) : TS :=
  (tSeq (tAsg (tOp (rIxL K) (tLst (tCons (tVar 1) (tCons (tC (.int 1)) (tCons (tUn rNeg (tC (.int 1))) tNil)))) (tOp rAdd (tCB rInt1 (tCons (tOp rGt (tVar 0) (tC (.int 0))) tNil)) (tOp rMulW (tC (.int 2)) (tCB rInt1 (tCons (tOp rLt (tVar 0) (tC (.int 0))) tNil))))) (gName 3))
  (tRet (tTup (tCons (tVar 3) (tCons (tOp rAdd (tCB rMax2 (tCons (tVar 0) (tCons (tOp rSub (tC (.int 0)) (tVar 0)) tNil))) (tOp rMulW (tVar 2) (tCB rInt1 (tCons (tAndV (tOp rNe (tVar 3) (tVar 1)) (tOp rNe (tVar 1) (tC (.int 0)))) tNil)))) tNil)))))

theorem step_at (t w : Int) : atI [V.int w, V.int 1, V.int (-1)] ((if decide (0 < t) = true then 1 else 0) + 2 * (if decide (t < 0) = true then 1 else 0)) = some (.int (wayOf t w)) := by
  unfold wayOf
  by_cases h1 : 0 < t
  · have h2 : ¬ t < 0 := by omega
    simp only [h1, h2, decide_true, decide_false, if_true]
    rfl
  · by_cases h2 : t < 0
    · simp only [h1, h2, decide_true, decide_false, if_true]
      rfl
    · simp only [h1, h2, decide_false]
      rfl
theorem step_max (t w s : Int) (b : Bool) (hb : b = (!decide (V.int (wayOf t w) = V.int w) && !decide (V.int w = V.int 0))) : (if 0 - t > t then 0 - t else t) + s * (if b = true then 1 else 0) = stepCost t w s := by
  have e : ∀ a b : Int, decide (V.int a = V.int b) = decide (a = b) := fun a b => vint_eq
  rw [e, e] at hb
  unfold stepCost
  have ea : (if 0 - t > t then 0 - t else t) = absI t := by unfold absI; split <;> split <;> omega
  rw [ea]
  by_cases h1 : w = 0
  · have : b = false := by rw [hb]; simp [h1]
    simp [this, h1]
  · by_cases h2 : wayOf t w = w
    · have : b = false := by rw [hb]; simp [h2]
      simp [this, h2]
    · have : b = true := by rw [hb]; simp [h1, h2]
      simp [this, h1, h2]
theorem rd_law_step {K : PySem.W.Frag} {vs : List V} {H : Hp} {Q : VK} {E : XK} (h : sp_law_step K vs H Q E) : t_law_step K { nx := fun _ H' => Q .non H', rt := Q } (start ["turn", "way", "slack", "later"] vs) H := by
  obtain ⟨t, w, s, rfl, s0, s1, q⟩ := h
  show t_law_step K _ [some (.int t), some (.int w), some (.int s), none] H
  unfold t_law_step
  walk_at "go"
  walk_at "new"
  rename_i p1 np1 H1 sm1 hp1
  walk_at "go"
  refine .inr ⟨_, rfl, ?_⟩
  walk_at "go"
  refine .inr ⟨_, rfl, ?_⟩
  refine g_I (cm (by omega) (by omega) (by split <;> omega) (by split <;> omega)) ?_
  walk_at "go"
  refine g_ixL hp1 (step_at t w) ?_
  walk_at "go"
  refine g_max ?_
  walk_at "go"
  have fin : ∀ b : Bool, b = (!decide (V.int (wayOf t w) = V.int w) && !decide (V.int w = V.int 0)) → (rInt1 [.bl b] H1 fun x H2 => rMulW (.int s) x H2 fun y H3 => rAdd (.int (if 0 - t > t then 0 - t else t)) y H3 fun z H4 => tNil [some (.int t), some (.int w), some (.int s), some (.int (wayOf t w))] H4 fun xs H5 => ([V.int (wayOf t w), z] ++ xs).length ≤ sizeLine ∧ ∀ p, H5 p = none → Q (.ref p) (upd H5 p (.tup ([V.int (wayOf t w), z] ++ xs)))) := by
    intro b hb
    refine .inr ⟨b, rfl, ?_⟩
    refine g_I (cm (by omega) (by omega) (by split <;> omega) (by split <;> omega)) ?_
    refine g_I0 ?_
    rw [step_max t w s b hb]
    refine g_nil ⟨by show 2 ≤ sizeLine; decide, fun p np => q p _ (sm1.free np) (sm1.trans (same_upd np)) upd_same⟩
  refine ite_b (fun hb => ?_) (fun hb => ?_)
  · walk_at "go"
    exact fin _ (by rw [hb, Bool.true_and])
  · walk_at "go"
    exact fin false (by rw [hb, Bool.false_and])
def sp_law_cost (K : PySem.W.Frag) : Sp := fun vs H Q _ => ∃ (a : Addr) (ts : List Int) (s : Int), vs = [.ref a, .int s] ∧ SqL K H a (ts.map V.int) ∧ 0 ≤ s ∧ s ≤ 1000 ∧ ∀ H', Same H H' → Q (.int (cst s 0 ts)) H'
theorem ln_law_cost {K : PySem.W.Frag} {vs : List V} {H : Hp} {Q : VK} {E : XK} (h : sp_law_cost K vs H Q E) : vs.length = 2 := by
  obtain ⟨_, _, _, rfl, _⟩ := h
  rfl
def t_law_cost (K : PySem.W.Frag) : TS :=
  (tSeq (tAsg (tC (.int 0)) (gName 2))
  (tSeq (tAsg (tC (.int 0)) (gName 3))
  (tSeq (tFor (iList K (tVar 0)) (gName 4)
  (tSeq (tAsg (tCall (sp_law_step K) [] E0 (tCons (tVar 4) (tCons (tVar 3) (tCons (tVar 1) tNil)))) (gTup K 2 (gCons (gName 3) (gCons (gName 5) gNil))))
  (tAsg (tOp rAdd (tVar 2) (tVar 5)) (gName 2))))
  (tRet (tVar 2)))))

theorem rd_law_cost {K : PySem.W.Frag} {vs : List V} {H : Hp} {Q : VK} {E : XK} (h : sp_law_cost K vs H Q E) : t_law_cost K { nx := fun _ H' => Q .non H', rt := Q } (start ["turns", "slack", "total", "way", "turn", "more"] vs) H := by
  obtain ⟨a, ts, s, rfl, hS, s0, s1, q⟩ := h
  show t_law_cost K _ [some (.ref a), some (.int s), none, none, none, none] H
  unfold t_law_cost
  walk_at "go"
  refine g_seq (forL (a := a) (xs := ts.map V.int) (fun Q h => ?_) (fun i σ' H' => Same H H' ∧ ∃ v4 v5, σ' = [some (.ref a), some (.int s), some (.int (cst s 0 (ts.take i))), some (.int (wayAll 0 (ts.take i))), v4, v5]) ⟨Same.refl _, none, none, rfl⟩ (fun i σ' H' _ hp => hp.1.seq hS) (fun i x σ' H' hx hp => ?_) (fun σ' H' hp => ?_))
  · walk_at "go"
    exact h
  · obtain ⟨sm, v4, v5, rfl⟩ := hp
    obtain ⟨t, ht, rfl⟩ := map_at hx
    refine g_seq ?_
    show tCall (sp_law_step K) [] E0 _ _ _ _
    walk_at "go"
    refine ⟨t, _, s, rfl, s0, s1, fun p H1 np sm1 hp => ?_⟩
    refine ⟨p, _, rfl, .inl (.inl hp), rfl, _, _, rfl, _, _, rfl, rfl, ?_⟩
    dsimp only
    walk_at "go"
    refine ⟨sm.trans sm1, some (.int t), some (.int (stepCost t (wayAll 0 (ts.take i)) s)), ?_⟩
    rw [take_snoc ht, cst_app, wayAll_app]
    simp [cst, wayAll]
  · obtain ⟨sm, v4, v5, rfl⟩ := hp
    walk_at "go"
    rw [List.length_map, List.take_length]
    exact q H' sm
def sp_law_whole (K : PySem.W.Frag) : Sp := fun vs H Q _ => ∃ n : Int, vs = [.int n] ∧ Q (.bl true) H
theorem ln_law_whole {K : PySem.W.Frag} {vs : List V} {H : Hp} {Q : VK} {E : XK} (h : sp_law_whole K vs H Q E) : vs.length = 1 := by
  obtain ⟨_, rfl, _⟩ := h
  rfl
def t_law_whole (K : PySem.W.Frag) : TS :=
  (tRet (tAndV (tCB (rIsi K) (tCons (tVar 0) (tCons (tC (.ty "int")) tNil))) (tNotV (tCB (rIsi K) (tCons (tVar 0) (tCons (tC (.ty "bool")) tNil))))))

theorem g_isT {K : PySem.W.Frag} {i : Int} {n : String} {b : Bool} {H : Hp} {Q : VK} (h : kitB "int" n = some b) (q : Q (.bl b) H) : rIsi K [.int i, .ty n] H Q := ⟨.int i, .ty n, .type "int", .type n, b, rfl, .ty n, .base (.int i), kit_ty h, q⟩
theorem rd_law_whole {K : PySem.W.Frag} {vs : List V} {H : Hp} {Q : VK} {E : XK} (h : sp_law_whole K vs H Q E) : t_law_whole K { nx := fun _ H' => Q .non H', rt := Q } (start ["found"] vs) H := by
  obtain ⟨n, rfl, q⟩ := h
  show t_law_whole K _ [some (.int n)] H
  unfold t_law_whole
  walk_at "go"
  refine g_isT (b := true) (by decide +kernel) ?_
  walk_at "go"
  refine g_isT (b := false) (by decide +kernel) ?_
  walk_at "go"
  exact q
def sp_law_word (K : PySem.W.Frag) : Sp := fun vs H Q _ => ∃ (d : Addr) (w : List Nat) (m : Int), vs = [.ref d, .str (S w), .int m] ∧ Dr H d ∧ 1 ≤ w.length ∧ w.length ≤ 1000 ∧ 0 ≤ m ∧ m ≤ 1000 ∧ ∀ (word : List Nat) H', (word.length : Int) ≤ m → (∀ c ∈ word, c ∈ w) → Dr H' d → Fr d H H' → Q (.str (S word)) H'
theorem ln_law_word {K : PySem.W.Frag} {vs : List V} {H : Hp} {Q : VK} {E : XK} (h : sp_law_word K vs H Q E) : vs.length = 3 := by
  obtain ⟨_, _, _, rfl, _⟩ := h
  rfl
theorem LS.word {K : PySem.W.Frag} {G H : Hp} {d : Addr} {w : List Nat} {m : Int} {Q : VK} {E : XK} (hs : LS G d H) (w0 : 1 ≤ w.length) (w1 : w.length ≤ 1000) (m0 : 0 ≤ m) (m1 : m ≤ 1000)
    (k : ∀ (word : List Nat) H', (word.length : Int) ≤ m → (∀ c ∈ word, c ∈ w) → LS G d H' → Q (.str (S word)) H') : sp_law_word K [.ref d, .str (S w), .int m] H Q E :=
  ⟨d, w, m, rfl, hs.dr, w0, w1, m0, m1, fun l H' h0 h1 dr fr => k l H' h0 h1 (hs.to dr fr)⟩
def t_law_word (K : PySem.W.Frag) : TS :=
  (tSeq (tAsg (tOp (rIxL K) (tLst (tCons (tCall (sp_law_draw K) [] E0 (tCons (tVar 0) (tCons (tC (.int 6)) tNil))) (tCons (tCall (sp_law_draw K) [] E0 (tCons (tVar 0) (tCons (tOp rAdd (tVar 2) (tC (.int 1))) tNil))) (tCons (tVar 2) tNil)))) (tCall (sp_law_draw K) [] E0 (tCons (tVar 0) (tCons (tC (.int 3)) tNil)))) (gName 3))
  (tRet (tM1 (rJoin K) (tC (.str "")) (tLc (iRng1 (tCons (tCB rMin2 (tCons (tVar 3) (tCons (tVar 2) tNil))) tNil)) (gName 4) tYes (tOp rIxS (tVar 1) (tCall (sp_law_draw K) [] E0 (tCons (tVar 0) (tCons (tCB rLenStr (tCons (tVar 1) tNil)) tNil)))) [4]))))

theorem rd_law_word {K : PySem.W.Frag} {vs : List V} {H : Hp} {Q : VK} {E : XK} (h : sp_law_word K vs H Q E) : t_law_word K { nx := fun _ H' => Q .non H', rt := Q } (start ["draws", "wheel", "most", "many", "k"] vs) H := by
  obtain ⟨d, w, m, rfl, dr, w0, w1, m0, m1, q⟩ := h
  show t_law_word K _ [some (.ref d), some (.str (S w)), some (.int m), none, none] H
  have hs : LS (but H d) d H := LS.of dr
  replace q : ∀ (word : List Nat) H', (word.length : Int) ≤ m → (∀ c ∈ word, c ∈ w) → LS (but H d) d H' → Q (.str (S word)) H' := fun l H' h0 h1 hs => q l H' h0 h1 hs.dr hs.fr
  generalize but H d = G at hs q
  unfold t_law_word
  walk_at "go"
  refine hs.draw (by omega) (by omega) fun r1 H1 a1 b1 hs => ?_
  walk_at "go"
  refine hs.draw (by omega) (by omega) fun r2 H2 a2 b2 hs => ?_
  walk_at "go"
  refine ⟨by show 3 ≤ sizeLine; decide, fun p np => ?_⟩
  walk_at "go"
  refine (hs.new np).draw (by omega) (by omega) fun r3 H3 a3 b3 hs2 => ?_
  refine hs2.at (hs.nog np) (Bd 0 1000) (by walk_at "bd") a3 b3 fun v hv hs => ?_
  obtain ⟨many, rfl, k0, k1⟩ := hv
  walk_at "go"
  refine ⟨⟨_, rfl⟩, ?_⟩
  have hmin : 0 ≤ (if m < many then m else many) ∧ (if m < many then m else many) ≤ m := by split <;> omega
  generalize hm : (if m < many then m else many) = far at hmin
  refine lc1 (fun n Hm => n = far ∧ Hm = H3) (fun QA h => ?_) (fun n Hm ⟨e, _⟩ => by omega) (fun Dl n i H' => n = far ∧ G Dl = none ∧ Dl ≠ d ∧ ∃ l : List Nat, l.length = i ∧ (∀ c ∈ l, c ∈ w) ∧ H' Dl = some (.lst (l.map fun c => V.str (S [c]))) ∧ LS G d H') (fun Dl n Hm ⟨e, eH⟩ nD => ?_) (fun x => rfl) (fun Dl n i H' hi p => ?_) (fun Dl n H' p => ?_)
  · walk_at "go"
    refine g_min ?_
    walk_at "go"
    rw [hm]
    exact h _ _ ⟨rfl, rfl⟩
  · subst e eH
    exact ⟨rfl, hs.nog nD, hs.dr.ne nD, [], rfl, (fun _ z => nomatch z), upd_same, hs.old nD⟩
  · obtain ⟨rfl, gD, nd, l, el, lo, hD, hs'⟩ := p
    have hs3 := hs'.add hD nd
    walk_at "go"
    refine g_lenS (by omega) ?_
    walk_at "go"
    refine hs3.draw (by omega) (by omega) fun r H4 r0 r1 hs4 => ?_
    obtain ⟨c, ec, hc, _⟩ := atI_of (xs := w) r0 r1
    refine g_ixS (K := K) (by omega) ec ?_
    refine ⟨_, hs4.ex _ _ upd_same, ?_, rfl, gD, nd, l ++ [c], by rw [List.length_append, el]; rfl, fun x hx => ?_, by rw [List.map_append]; exact upd_same, (hs4.drop gD).put gD nd⟩
    · rw [List.length_map, el]
      exact Nat.lt_of_lt_of_le (show i < 1001 by omega) (by decide)
    · rcases List.mem_append.mp hx with e | e
      · exact lo x e
      · rw [List.mem_singleton.mp e]; exact hc
  · obtain ⟨rfl, gD, nd, l, el, lo, hD, hs'⟩ := p
    exact g_joinN (.inl (.inl hD)) (by omega) (q l H' (by omega) lo hs')
end Sw
local macro_rules | `(tactic| walk_at "go1") => `(tactic| first
  | with_reducible refine Sw.g_seqasg ?_ | with_reducible refine Sw.g_op ?_ | with_reducible refine Sw.g_var rfl ?_ | with_reducible refine Sw.g_c ?_ | with_reducible refine Sw.g_I0 ?_
  | with_reducible refine Sw.g_cons ?_ | with_reducible refine Sw.g_nil ?_ | with_reducible refine Sw.g_call ?_ | with_reducible refine Sw.g_cb ?_ | with_reducible refine Sw.g_test ?_ | with_reducible refine Sw.g_bl ?_
  | with_reducible refine Sw.g_seqdrop ?_ | with_reducible refine Sw.g_seqsub ?_ | with_reducible refine Sw.g_asg ?_ | with_reducible refine Sw.g_asgsub ?_ | with_reducible refine Sw.g_ret ?_ | with_reducible refine Sw.g_drop ?_ | with_reducible refine Sw.g_if ?_ | with_reducible refine Sw.g_next ?_ | with_reducible refine Sw.g_name ?_
  | with_reducible refine Sw.g_B ?_ | with_reducible refine Sw.g_not ?_ | with_reducible refine Sw.g_and ?_ | with_reducible refine Sw.g_or ?_ | with_reducible refine Sw.g_andV ?_ | with_reducible refine Sw.g_orV ?_ | with_reducible refine Sw.g_notV ?_
  | with_reducible refine Sw.g_ifE ?_ | with_reducible refine Sw.g_chain ?_ | with_reducible refine Sw.g_un ?_ | with_reducible refine Sw.g_tup ?_ | with_reducible refine Sw.g_lst ?_ | with_reducible refine Sw.g_sl ?_ | with_reducible refine Sw.g_part ?_ | with_reducible refine Sw.g_nopart ?_
  | with_reducible refine Sw.g_U ?_ | with_reducible refine Sw.g_eq rfl ?_ | with_reducible refine Sw.g_ne rfl ?_ | with_reducible refine Sw.g_int ?_ | with_reducible refine Sw.g_yes ?_ | with_reducible refine L2.iteT ?_ | with_reducible refine L2.iteF ?_ | with_reducible refine Sw.iteNT ?_ | with_reducible refine Sw.iteNF ?_ | with_reducible refine Sw.g_m1 ?_ | with_reducible refine Sw.g_bm ?_ | with_reducible refine ⟨Sw.ty_lst (by assumption), ?_⟩ | with_reducible refine Sw.g_sput ?_ | with_reducible refine Sw.g_put ?_ | with_reducible refine Sw.g_dget2 ?_ | with_reducible refine Sw.g_dget ?_ | with_reducible refine Sw.g_dK ?_ | with_reducible refine Sw.g_dT ?_ | with_reducible refine Sw.g_dnotin ?_ | with_reducible refine Sw.g_din ?_ | with_reducible refine Sw.g_bm0 ?_
  | with_reducible refine Sw.g_ixL (by assumption) rfl ?_ | with_reducible refine Sw.g_ixT (by assumption) rfl ?_)
local macro_rules | `(tactic| walk_at "go") => `(tactic| repeat walk_at "go1")
local macro_rules | `(tactic| walk_at "bd") => `(tactic| repeat (first | with_reducible exact Sw.all_nil | refine Sw.all_cons ⟨_, rfl, by omega, by omega⟩ ?_))
local macro_rules | `(tactic| walk_at "new") => `(tactic| (refine ⟨Nat.le_of_ble_eq_true rfl, fun p np => ?_⟩; generalize hX : L2.upd _ p _ = H'; have sm : L2.Same _ H' := hX ▸ Sw.same_upd np; have hp : H' p = some _ := hX ▸ L2.upd_same; clear hX))
namespace Sw
open PySem PySem.Spec PyProof.Rows L2 SX
/-! ### small errands, all their plans -/
theorem count_bd (x y : Str) : 0 ≤ Txt.count x y ∧ Txt.count x y ≤ (x.length : Int) + 1 := by
  unfold Txt.count
  have h := PySem.StrLaws.occ_length_le x y 0 x.length (x.length + 1)
  omega
def sp_law_small (K : PySem.W.Frag) : Sp := fun vs H Q _ => ∃ d : Addr, vs = [.ref d] ∧ Dr H d ∧ ∀ (w word : List Nat) p H', 1 ≤ w.length → w.length ≤ 6 → Low w → word.length ≤ 5 → (∀ c ∈ word, c ∈ w) → Dr H' d → Fr d H H' → H' p = some (.tup [.str (S w), .str (S word)]) → Q (.ref p) H'
theorem ln_law_small {K : PySem.W.Frag} {vs : List V} {H : Hp} {Q : VK} {E : XK} (h : sp_law_small K vs H Q E) : vs.length = 1 := by
  obtain ⟨_, rfl, _⟩ := h
  rfl
def t_law_small (K : PySem.W.Frag) : TS :=
  (tSeq (tAsg (tCall (sp_law_wheel K) [] E0 (tCons (tVar 0) (tCons (tC (.int 6)) tNil))) (gName 1))
  (tSeq (tAsg (tC (.str "")) (gName 2))
  (tSeq (tAsg (tC (.int 1)) (gName 3))
  (tSeq (tFor (iRng1 (tCons (tCall (sp_law_draw K) [] E0 (tCons (tVar 0) (tCons (tC (.int 6)) tNil))) tNil)) (gName 4)
  (tSeq (tAsg (tOp rIxS (tVar 1) (tCall (sp_law_draw K) [] E0 (tCons (tVar 0) (tCons (tCB rLenStr (tCons (tVar 1) tNil)) tNil)))) (gName 5))
  (tIfS (tTest (tOp rLe (tOp rMulW (tOp rMulW (tVar 3) (tC (.int 2))) (tM1 rCount (tVar 1) (tVar 5))) (tC (.int 600)))) (tSeq (tAsg (tOp rMulW (tOp rMulW (tVar 3) (tC (.int 2))) (tM1 rCount (tVar 1) (tVar 5))) (gName 3))
  (tAsg (tOp rAddS (tVar 2) (tVar 5)) (gName 2))) tNext)))
  (tRet (tTup (tCons (tVar 1) (tCons (tVar 2) tNil))))))))

theorem rd_law_small {K : PySem.W.Frag} {vs : List V} {H : Hp} {Q : VK} {E : XK} (h : sp_law_small K vs H Q E) : t_law_small K { nx := fun _ H' => Q .non H', rt := Q } (start ["draws", "wheel", "word", "many", "k", "sign"] vs) H := by
  obtain ⟨d, rfl, dr, q⟩ := h
  show t_law_small K _ [some (.ref d), none, none, none, none, none] H
  have hs : LS (but H d) d H := LS.of dr
  unfold t_law_small
  walk_at "go"
  refine hs.wheel (by decide) (by decide) fun w H1 w1 w2 low hs => ?_
  walk_at "go"
  refine g_seq (for1 (fun n Hn => 0 ≤ n ∧ n < 6 ∧ LS (but H d) d Hn) (fun QA h => ?_) (fun n i σ' H' => n < 6 ∧ LS (but H d) d H' ∧ ∃ (word : List Nat) (many : Int), word.length ≤ i ∧ (∀ c ∈ word, c ∈ w) ∧ 0 ≤ many ∧ many ≤ 600 ∧ ∃ (v4 v5 : Option V), σ' = [some (.ref d), some (.str (S w)), some (.str (S word)), some (.int many), v4, v5]) (fun n Hn hc => ?_) (fun n i σ' H' hi hp => ?_) (fun n σ' H' hp => ?_))
  · walk_at "go"
    refine hs.draw (by omega) (by omega) fun r H2 a b hs => ?_
    exact h _ _ ⟨a, b, hs⟩
  · obtain ⟨c0, c1, hs⟩ := hc
    exact ⟨by omega, by omega, c1, hs, [], 1, by decide, (fun _ z => nomatch z), by decide, by decide, _, _, rfl⟩
  · obtain ⟨n6, hs, word, many, lw, hin, m0, m1, v4, v5, rfl⟩ := hp
    walk_at "go"
    refine g_lenS (by omega) ?_
    walk_at "go"
    refine hs.draw (by omega) (by omega) fun r H2 r0 r1 hs => ?_
    obtain ⟨c, ec, hc, _⟩ := atI_of (xs := w) r0 r1
    refine g_ixS (K := K) (by omega) ec ?_
    obtain ⟨k0, k1⟩ := count_bd (S w) (S [c])
    rw [S_len] at k1
    walk_at "go"
    refine g_I (cm (by omega) (by omega) (by omega) (by omega)) ?_
    walk_at "go"
    refine ⟨⟨_, rfl⟩, ?_⟩
    walk_at "go"
    refine ⟨_, _, rfl, rfl, ?_⟩
    generalize hk : Txt.count (S w) (S [c]) = k at k0 k1
    refine g_I (cm (by omega) (by omega) (by omega) (by omega)) ?_
    walk_at "go"
    refine ite_d (fun hle => ?_) (fun hle => ?_)
    · walk_at "go"
      refine g_I (cm (by omega) (by omega) (by omega) (by omega)) ?_
      walk_at "go"
      refine ⟨⟨_, rfl⟩, ?_⟩
      walk_at "go"
      refine ⟨_, _, rfl, rfl, ?_⟩
      rw [hk]
      refine g_I (cm (by omega) (by omega) (by omega) (by omega)) ?_
      walk_at "go"
      refine g_cat (by show _ + 1 ≤ _; omega) ?_
      refine ⟨n6, hs, word ++ [c], many * 2 * k, by rw [List.length_append]; show _ + 1 ≤ _; omega, fun x hx => ?_, Int.mul_nonneg (by omega) k0, hle, _, _, rfl⟩
      rcases List.mem_append.mp hx with e | e
      · exact hin x e
      · rw [List.mem_singleton.mp e]; exact hc
    · walk_at "go"
      exact ⟨n6, hs, word, many, by omega, hin, m0, m1, _, _, rfl⟩
  · obtain ⟨n6, hs, word, many, lw, hin, m0, m1, v4, v5, rfl⟩ := hp
    walk_at "go"
    refine ⟨by show 2 ≤ sizeLine; decide, fun p np => ?_⟩
    have hs2 := hs.old (o := .tup [.str (S w), .str (S word)]) np
    exact q w word p _ w1 (by omega) low (by omega) hin hs2.dr hs2.fr upd_same
abbrev Pln := List Int × Int
def plnNext (w : List Nat) (x : Nat) (e : Pln) : List Pln := (turnsTo w e.2 [x]).map fun t => (e.1 ++ [t], (e.2 + t) % (w.length : Int))
def plansN (w : List Nat) (x : Nat) (F : List Pln) : List Pln := F.flatMap (plnNext w x)
def plansI (w : List Nat) (word : List Nat) : List Pln := word.foldl (fun F x => plansN w x F) [([], 0)]
theorem plansI_snoc (w word : List Nat) (x : Nat) : plansI w (word ++ [x]) = plansN w x (plansI w word) := by unfold plansI; rw [List.foldl_append]; rfl
theorem plansN_len (w : List Nat) (x : Nat) (F : List Pln) : (plansN w x F).length ≤ F.length * (2 * w.length - 1) := by
  unfold plansN
  induction F with
  | nil => simp
  | cons e F ih =>
    rw [List.flatMap_cons, List.length_append, List.length_cons, Nat.succ_mul]
    have h1 : (plnNext w x e).length ≤ 2 * w.length - 1 := by unfold plnNext; rw [List.length_map]; exact turnsTo_len _ _ _
    omega
theorem plansI_len {w : List Nat} (hw : w.length ≤ 6) : ∀ (word : List Nat), (plansI w word).length ≤ 11 ^ word.length := fun word => by
  have : ∀ k, k ≤ word.length → (plansI w (word.take k)).length ≤ 11 ^ k := by
    intro k
    induction k with
    | zero => intro _; exact Nat.le_refl _
    | succ k ih =>
      intro hk
      obtain ⟨x, hx⟩ : ∃ x, word[k]? = some x := ⟨_, List.getElem?_eq_getElem (by omega)⟩
      rw [take_snoc hx, plansI_snoc]
      refine Nat.le_trans (plansN_len _ _ _) ?_
      rw [Nat.pow_succ]
      exact Nat.mul_le_mul (ih (by omega)) (by omega)
  have h := this word.length (Nat.le_refl _)
  rwa [List.take_length] at h
theorem plansI_one (w : List Nat) : ∀ (word : List Nat) (e : Pln), e ∈ plansI w word → e.1.length = word.length := fun word => by
  have : ∀ k, k ≤ word.length → ∀ e ∈ plansI w (word.take k), e.1.length = k := by
    intro k
    induction k with
    | zero =>
      intro _ e he
      have : e = ([], 0) := by simpa [plansI] using he
      rw [this]
      rfl
    | succ k ih =>
      intro hk e he
      obtain ⟨x, hx⟩ : ∃ x, word[k]? = some x := ⟨_, List.getElem?_eq_getElem (by omega)⟩
      rw [take_snoc hx, plansI_snoc] at he
      unfold plansN plnNext at he
      obtain ⟨e', he', hm⟩ := List.mem_flatMap.mp he
      obtain ⟨t, _, rfl⟩ := List.mem_map.mp hm
      show (e'.1 ++ [t]).length = k + 1
      rw [List.length_append, ih (by omega) e' he']
      rfl
  have h := this word.length (Nat.le_refl _)
  rwa [List.take_length] at h
/-- the two that stand in a pair -/
def pairAt (H : Hp) : V → V × V
  | .ref a => match H a with
    | some (.tup [x, y]) => (x, y)
    | _ => (.non, .non)
  | _ => (.non, .non)
theorem pairAt_of {H : Hp} {a : Addr} {x y : V} (h : H a = some (.tup [x, y])) : pairAt H (.ref a) = (x, y) := by
  show (match H a with | some (.tup [x, y]) => (x, y) | _ => (.non, .non)) = (x, y)
  rw [h]
theorem given_all (xs : List V) (g : V → V) : given xs.length (fun _ => true) (fun i => g (xs.getD i .non)) = xs.map g := by
  have := given_list xs .non (fun _ => true) g
  rw [List.filter_eq_self.mpr (by simp)] at this
  exact this
/-- a plan told: its turns, the place behind them -/
def PlnV (H : Hp) (v : V) (e : Pln) : Prop := ∃ a b, v = .ref a ∧ H a = some (.tup [.ref b, .int e.2]) ∧ H b = some (.lst (e.1.map V.int))
theorem mono_pln : Mono PlnV := fun G G' v y e ⟨a, b, h1, h2, h3⟩ => ⟨a, b, h1, e _ _ h2, e _ _ h3⟩
def TrnV (H : Hp) (v : V) (ts : List Int) : Prop := ∃ b, v = .ref b ∧ H b = some (.lst (ts.map V.int))
theorem mono_trn : Mono TrnV := fun G G' v y e ⟨b, h1, h2⟩ => ⟨b, h1, e _ _ h2⟩
def sp_law_plans (K : PySem.W.Frag) : Sp := fun vs H Q _ => ∃ w word : List Nat, vs = [.str (S w), .str (S word)] ∧ 1 ≤ w.length ∧ w.length ≤ 6 ∧ word.length ≤ 5 ∧
  ∀ q xs H', H q = none → Same H H' → H' q = some (.lst xs) → Paired (TrnV H') xs ((plansI w word).map (·.1)) → Q (.ref q) H'
theorem ln_law_plans {K : PySem.W.Frag} {vs : List V} {H : Hp} {Q : VK} {E : XK} (h : sp_law_plans K vs H Q E) : vs.length = 2 := by
  obtain ⟨_, _, rfl, _⟩ := h
  rfl
def t_law_plans (K : PySem.W.Frag) : TS :=
  (tSeq (tAsg (tLst (tCons (tTup (tCons (tLst tNil) (tCons (tC (.int 0)) tNil))) tNil)) (gName 2))
  (tSeq (tFor (iStr (tVar 1)) (gName 3)
  (tSeq (tAsg (tLst tNil) (gName 4))
  (tSeq (tFor (iList K (tVar 2)) (gTup K 2 (gCons (gName 5) (gCons (gName 6) gNil)))
  (tFor (iList K (tCall (sp_law_reach_turns K) [] E0 (tCons (tVar 0) (tCons (tVar 6) (tCons (tVar 3) tNil))))) (gName 7)
  (tDrop (tBM K "list" rAppend (tVar 4) (tCons (tTup (tCons (tOp rCat (tVar 5) (tLst (tCons (tVar 7) tNil))) (tCons (tOp rMod (tOp rAdd (tVar 6) (tVar 7)) (tCB rLenStr (tCons (tVar 0) tNil))) tNil))) tNil)))))
  (tAsg (tVar 4) (gName 2)))))
  (tRet (tLc (iList K (tVar 2)) (gTup K 2 (gCons (gName 5) (gCons (gName 6) gNil))) tYes (tVar 5) [5, 6]))))

theorem plansN_take {w : List Nat} {x : Nat} {F : List Pln} {k : Nat} {e : Pln} (h : F[k]? = some e) : plansN w x (F.take (k + 1)) = plansN w x (F.take k) ++ plnNext w x e := by
  unfold plansN
  rw [take_snoc h, List.flatMap_append]
  simp
theorem plns_len {w : List Nat} {word : List Nat} {x : Nat} {k z : Nat} {e : Pln} (hw : w.length ≤ 6) (hl : word.length < 5) (h : (plansI w word)[k]? = some e) : (plansN w x ((plansI w word).take k) ++ (plnNext w x e).take z).length ≤ 1000000 := by
  have h1 := plansI_len hw word
  have h2 : 11 ^ word.length ≤ 11 ^ 4 := Nat.pow_le_pow_right (by decide) (by omega)
  have h3 := plansN_len w x ((plansI w word).take k)
  have h4 : ((plansI w word).take k).length * (2 * w.length - 1) ≤ 11 ^ 4 * 11 := Nat.mul_le_mul (by rw [List.length_take]; omega) (by omega)
  have h5 : ((plnNext w x e).take z).length ≤ 11 := by
    rw [List.length_take]
    unfold plnNext
    rw [List.length_map]
    have := turnsTo_len w e.2 [x]
    omega
  rw [List.length_append]
  have : (11 : Nat) ^ 4 * 11 = 161051 := by decide
  omega
set_option maxHeartbeats 8000000 in
theorem rd_law_plans {K : PySem.W.Frag} {vs : List V} {H : Hp} {Q : VK} {E : XK} (h : sp_law_plans K vs H Q E) : t_law_plans K { nx := fun _ H' => Q .non H', rt := Q } (start ["wheel", "word", "found", "sign", "more", "turns", "place", "turn"] vs) H := by
  obtain ⟨w, word, rfl, w1, w2, l5, q⟩ := h
  show t_law_plans K _ [some (.str (S w)), some (.str (S word)), none, none, none, none, none, none] H
  unfold t_law_plans
  walk_at "go"
  walk_at "new"
  rename_i b0 nb0 H0 s0 hb0
  walk_at "go"
  walk_at "new"
  rename_i a0 na0 H1 s1 ha0
  walk_at "go"
  walk_at "new"
  rename_i f0 nf0 H2 s2 hf0
  have sH : Same H H2 := s0.trans (s1.trans s2)
  have hst : Paired (PlnV H2) [.ref a0] (plansI w (word.take 0)) := .cons ⟨a0, b0, rfl, s2 _ _ ha0, s2 _ _ (s1 _ _ hb0)⟩ .nil
  refine g_seq (forS (l := word) (fun Q h => ?_) (fun i σ' H' => Same H H' ∧ ∃ f xs, H' f = some (.lst xs) ∧ Paired (PlnV H') xs (plansI w (word.take i)) ∧ ∃ (v3 v4 v5 v6 v7 : Option V), σ' = [some (.str (S w)), some (.str (S word)), some (.ref f), v3, v4, v5, v6, v7]) ⟨sH, f0, _, hf0, hst, _, _, _, _, _, rfl⟩ (fun i c σ' H' hc hp => ?_) (fun σ' H' hp => ?_))
  · walk_at "go"
    exact h
  · obtain ⟨sm, f, xs, hf, hpd, v3, v4, v5, v6, v7, rfl⟩ := hp
    have li : i < word.length := (List.getElem?_eq_some_iff.mp hc).1
    rw [take_snoc hc, plansI_snoc]
    have hlen : (word.take i).length < 5 := by rw [List.length_take]; omega
    generalize hF : word.take i = wd at hpd hlen
    walk_at "go"
    refine ⟨by decide, fun m nm => ?_⟩
    have nmf : f ≠ m := fun z => by rw [← z, hf] at nm; cases nm
    refine g_seq (forL (a := f) (xs := xs) (fun Q h => ?_) (fun k σ' H3 => OwnP PlnV H' m (plansN w c ((plansI w wd).take k)) H3 ∧ ∃ (v5 v6 v7 : Option V), σ' = [some (.str (S w)), some (.str (S word)), some (.ref f), some (.str (S [c])), some (.ref m), v5, v6, v7]) ⟨OwnP.new nm, _, _, _, rfl⟩ (fun k σ' H3 _ hp => .inl (.inl (hp.1.sm _ _ hf))) (fun k x σ' H3 hx hp => ?_) (fun σ' H3 hp => ?_))
    · walk_at "go"
      exact h
    · obtain ⟨ow, v5, v6, v7, rfl⟩ := hp
      obtain ⟨e, he, a, b, rfl, ha, hb⟩ := paired_get hpd hx
      have ha3 := ow.sm _ _ ha
      have hb3 := ow.sm _ _ hb
      refine ⟨a, _, rfl, .inl (.inl ha3), rfl, _, _, rfl, _, _, rfl, rfl, ?_⟩
      show tCall (sp_law_reach_turns K) [] E0 _ [some (.str (S w)), some (.str (S word)), some (.ref f), some (.str (S [c])), some (.ref m), some (.ref b), some (.int e.2), v7] H3 _
      walk_at "go"
      refine ⟨w, e.2, [c], rfl, w1, by omega, fun tl H4 ntl s4 htl => ?_⟩
      have ow4 := ow.same mono_pln s4
      have ntm : tl ≠ m := fun z => by
        obtain ⟨zs, _, _, h3, _⟩ := ow
        rw [z, h3] at ntl; cases ntl
      refine ⟨tl, rfl, ⟨_, .inl (.inl htl)⟩, for_list (xs := (turnsTo w e.2 [c]).map V.int) (fun z σ' H5 => H5 tl = some (.lst ((turnsTo w e.2 [c]).map V.int)) ∧ H5 b = some (.lst (e.1.map V.int)) ∧ OwnP PlnV H' m (plansN w c ((plansI w wd).take k) ++ (plnNext w c e).take z) H5 ∧ ∃ (v7 : Option V), σ' = [some (.str (S w)), some (.str (S word)), some (.ref f), some (.str (S [c])), some (.ref m), some (.ref b), some (.int e.2), v7]) ⟨htl, s4 _ _ hb3, by rw [List.take_zero, List.append_nil]; exact ow4, _, rfl⟩ (fun z σ' H5 _ hp => .inl (.inl hp.1)) (fun z x σ' H5 hx hp => ?_) (fun σ' H5 hp => ?_)⟩
      · obtain ⟨htl5, hb5, ow5, v7, rfl⟩ := hp
        obtain ⟨t, ht, rfl⟩ := map_at hx
        have hnx : (plnNext w c e)[z]? = some (e.1 ++ [t], (e.2 + t) % (w.length : Int)) := by unfold plnNext; rw [List.getElem?_map, ht]; rfl
        have hlz := plns_len (x := c) (z := z) w2 hlen he
        obtain ⟨zs5, _, _, hm5, _⟩ := id ow5
        show tDrop _ _ _ _
        walk_at "go"
        walk_at "new"
        rename_i p1 np1 H6 s6 hp1
        refine g_catL (s6 _ _ hb5) hp1 (by rw [List.length_map, plansI_one w wd e (List.mem_of_getElem? he)]; show _ + 1 ≤ _; omega) fun p2 H7 np2 s7 hp2 => ?_
        walk_at "go"
        refine g_lenS (by omega) ?_
        refine g_I (by omega) ?_
        walk_at "go"
        walk_at "new"
        rename_i p3 np3 H8 s8 hp3
        walk_at "go"
        have s58 := s6.trans (s7.trans s8)
        have np2m : p2 ≠ m := fun u => by rw [u, s6 _ _ hm5] at np2; cases np2
        have np3m : p3 ≠ m := fun u => by rw [u, s7 _ _ (s6 _ _ hm5)] at np3; cases np3
        refine ow5.app mono_pln s58 (by omega) (y := (e.1 ++ [t], (e.2 + t) % (w.length : Int))) ⟨p3, p2, rfl, but_ne hp3 np3m, but_ne ?_ np2m⟩ fun H9 ow9 k9 => ⟨?_, ?_, ?_, _, rfl⟩
        · rw [s8 _ _ hp2, List.map_append]
          rfl
        · rw [k9 tl ntm]
          exact s58 _ _ htl5
        · rw [k9 b (fun u => by rw [u, nm] at hb; cases hb)]
          exact s58 _ _ hb5
        · rw [take_snoc hnx, ← List.append_assoc]
          exact ow9
      · obtain ⟨htl5, hb5, ow5, v7, rfl⟩ := hp
        have el : ((turnsTo w e.2 [c]).map V.int).length = (plnNext w c e).length := by unfold plnNext; rw [List.length_map, List.length_map]
        rw [el, List.take_length, ← plansN_take he] at ow5
        exact ⟨ow5, _, _, _, rfl⟩
    · obtain ⟨ow, v5, v6, v7, rfl⟩ := hp
      rw [Paired.length hpd, List.take_length] at ow
      obtain ⟨zs, hm, hpm⟩ := ow.all mono_pln
      walk_at "go"
      exact ⟨sm.trans ow.sm, m, zs, hm, hpm, _, _, _, _, _, rfl⟩
  · obtain ⟨sm, f, xs, hf, hpd, v3, v4, v5, v6, v7, rfl⟩ := hp
    rw [List.take_length] at hpd
    have lx := Paired.length hpd
    have hll := plansI_len w2 word
    have h11 : 11 ^ word.length ≤ 11 ^ 5 := Nat.pow_le_pow_right (by decide) l5
    have e11 : (11 : Nat) ^ 5 = 161051 := by decide
    walk_at "go"
    refine lcPG' (a := f) (xs := xs) (fun k => [some (.str (S w)), some (.str (S word)), some (.ref f), v3, v4, some (pairAt H' (xs.getD k .non)).1, some (pairAt H' (xs.getD k .non)).2, v7]) (fun _ => true) (fun k => (fun x => (pairAt H' x).1) (xs.getD k .non)) (fun Q h => ?_) (.inl (.inl hf)) (by omega) (fun k x H2 QS hx sm h => ?_) (fun k _ => rfl) (fun k x H2 QT hx sm h => h) (fun k x H2 Q hx sm hf h => ?_) (fun m H2 nm s2 hm => ?_)
    · walk_at "go"
      exact h
    · obtain ⟨e, he, a, b, rfl, ha, hb⟩ := paired_get hpd hx
      rw [getD_of' hx, pairAt_of ha] at h
      exact ⟨a, _, rfl, .inl (.inl (sm _ _ ha)), rfl, _, _, rfl, _, _, rfl, rfl, h⟩
    · exact g_var rfl h
    · replace hm := hm.trans (congrArg (fun z => some (HO.lst z)) (given_all xs fun x => (pairAt H' x).1))
      refine q m _ H2 (sm.free nm) (sm.trans s2) hm ?_
      have gen : ∀ (zs : List V) (es : List Pln), Paired (PlnV H') zs es → Paired (TrnV H2) (zs.map fun x => (pairAt H' x).1) (es.map (·.1)) := by
        intro zs es hp
        induction hp with
        | nil => exact .nil
        | cons r t ih =>
          obtain ⟨a, b, rfl, ha, hb⟩ := r
          refine .cons ?_ ih
          show TrnV H2 (pairAt H' (.ref a)).1 _
          rw [pairAt_of ha]
          exact ⟨b, rfl, s2 _ _ hb⟩
      exact gen xs _ hpd
theorem mem_plans {w : List Nat} (s : Int) : ∀ (word : List Nat) (e : Pln), e ∈ plansI w word ↔ ∃ wy c, Run w s (0, 0) word e.1 (e.2, wy) c := fun word => by
  have : ∀ k, k ≤ word.length → ∀ e : Pln, e ∈ plansI w (word.take k) ↔ ∃ wy c, Run w s (0, 0) (word.take k) e.1 (e.2, wy) c := by
    intro k
    induction k with
    | zero =>
      intro _ e
      rw [List.take_zero]
      constructor
      · intro he
        have : e = ([], 0) := by simpa [plansI] using he
        rw [this]
        exact ⟨0, 0, .nil _⟩
      · rintro ⟨wy, c, r⟩
        obtain ⟨ts, p⟩ := e
        cases r
        exact List.mem_singleton.mpr rfl
    | succ k ih =>
      intro hk e
      obtain ⟨x, hx⟩ : ∃ x, word[k]? = some x := ⟨_, List.getElem?_eq_getElem (by omega)⟩
      rw [take_snoc hx, plansI_snoc]
      unfold plansN plnNext
      rw [List.mem_flatMap]
      constructor
      · rintro ⟨e', he', hm⟩
        obtain ⟨t, ht, rfl⟩ := List.mem_map.mp hm
        obtain ⟨wy, c, r⟩ := (ih (by omega) e').mp he'
        exact ⟨wayOf t wy, _, run_snoc r ht⟩
      · rintro ⟨wy, c, r⟩
        obtain ⟨ts', t, b', c', e1, r', ht, e2, e3⟩ := run_unsnoc _ r
        refine ⟨(ts', b'.1), (ih (by omega) _).mpr ⟨b'.2, c', r'⟩, List.mem_map.mpr ⟨t, ht, ?_⟩⟩
        have e4 := congrArg Prod.fst e2
        exact Prod.ext e1.symm e4.symm
  have h := this word.length (Nat.le_refl _)
  rwa [List.take_length] at h
end Sw
local macro_rules | `(tactic| walk_at "go1") => `(tactic| first
  | with_reducible refine Sw.g_seqasg ?_ | with_reducible refine Sw.g_op ?_ | with_reducible refine Sw.g_var rfl ?_ | with_reducible refine Sw.g_c ?_ | with_reducible refine Sw.g_I0 ?_
  | with_reducible refine Sw.g_cons ?_ | with_reducible refine Sw.g_nil ?_ | with_reducible refine Sw.g_call ?_ | with_reducible refine Sw.g_cb ?_ | with_reducible refine Sw.g_test ?_ | with_reducible refine Sw.g_bl ?_
  | with_reducible refine Sw.g_seqdrop ?_ | with_reducible refine Sw.g_seqsub ?_ | with_reducible refine Sw.g_asg ?_ | with_reducible refine Sw.g_asgsub ?_ | with_reducible refine Sw.g_ret ?_ | with_reducible refine Sw.g_drop ?_ | with_reducible refine Sw.g_if ?_ | with_reducible refine Sw.g_next ?_ | with_reducible refine Sw.g_name ?_
  | with_reducible refine Sw.g_B ?_ | with_reducible refine Sw.g_not ?_ | with_reducible refine Sw.g_and ?_ | with_reducible refine Sw.g_or ?_ | with_reducible refine Sw.g_andV ?_ | with_reducible refine Sw.g_orV ?_ | with_reducible refine Sw.g_notV ?_
  | with_reducible refine Sw.g_ifE ?_ | with_reducible refine Sw.g_chain ?_ | with_reducible refine Sw.g_un ?_ | with_reducible refine Sw.g_tup ?_ | with_reducible refine Sw.g_lst ?_ | with_reducible refine Sw.g_sl ?_ | with_reducible refine Sw.g_part ?_ | with_reducible refine Sw.g_nopart ?_
  | with_reducible refine Sw.g_U ?_ | with_reducible refine Sw.g_eq rfl ?_ | with_reducible refine Sw.g_ne rfl ?_ | with_reducible refine Sw.g_int ?_ | with_reducible refine Sw.g_yes ?_ | with_reducible refine L2.iteT ?_ | with_reducible refine L2.iteF ?_ | with_reducible refine Sw.iteNT ?_ | with_reducible refine Sw.iteNF ?_ | with_reducible refine Sw.g_m1 ?_ | with_reducible refine Sw.g_bm ?_ | with_reducible refine ⟨Sw.ty_lst (by assumption), ?_⟩ | with_reducible refine Sw.g_sput ?_ | with_reducible refine Sw.g_put ?_ | with_reducible refine Sw.g_dget2 ?_ | with_reducible refine Sw.g_dget ?_ | with_reducible refine Sw.g_dK ?_ | with_reducible refine Sw.g_dT ?_ | with_reducible refine Sw.g_dnotin ?_ | with_reducible refine Sw.g_din ?_ | with_reducible refine Sw.g_bm0 ?_
  | with_reducible refine Sw.g_ixL (by assumption) rfl ?_ | with_reducible refine Sw.g_ixT (by assumption) rfl ?_)
local macro_rules | `(tactic| walk_at "go") => `(tactic| repeat walk_at "go1")
local macro_rules | `(tactic| walk_at "bd") => `(tactic| repeat (first | with_reducible exact Sw.all_nil | refine Sw.all_cons ⟨_, rfl, by omega, by omega⟩ ?_))
local macro_rules | `(tactic| walk_at "new") => `(tactic| (refine ⟨Nat.le_of_ble_eq_true rfl, fun p np => ?_⟩; generalize hX : L2.upd _ p _ = H'; have sm : L2.Same _ H' := hX ▸ Sw.same_upd np; have hp : H' p = some _ := hX ▸ L2.upd_same; clear hX))
namespace Sw
open PySem PySem.Spec PyProof.Rows L2 SX
/-! ### the law's own rows: least costs and in how many ways -/
abbrev Row2 := List (Std × (Int × Int))
def valG (R : Row2) (st : Std) : Option (Int × Int) := (R.find? fun e => decide (e.1 = st)).map (·.2)
def putG (R : Row2) (st : Std) (c : Int × Int) : Row2 := if (R.any fun e => decide (e.1 = st)) = true then R.map (fun e => if e.1 = st then (e.1, c) else e) else R ++ [(st, c)]
theorem valG_any (R : Row2) (st : Std) : (R.any fun e => decide (e.1 = st)) = (valG R st).isSome := by
  induction R with
  | nil => rfl
  | cons e R ih =>
    rw [List.any_cons]
    unfold valG
    by_cases h : e.1 = st
    · rw [List.find?_cons_of_pos (by simpa using h)]
      simp [h]
    · rw [List.find?_cons_of_neg (by simpa using h)]
      simp only [h, decide_false, Bool.false_or]
      exact ih
theorem valG_put (R : Row2) (st st' : Std) (c : Int × Int) : valG (putG R st c) st' = if st' = st then some c else valG R st' := by
  unfold putG
  by_cases a : (R.any fun e => decide (e.1 = st)) = true
  · rw [if_pos a]
    have key : ∀ R : Row2, valG (R.map fun e => if e.1 = st then (e.1, c) else e) st' = if st' = st then (valG R st').map (fun _ => c) else valG R st' := by
      intro R
      induction R with
      | nil => unfold valG; simp
      | cons e R ih =>
        rw [List.map_cons]
        by_cases h : e.1 = st
        · rw [if_pos h]
          by_cases z : st' = st
          · subst z
            unfold valG
            rw [List.find?_cons_of_pos (by simpa using h), List.find?_cons_of_pos (by simpa using h), if_pos rfl]
            rfl
          · have h2 : ¬ e.1 = st' := fun y => z (by rw [← y, h])
            have e1 : valG ((e.1, c) :: R.map fun e => if e.1 = st then (e.1, c) else e) st' = valG (R.map fun e => if e.1 = st then (e.1, c) else e) st' := by unfold valG; rw [List.find?_cons_of_neg (by simpa using h2)]
            have e2 : valG (e :: R) st' = valG R st' := by unfold valG; rw [List.find?_cons_of_neg (by simpa using h2)]
            rw [e1, ih, e2]
        · rw [if_neg h]
          by_cases z : e.1 = st'
          · have h2 : ¬ st' = st := fun y => h (by rw [z, y])
            rw [if_neg h2]
            unfold valG
            rw [List.find?_cons_of_pos (by simpa using z), List.find?_cons_of_pos (by simpa using z)]
          · have e1 : valG (e :: R.map fun e => if e.1 = st then (e.1, c) else e) st' = valG (R.map fun e => if e.1 = st then (e.1, c) else e) st' := by unfold valG; rw [List.find?_cons_of_neg (by simpa using z)]
            have e2 : valG (e :: R) st' = valG R st' := by unfold valG; rw [List.find?_cons_of_neg (by simpa using z)]
            rw [e1, ih, e2]
    rw [key R]
    by_cases z : st' = st
    · rw [if_pos z, if_pos z]
      rw [valG_any] at a
      subst z
      obtain ⟨x, hx⟩ := Option.isSome_iff_exists.mp a
      rw [hx]
      rfl
    · rw [if_neg z, if_neg z]
  · rw [if_neg a]
    have hn : valG R st = none := by
      rw [valG_any] at a
      cases h : valG R st with
      | none => rfl
      | some x => rw [h] at a; exact absurd rfl a
    have key : ∀ R : Row2, valG R st = none → valG (R ++ [(st, c)]) st' = if st' = st then some c else valG R st' := by
      intro R
      induction R with
      | nil =>
        intro _
        unfold valG
        by_cases z : st = st'
        · rw [List.nil_append, List.find?_cons_of_pos (by simpa using z), if_pos z.symm]
          rfl
        · rw [List.nil_append, List.find?_cons_of_neg (by simpa using z), if_neg (fun y => z y.symm)]
      | cons e R ih =>
        intro hn
        have hne : ¬ e.1 = st := fun y => by unfold valG at hn; rw [List.find?_cons_of_pos (by simpa using y)] at hn; cases hn
        have hn' : valG R st = none := by unfold valG at hn ⊢; rw [List.find?_cons_of_neg (by simpa using hne)] at hn; exact hn
        by_cases z : e.1 = st'
        · have h2 : ¬ st' = st := fun y => hne (by rw [z, y])
          rw [if_neg h2]
          unfold valG
          rw [List.cons_append, List.find?_cons_of_pos (by simpa using z), List.find?_cons_of_pos (by simpa using z)]
        · have e1 : valG (e :: R ++ [(st, c)]) st' = valG (R ++ [(st, c)]) st' := by unfold valG; rw [List.cons_append, List.find?_cons_of_neg (by simpa using z)]
          have e2 : valG (e :: R) st' = valG R st' := by unfold valG; rw [List.find?_cons_of_neg (by simpa using z)]
          rw [e1, ih hn', e2]
    exact key R hn
def Nd2 (R : Row2) : Prop := (R.map (·.1)).Nodup
theorem nd2_put {R : Row2} {st : Std} {c : Int × Int} (h : Nd2 R) : Nd2 (putG R st c) := by
  unfold Nd2 putG at *
  by_cases z : (R.any fun e => decide (e.1 = st)) = true
  · rw [if_pos z]
    have e : (R.map fun e => if e.1 = st then (e.1, c) else e).map (·.1) = R.map (·.1) := by
      rw [List.map_map]
      apply List.map_congr_left
      intro e _
      show (if e.1 = st then (e.1, c) else e).1 = e.1
      split <;> rfl
    rw [e]
    exact h
  · rw [if_neg z, List.map_append, List.nodup_append]
    refine ⟨h, by simp, ?_⟩
    intro a ha b hb
    have eb : b = st := by simpa using hb
    subst eb
    intro e
    subst e
    apply z
    rw [List.any_eq_true]
    obtain ⟨x, hx, ex⟩ := List.mem_map.mp ha
    exact ⟨x, hx, by simpa using ex⟩
theorem valG_mem {R : Row2} (h : Nd2 R) {st : Std} {c : Int × Int} : (st, c) ∈ R ↔ valG R st = some c := by
  induction R with
  | nil => simp [valG]
  | cons e R ih =>
    unfold Nd2 at h
    rw [List.map_cons, List.nodup_cons] at h
    by_cases z : e.1 = st
    · unfold valG
      rw [List.find?_cons_of_pos (by simpa using z)]
      constructor
      · intro hm
        rcases List.mem_cons.mp hm with y | y
        · rw [← y]; rfl
        · exact absurd (List.mem_map.mpr ⟨_, y, z.symm⟩) h.1
      · intro hm
        have : e = (st, c) := Prod.ext z (by simpa using hm)
        rw [this]
        exact List.mem_cons_self
    · have hv : valG (e :: R) st = valG R st := by unfold valG; rw [List.find?_cons_of_neg (by simpa using z)]
      rw [hv, ← ih h.2, List.mem_cons]
      constructor
      · rintro (y | y)
        · exact absurd (by rw [← y]) z
        · exact y
      · exact Or.inr
theorem putG_mem {R : Row2} {st : Std} {c : Int × Int} {e : Std × (Int × Int)} (h : e ∈ putG R st c) : e ∈ R ∨ e = (st, c) := by
  unfold putG at h
  split at h
  · obtain ⟨x, hx, ex⟩ := List.mem_map.mp h
    by_cases z : x.1 = st
    · rw [if_pos z] at ex
      exact .inr (by rw [← ex, z])
    · rw [if_neg z] at ex
      exact .inl (ex ▸ hx)
  · rcases List.mem_append.mp h with z | z
    · exact .inl z
    · exact .inr (List.mem_singleton.mp z)
/-- the dict's pairs are these, the values' tuples stand in H -/
def R2V (H : Hp) (kvs : List (List Key × V)) (R : Row2) : Prop := Paired (fun (kv : List Key × V) (e : Std × (Int × Int)) => kv.1 = encK e.1 ∧ ∃ b, kv.2 = .ref b ∧ H b = some (.tup [.int e.2.1, .int e.2.2])) kvs R
theorem R2V.mono {H H' : Hp} {kvs : List (List Key × V)} {R : Row2} (h : R2V H kvs R) (e : Same H H') : R2V H' kvs R := paired_imp h fun _ _ ⟨h1, b, h2, h3⟩ => ⟨h1, b, h2, e _ _ h3⟩
theorem R2V.val {H : Hp} {kvs : List (List Key × V)} {R : Row2} (h : R2V H kvs R) (st : Std) : (valG R st = none ∧ valV kvs (encK st) = none) ∨ ∃ x y b, valG R st = some (x, y) ∧ valV kvs (encK st) = some (.ref b) ∧ H b = some (.tup [.int x, .int y]) := by
  unfold R2V at h
  induction h with
  | nil => exact .inl ⟨rfl, rfl⟩
  | @cons kv e kvs R r t ih =>
    obtain ⟨h1, b, h2, h3⟩ := r
    by_cases z : e.1 = st
    · refine .inr ⟨e.2.1, e.2.2, b, ?_, ?_, h3⟩
      · unfold valG; rw [List.find?_cons_of_pos (by simpa using z)]; rfl
      · rw [valV_pos (by rw [h1, z]), h2]
    · have e1 : valG (e :: R) st = valG R st := by unfold valG; rw [List.find?_cons_of_neg (by simpa using z)]
      rw [e1, valV_neg (by rw [h1]; exact fun y => z (encK_inj.mp y))]
      exact ih
theorem R2V.any {H : Hp} {kvs : List (List Key × V)} {R : Row2} (h : R2V H kvs R) (st : Std) : (kvs.any fun kv => decide (kv.1 = encK st)) = R.any fun e => decide (e.1 = st) := by
  unfold R2V at h
  induction h with
  | nil => rfl
  | @cons kv e kvs R r t ih =>
    rw [List.any_cons, List.any_cons, ih, r.1]
    congr 1
    rw [decide_eq_decide]
    exact encK_inj
theorem R2V.put {H : Hp} {kvs : List (List Key × V)} {R : Row2} (h : R2V H kvs R) {st : Std} {c : Int × Int} {b : Addr} (hb : H b = some (.tup [.int c.1, .int c.2])) : R2V H (putK kvs (encK st) (.ref b)) (putG R st c) := by
  unfold putK putG
  rw [h.any st]
  split
  · unfold R2V at h ⊢
    rename_i hany
    clear hany
    induction h with
    | nil => exact .nil
    | @cons kv e kvs R r t ih =>
      rw [List.map_cons, List.map_cons]
      refine .cons ?_ ih
      obtain ⟨h1, b', h2, h3⟩ := r
      by_cases z : e.1 = st
      · rw [if_pos (by rw [h1, z]), if_pos z]
        exact ⟨h1, b, rfl, hb⟩
      · rw [if_neg (by rw [h1]; exact fun y => z (encK_inj.mp y)), if_neg z]
        exact ⟨h1, b', h2, h3⟩
  · exact paired_app h (.cons ⟨rfl, b, rfl, hb⟩ .nil)
theorem R2V.keys {H : Hp} {kvs : List (List Key × V)} {R : Row2} (h : R2V H kvs R) : kvs.map (·.1) = (R.map (·.1)).map encK := by
  unfold R2V at h
  induction h with
  | nil => rfl
  | cons r t ih => rw [List.map_cons, List.map_cons, List.map_cons, ih, r.1]
def relax2 (R : Row2) (e : Std × (Int × Int)) : Row2 := match valG R e.1 with
  | none => putG R e.1 e.2
  | some c => if e.2.1 < c.1 then putG R e.1 e.2 else if e.2.1 = c.1 then putG R e.1 (e.2.1, c.2 + e.2.2) else R
def relax2All (L : List (Std × (Int × Int))) : Row2 := L.foldl relax2 []
theorem relax2All_snoc (L : List (Std × (Int × Int))) (e : Std × (Int × Int)) : relax2All (L ++ [e]) = relax2 (relax2All L) e := by unfold relax2All; rw [List.foldl_append]; rfl
theorem relax2_nd {R : Row2} {e : Std × (Int × Int)} (h : Nd2 R) : Nd2 (relax2 R e) := by
  unfold relax2
  split
  · exact nd2_put h
  · split
    · exact nd2_put h
    · split
      · exact nd2_put h
      · exact h
theorem fold2_nd : ∀ (L : List (Std × (Int × Int))) (R : Row2), Nd2 R → Nd2 (L.foldl relax2 R)
  | [], _, h => h
  | e :: L, R, h => fold2_nd L (relax2 R e) (relax2_nd h)
theorem relax2All_nd (L : List (Std × (Int × Int))) : Nd2 (relax2All L) := fold2_nd L [] (by unfold Nd2; simp)
theorem relax2_key {R : Row2} {x e : Std × (Int × Int)} (h : e ∈ relax2 R x) : e ∈ R ∨ e.1 = x.1 := by
  unfold relax2 at h
  split at h
  · rcases putG_mem h with z | z
    · exact .inl z
    · exact .inr (by rw [z])
  · split at h
    · rcases putG_mem h with z | z
      · exact .inl z
      · exact .inr (by rw [z])
    · split at h
      · rcases putG_mem h with z | z
        · exact .inl z
        · exact .inr (by rw [z])
      · exact .inl h
theorem fold2_key : ∀ (L : List (Std × (Int × Int))) (R : Row2) {e : Std × (Int × Int)}, e ∈ L.foldl relax2 R → e ∈ R ∨ ∃ x ∈ L, e.1 = x.1
  | [], _, _, h => .inl h
  | x :: L, R, e, h => by
    rcases fold2_key L (relax2 R x) h with z | ⟨y, hy, ey⟩
    · rcases relax2_key z with y | y
      · exact .inl y
      · exact .inr ⟨x, List.mem_cons_self, y⟩
    · exact .inr ⟨y, List.mem_cons_of_mem _ hy, ey⟩
def next2 (w : List Nat) (s : Int) (sg : List Nat) (e : Std × (Int × Int)) : List (Std × (Int × Int)) := (turnsTo w e.1.1 sg).map fun t => (stepTo w e.1 t, (e.2.1 + stepCost t e.1.2 s, e.2.2))
def nexts2 (w : List Nat) (s : Int) (sg : List Nat) (R : Row2) : List (Std × (Int × Int)) := R.flatMap (next2 w s sg)
def rowJ (w : List Nat) (s p : Int) (word : List Nat) : Row2 := word.foldl (fun R c => relax2All (nexts2 w s [c] R)) [((p, 0), (0, 1))]
theorem rowJ_snoc (w : List Nat) (s p : Int) (word : List Nat) (c : Nat) : rowJ w s p (word ++ [c]) = relax2All (nexts2 w s [c] (rowJ w s p word)) := by unfold rowJ; rw [List.foldl_append]; rfl
def Row2Ok (n : Nat) (R : Row2) : Prop := Nd2 R ∧ ∀ e ∈ R, StOk n e.1
theorem row2_len {n : Nat} {R : Row2} (h : Row2Ok n R) : R.length ≤ 3 * n := by
  have : RowOk n (R.map fun e => (e.1, e.2.1)) := ⟨by
    have h1 := h.1
    unfold Nd2 at h1
    unfold Nd
    rw [List.map_map]
    exact h1, fun e he => by
    obtain ⟨x, hx, rfl⟩ := List.mem_map.mp he
    exact h.2 x hx⟩
  have := row_len this
  rwa [List.length_map] at this
theorem next2_ok {w : List Nat} {s : Int} {sg : List Nat} {e x : Std × (Int × Int)} (hw : 0 < w.length) (h : StOk w.length e.1) (hx : x ∈ next2 w s sg e) : StOk w.length x.1 := by
  unfold next2 at hx
  obtain ⟨t, _, rfl⟩ := List.mem_map.mp hx
  obtain ⟨a, b⟩ := emod_bd (z := e.1.1 + t) (m := (w.length : Int)) (by omega)
  obtain ⟨c, d⟩ := wayOf_bd (t := t) h.2.2.1 h.2.2.2
  exact ⟨a, b, c, d⟩
theorem nexts2_ok {w : List Nat} {s : Int} {sg : List Nat} {R : Row2} (hw : 0 < w.length) (h : ∀ e ∈ R, StOk w.length e.1) : ∀ x ∈ nexts2 w s sg R, StOk w.length x.1 := fun x hx => by
  unfold nexts2 at hx
  obtain ⟨e, he, hx⟩ := List.mem_flatMap.mp hx
  exact next2_ok hw (h e he) hx
theorem relax2All_ok {n : Nat} {L : List (Std × (Int × Int))} (h : ∀ x ∈ L, StOk n x.1) : Row2Ok n (relax2All L) := ⟨relax2All_nd L, fun e he => by
  rcases fold2_key L [] he with z | ⟨x, hx, ex⟩
  · exact nomatch z
  · rw [ex]; exact h x hx⟩
theorem rowJ_ok {w : List Nat} {s p : Int} (hw : 0 < w.length) (h0 : 0 ≤ p) (h1 : p < (w.length : Int)) : ∀ (word : List Nat), Row2Ok w.length (rowJ w s p word) := fun word => by
  have : ∀ (k : Nat), k ≤ word.length → Row2Ok w.length (rowJ w s p (word.take k)) := by
    intro k
    induction k with
    | zero =>
      intro _
      refine ⟨by unfold Nd2 rowJ; simp, fun e he => ?_⟩
      have : e = ((p, 0), (0, 1)) := by simpa [rowJ] using he
      rw [this]
      exact ⟨h0, h1, by show (-1 : Int) ≤ 0; decide, by show (0 : Int) ≤ 1; decide⟩
    | succ k ih =>
      intro hk
      obtain ⟨x, hx⟩ : ∃ x, word[k]? = some x := ⟨_, List.getElem?_eq_getElem (by omega)⟩
      rw [take_snoc hx, rowJ_snoc]
      exact relax2All_ok (nexts2_ok hw (ih (by omega)).2)
  have h := this word.length (Nat.le_refl _)
  rwa [List.take_length] at h
/-! ### by costs alone they are the program's -/
theorem relax2_best (L : List (Std × (Int × Int))) (st : Std) : IsBest (fun c => ∃ n, (st, (c, n)) ∈ L) ((valG (relax2All L) st).map (·.1)) := by
  have : ∀ k, k ≤ L.length → IsBest (fun c => ∃ n, (st, (c, n)) ∈ L.take k) ((valG (relax2All (L.take k)) st).map (·.1)) := by
    intro k
    induction k with
    | zero =>
      intro _
      rw [List.take_zero]
      exact fun c ⟨n, h⟩ => nomatch h
    | succ k ih =>
      intro hk
      obtain ⟨e, he⟩ : ∃ e, L[k]? = some e := ⟨_, List.getElem?_eq_getElem (by omega)⟩
      have ih := ih (by omega)
      rw [take_snoc he, relax2All_snoc]
      generalize relax2All (L.take k) = T at ih
      generalize L.take k = M at ih
      by_cases h : e.1 = st
      · have em : ∀ c, (∃ n, (st, (c, n)) ∈ M ++ [e]) ↔ (∃ n, (st, (c, n)) ∈ M) ∨ c = e.2.1 := fun c => by
          constructor
          · rintro ⟨n, hn⟩
            rcases List.mem_append.mp hn with y | y
            · exact .inl ⟨n, y⟩
            · have := List.mem_singleton.mp y
              exact .inr (by rw [← this])
          · rintro (⟨n, y⟩ | y)
            · exact ⟨n, List.mem_append_left _ y⟩
            · exact ⟨e.2.2, List.mem_append_right _ (List.mem_singleton.mpr (by rw [y, ← h]))⟩
        subst h
        unfold relax2
        cases hv : valG T e.1 with
        | none =>
          rw [hv] at ih
          show IsBest _ ((valG (putG T e.1 e.2) e.1).map (·.1))
          rw [valG_put, if_pos rfl]
          exact ⟨(em _).mpr (.inr rfl), fun c' hc' => by
            rcases (em c').mp hc' with y | y
            · exact absurd y (ih c')
            · exact Int.le_of_eq y.symm⟩
        | some c =>
          rw [hv] at ih
          show IsBest _ ((valG (if e.2.1 < c.1 then putG T e.1 e.2 else if e.2.1 = c.1 then putG T e.1 (e.2.1, c.2 + e.2.2) else T) e.1).map (·.1))
          by_cases z : e.2.1 < c.1
          · rw [if_pos z, valG_put, if_pos rfl]
            exact ⟨(em _).mpr (.inr rfl), fun c' hc' => by
              rcases (em c').mp hc' with y | y
              · exact Int.le_trans (Int.le_of_lt z) (ih.2 c' y)
              · exact Int.le_of_eq y.symm⟩
          · rw [if_neg z]
            by_cases z2 : e.2.1 = c.1
            · rw [if_pos z2, valG_put, if_pos rfl]
              exact ⟨(em _).mpr (.inr rfl), fun c' hc' => by
                rcases (em c').mp hc' with y | y
                · exact Int.le_trans (Int.le_of_eq z2) (ih.2 c' y)
                · exact Int.le_of_eq y.symm⟩
            · rw [if_neg z2, hv]
              exact ⟨(em _).mpr (.inl ih.1), fun c' hc' => by
                rcases (em c').mp hc' with y | y
                · exact ih.2 c' y
                · rw [y]; exact Int.not_lt.mp z⟩
      · have hv : valG (relax2 T e) st = valG T st := by
          have h' : ¬ st = e.1 := fun z => h z.symm
          unfold relax2
          split
          · rw [valG_put, if_neg h']
          · split
            · rw [valG_put, if_neg h']
            · split
              · rw [valG_put, if_neg h']
              · rfl
        rw [hv]
        refine ih.congr fun c => ?_
        constructor
        · rintro ⟨n, hn⟩; exact ⟨n, List.mem_append_left _ hn⟩
        · rintro ⟨n, hn⟩
          rcases List.mem_append.mp hn with y | y
          · exact ⟨n, y⟩
          · exact absurd (by rw [← List.mem_singleton.mp y]) h
  have h := this L.length (Nat.le_refl _)
  rwa [List.take_length] at h
theorem mem_next2 {w : List Nat} {s : Int} {sg : List Nat} {R : Row2} {st : Std} {c n : Int} : (st, (c, n)) ∈ nexts2 w s sg R ↔ ∃ a c0 t, (a, (c0, n)) ∈ R ∧ t ∈ turnsTo w a.1 sg ∧ st = stepTo w a t ∧ c = c0 + stepCost t a.2 s := by
  unfold nexts2 next2
  rw [List.mem_flatMap]
  constructor
  · rintro ⟨e, he, hx⟩
    obtain ⟨t, ht, ex⟩ := List.mem_map.mp hx
    cases ex
    exact ⟨e.1, e.2.1, t, he, ht, rfl, rfl⟩
  · rintro ⟨a, c0, t, he, ht, e1, e2⟩
    refine ⟨(a, (c0, n)), he, List.mem_map.mpr ⟨t, ht, ?_⟩⟩
    rw [e1, e2]
theorem rowJ_nd (w : List Nat) (s p : Int) (word : List Nat) : Nd2 (rowJ w s p word) := by
  rcases List.eq_nil_or_concat word with rfl | ⟨l, c, rfl⟩
  · unfold Nd2 rowJ; simp
  · rw [List.concat_eq_append, rowJ_snoc]
    exact relax2All_nd _
theorem rowJ_best (w : List Nat) (s p : Int) (word : List Nat) (st : Std) : IsBest (Lands w s p word st) ((valG (rowJ w s p word) st).map (·.1)) := by
  have : ∀ k, k ≤ word.length → ∀ st, IsBest (Lands w s p (word.take k) st) ((valG (rowJ w s p (word.take k)) st).map (·.1)) := by
    intro k
    induction k with
    | zero =>
      intro _ st
      rw [List.take_zero]
      show IsBest _ ((valG [((p, 0), (0, 1))] st).map (·.1))
      by_cases h : (p, 0) = st
      · subst h
        have : (valG [((p, 0), ((0 : Int), (1 : Int)))] (p, 0)).map (·.1) = some 0 := by simp [valG]
        rw [this]
        exact ⟨⟨[], .nil _⟩, fun c' ⟨ts, r⟩ => by cases r; exact Int.le_refl _⟩
      · have : (valG [((p, 0), ((0 : Int), (1 : Int)))] st).map (·.1) = none := by
          unfold valG
          rw [List.find?_cons_of_neg (by simpa using h)]
          rfl
        rw [this]
        exact fun c ⟨ts, r⟩ => by cases r; exact h rfl
    | succ k ih =>
      intro hk st
      have ih := ih (by omega)
      obtain ⟨x, hx⟩ : ∃ x, word[k]? = some x := ⟨_, List.getElem?_eq_getElem (by omega)⟩
      rw [take_snoc hx, rowJ_snoc]
      have hnd := rowJ_nd w s p (word.take k)
      refine (relax2_best (nexts2 w s [x] (rowJ w s p (word.take k))) st).dom (fun c hc => ?_) (fun c hc => ?_)
      · obtain ⟨n, hn⟩ := hc
        obtain ⟨a, c0, t, hm, ht, e1, e2⟩ := mem_next2.mp hn
        have hb := ih a
        rw [(valG_mem hnd).mp hm] at hb
        obtain ⟨ts, r⟩ := hb.1
        rw [e1, e2]
        exact ⟨_, run_snoc r ht⟩
      · obtain ⟨ts, r⟩ := hc
        obtain ⟨ts', t, b', c', _, r', ht, e1, e2⟩ := run_unsnoc _ r
        have hb := ih b'
        cases hv : valG (rowJ w s p (word.take k)) b' with
        | none => rw [hv] at hb; exact absurd ⟨ts', r'⟩ (hb c')
        | some c0 =>
          rw [hv] at hb
          have hle : c0.1 ≤ c' := hb.2 c' ⟨ts', r'⟩
          exact ⟨c0.1 + stepCost t b'.2 s, by omega, c0.2, mem_next2.mpr ⟨b', c0.1, t, (valG_mem hnd).mpr hv, ht, e1, rfl⟩⟩
  have h := this word.length (Nat.le_refl _) st
  rwa [List.take_length] at h
theorem rowJ_eq (w : List Nat) (s p : Int) (word : List Nat) (st : Std) : (valG (rowJ w s p word) st).map (·.1) = valI (rowI w s p word) st := (rowJ_best w s p word st).uniq (rowI_best w s p word st)
/-! ### the reading -/
def Row2V (H : Hp) (v : V) (R : Row2) : Prop := ∃ a kvs, v = .ref a ∧ H a = some (.dT kvs) ∧ R2V H kvs R
theorem mono_row2 : Mono Row2V := fun G G' v y e ⟨a, kvs, h1, h2, h3⟩ => ⟨a, kvs, h1, e _ _ h2, h3.mono e⟩
def rowsJ (w : List Nat) (s p : Int) (word : List Nat) (k : Nat) : List Row2 := (List.range k).map fun i => rowJ w s p (word.take i)
theorem rowsJ_succ (w : List Nat) (s p : Int) (word : List Nat) (k : Nat) : rowsJ w s p word (k + 1) = rowsJ w s p word k ++ [rowJ w s p (word.take k)] := by unfold rowsJ; rw [List.range_succ, List.map_append]; rfl
theorem nexts2_take {w : List Nat} {s : Int} {sg : List Nat} {R : Row2} {k : Nat} {e : Std × (Int × Int)} (h : R[k]? = some e) : nexts2 w s sg (R.take (k + 1)) = nexts2 w s sg (R.take k) ++ next2 w s sg e := by
  unfold nexts2
  rw [take_snoc h, List.flatMap_append]
  simp
theorem at_last {α : Type} (xs : List α) (v : α) : atI (xs ++ [v]) (-1) = some v := by
  unfold atI ixN
  have h1 : ((xs ++ [v]).length : Int) = (xs.length : Int) + 1 := by simp
  rw [if_neg (by decide), if_pos (by omega)]
  have e : ((-1 : Int) + ((xs ++ [v]).length : Int)).toNat = xs.length := by omega
  show (xs ++ [v])[((-1 : Int) + ((xs ++ [v]).length : Int)).toNat]? = some v
  rw [e]
  simp
def sp_law_rows (K : PySem.W.Frag) : Sp := fun vs H Q _ => ∃ (w word : List Nat) (s p : Int), vs = [.str (S w), .str (S word), .int s, .int p] ∧ 1 ≤ w.length ∧ w.length ≤ 1000 ∧ word.length ≤ 1000 ∧ 0 ≤ p ∧ p < (w.length : Int) ∧ 0 ≤ s ∧ s ≤ 1000 ∧
  ∀ q xs H', H q = none → Same H H' → H' q = some (.lst xs) → Paired (Row2V H') xs (rowsJ w s p word (word.length + 1)) → Q (.ref q) H'
theorem ln_law_rows {K : PySem.W.Frag} {vs : List V} {H : Hp} {Q : VK} {E : XK} (h : sp_law_rows K vs H Q E) : vs.length = 4 := by
  obtain ⟨_, _, _, _, rfl, _⟩ := h
  rfl
def t_law_rows (K : PySem.W.Frag) : TS :=
  (tSeq (tAsg (tLst (tCons (tDispT (tTup (tCons (tVar 3) (tCons (tC (.int 0)) tNil))) (tTup (tCons (tC (.int 0)) (tCons (tC (.int 1)) tNil)))) tNil)) (gName 4))
  (tSeq (tFor (iStr (tVar 1)) (gName 5)
  (tSeq (tAsg tDNewT (gName 6))
  (tSeq (tLock (tFor (iKeys (tOp (rIxL K) (tVar 4) (tUn rNeg (tC (.int 1))))) (gName 7)
  (tFor (iList K (tCall (sp_law_reach_turns K) [] E0 (tCons (tVar 0) (tCons (tOp (rIxT K) (tVar 7) (tC (.int 0))) (tCons (tVar 5) tNil))))) (gName 8)
  (tSeq (tAsg (tCall (sp_law_step K) [] E0 (tCons (tVar 8) (tCons (tOp (rIxT K) (tVar 7) (tC (.int 1))) (tCons (tVar 2) tNil)))) (gTup K 2 (gCons (gName 9) (gCons (gName 10) gNil))))
  (tSeq (tAsg (tTup (tCons (tOp rMod (tOp rAdd (tOp (rIxT K) (tVar 7) (tC (.int 0))) (tVar 8)) (tCB rLenStr (tCons (tVar 0) tNil))) (tCons (tVar 9) tNil))) (gName 11))
  (tSeq (tAsg (tOp rAdd (tOp (rIxT K) (tDGet (tOp (rIxL K) (tVar 4) (tUn rNeg (tC (.int 1)))) (tVar 7)) (tC (.int 0))) (tVar 10)) (gName 12))
  (tSeq (tAsg (tDGet2 (tVar 6) (tVar 11) (tTup (tCons (tOp rAdd (tVar 12) (tC (.int 1))) (tCons (tC (.int 0)) tNil)))) (gName 13))
  (tIfS (tTest (tOp rLt (tVar 12) (tOp (rIxT K) (tVar 13) (tC (.int 0))))) (sDPut (tVar 6) (tVar 11) (tTup (tCons (tVar 12) (tCons (tOp (rIxT K) (tDGet (tOp (rIxL K) (tVar 4) (tUn rNeg (tC (.int 1)))) (tVar 7)) (tC (.int 1))) tNil)))) (tIfS (tTest (tOp rEq (tVar 12) (tOp (rIxT K) (tVar 13) (tC (.int 0))))) (sDPut (tVar 6) (tVar 11) (tTup (tCons (tVar 12) (tCons (tOp rAdd (tOp (rIxT K) (tVar 13) (tC (.int 1))) (tOp (rIxT K) (tDGet (tOp (rIxL K) (tVar 4) (tUn rNeg (tC (.int 1)))) (tVar 7)) (tC (.int 1)))) tNil)))) tNext)))))))))
  (tDrop (tBM K "list" rAppend (tVar 4) (tCons (tVar 6) tNil))))))
  (tRet (tVar 4))))

set_option maxHeartbeats 8000000 in
theorem rd_law_rows {K : PySem.W.Frag} {vs : List V} {H : Hp} {Q : VK} {E : XK} (h : sp_law_rows K vs H Q E) : t_law_rows K { nx := fun _ H' => Q .non H', rt := Q } (start ["wheel", "word", "slack", "place", "rows", "sign", "later", "stand", "turn", "way", "more", "there", "least", "known"] vs) H := by
  obtain ⟨w, word, s, p, rfl, w1, w2, lwd, p0, p1, s0, s1, q⟩ := h
  show t_law_rows K _ [some (.str (S w)), some (.str (S word)), some (.int s), some (.int p), none, none, none, none, none, none, none, none, none, none] H
  unfold t_law_rows
  refine g_seqasg (g_lst (g_cons fun d nd => ?_))
  walk_at "go"
  refine ⟨by show 2 ≤ sizeLine; decide, fun b nb => ?_⟩
  have nbd : d ≠ b := fun z => by rw [← z, upd_same] at nb; cases nb
  walk_at "go"
  refine ⟨by show 2 ≤ sizeLine; decide, fun b2 nb2 => ?_⟩
  have hdd : upd (upd H d (.dT [])) b (.tup [.int p, .int 0]) d = some (.dT []) := same_upd nb _ _ upd_same
  have nb2d : d ≠ b2 := fun z => by rw [← z, hdd] at nb2; cases nb2
  refine ⟨same_upd nb2 _ _ hdd, b, encK (p, 0), rfl, same_upd nb2 _ _ upd_same, ?_⟩
  have sH : Same H (upd (upd (upd (upd H d (.dT [])) b (.tup [.int p, .int 0])) b2 (.tup [.int 0, .int 1])) d (.dT [(encK (p, 0), .ref b2)])) := fun x o e => by
    rw [upd_ne (ne_of_none e nd)]
    exact same_upd nb2 _ _ (same_upd nb _ _ (same_upd nd _ _ e))
  have hd : upd (upd (upd (upd H d (.dT [])) b (.tup [.int p, .int 0])) b2 (.tup [.int 0, .int 1])) d (.dT [(encK (p, 0), .ref b2)]) d = some (.dT [(encK (p, 0), .ref b2)]) := upd_same
  have hb2 : upd (upd (upd (upd H d (.dT [])) b (.tup [.int p, .int 0])) b2 (.tup [.int 0, .int 1])) d (.dT [(encK (p, 0), .ref b2)]) b2 = some (.tup [.int 0, .int 1]) := by rw [upd_ne nb2d.symm]; exact upd_same
  generalize upd (upd (upd (upd H d (.dT [])) b (.tup [.int p, .int 0])) b2 (.tup [.int 0, .int 1])) d (.dT [(encK (p, 0), .ref b2)]) = H0 at sH hd hb2
  walk_at "go"
  refine ⟨by show 1 ≤ sizeLine; decide, fun r nr => ?_⟩
  have ndr : d ≠ r := fun z => by rw [← z, hd] at nr; cases nr
  have nb2r : b2 ≠ r := fun z => by rw [← z, hb2] at nr; cases nr
  have sr := same_upd (o := .lst [.ref d]) nr
  have hrow : R2V (but (upd H0 r (.lst [.ref d])) r) [(encK (p, 0), .ref b2)] (rowJ w s p (word.take 0)) := .cons ⟨rfl, b2, rfl, but_ne (sr _ _ hb2) nb2r⟩ .nil
  have ow0 : OwnP Row2V H r (rowsJ w s p word 1) (upd H0 r (.lst ([] ++ [.ref d]))) := ⟨[.ref d], sH.free nr, sH.trans sr, upd_same, .cons ⟨d, _, rfl, but_ne (sr _ _ hd) ndr, hrow⟩ .nil⟩
  have hr0 : upd H0 r (.lst ([] ++ [.ref d])) r = some (.lst ([] ++ [.ref d])) := upd_same
  have hd0 := sr _ _ hd
  refine g_seq (forS (l := word) (fun Q h => ?_) (fun i σ' H' => OwnP Row2V H r (rowsJ w s p word (i + 1)) H' ∧ ∃ d kvs ys, d ≠ r ∧ H' r = some (.lst (ys ++ [V.ref d])) ∧ H' d = some (.dT kvs) ∧ R2V (but H' r) kvs (rowJ w s p (word.take i)) ∧ ∃ (v5 v6 v7 v8 v9 v10 v11 v12 v13 : Option V), σ' = [some (.str (S w)), some (.str (S word)), some (.int s), some (.int p), some (.ref r), v5, v6, v7, v8, v9, v10, v11, v12, v13]) ⟨ow0, d, _, [], ndr, hr0, hd0, hrow, _, _, _, _, _, _, _, _, _, rfl⟩ (fun i c σ' H' hc hp => ?_) (fun σ' H' hp => ?_))
  · walk_at "go"
    exact h
  · clear hr0 hd0 ow0 hrow sr nb2r ndr nr sH hd hb2 hdd nb2d nbd nb nb2 b b2 nd d H0
    obtain ⟨ow, d, kvs, ys, ndr, hr, hd, hrv, v5, v6, v7, v8, v9, v10, v11, v12, v13, rfl⟩ := hp
    have hok := rowJ_ok (s := s) (by omega) p0 p1 (word.take i)
    have li : i < word.length := (List.getElem?_eq_some_iff.mp hc).1
    rw [take_snoc hc, rowJ_snoc] at *
    generalize hR : rowJ w s p (word.take i) = R at hrv hok
    walk_at "go"
    intro m nm
    have nmd : m ≠ d := fun z => by rw [z, hd] at nm; cases nm
    have nmr : m ≠ r := fun z => by rw [z, hr] at nm; cases nm
    have hd1 : upd H' m (.dT []) d = some (.dT kvs) := same_upd nm _ _ hd
    refine g_seq (forKeys (d := d) (kvs := kvs) hd1 (fun od Q h => ?_) (fun od k σ' H2 => Same (but (upd (upd H' m (.dT [])) d (.frz od (.dT kvs))) m) H2 ∧ (∃ kv2, H2 m = some (.dT kv2) ∧ R2V (but H2 m) kv2 (relax2All (nexts2 w s [c] (R.take k)))) ∧ ∃ (v7 v8 v9 v10 v11 v12 v13 : Option V), σ' = [some (.str (S w)), some (.str (S word)), some (.int s), some (.int p), some (.ref r), some (.str (S [c])), some (.ref m), v7, v8, v9, v10, v11, v12, v13]) (fun od => ⟨but_sub, ⟨[], by rw [upd_ne nmd]; exact upd_same, .nil⟩, _, _, _, _, _, _, _, rfl⟩) (fun od k σ' H2 hp => hp.1 _ _ (but_ne upd_same nmd.symm)) (fun od k key v qk σ' H2 D' hk hq hp hD => ?_) (fun od σ' H2 hp => ?_))
    · walk_at "go"
      refine g_ixL (xs := ys ++ [.ref d]) (by rw [upd_ne ndr.symm]; exact same_upd nm _ _ hr) (at_last ys _) ?_
      exact h
    · obtain ⟨s2, ⟨kv2, hm2, hT2⟩, v7, v8, v9, v10, v11, v12, v13, rfl⟩ := hp
      obtain ⟨e, he, ek, b0, ev, hb0⟩ := paired_get hrv hk
      dsimp only at ek ev
      subst ek ev
      have hfr : H2 d = some (.frz od (.dT kvs)) := s2 _ _ (but_ne upd_same nmd.symm)
      have hst := hok.2 e (List.mem_of_getElem? he)
      have hL : ∀ x ∈ nexts2 w s [c] (R.take k), StOk w.length x.1 := nexts2_ok (by omega) fun x hx => hok.2 x (List.mem_of_mem_take hx)
      have hval : ∃ b, valV kvs (encK e.1) = some (.ref b) ∧ but H' r b = some (.tup [.int e.2.1, .int e.2.2]) := by
        have hg := (valG_mem hok.1).mp (List.mem_of_getElem? he)
        rcases hrv.val e.1 with ⟨h1, _⟩ | ⟨x, y, b, hx, hv, hb⟩
        · rw [h1] at hg; cases hg
        · rw [hx] at hg
          have e2 := Option.some.inj hg
          rw [← e2]
          exact ⟨b, hv, hb⟩
      obtain ⟨bv, hv, hbv⟩ := hval
      have nbm : bv ≠ m := fun z => by
        have := but_sub _ _ hbv
        rw [z, nm] at this; cases this
      have nbd : bv ≠ d := fun z => by
        have := but_sub _ _ hbv
        rw [z, hd] at this; cases this
      have hbv2 : H2 bv = some (.tup [.int e.2.1, .int e.2.2]) := s2 _ _ (but_ne (by rw [upd_ne nbd, upd_ne nbm]; exact but_sub _ _ hbv) nbm)
      have hr2 : H2 r = some (.lst (ys ++ [V.ref d])) := s2 _ _ (but_ne (by rw [upd_ne ndr.symm]; exact same_upd nm _ _ hr) nmr.symm)
      have hq2 : H2 qk = some (.tup [.int e.1.1, .int e.1.2]) := hq
      show tCall (sp_law_reach_turns K) [] E0 _ [some (.str (S w)), some (.str (S word)), some (.int s), some (.int p), some (.ref r), some (.str (S [c])), some (.ref m), some (.ref qk), v8, v9, v10, v11, v12, v13] H2 _
      walk_at "go"
      refine ⟨w, e.1.1, [c], rfl, w1, w2, fun tl H4 ntl s4 htl => ?_⟩
      have nml : tl ≠ m := fun z => by rw [z, hm2] at ntl; cases ntl
      have hm4 := s4 _ _ hm2
      have nqm : qk ≠ m := fun z => by rw [z, hm2] at hq2; cases hq2
      refine ⟨tl, rfl, ⟨_, .inl (.inl htl)⟩, for_list (xs := (turnsTo w e.1.1 [c]).map V.int) (fun z σ' H5 => Same (but H4 m) H5 ∧ (∃ kv5, H5 m = some (.dT kv5) ∧ R2V (but H5 m) kv5 (relax2All (nexts2 w s [c] (R.take k) ++ (next2 w s [c] e).take z))) ∧ ∃ (v8 v9 v10 v11 v12 v13 : Option V), σ' = [some (.str (S w)), some (.str (S word)), some (.int s), some (.int p), some (.ref r), some (.str (S [c])), some (.ref m), some (.ref qk), v8, v9, v10, v11, v12, v13]) ⟨but_sub, ⟨kv2, hm4, by rw [List.take_zero, List.append_nil]; exact hT2.mono (but_mono s4)⟩, _, _, _, _, _, _, rfl⟩ (fun z σ' H5 _ hp => .inl (.inl (hp.1 _ _ (but_ne htl nml)))) (fun z x σ' H5 hx hp => ?_) (fun σ' H5 hp => ?_)⟩
      · obtain ⟨s5, ⟨kv5, hm5, hT5⟩, v8, v9, v10, v11, v12, v13, rfl⟩ := hp
        obtain ⟨t, ht, rfl⟩ := map_at hx
        have hnx : (next2 w s [c] e)[z]? = some (stepTo w e.1 t, (e.2.1 + stepCost t e.1.2 s, e.2.2)) := by unfold next2; rw [List.getElem?_map, ht]; rfl
        have hL5 : ∀ x ∈ nexts2 w s [c] (R.take k) ++ (next2 w s [c] e).take z, StOk w.length x.1 := fun x hx => by
          rcases List.mem_append.mp hx with y | y
          · exact hL x y
          · exact next2_ok (by omega) hst (List.mem_of_mem_take y)
        have hlen := row2_len (relax2All_ok hL5)
        rw [take_snoc hnx, ← List.append_assoc, relax2All_snoc]
        generalize relax2All (nexts2 w s [c] (R.take k) ++ (next2 w s [c] e).take z) = T at hT5 hlen
        have hkl : kv5.length < sizeLine := by rw [Paired.length hT5]; exact Nat.lt_of_le_of_lt (show T.length ≤ 3000 by omega) (by decide)
        have hq5 := s5 _ _ (but_ne (s4 _ _ hq2) nqm)
        have hfr5 := s5 _ _ (but_ne (s4 _ _ hfr) nmd.symm)
        have hr5 := s5 _ _ (but_ne (s4 _ _ hr2) nmr.symm)
        have hbv5 := s5 _ _ (but_ne (s4 _ _ hbv2) nbm)
        have DG : ∀ H6, Same H5 H6 → DGet H6 d (.ref qk) (some (.ref bv)) := fun H6 s6 => .inr ⟨kvs, encK e.1, qk, .inr ⟨od, s6 _ _ hfr5⟩, rfl, s6 _ _ hq5, hv.symm⟩
        show tSeq _ _ _ [some (.str (S w)), some (.str (S word)), some (.int s), some (.int p), some (.ref r), some (.str (S [c])), some (.ref m), some (.ref qk), some (.int t), v9, v10, v11, v12, v13] H5
        refine g_seq ?_
        show tCall (sp_law_step K) [] E0 _ _ _ _
        walk_at "go"
        refine ⟨t, e.1.2, s, rfl, s0, s1, fun p1 H6 np1 s6 hp1 => ?_⟩
        refine ⟨p1, _, rfl, .inl (.inl hp1), rfl, _, _, rfl, _, _, rfl, rfl, ?_⟩
        dsimp only
        show tSeq _ _ _ [some (.str (S w)), some (.str (S word)), some (.int s), some (.int p), some (.ref r), some (.str (S [c])), some (.ref m), some (.ref qk), some (.int t), some (.int (wayOf t e.1.2)), some (.int (stepCost t e.1.2 s)), v11, v12, v13] H6
        have hq6 := s6 _ _ hq5
        walk_at "go"
        refine g_lenS (by omega) ?_
        refine g_I (by omega) ?_
        walk_at "go"
        walk_at "new"
        rename_i p2 np2 H7 s7 hp2
        have hr7 := s7 _ _ (s6 _ _ hr5)
        have hbv7 := s7 _ _ (s6 _ _ hbv5)
        have hm7 := s7 _ _ (s6 _ _ hm5)
        have s57 : Same H5 H7 := s6.trans s7
        walk_at "go"
        refine g_ixL hr7 (at_last ys _) ?_
        walk_at "go"
        refine ⟨d, .ref bv, rfl, DG H7 s57, ?_⟩
        walk_at "go"
        refine ⟨m, rfl, .inr ⟨kv5, .inl hm7⟩, ?_⟩
        walk_at "go"
        walk_at "new"
        rename_i p3 np3 H8 s8 hp3
        have s58 : Same H5 H8 := s57.trans s8
        have hm8 := s8 _ _ hm7
        have hr8 := s8 _ _ hr7
        have hbv8 := s8 _ _ hbv7
        have hp28 : H8 p2 = some (.tup ((encK (stepTo w e.1 t)).map kV)) := s8 _ _ hp2
        have np2m : p2 ≠ m := fun u => by rw [u, hm8] at hp28; cases hp28
        refine ⟨_, .inr ⟨kv5, encK (stepTo w e.1 t), p2, .inl hm8, rfl, hp28, rfl⟩, ?_⟩
        have hT8 : R2V (but H8 m) kv5 T := hT5.mono (but_mono s58)
        have fin : ∀ (c2 : Int × Int) (pv : Addr) (H9 : Hp), Same H8 H9 → H9 pv = some (.tup [.int c2.1, .int c2.2]) → DPut H9 m (.ref p2) (.ref pv) (upd H9 m (.dT (putK kv5 (encK (stepTo w e.1 t)) (.ref pv)))) ∧ Same (but H4 m) (upd H9 m (.dT (putK kv5 (encK (stepTo w e.1 t)) (.ref pv)))) ∧ ∃ kv5', upd H9 m (.dT (putK kv5 (encK (stepTo w e.1 t)) (.ref pv))) m = some (.dT kv5') ∧ R2V (but (upd H9 m (.dT (putK kv5 (encK (stepTo w e.1 t)) (.ref pv)))) m) kv5' (putG T (stepTo w e.1 t) c2) := by
          intro c2 pv H9 s9 hpv
          have npm : pv ≠ m := fun u => by rw [u, s9 _ _ hm8] at hpv; cases hpv
          refine ⟨.inr ⟨kv5, _, p2, s9 _ _ hm8, rfl, s9 _ _ hp28, hkl, rfl⟩, fun x o y => ?_, _, upd_same, ?_⟩
          · rw [upd_ne (fun u => by rw [u] at y; unfold but at y; rw [if_pos rfl] at y; cases y)]
            exact s9 _ _ (s58 _ _ (s5 _ _ y))
          · rw [but_upd]
            exact (hT8.mono (but_mono s9)).put (but_ne hpv npm)
        unfold relax2
        dsimp only
        rcases hT8.val (stepTo w e.1 t) with ⟨hg, hvv⟩ | ⟨x0, y0, b1, hg, hvv, hb1⟩
        · rw [hvv, hg]
          show tIfS _ _ _ _ [some (.str (S w)), some (.str (S word)), some (.int s), some (.int p), some (.ref r), some (.str (S [c])), some (.ref m), some (.ref qk), some (.int t), some (.int (wayOf t e.1.2)), some (.int (stepCost t e.1.2 s)), some (.ref p2), some (.int (e.2.1 + stepCost t e.1.2 s)), some (.ref p3)] H8
          walk_at "go"
          refine ite_d (fun hlt => ?_) (fun hlt => by omega)
          walk_at "go"
          refine g_ixL hr8 (at_last ys _) ?_
          walk_at "go"
          refine ⟨d, .ref bv, rfl, DG H8 s58, ?_⟩
          walk_at "go"
          walk_at "new"
          rename_i p4 np4 H9 s9 hp4
          walk_at "go"
          obtain ⟨f1, f2, f3⟩ := fin (e.2.1 + stepCost t e.1.2 s, e.2.2) p4 H9 s9 hp4
          exact ⟨m, _, rfl, f1, f2, f3, _, _, _, _, _, _, rfl⟩
        · rw [hvv, hg]
          have hb18 : H8 b1 = some (.tup [.int x0, .int y0]) := but_sub _ _ hb1
          show tIfS _ _ _ _ [some (.str (S w)), some (.str (S word)), some (.int s), some (.int p), some (.ref r), some (.str (S [c])), some (.ref m), some (.ref qk), some (.int t), some (.int (wayOf t e.1.2)), some (.int (stepCost t e.1.2 s)), some (.ref p2), some (.int (e.2.1 + stepCost t e.1.2 s)), some (.ref b1)] H8
          walk_at "go"
          refine ite_d (fun hlt => ?_) (fun hlt => ?_)
          · dsimp only
            rw [if_pos hlt]
            walk_at "go"
            refine g_ixL hr8 (at_last ys _) ?_
            walk_at "go"
            refine ⟨d, .ref bv, rfl, DG H8 s58, ?_⟩
            walk_at "go"
            walk_at "new"
            rename_i p4 np4 H9 s9 hp4
            walk_at "go"
            obtain ⟨f1, f2, f3⟩ := fin (e.2.1 + stepCost t e.1.2 s, e.2.2) p4 H9 s9 hp4
            exact ⟨m, _, rfl, f1, f2, f3, _, _, _, _, _, _, rfl⟩
          · dsimp only
            rw [if_neg hlt]
            walk_at "go"
            rw [vint_eq]
            refine ite_d (fun heq => ?_) (fun heq => ?_)
            · rw [if_pos heq]
              walk_at "go"
              refine g_ixL hr8 (at_last ys _) ?_
              walk_at "go"
              refine ⟨d, .ref bv, rfl, DG H8 s58, ?_⟩
              walk_at "go"
              walk_at "new"
              rename_i p4 np4 H9 s9 hp4
              walk_at "go"
              obtain ⟨f1, f2, f3⟩ := fin (e.2.1 + stepCost t e.1.2 s, y0 + e.2.2) p4 H9 s9 hp4
              exact ⟨m, _, rfl, f1, f2, f3, _, _, _, _, _, _, rfl⟩
            · rw [if_neg heq]
              walk_at "go"
              refine ⟨fun x o y => s58 _ _ (s5 _ _ y), ⟨kv5, hm8, hT8⟩, _, _, _, _, _, _, rfl⟩
      · obtain ⟨s5, ⟨kv5, hm5, hT5⟩, v8, v9, v10, v11, v12, v13, rfl⟩ := hp
        have el : ((turnsTo w e.1.1 [c]).map V.int).length = (next2 w s [c] e).length := by unfold next2; rw [List.length_map, List.length_map]
        rw [el, List.take_length, ← nexts2_take he] at hT5
        refine hD _ _ ⟨fun x o y => ?_, ⟨kv5, hm5, hT5⟩, _, _, _, _, _, _, _, rfl⟩
        have hx : x ≠ m := fun u => by rw [u] at y; unfold but at y; rw [if_pos rfl] at y; cases y
        exact s5 _ _ (but_ne (s4 _ _ (s2 _ _ y)) hx)
    · obtain ⟨s2, ⟨kv2, hm2, hT2⟩, v7, v8, v9, v10, v11, v12, v13, rfl⟩ := hp
      rw [Paired.length hrv, List.take_length] at hT2
      have s3 : Same H' (upd H2 d (.dT kvs)) := fun x o y => by
        by_cases hx : x = d
        · subst hx
          rw [upd_same]
          rw [hd] at y
          exact y
        · rw [upd_ne hx]
          have hxm : x ≠ m := ne_of_none y nm
          exact s2 _ _ (but_ne (by rw [upd_ne hx, upd_ne hxm]; exact y) hxm)
      have hm3 : upd H2 d (.dT kvs) m = some (.dT kv2) := by rw [upd_ne nmd]; exact hm2
      have hT3 : R2V (but (upd H2 d (.dT kvs)) r) kv2 (relax2All (nexts2 w s [c] R)) := paired_imp hT2 fun x y ⟨h1, b, h2, h3⟩ => ⟨h1, b, h2, by
        have h4 := but_sub _ _ h3
        have nbd : b ≠ d := fun u => by rw [u, s2 _ _ (but_ne upd_same nmd.symm)] at h4; cases h4
        have nbr : b ≠ r := fun u => by rw [u, s2 _ _ (but_ne (by rw [upd_ne ndr.symm]; exact same_upd nm _ _ hr) nmr.symm)] at h4; cases h4
        exact but_ne (by rw [upd_ne nbd]; exact h4) nbr⟩
      generalize upd H2 d (.dT kvs) = H3 at s3 hm3 hT3
      walk_at "go"
      refine ⟨(ow.same mono_row2 s3).ty, ?_⟩
      walk_at "go"
      obtain ⟨xs0, h01, h02, h03, h04⟩ := ow.same mono_row2 s3
      refine ⟨r, xs0, .ref m, rfl, rfl, h03, ?_, ⟨xs0 ++ [.ref m], h01, fun b x e => by rw [upd_ne (ne_of_none e h01)]; exact h02 b x e, upd_same, ?_⟩, m, kv2, xs0, nmr, upd_same, by rw [upd_ne nmr]; exact hm3, ?_, _, _, _, _, _, _, _, _, _, rfl⟩
      · rw [Paired.length h04]
        unfold rowsJ
        rw [List.length_map, List.length_range]
        exact Nat.lt_of_le_of_lt (show i + 1 ≤ 2000 by omega) (by decide)
      · rw [but_upd, rowsJ_succ, take_snoc hc, rowJ_snoc, hR]
        exact paired_app h04 (.cons ⟨m, kv2, rfl, but_ne hm3 nmr, hT3⟩ .nil)
      · rw [but_upd]
        exact hT3
  · obtain ⟨ow, d, kvs, ys, ndr, hr, hd, hrv, v5, v6, v7, v8, v9, v10, v11, v12, v13, rfl⟩ := hp
    obtain ⟨xs, h3, h4⟩ := ow.all mono_row2
    walk_at "go"
    obtain ⟨_, hr0, _⟩ := id ow
    exact q r xs H' hr0 ow.sm h3 h4
end Sw
local macro_rules | `(tactic| walk_at "go1") => `(tactic| first
  | with_reducible refine Sw.g_seqasg ?_ | with_reducible refine Sw.g_op ?_ | with_reducible refine Sw.g_var rfl ?_ | with_reducible refine Sw.g_c ?_ | with_reducible refine Sw.g_I0 ?_
  | with_reducible refine Sw.g_cons ?_ | with_reducible refine Sw.g_nil ?_ | with_reducible refine Sw.g_call ?_ | with_reducible refine Sw.g_cb ?_ | with_reducible refine Sw.g_test ?_ | with_reducible refine Sw.g_bl ?_
  | with_reducible refine Sw.g_seqdrop ?_ | with_reducible refine Sw.g_seqsub ?_ | with_reducible refine Sw.g_asg ?_ | with_reducible refine Sw.g_asgsub ?_ | with_reducible refine Sw.g_ret ?_ | with_reducible refine Sw.g_drop ?_ | with_reducible refine Sw.g_if ?_ | with_reducible refine Sw.g_next ?_ | with_reducible refine Sw.g_name ?_
  | with_reducible refine Sw.g_B ?_ | with_reducible refine Sw.g_not ?_ | with_reducible refine Sw.g_and ?_ | with_reducible refine Sw.g_or ?_ | with_reducible refine Sw.g_andV ?_ | with_reducible refine Sw.g_orV ?_ | with_reducible refine Sw.g_notV ?_
  | with_reducible refine Sw.g_ifE ?_ | with_reducible refine Sw.g_chain ?_ | with_reducible refine Sw.g_un ?_ | with_reducible refine Sw.g_tup ?_ | with_reducible refine Sw.g_lst ?_ | with_reducible refine Sw.g_sl ?_ | with_reducible refine Sw.g_part ?_ | with_reducible refine Sw.g_nopart ?_
  | with_reducible refine Sw.g_U ?_ | with_reducible refine Sw.g_eq rfl ?_ | with_reducible refine Sw.g_ne rfl ?_ | with_reducible refine Sw.g_int ?_ | with_reducible refine Sw.g_yes ?_ | with_reducible refine L2.iteT ?_ | with_reducible refine L2.iteF ?_ | with_reducible refine Sw.iteNT ?_ | with_reducible refine Sw.iteNF ?_ | with_reducible refine Sw.g_m1 ?_ | with_reducible refine Sw.g_bm ?_ | with_reducible refine ⟨Sw.ty_lst (by assumption), ?_⟩ | with_reducible refine Sw.g_sput ?_ | with_reducible refine Sw.g_put ?_ | with_reducible refine Sw.g_dget2 ?_ | with_reducible refine Sw.g_dget ?_ | with_reducible refine Sw.g_dK ?_ | with_reducible refine Sw.g_dT ?_ | with_reducible refine Sw.g_dnotin ?_ | with_reducible refine Sw.g_din ?_ | with_reducible refine Sw.g_bm0 ?_
  | with_reducible refine Sw.g_ixL (by assumption) rfl ?_ | with_reducible refine Sw.g_ixT (by assumption) rfl ?_)
local macro_rules | `(tactic| walk_at "go") => `(tactic| repeat walk_at "go1")
local macro_rules | `(tactic| walk_at "bd") => `(tactic| repeat (first | with_reducible exact Sw.all_nil | refine Sw.all_cons ⟨_, rfl, by omega, by omega⟩ ?_))
local macro_rules | `(tactic| walk_at "new") => `(tactic| (refine ⟨Nat.le_of_ble_eq_true rfl, fun p np => ?_⟩; generalize hX : L2.upd _ p _ = H'; have sm : L2.Same _ H' := hX ▸ Sw.same_upd np; have hp : H' p = some _ := hX ▸ L2.upd_same; clear hX))
namespace Sw
open PySem PySem.Spec PyProof.Rows L2 SX
/-! ### a dict told: its stands rising, each with a number -/
theorem told_lc {K : PySem.W.Frag} {σ : L2.St} {H : Hp} {Q : VK} {a b : Nat} {d : Addr} {kvs : List (List Key × V)} {sts : List Std} {f : Std → Int} {te2 : TE} (hd : H d = some (.dT kvs)) (hk : kvs.map (·.1) = sts.map encK) (hnd : sts.Nodup) (hlen : sts.length ≤ 100000)
    (ha : σ[a]? = some (some (.ref d))) (hw : ∀ x : V, wipe ((wipe σ [b]).set b (some x)) [b] = wipe σ [b]) (hb : ∀ x : V, ((wipe σ [b]).set b (some x))[b]? = some (some x))
    (hv : ∀ (st : Std) (t : Addr) H' (Q : VK), st ∈ sts → H' t = some (.tup [.int st.1, .int st.2]) → Same H H' → Q (.int (f st)) H' → te2 ((wipe σ [b]).set b (some (.ref t))) H' Q)
    (pd : ∀ Dl zs (so : List Std) H', H Dl = none → Same H H' → H' Dl = some (.lst zs) → so.Pairwise ltS → so.Perm sts → Paired (TriV (but H' Dl)) zs (so.map fun st => (st.1, st.2, f st)) → Q (.ref Dl) H') :
    tLc (iList K (tCB (rSortedPO K) (tCons (tCB rListT (tCons (tVar a) tNil)) tNil))) (gName b) tYes (tOp (rCatA K) (tVar b) (tTup (tCons te2 tNil))) [b] σ H Q := by
  refine lcAL (R := TriV) mono_tri (fun ys g Ha => ∃ so : List Std, ys.length = so.length ∧ so.Pairwise ltS ∧ so.Perm sts ∧ Paired (fun (v : V) (st : Std) => ∃ t, v = .ref t ∧ Ha t = some (.tup [.int st.1, .int st.2])) ys so ∧ g = fun i => (fun st : Std => (st.1, st.2, f st)) (so.getD i (0, 0))) (fun Q h => ?_) hw (fun ys g Ha hA sa k y H3 Dl acc Q hy s3 hDl h => ?_) (fun ys g Ha hA Dl zs H3 nD s3 hDl hp3 => ?_)
  · refine g_cb (g_cons (g_cb (g_cons (g_var ha (g_nil ?_)))))
    have key := sorted_keys (K := K) (Q := Q) (.inl hd) hk hnd fun pp ll ys so H3 _ _ s3 hpp hso hper hpd => ?_
    · obtain ⟨dd, kk, e1, e2, e3⟩ := key
      exact ⟨dd, kk, e1, e2, fun p bs np ik => g_nil (e3 p bs np ik)⟩
    · have lys := Paired.length hpd
      exact h pp ys _ H3 (.inl (.inl hpp)) (by rw [lys, hper.length_eq]; exact hlen) s3 ⟨so, lys, hso, hper, hpd, rfl⟩
  · obtain ⟨so, lys, hso, hper, hpd, rfl⟩ := hA
    obtain ⟨st, hst, t, rfl, ht⟩ := paired_get hpd hy
    have hin : st ∈ sts := hper.mem_iff.mp (List.mem_of_getElem? hst)
    have ht3 := s3 _ _ ht
    refine g_op (g_var (hb _) (g_tup (g_cons (hv st t H3 _ hin ht3 (sa.trans s3) (g_nil ?_)))))
    refine ⟨by show 1 ≤ sizeLine; decide, fun p1 np1 => ?_⟩
    have s4 := same_upd (o := .tup [.int (f st)]) np1
    refine ⟨t, p1, _, _, rfl, rfl, .inl (.inl (s4 _ _ ht3)), .inl (.inl upd_same), by show 3 ≤ sizeLine; decide, (fun z => nomatch z), (fun _ z => nomatch z), fun _ _ p2 np2 => ?_⟩
    refine h _ _ (s4.trans (same_upd np2)) ⟨p2, rfl, but_ne ?_ fun z => by rw [z, s4 _ _ hDl] at np2; cases np2⟩
    rw [upd_same]
    dsimp only
    rw [getD_of' hst]
    rfl
  · obtain ⟨so, lys, hso, hper, hpd, rfl⟩ := hA
    rw [lys, range_getD so (0, 0) fun st : Std => (st.1, st.2, f st)] at hp3
    exact pd Dl zs so H3 nD s3 hDl hso hper hp3
theorem told_of {g : Std → Option Int} {so sts : List Std} {f : Std → Int} (hs : so.Pairwise ltS) (hp : so.Perm sts) (hg : ∀ st c, g st = some c ↔ st ∈ sts ∧ c = f st) : Told g (so.map fun st => (st.1, st.2, f st)) := by
  refine ⟨?_, fun x => ?_⟩
  · rw [List.pairwise_map]
    exact hs
  · rw [List.mem_map]
    constructor
    · rintro ⟨st, hst, rfl⟩
      exact (hg st (f st)).mpr ⟨hp.mem_iff.mp hst, rfl⟩
    · intro h
      obtain ⟨h1, h2⟩ := (hg _ _).mp h
      refine ⟨stOf x, hp.mem_iff.mpr h1, ?_⟩
      rw [← h2]
      rfl
/-- data of a told table -/
def dTri (x : Tri) : PyData := .tuple [.int x.1, .int x.2.1, .int x.2.2]
def dTab (LL : List (List Tri)) : PyData := .list (LL.map fun L => .list (L.map dTri))
theorem dp_tris {K : PySem.W.Frag} {H : Hp} {xs : List V} {L : List Tri} (h : Paired (TriV H) xs L) : DpAll K H xs (L.map dTri) := by
  induction h with
  | nil => exact .nil
  | cons r t ih =>
    obtain ⟨a, rfl, h⟩ := r
    exact .cons (.tup (.inl (.inl h)) (.cons (.int _) (.cons (.int _) (.cons (.int _) .nil)))) ih
theorem dp_tabs {K : PySem.W.Frag} {H : Hp} {xs : List V} {LL : List (List Tri)} (h : Paired (TrisV H) xs LL) : DpAll K H xs (LL.map fun L => .list (L.map dTri)) := by
  induction h with
  | nil => exact .nil
  | cons r t ih =>
    obtain ⟨a, ys, rfl, h1, h2⟩ := r
    exact .cons (.lst (.inl (.inl h1)) (dp_tris h2)) ih
theorem dp_tab {K : PySem.W.Frag} {H H' : Hp} {l : Addr} {LL : List (List Tri)} (h : OwnP TrisV H l LL H') : Dp K H' (.ref l) (dTab LL) := by
  obtain ⟨xs, h1, h2⟩ := h.all mono_tris
  exact .lst (.inl (.inl h1)) (dp_tabs h2)
theorem ok_tab (LL : List (List Tri)) : Ok 3 (dTab LL) := ok_lst fun x hx => by
  obtain ⟨L, _, rfl⟩ := List.mem_map.mp hx
  refine ok_lst fun y hy => ?_
  obtain ⟨z, _, rfl⟩ := List.mem_map.mp hy
  exact ok_tup (ok_cons (ok_int _) (ok_cons (ok_int _) (ok_cons (ok_int _) ok_nil)))
end Sw
local macro_rules | `(tactic| walk_at "go1") => `(tactic| first
  | with_reducible refine Sw.g_seqasg ?_ | with_reducible refine Sw.g_op ?_ | with_reducible refine Sw.g_var rfl ?_ | with_reducible refine Sw.g_c ?_ | with_reducible refine Sw.g_I0 ?_
  | with_reducible refine Sw.g_cons ?_ | with_reducible refine Sw.g_nil ?_ | with_reducible refine Sw.g_call ?_ | with_reducible refine Sw.g_cb ?_ | with_reducible refine Sw.g_test ?_ | with_reducible refine Sw.g_bl ?_
  | with_reducible refine Sw.g_seqdrop ?_ | with_reducible refine Sw.g_seqsub ?_ | with_reducible refine Sw.g_asg ?_ | with_reducible refine Sw.g_asgsub ?_ | with_reducible refine Sw.g_ret ?_ | with_reducible refine Sw.g_drop ?_ | with_reducible refine Sw.g_if ?_ | with_reducible refine Sw.g_next ?_ | with_reducible refine Sw.g_name ?_
  | with_reducible refine Sw.g_B ?_ | with_reducible refine Sw.g_not ?_ | with_reducible refine Sw.g_and ?_ | with_reducible refine Sw.g_or ?_ | with_reducible refine Sw.g_andV ?_ | with_reducible refine Sw.g_orV ?_ | with_reducible refine Sw.g_notV ?_
  | with_reducible refine Sw.g_ifE ?_ | with_reducible refine Sw.g_chain ?_ | with_reducible refine Sw.g_un ?_ | with_reducible refine Sw.g_tup ?_ | with_reducible refine Sw.g_lst ?_ | with_reducible refine Sw.g_sl ?_ | with_reducible refine Sw.g_part ?_ | with_reducible refine Sw.g_nopart ?_
  | with_reducible refine Sw.g_U ?_ | with_reducible refine Sw.g_eq rfl ?_ | with_reducible refine Sw.g_ne rfl ?_ | with_reducible refine Sw.g_int ?_ | with_reducible refine Sw.g_yes ?_ | with_reducible refine L2.iteT ?_ | with_reducible refine L2.iteF ?_ | with_reducible refine Sw.iteNT ?_ | with_reducible refine Sw.iteNF ?_ | with_reducible refine Sw.g_m1 ?_ | with_reducible refine Sw.g_bm ?_ | with_reducible refine ⟨Sw.ty_lst (by assumption), ?_⟩ | with_reducible refine Sw.g_sput ?_ | with_reducible refine Sw.g_put ?_ | with_reducible refine Sw.g_dget2 ?_ | with_reducible refine Sw.g_dget ?_ | with_reducible refine Sw.g_dK ?_ | with_reducible refine Sw.g_dT ?_ | with_reducible refine Sw.g_dnotin ?_ | with_reducible refine Sw.g_din ?_ | with_reducible refine Sw.g_bm0 ?_
  | with_reducible refine Sw.g_ixL (by assumption) rfl ?_ | with_reducible refine Sw.g_ixT (by assumption) rfl ?_)
local macro_rules | `(tactic| walk_at "go") => `(tactic| repeat walk_at "go1")
local macro_rules | `(tactic| walk_at "bd") => `(tactic| repeat (first | with_reducible exact Sw.all_nil | refine Sw.all_cons ⟨_, rfl, by omega, by omega⟩ ?_))
local macro_rules | `(tactic| walk_at "new") => `(tactic| (refine ⟨Nat.le_of_ble_eq_true rfl, fun p np => ?_⟩; generalize hX : L2.upd _ p _ = H'; have sm : L2.Same _ H' := hX ▸ Sw.same_upd np; have hp : H' p = some _ := hX ▸ L2.upd_same; clear hX))
namespace Sw
open PySem PySem.Spec PyProof.Rows L2 SX
structure Xs (K : PySem.W.Frag) (c : Cl) : Prop where
  Lacks : Caught K c c.Lacks 0
  NoSlack : Caught K c c.NoSlack 8
  NoWheel : Caught K c c.NoWheel 11
  NoWord : Caught K c c.NoWord 12

/-! ### all plans gone through -/
theorem fold_best {g : Row → Std × Int → Row} (hg : ∀ R e st, valI (g R e) st = if e.1 = st then (match valI R st with | none => some e.2 | some c => some (if e.2 < c then e.2 else c)) else valI R st) (L : List (Std × Int)) (st : Std) : IsBest (fun c => (st, c) ∈ L) (valI (L.foldl g []) st) := by
  have : ∀ k, k ≤ L.length → IsBest (fun c => (st, c) ∈ L.take k) (valI ((L.take k).foldl g []) st) := by
    intro k
    induction k with
    | zero =>
      intro _
      rw [List.take_zero]
      exact fun c h => nomatch h
    | succ k ih =>
      intro hk
      obtain ⟨e, he⟩ : ∃ e, L[k]? = some e := ⟨_, List.getElem?_eq_getElem (by omega)⟩
      have ih := ih (by omega)
      rw [take_snoc he, List.foldl_append]
      show IsBest _ (valI (g ((L.take k).foldl g []) e) st)
      rw [hg]
      by_cases h : e.1 = st
      · rw [if_pos h]
        have em : ∀ c, (st, c) ∈ L.take k ++ [e] ↔ (st, c) ∈ L.take k ∨ c = e.2 := fun c => by
          rw [List.mem_append, List.mem_singleton]
          constructor
          · rintro (y | y)
            · exact .inl y
            · exact .inr (by rw [← y])
          · rintro (y | y)
            · exact .inl y
            · exact .inr (Prod.ext h.symm y)
        cases hv : valI ((L.take k).foldl g []) st with
        | none =>
          rw [hv] at ih
          exact ⟨(em _).mpr (.inr rfl), fun c' hc' => by
            rcases (em c').mp hc' with y | y
            · exact absurd y (ih c')
            · omega⟩
        | some c =>
          rw [hv] at ih
          show IsBest _ (some (if e.2 < c then e.2 else c))
          by_cases z : e.2 < c
          · rw [if_pos z]
            exact ⟨(em _).mpr (.inr rfl), fun c' hc' => by
              rcases (em c').mp hc' with y | y
              · have := ih.2 c' y; omega
              · omega⟩
          · rw [if_neg z]
            exact ⟨(em _).mpr (.inl ih.1), fun c' hc' => by
              rcases (em c').mp hc' with y | y
              · exact ih.2 c' y
              · omega⟩
      · rw [if_neg h]
        refine ih.congr fun c => ?_
        rw [List.mem_append, List.mem_singleton]
        constructor
        · exact .inl
        · rintro (y | y)
          · exact y
          · exact absurd (by rw [← y]) h
  have h := this L.length (Nat.le_refl _)
  rwa [List.take_length] at h
def upd3 (T : Row) (e : Std × Int) : Row := putI T e.1 (match valI T e.1 with | none => e.2 | some c => if c < e.2 then c else e.2)
theorem valI_upd3 (R : Row) (e : Std × Int) (st : Std) : valI (upd3 R e) st = if e.1 = st then (match valI R st with | none => some e.2 | some c => some (if e.2 < c then e.2 else c)) else valI R st := by
  unfold upd3
  rw [valI_put]
  by_cases h : e.1 = st
  · subst h
    rw [if_pos rfl, if_pos rfl]
    cases valI R e.1 with
    | none => rfl
    | some c =>
      show some (if c < e.2 then c else e.2) = some (if e.2 < c then e.2 else c)
      congr 1
      split <;> split <;> omega
  · rw [if_neg h, if_neg (fun z => h z.symm)]
theorem upd3_mem {R : Row} {x e : Std × Int} (h : e ∈ upd3 R x) : e ∈ R ∨ e.1 = x.1 := by
  unfold upd3 at h
  rcases put_mem h with z | z
  · exact .inl z
  · exact .inr (by rw [z])
theorem fold3_ok {n : Nat} : ∀ (L : List (Std × Int)) (R : Row), RowOk n R → (∀ x ∈ L, StOk n x.1) → RowOk n (L.foldl upd3 R)
  | [], _, h, _ => h
  | x :: L, R, h, hL => fold3_ok L (upd3 R x) ⟨nd_put h.1, fun e he => by
      rcases upd3_mem he with z | z
      · exact h.2 e z
      · rw [z]; exact hL x List.mem_cons_self⟩ fun y hy => hL y (List.mem_cons_of_mem _ hy)
theorem posL_sum {n : Int} (hn : 0 < n) : ∀ (p : Int) (ts : List Int), posL n p ts % n = (p + ts.sum) % n
  | p, [] => by simp [posL]
  | p, t :: r => by
    show posL n ((p + t) % n) r % n = _
    rw [posL_sum hn ((p + t) % n) r, List.sum_cons, Int.emod_add_emod, Int.add_assoc]
theorem posL_0 {n : Int} (hn : 0 < n) (ts : List Int) : posL n 0 ts = ts.sum % n := by
  obtain ⟨a, b⟩ := posL_bd hn 0 ts (by omega) hn
  have h := posL_sum hn 0 ts
  rw [Int.emod_eq_of_lt a b, Int.zero_add] at h
  exact h
def entOf (w : List Nat) (s : Int) (ts : List Int) : Std × Int := ((ts.sum % (w.length : Int), wayAll 0 ts), cst s 0 ts)
def entsI (w : List Nat) (s : Int) (word : List Nat) : List (Std × Int) := ((plansI w word).map (·.1)).map (entOf w s)
theorem wayAll_bd : ∀ (v : Int) (ts : List Int), -1 ≤ v → v ≤ 1 → -1 ≤ wayAll v ts ∧ wayAll v ts ≤ 1
  | v, [], h1, h2 => ⟨h1, h2⟩
  | v, t :: r, h1, h2 => wayAll_bd (wayOf t v) r (wayOf_bd h1 h2).1 (wayOf_bd h1 h2).2
theorem entOf_ok {w : List Nat} (s : Int) (hw : 0 < w.length) (ts : List Int) : StOk w.length (entOf w s ts).1 := by
  obtain ⟨a, b⟩ := emod_bd (z := ts.sum) (m := (w.length : Int)) (by omega)
  obtain ⟨c, d⟩ := wayAll_bd 0 ts (by decide) (by decide)
  exact ⟨a, b, c, d⟩
theorem ents_lands {w : List Nat} {s : Int} (hw : 0 < w.length) {word : List Nat} {st : Std} {c : Int} : (st, c) ∈ entsI w s word ↔ Lands w s 0 word st c := by
  unfold entsI
  rw [List.map_map, List.mem_map]
  constructor
  · rintro ⟨e, he, hx⟩
    obtain ⟨wy, c', r⟩ := (mem_plans s word e).mp he
    refine ⟨e.1, ?_⟩
    have h1 := run_pos r
    have h2 := run_way r
    have h3 := run_cost r
    dsimp only at h1 h2 h3
    rw [posL_0 (by omega)] at h1
    have hx' : entOf w s e.1 = (st, c) := hx
    unfold entOf at hx'
    rw [← h1, ← h2, ← h3] at hx'
    have e1 := congrArg Prod.fst hx'
    have e2 := congrArg Prod.snd hx'
    dsimp only at e1 e2
    rw [← e1, ← e2]
    exact r
  · rintro ⟨ts, r⟩
    refine ⟨(ts, st.1), (mem_plans s word _).mpr ⟨st.2, c, r⟩, ?_⟩
    show entOf w s ts = (st, c)
    have h1 := run_pos r
    have h2 := run_way r
    have h3 := run_cost r
    dsimp only at h1 h2 h3
    rw [posL_0 (by omega)] at h1
    unfold entOf
    rw [← h1, ← h2, ← h3]
theorem all_eq {w : List Nat} {s : Int} (hw : 0 < w.length) (word : List Nat) (st : Std) : valI ((entsI w s word).foldl upd3 []) st = valI (rowI w s 0 word) st :=
  ((fold_best valI_upd3 (entsI w s word) st).congr fun c => ents_lands hw).uniq (rowI_best w s 0 word st)
def sp_law_tried_all (K : PySem.W.Frag) : Sp := fun vs H Q _ => ∃ (w word : List Nat) (s : Int), vs = [.str (S w), .str (S word), .int s] ∧ 1 ≤ w.length ∧ w.length ≤ 6 ∧ word.length ≤ 5 ∧ 0 ≤ s ∧ s ≤ 1000 ∧
  ∀ q LL H', OwnP TrisV H q LL H' → Tabs w s word (word.length + 1) LL → Q (.ref q) H'
theorem ln_law_tried_all {K : PySem.W.Frag} {vs : List V} {H : Hp} {Q : VK} {E : XK} (h : sp_law_tried_all K vs H Q E) : vs.length = 3 := by
  obtain ⟨_, _, _, rfl, _⟩ := h
  rfl
def t_law_tried_all (K : PySem.W.Frag) : TS :=
  (tSeq (tAsg (tLst tNil) (gName 3))
  (tSeq (tFor (iRng1 (tCons (tOp rAdd (tCB rLenStr (tCons (tVar 1) tNil)) (tC (.int 1))) tNil)) (gName 4)
  (tSeq (tAsg tDNewT (gName 5))
  (tSeq (tFor (iList K (tCall (sp_law_plans K) [] E0 (tCons (tVar 0) (tCons (tSl rSlS (tVar 1) tNoPart (tPart (tVar 4))) tNil)))) (gName 6)
  (tSeq (tAsg (tC (.int 0)) (gName 7))
  (tSeq (tFor (iList K (tVar 6)) (gName 8)
  (tAsg (tOp (rIxT K) (tCall (sp_law_step K) [] E0 (tCons (tVar 8) (tCons (tVar 7) (tCons (tVar 2) tNil)))) (tC (.int 0))) (gName 7)))
  (tSeq (tAsg (tTup (tCons (tOp rMod (tCB (rSum K) (tCons (tVar 6) tNil)) (tCB rLenStr (tCons (tVar 0) tNil))) (tCons (tVar 7) tNil))) (gName 9))
  (tSeq (tAsg (tCall (sp_law_cost K) [] E0 (tCons (tVar 6) (tCons (tVar 2) tNil))) (gName 10))
  (sDPut (tVar 5) (tVar 9) (tCB rMin2 (tCons (tVar 10) (tCons (tDGet2 (tVar 5) (tVar 9) (tVar 10)) tNil)))))))))
  (tDrop (tBM K "list" rAppend (tVar 3) (tCons (tLc (iList K (tCB (rSortedPO K) (tCons (tCB rListT (tCons (tVar 5) tNil)) tNil))) (gName 9) tYes (tOp (rCatA K) (tVar 9) (tTup (tCons (tDGet (tVar 5) (tVar 9)) tNil))) [9]) tNil))))))
  (tRet (tVar 3))))

theorem keys_row (R : Row) : (encR R).map (·.1) = (R.map (·.1)).map encK := enc_keys R
set_option maxHeartbeats 8000000 in
theorem rd_law_tried_all {K : PySem.W.Frag} {vs : List V} {H : Hp} {Q : VK} {E : XK} (h : sp_law_tried_all K vs H Q E) : t_law_tried_all K { nx := fun _ H' => Q .non H', rt := Q } (start ["wheel", "word", "slack", "told", "many", "row", "turns", "way", "turn", "stand", "spent"] vs) H := by
  obtain ⟨w, word, s, rfl, w1, w2, l5, s0, s1, q⟩ := h
  show t_law_tried_all K _ [some (.str (S w)), some (.str (S word)), some (.int s), none, none, none, none, none, none, none, none] H
  unfold t_law_tried_all
  walk_at "go"
  refine ⟨by decide, fun l nl => ?_⟩
  refine g_seq (for1 (fun n Hn => n = (word.length : Int) + 1 ∧ Hn = upd H l (.lst [])) (fun QA h => ?_) (fun n i σ' H' => n = (word.length : Int) + 1 ∧ ∃ LL, OwnP TrisV H l LL H' ∧ Tabs w s word i LL ∧ ∃ (v4 v5 v6 v7 v8 v9 v10 : Option V), σ' = [some (.str (S w)), some (.str (S word)), some (.int s), some (.ref l), v4, v5, v6, v7, v8, v9, v10]) (fun n Hn hc => ?_) (fun n i σ' H' hi hp => ?_) (fun n σ' H' hp => ?_))
  · walk_at "go"
    refine g_lenS (by omega) ?_
    walk_at "go"
    exact h _ _ ⟨rfl, rfl⟩
  · obtain ⟨rfl, rfl⟩ := hc
    exact ⟨by omega, by omega, rfl, [], OwnP.new nl, ⟨rfl, fun i L e => by simp at e⟩, _, _, _, _, _, _, _, rfl⟩
  · obtain ⟨rfl, LL, ow, tb, v4, v5, v6, v7, v8, v9, v10, rfl⟩ := hp
    obtain ⟨xs0, hl0, _, hl2, _⟩ := id ow
    walk_at "go"
    intro m nm
    have nml : m ≠ l := fun z => by rw [z, hl2] at nm; cases nm
    refine g_seq ?_
    show tCall (sp_law_plans K) [] E0 _ _ _ _
    walk_at "go"
    refine g_to (by omega) (by omega) ?_
    have ei : ((i : Int)).toNat = i := by omega
    rw [ei]
    have lwd : (word.take i).length ≤ 5 := by rw [List.length_take]; omega
    walk_at "go"
    refine ⟨w, word.take i, rfl, w1, w2, lwd, fun r xs H2 nr s2 hr hpd => ?_⟩
    have nrm : r ≠ m := fun z => by rw [z, upd_same] at nr; cases nr
    have hm2 : H2 m = some (.dT (encR [])) := s2 _ _ upd_same
    have lxs := Paired.length hpd
    refine ⟨r, rfl, ⟨xs, .inl (.inl hr)⟩, for_list (xs := xs) (fun k σ' H3 => Same (but H2 m) H3 ∧ H3 m = some (.dT (encR ((entsI w s (word.take i)).take k |>.foldl upd3 []))) ∧ ∃ (v4 v6 v7 v8 v9 v10 : Option V), σ' = [some (.str (S w)), some (.str (S word)), some (.int s), some (.ref l), v4, some (.ref m), v6, v7, v8, v9, v10]) ⟨but_sub, hm2, _, _, _, _, _, _, rfl⟩ (fun k σ' H3 _ hp => .inl (.inl (hp.1 _ _ (but_ne hr nrm)))) (fun k x σ' H3 hx hp => ?_) (fun σ' H3 hp => ?_)⟩
    · obtain ⟨s3, hm3, v4, v6, v7, v8, v9, v10, rfl⟩ := hp
      obtain ⟨ts, hts, b, rfl, hb⟩ := paired_get hpd hx
      have hent : (entsI w s (word.take i))[k]? = some (entOf w s ts) := by unfold entsI; rw [List.getElem?_map, hts]; rfl
      have hb3 := s3 _ _ (but_ne hb fun u => by rw [u, hm2] at hb; cases hb)
      show tSeq _ _ _ [some (.str (S w)), some (.str (S word)), some (.int s), some (.ref l), v4, some (.ref m), some (.ref b), v7, v8, v9, v10] H3
      walk_at "go"
      refine g_seq (forL (a := b) (xs := ts.map V.int) (fun Q h => ?_) (fun z σ' H4 => Same H3 H4 ∧ ∃ (v4 v8 v9 v10 : Option V), σ' = [some (.str (S w)), some (.str (S word)), some (.int s), some (.ref l), v4, some (.ref m), some (.ref b), some (.int (wayAll 0 (ts.take z))), v8, v9, v10]) ⟨Same.refl _, _, _, _, _, rfl⟩ (fun z σ' H4 _ hp => hp.1.seq (.inl (.inl hb3))) (fun z x σ' H4 hx hp => ?_) (fun σ' H4 hp => ?_))
      · walk_at "go"
        exact h
      · obtain ⟨s4, v4, v8, v9, v10, rfl⟩ := hp
        obtain ⟨t, ht, rfl⟩ := map_at hx
        show tAsg _ _ _ [some (.str (S w)), some (.str (S word)), some (.int s), some (.ref l), v4, some (.ref m), some (.ref b), some (.int (wayAll 0 (ts.take z))), some (.int t), v9, v10] H4
        walk_at "go"
        refine ⟨t, _, s, rfl, s0, s1, fun p H5 np s5 hp => ?_⟩
        walk_at "go"
        refine ⟨s4.trans s5, ?_⟩
        rw [take_snoc ht, wayAll_app]
        exact ⟨_, _, _, _, rfl⟩
      · obtain ⟨s4, v4, v8, v9, v10, rfl⟩ := hp
        rw [List.length_map, List.take_length]
        have hb4 := s4 _ _ hb3
        dsimp only
        walk_at "go"
        refine ⟨b, ts, rfl, .inl (.inl hb4), ?_⟩
        walk_at "go"
        refine g_lenS (by omega) ?_
        refine g_I (by omega) ?_
        walk_at "go"
        walk_at "new"
        rename_i p np H5 s5 hp
        walk_at "go"
        refine ⟨b, ts, s, rfl, .inl (.inl (s5 _ _ hb4)), s0, s1, fun H6 s6 => ?_⟩
        have s36 : Same H3 H6 := s4.trans (s5.trans s6)
        have hm6 := s36 _ _ hm3
        have hp6 : H6 p = some (.tup ((encK (entOf w s ts).1).map kV)) := s6 _ _ hp
        have hLok : ∀ x ∈ (entsI w s (word.take i)).take k, StOk w.length x.1 := fun x hx => by
          obtain ⟨ts', _, rfl⟩ := List.mem_map.mp (List.mem_of_mem_take hx)
          exact entOf_ok s (by omega) ts'
        have hTok := fold3_ok ((entsI w s (word.take i)).take k) [] ⟨by unfold Nd; simp, fun _ h => nomatch h⟩ hLok
        have hlen := row_len hTok
        rw [take_snoc hent, List.foldl_append]
        generalize ((entsI w s (word.take i)).take k).foldl upd3 [] = T at hm6 hlen
        have hTl : (encR T).length < sizeLine := by rw [enc_len]; exact Nat.lt_of_le_of_lt (show T.length ≤ 3000 by omega) (by decide)
        walk_at "go"
        refine ⟨m, rfl, .inr ⟨encR T, .inl hm6⟩, ?_⟩
        walk_at "go"
        refine ⟨_, .inr ⟨encR T, encK (entOf w s ts).1, p, .inl hm6, rfl, hp6, rfl⟩, ?_⟩
        rw [valV_enc]
        have hg : ((valI T (entOf w s ts).1).map V.int).getD (.int (cst s 0 ts)) = .int ((valI T (entOf w s ts).1).getD (cst s 0 ts)) := by cases valI T (entOf w s ts).1 <;> rfl
        rw [hg]
        walk_at "go"
        refine g_min ?_
        walk_at "go"
        refine ⟨m, _, rfl, .inr ⟨encR T, encK (entOf w s ts).1, p, hm6, rfl, hp6, hTl, rfl⟩, ?_⟩
        rw [put_enc]
        refine ⟨fun x o y => ?_, ?_, _, _, _, _, _, _, rfl⟩
        · rw [upd_ne (fun u => by rw [u] at y; unfold but at y; rw [if_pos rfl] at y; cases y)]
          exact s36 _ _ (s3 _ _ y)
        · rw [upd_same]
          show _ = some (HO.dT (encR (upd3 T (entOf w s ts))))
          unfold upd3
          congr 3
          cases hvt : valI T (entOf w s ts).1 with
          | none =>
            show putI T (entOf w s ts).1 (if cst s 0 ts < cst s 0 ts then cst s 0 ts else cst s 0 ts) = putI T (entOf w s ts).1 (cst s 0 ts)
            rw [if_neg (by omega)]
          | some c => rfl
    · obtain ⟨s3, hm3, v4, v6, v7, v8, v9, v10, rfl⟩ := hp
      have ell : xs.length = (entsI w s (word.take i)).length := by rw [lxs]; unfold entsI; rw [List.length_map, List.length_map, List.length_map]
      rw [ell, List.take_length] at hm3
      have hTok := fold3_ok (entsI w s (word.take i)) [] ⟨by unfold Nd; simp, fun _ h => nomatch h⟩ (fun x hx => by
          obtain ⟨ts', _, rfl⟩ := List.mem_map.mp hx
          exact entOf_ok (w := w) s (by omega) ts')
      have heq := all_eq (s := s) (w := w) (by omega) (word.take i)
      have hlen := row_len hTok
      generalize (entsI w s (word.take i)).foldl upd3 [] = T at hm3 hTok heq hlen
      have s03 : Same H' H3 := fun x o y => s3 _ _ (but_ne (s2 _ _ (same_upd nm _ _ y)) (ne_of_none y nm))
      have ow3 := ow.same mono_tris s03
      have hl3 := s03 _ _ hl2
      dsimp only
      walk_at "go"
      refine told_lc (sts := List.map (fun e : Std × Int => e.1) T) (f := fun st => (valI T st).getD 0) hm3 (enc_keys T) hTok.1 (by rw [List.length_map]; omega) rfl (fun x => rfl) (fun x => rfl) (fun st t H4 Q hst ht s4 h => ?_) (fun Dl zs so H4 nD s4 hDl hso hper hpz => ?_)
      · obtain ⟨e, he, rfl⟩ := List.mem_map.mp hst
        have hv : valI T e.1 = some e.2 := (valI_mem hTok.1).mp he
        walk_at "go"
        refine ⟨m, .int e.2, rfl, .inr ⟨encR T, encK e.1, t, .inl (s4 _ _ hm3), rfl, ht, by rw [valV_enc, hv]; rfl⟩, ?_⟩
        rw [hv] at h
        exact h
      · have told : Told (valI (rowI w s 0 (word.take i))) (so.map fun st => (st.1, st.2, (valI T st).getD 0)) := told_of hso hper fun st c => by
          rw [← heq]
          constructor
          · intro h
            exact ⟨List.mem_map.mpr ⟨(st, c), (valI_mem hTok.1).mpr h, rfl⟩, by rw [h]; rfl⟩
          · rintro ⟨h1, h2⟩
            obtain ⟨e, he, rfl⟩ := List.mem_map.mp h1
            have hv : valI T e.1 = some e.2 := (valI_mem hTok.1).mp he
            rw [h2, hv]
            rfl
        have nDl : Dl ≠ l := fun z => by rw [z, hl3] at nD; cases nD
        walk_at "go"
        refine ow3.app mono_tris s4 (by rw [tb.1]; omega) (y := so.map fun st => (st.1, st.2, (valI T st).getD 0)) ⟨Dl, zs, rfl, but_ne hDl nDl, paired_imp hpz fun x y ⟨a, h1, h2⟩ => ⟨a, h1, but_ne (but_sub _ _ h2) fun z => ?_⟩⟩ fun H5 ow5 k5 => ⟨rfl, _, ow5, ⟨by rw [List.length_append, tb.1]; rfl, fun k L hL => ?_⟩, _, _, _, _, _, _, _, rfl⟩
        · by_cases hk : k < LL.length
          · rw [List.getElem?_append_left hk] at hL
            exact tb.2 k L hL
          · rw [List.getElem?_append_right (by omega)] at hL
            have e0 : k - LL.length = 0 := by
              cases e : k - LL.length with
              | zero => rfl
              | succ n => rw [e] at hL; simp at hL
            rw [e0] at hL
            have : k = i := by have := tb.1; omega
            subst this
            cases hL
            exact told
        · have := but_sub _ _ h2
          rw [z, s4 _ _ hl3] at this
          cases this
  · obtain ⟨rfl, LL, ow, tb, v4, v5, v6, v7, v8, v9, v10, rfl⟩ := hp
    have e : ((word.length : Int) + 1).toNat = word.length + 1 := by omega
    rw [e] at tb
    walk_at "go"
    exact q l LL H' ow tb
/-! ### the table asked -/
theorem told_len {n : Nat} {R : Row} {L : List Tri} (h : RowOk n R) (t : Told (valI R) L) : L.length ≤ 3 * n := by
  have hin : ∀ x ∈ L, StOk n (stOf x) := fun x hx => h.2 _ ((valI_mem h.1).mpr ((t.mem x).mp hx))
  have hnd : (L.map fun x => code n (stOf x)).Nodup := by
    have p := t.srt
    clear t
    induction L with
    | nil => simp
    | cons a L ih =>
      rw [List.pairwise_cons] at p
      rw [List.map_cons, List.nodup_cons]
      refine ⟨fun hm => ?_, ih (fun x hx => hin x (List.mem_cons_of_mem _ hx)) p.2⟩
      obtain ⟨b, hb, eb⟩ := List.mem_map.mp hm
      have e := code_inj (hin b (List.mem_cons_of_mem _ hb)) (hin a List.mem_cons_self) eb
      have := p.1 b hb
      rw [e] at this
      unfold ltS at this
      omega
  have := nodup_lt (3 * n) _ hnd fun x hx => by
    obtain ⟨e, he, rfl⟩ := List.mem_map.mp hx
    exact code_lt (hin e he)
  rwa [List.length_map] at this
def sp_law_right (K : PySem.W.Frag) : Sp := fun vs H Q _ => ∃ (w word : List Nat) (s : Int) (q : Addr) (LL : List (List Tri)), vs = [.str (S w), .str (S word), .int s, .ref q] ∧ Good w word s ∧ Dp K H (.ref q) (dTab LL) ∧ Tabs w s word (word.length + 1) LL ∧ ∀ H', Same H H' → Q (.bl true) H'
theorem ln_law_right {K : PySem.W.Frag} {vs : List V} {H : Hp} {Q : VK} {E : XK} (h : sp_law_right K vs H Q E) : vs.length = 4 := by
  obtain ⟨_, _, _, _, _, rfl, _⟩ := h
  rfl
def t_law_right (K : PySem.W.Frag) (c : Cl) : TS :=
  (tSeq (tAsg (tCall (spx_table K c) [] E0 (tCons (tVar 0) (tCons (tVar 1) (tCons (tVar 2) tNil)))) (gName 4))
  (tSeq (tIfS (tOr (tNot (tB (tCB (rIsi K) (tCons (tVar 4) (tCons (tC (.ty "list")) tNil))))) (tTest (tOp (rNeD K) (tVar 4) (tVar 3)))) (tRet (tC (.bl false))) tNext)
  (tSeq (tFor (iList K (tVar 4)) (gName 5)
  (tSeq (tIfS (tNot (tB (tCB (rIsi K) (tCons (tVar 5) (tCons (tC (.ty "list")) tNil))))) (tRet (tC (.bl false))) tNext)
  (tSeq (tFor (iList K (tVar 5)) (gName 6)
  (tIfS (tOr (tNot (tB (tCB (rIsi K) (tCons (tVar 6) (tCons (tC (.ty "tuple")) tNil))))) (tTest (tOp (rIn K false) (tC (.bl false)) (tLc (iTup K (tVar 6)) (gName 7) tYes (tCall (sp_law_whole K) [] E0 (tCons (tVar 7) tNil)) [7])))) (tRet (tC (.bl false))) tNext))
  (tDrop (tBM K "list" rAppend (tVar 5) (tCons (tTup (tCons (tC (.int 0)) (tCons (tC (.int 0)) (tCons (tC (.int 0)) tNil)))) tNil))))))
  (tSeq (tDrop (tBM0 K "list" rClear (tVar 4)))
  (tRet (tOp (rEqD K) (tCall (spx_table K c) [] E0 (tCons (tVar 0) (tCons (tVar 1) (tCons (tVar 2) tNil)))) (tVar 3)))))))

theorem g_isLst {K : PySem.W.Frag} {l : Addr} {xs : List V} {H : Hp} {Q : VK} (h : H l = some (.lst xs)) (q : Q (.bl true) H) : rIsi K [.ref l, .ty "list"] H Q := ⟨.ref l, .ty "list", .type "list", .type "list", true, rfl, .ty "list", .base (.lst h), kit_ty (by decide +kernel), q⟩
theorem g_isTup {K : PySem.W.Frag} {l : Addr} {xs : List V} {H : Hp} {Q : VK} (h : H l = some (.tup xs)) (q : Q (.bl true) H) : rIsi K [.ref l, .ty "tuple"] H Q := ⟨.ref l, .ty "tuple", .type "tuple", .type "tuple", true, rfl, .ty "tuple", .base (.tup h), kit_ty (by decide +kernel), q⟩
def IsTri (H : Hp) (y : V) : Prop := ∃ (p : Addr) (x : Tri), y = .ref p ∧ H p = some (.tup [.int x.1, .int x.2.1, .int x.2.2])
/-- a row that may have been made longer -/
def RowL (H0 : Hp) (f : Addr) (n : Nat) (H : Hp) (v : V) : Prop := ∃ a ys, v = .ref a ∧ H0 a = none ∧ a ≠ f ∧ H a = some (.lst ys) ∧ ys.length ≤ n ∧ ∀ y ∈ ys, IsTri H y
set_option maxHeartbeats 8000000 in
theorem rd_law_right {K : PySem.W.Frag} {c : Cl} {vs : List V} {H : Hp} {Q : VK} {E : XK} (h : sp_law_right K vs H Q E) : t_law_right K c { nx := fun _ H' => Q .non H', rt := Q } (start ["wheel", "word", "slack", "due", "found", "row", "one", "part"] vs) H := by
  obtain ⟨w, word, s, dq, LL, rfl, g, hdue, tb, q⟩ := h
  obtain ⟨w1, w2, l2⟩ := g.len
  show t_law_right K c _ [some (.str (S w)), some (.str (S word)), some (.int s), some (.ref dq), none, none, none, none] H
  unfold t_law_right
  walk_at "go"
  refine ⟨w, word, s, rfl, by omega, by omega, fun _ f LL' H1 nf ow tb' => ?_, errE0 g⟩
  have eLL := tabs_uniq tb' tb
  subst eLL
  obtain ⟨xs, hf0, s1, hf, hpd⟩ := id ow
  refine g_seq ?_
  walk_at "go"
  refine g_isLst hf ?_
  walk_at "go"
  refine g_neD (dp_tab (trisF_v ow)) (dp_same s1 hdue) (ok_tab _) (by decide) ?_
  walk_at "go"
  dsimp only
  have hrows : ∀ v ∈ xs, RowL H f 90 H1 v := fun v hv => by
    obtain ⟨i, hi⟩ := List.getElem?_of_mem hv
    obtain ⟨L, hL, a, ys, rfl, ha0, ha, hys⟩ := paired_get hpd hi
    have hne : a ≠ f := fun z => by rw [z] at ha; unfold but at ha; rw [if_pos rfl] at ha; cases ha
    refine ⟨a, ys, rfl, ha0, hne, but_sub _ _ ha, ?_, fun y hy => ?_⟩
    · rw [Paired.length hys]
      have := told_len (rowI_ok (s := s) (by omega) (by omega) (by omega) (word.take i)) (tb.2 i L hL)
      omega
    · obtain ⟨j, hj⟩ := List.getElem?_of_mem hy
      obtain ⟨x, _, p, rfl, hp⟩ := paired_get hys hj
      exact ⟨p, x, rfl, but_sub _ _ hp⟩
  have lxs : xs.length ≤ 81 := by rw [Paired.length hpd, tb.1]; omega
  refine g_seq (forL (a := f) (xs := xs) (fun Q h => ?_) (fun i σ' H' => Same H H' ∧ H' f = some (.lst xs) ∧ (∀ v ∈ xs, RowL H f (90 + i) H' v) ∧ ∃ (v5 v6 v7 : Option V), σ' = [some (.str (S w)), some (.str (S word)), some (.int s), some (.ref dq), some (.ref f), v5, v6, v7]) ⟨s1, hf, hrows, _, _, _, rfl⟩ (fun i σ' H' _ hp => .inl (.inl hp.2.1)) (fun i x σ' H' hx hp => ?_) (fun σ' H' hp => ?_))
  · walk_at "go"
    exact h
  · obtain ⟨sm, hf2, hr, v5, v6, v7, rfl⟩ := hp
    have li := (List.getElem?_eq_some_iff.mp hx).1
    obtain ⟨a, ys, rfl, ha0, haf, ha, hyl, hyt⟩ := hr x (List.mem_of_getElem? hx)
    show tSeq _ _ _ [some (.str (S w)), some (.str (S word)), some (.int s), some (.ref dq), some (.ref f), some (.ref a), v6, v7] H'
    refine g_seq ?_
    walk_at "go"
    refine g_isLst ha ?_
    walk_at "go"
    dsimp only
    refine g_seq (forL (a := a) (xs := ys) (fun Q h => ?_) (fun k σ' H3 => Same H' H3 ∧ ∃ (v6 v7 : Option V), σ' = [some (.str (S w)), some (.str (S word)), some (.int s), some (.ref dq), some (.ref f), some (.ref a), v6, v7]) ⟨Same.refl _, _, _, rfl⟩ (fun k σ' H3 _ hp => .inl (.inl (hp.1 _ _ ha))) (fun k y σ' H3 hy hp => ?_) (fun σ' H3 hp => ?_))
    · walk_at "go"
      exact h
    · obtain ⟨s3, v6, v7, rfl⟩ := hp
      obtain ⟨p, x, rfl, hp⟩ := hyt y (List.mem_of_getElem? hy)
      have hp3 := s3 _ _ hp
      show tIfS _ _ _ _ [some (.str (S w)), some (.str (S word)), some (.int s), some (.ref dq), some (.ref f), some (.ref a), some (.ref p), v7] H3
      walk_at "go"
      refine g_isTup hp3 ?_
      walk_at "go"
      refine lcPT (a := p) (xs := [.int x.1, .int x.2.1, .int x.2.2]) (fun _ => true) (fun _ => .bl true) (fun Q h => ?_) (.inl (.inl hp3)) (by show 3 ≤ 100000; decide) (fun x => rfl) (fun z y H4 QT hz sm h => h) (fun z y H4 Q hz sm hf h => ?_) (fun Dl H4 nD s4 hDl => ?_)
      · walk_at "go"
        exact h
      · have hint : ∃ n : Int, y = .int n := by
          have := List.mem_of_getElem? hz
          simp at this
          rcases this with e | e | e <;> exact ⟨_, e⟩
        obtain ⟨n, rfl⟩ := hint
        walk_at "go"
        exact ⟨n, rfl, h⟩
      · refine ⟨Dl, _, rfl, .inl (.inl (.inl hDl)), rfl, rfl, ?_⟩
        walk_at "go"
        refine iteF ?_
        exact ⟨s3.trans s4, _, _, rfl⟩
    · obtain ⟨s3, v6, v7, rfl⟩ := hp
      have ha3 := s3 _ _ ha
      dsimp only
      walk_at "go"
      walk_at "new"
      rename_i p np H4 s4 hp4
      walk_at "go"
      have ha4 := s4 _ _ ha3
      refine g_app ha4 (by omega) ?_
      have hpa : p ≠ a := fun z => by rw [z, ha4] at hp4; cases hp4
      refine ⟨fun b o e => ?_, ?_, fun v hv => ?_, _, _, _, rfl⟩
      · rw [upd_ne (ne_of_none e ha0)]
        exact s4 _ _ (s3 _ _ (sm _ _ e))
      · rw [upd_ne haf.symm]
        exact s4 _ _ (s3 _ _ hf2)
      · have keep : ∀ y, IsTri H' y → IsTri (upd H4 a (.lst (ys ++ [.ref p]))) y := fun y ⟨p', x, e1, e2⟩ => ⟨p', x, e1, by
          rw [upd_ne (fun z => by rw [z, ha] at e2; cases e2)]
          exact s4 _ _ (s3 _ _ e2)⟩
        obtain ⟨a', ys', rfl, h0', hf', ha', hl', ht'⟩ := hr v hv
        by_cases e : a' = a
        · subst e
          rw [ha] at ha'
          cases ha'
          refine ⟨a', ys ++ [.ref p], rfl, h0', hf', upd_same, by rw [List.length_append]; show _ + 1 ≤ _; omega, fun y hy => ?_⟩
          rcases List.mem_append.mp hy with z | z
          · exact keep y (hyt y z)
          · rw [List.mem_singleton.mp z]
            exact ⟨p, (0, 0, 0), rfl, by rw [upd_ne hpa]; exact hp4⟩
        · exact ⟨a', ys', rfl, h0', hf', by rw [upd_ne e]; exact s4 _ _ (s3 _ _ ha'), by omega, fun y hy => keep y (ht' y hy)⟩
  · obtain ⟨sm, hf2, hr, v5, v6, v7, rfl⟩ := hp
    dsimp only
    walk_at "go"
    refine ⟨f, xs, rfl, rfl, hf2, ?_⟩
    have s5 : Same H (upd H' f (.lst [])) := fun b o e => by
      rw [upd_ne (ne_of_none e hf0)]
      exact sm _ _ e
    generalize upd H' f (.lst []) = H5 at s5
    walk_at "go"
    refine ⟨w, word, s, rfl, by omega, by omega, fun _ f2 LL2 H6 nf2 ow2 tb2 => ?_, errE0 g⟩
    have eLL := tabs_uniq tb2 tb
    subst eLL
    have s6 := ow2.sm
    walk_at "go"
    refine g_eqD (dp_tab (trisF_v ow2)) (dp_same (s5.trans s6) hdue) (ok_tab _) (by decide) ?_
    exact q _ (s5.trans s6)
def t_law (K : PySem.W.Frag) : TS :=
  (tSeq (tAsg (tCall (sp_law_draws K) [] E0 (tCons (tVar 0) (tCons (tC (.int 0)) tNil))) (gName 1))
  (tSeq (tAsg (tCall (sp_law_small K) [] E0 (tCons (tVar 1) tNil)) (gTup K 2 (gCons (gName 2) (gCons (gName 3) gNil))))
  (tSeq (tAsg (tCall (sp_law_draw K) [] E0 (tCons (tVar 1) (tCons (tC (.int 10)) tNil))) (gName 4))
  (tSeq (tIfS (tNot (tB (tCall (sp_law_right K) [] E0 (tCons (tVar 2) (tCons (tVar 3) (tCons (tVar 4) (tCons (tCall (sp_law_tried_all K) [] E0 (tCons (tVar 2) (tCons (tVar 3) (tCons (tVar 4) tNil)))) tNil))))))) (tRet (tC (.bl false))) tNext)
  (tSeq (tAsg (tCall (sp_law_draws K) [] E0 (tCons (tVar 0) (tCons (tC (.int 1)) tNil))) (gName 1))
  (tSeq (tAsg (tOp (rIxL K) (tLst (tCons (tC (.int 0)) (tCons (tC (.int 1)) (tCons (tC (.int 9)) (tCons (tCall (sp_law_draw K) [] E0 (tCons (tVar 1) (tCons (tC (.int 10)) tNil))) tNil))))) (tCall (sp_law_draw K) [] E0 (tCons (tVar 1) (tCons (tC (.int 4)) tNil)))) (gName 4))
  (tSeq (tAsg (tOp rDivW (tCall (sp_law_draw K) [] E0 (tCons (tVar 1) (tCons (tC (.int 4)) tNil))) (tC (.int 3))) (gName 5))
  (tSeq (tAsg (tOp (rIxL K) (tLst (tCons (tCall (sp_law_wheel K) [] E0 (tCons (tVar 1) (tCons (tC (.int 30)) tNil))) (tCons (tCall (sp_law_letters K) [] E0 (tCons (tVar 1) (tCons (tC (.int 30)) (tCons (tC (.int 26)) tNil)))) tNil))) (tVar 5)) (gName 2))
  (tSeq (tAsg (tCall (sp_law_word K) [] E0 (tCons (tVar 1) (tCons (tVar 2) (tCons (tOp (rIxL K) (tLst (tCons (tC (.int 30)) (tCons (tC (.int 80)) tNil))) (tVar 5)) tNil)))) (gName 3))
  (tSeq (tAsg (tLst tNil) (gName 6))
  (tSeq (tFor (iList K (tCall (sp_law_rows K) [] E0 (tCons (tVar 2) (tCons (tVar 3) (tCons (tVar 4) (tCons (tC (.int 0)) tNil)))))) (gName 7)
  (tDrop (tBM K "list" rAppend (tVar 6) (tCons (tLc (iList K (tCB (rSortedPO K) (tCons (tCB rListT (tCons (tVar 7) tNil)) tNil))) (gName 8) tYes (tOp (rCatA K) (tVar 8) (tTup (tCons (tOp (rIxT K) (tDGet (tVar 7) (tVar 8)) (tC (.int 0))) tNil))) [8]) tNil))))
  (tRet (tCall (sp_law_right K) [] E0 (tCons (tVar 2) (tCons (tVar 3) (tCons (tVar 4) (tCons (tVar 6) tNil)))))))))))))))))

def IsWhl (v : V) : Prop := ∃ l : List Nat, v = .str (S l) ∧ 1 ≤ l.length ∧ l.length ≤ 30 ∧ Low l
theorem good_of {w word : List Nat} {s : Int} (w1 : 1 ≤ w.length) (w2 : w.length ≤ 30) (low : Low w) (l2 : word.length ≤ 80) (hin : ∀ c ∈ word, c ∈ w) (s0 : 0 ≤ s) (s1 : s ≤ 9) : Good w word s :=
  ⟨isWheel_iff.mpr ⟨w1, w2, low⟩, isWord_iff.mpr ⟨l2, fun c hc => low c (hin c hc)⟩, ⟨s0, s1⟩, hin⟩
set_option maxHeartbeats 8000000 in
theorem rd_law {K : PySem.W.Frag} {vs : List V} {H : Hp} {Q : VK} {E : XK} (h : sp_law K vs H Q E) : t_law K { nx := fun _ H' => Q .non H', rt := Q } (start ["script", "draws", "wheel", "word", "slack", "great", "due", "row", "stand"] vs) H := by
  obtain ⟨a, ns, rfl, hS, hn, q⟩ := h
  show t_law K _ [some (.ref a), none, none, none, none, none, none, none, none] H
  unfold t_law
  walk_at "go"
  refine ⟨a, ns, _, rfl, hS, hn, by decide, by decide, fun d H1 nd s1 dr => ?_⟩
  have hs : LS H d H1 := LS.start (Same.refl _) nd s1 dr
  refine g_seq ?_
  show tCall (sp_law_small K) [] E0 _ _ _ _
  walk_at "go"
  refine ⟨d, rfl, hs.dr, fun w word p H2 w1 w6 low l5 hin dr2 fr2 hp => ?_⟩
  replace hs := hs.to dr2 fr2
  refine ⟨p, _, rfl, .inl (.inl hp), rfl, _, _, rfl, _, _, rfl, rfl, ?_⟩
  dsimp only
  walk_at "go"
  refine hs.draw (by omega) (by omega) fun sl H3 l0 l1 hs => ?_
  refine g_seq ?_
  walk_at "go"
  refine ⟨w, word, sl, rfl, w1, w6, l5, l0, by omega, fun dq LL H4 ow tb => ?_⟩
  replace hs := hs.same ow.sm
  walk_at "go"
  refine ⟨w, word, sl, dq, LL, rfl, good_of w1 (by omega) low (by omega) hin l0 (by omega), dp_tab ow, tb, fun H5 s5 => ?_⟩
  replace hs := hs.same s5
  walk_at "go"
  have hH5 := hs.ex
  clear hs tb ow s5 hp dr2 fr2 s1 dr nd hin l5 low w6 w1
  refine ⟨a, ns, _, rfl, hH5.seq hS, hn, by decide, by decide, fun d H1 nd s1 dr => ?_⟩
  have hs : LS H d H1 := LS.start hH5 nd s1 dr
  walk_at "go"
  refine hs.draw (by omega) (by omega) fun r1 H2 a1 b1 hs => ?_
  walk_at "go"
  refine ⟨by show 4 ≤ sizeLine; decide, fun p np => ?_⟩
  walk_at "go"
  refine (hs.new np).draw (by omega) (by omega) fun r2 H3 a2 b2 hs2 => ?_
  refine hs2.at (hs.nog np) (Bd 0 9) (by walk_at "bd") a2 b2 fun v hv hs => ?_
  obtain ⟨sl, rfl, l0, l1⟩ := hv
  walk_at "go"
  refine hs.draw (by omega) (by omega) fun r3 H4 a3 b3 hs => ?_
  walk_at "go"
  refine g_I (cd (by decide) (by decide)) ?_
  have g0 : 0 ≤ r3 / 3 ∧ r3 / 3 < 2 := by omega
  generalize r3 / 3 = gr at g0
  walk_at "go"
  refine hs.wheel (by decide) (by decide) fun wa H5 wa1 wa2 lowa hs => ?_
  walk_at "go"
  refine hs.letters (by decide) (by decide) (by decide) (by decide) fun wb H6 lb lowb hs => ?_
  walk_at "go"
  refine ⟨by show 2 ≤ sizeLine; decide, fun p2 np2 => ?_⟩
  walk_at "go"
  refine (hs.new np2).at (hs.nog np2) IsWhl (all_cons ⟨wa, rfl, wa1, by omega, lowa⟩ (all_cons ⟨wb, rfl, by omega, by omega, lowb⟩ all_nil)) g0.1 (by show gr < (2 : Int); omega) fun v hv hs => ?_
  obtain ⟨w, rfl, w1, w2, low⟩ := hv
  walk_at "go"
  refine ⟨by show 2 ≤ sizeLine; decide, fun p3 np3 => ?_⟩
  walk_at "go"
  refine (hs.new np3).at (hs.nog np3) (Bd 30 80) (by walk_at "bd") g0.1 (by show gr < (2 : Int); omega) fun v hv hs => ?_
  obtain ⟨most, rfl, m0, m1⟩ := hv
  walk_at "go"
  refine hs.word w1 (by omega) (by omega) (by omega) fun word H9 lwd hin hs => ?_
  have l2 : word.length ≤ 80 := by omega
  walk_at "go"
  refine ⟨by decide, fun l nl => ?_⟩
  clear hs
  try dsimp only
  refine g_seq ?_
  show tCall (sp_law_rows K) [] E0 _ _ _ _
  walk_at "go"
  refine ⟨w, word, sl, 0, rfl, w1, by omega, by omega, by omega, by omega, l0, by omega, fun r xs H10 nr s10 hr hpd => ?_⟩
  have nrl : r ≠ l := fun z => by rw [z, upd_same] at nr; cases nr
  have lx : xs.length = word.length + 1 := by rw [Paired.length hpd]; unfold rowsJ; simp
  refine ⟨r, rfl, ⟨xs, .inl (.inl hr)⟩, for_list (xs := xs) (fun i σ' H' => Same (but H10 l) H' ∧ ∃ LL, OwnP TrisV H9 l LL H' ∧ Tabs w sl word i LL ∧ ∃ (v1 v5 v7 v8 : Option V), σ' = [some (.ref a), v1, some (.str (S w)), some (.str (S word)), some (.int sl), v5, some (.ref l), v7, v8]) ⟨but_sub, [], (OwnP.new nl).same mono_tris s10, ⟨rfl, fun i L e => by simp at e⟩, _, _, _, _, rfl⟩ (fun i σ' H' _ hp => .inl (.inl (hp.1 _ _ (but_ne hr nrl)))) (fun i x σ' H' hx hp => ?_) (fun σ' H' hp => ?_)⟩
  · obtain ⟨s2, LL, ow, tb, v1, v5, v7, v8, rfl⟩ := hp
    have li := (List.getElem?_eq_some_iff.mp hx).1
    obtain ⟨R, hR, dd, kvs, rfl, hd, hrv⟩ := paired_get hpd hx
    have hRe : R = rowJ w sl 0 (word.take i) := by
      unfold rowsJ at hR
      rw [List.getElem?_map] at hR
      obtain ⟨z, hz, rfl⟩ := Option.map_eq_some_iff.mp hR
      rw [List.getElem?_range (by omega)] at hz
      cases hz
      rfl
    have hok : Row2Ok w.length R := by rw [hRe]; exact rowJ_ok (by omega) (by omega) (by omega) _
    have heq : ∀ st, (valG R st).map (·.1) = valI (rowI w sl 0 (word.take i)) st := fun st => by rw [hRe]; exact rowJ_eq _ _ _ _ _
    have hl10 : H10 l = some (.lst []) := s10 _ _ upd_same
    have ndl : dd ≠ l := fun z => by rw [z, hl10] at hd; cases hd
    have hd2 := s2 _ _ (but_ne hd ndl)
    obtain ⟨xs0, hl0, _, hl2, _⟩ := id ow
    have hrv2 : R2V H' kvs R := paired_imp hrv fun kv e ⟨h1, b, h2, h3⟩ => ⟨h1, b, h2, s2 _ _ (but_ne h3 fun z => by rw [z, hl10] at h3; cases h3)⟩
    have hlen := row2_len hok
    show tDrop _ _ [some (.ref a), v1, some (.str (S w)), some (.str (S word)), some (.int sl), v5, some (.ref l), some (.ref dd), v8] H'
    walk_at "go"
    refine told_lc (sts := List.map (fun e : Std × (Int × Int) => e.1) R) (f := fun st => ((valG R st).getD (0, 0)).1) hd2 hrv2.keys hok.1 (by rw [List.length_map]; omega) rfl (fun x => rfl) (fun x => rfl) (fun st t H4 Q hst ht s4 h => ?_) (fun Dl zs so H4 nD s4 hDl hso hper hpz => ?_)
    · obtain ⟨e, he, rfl⟩ := List.mem_map.mp hst
      have hv : valG R e.1 = some e.2 := (valG_mem hok.1).mp he
      rcases hrv2.val e.1 with ⟨h1, _⟩ | ⟨x, y, b, hx, hvv, hb⟩
      · rw [h1] at hv; cases hv
      · rw [hx] at hv
        have e2 := Option.some.inj hv
        walk_at "go"
        refine ⟨dd, .ref b, rfl, .inr ⟨kvs, encK e.1, t, .inl (s4 _ _ hd2), rfl, ht, hvv.symm⟩, ?_⟩
        walk_at "go"
        refine g_ixT (s4 _ _ hb) rfl ?_
        rw [hx] at h
        exact h
    · have told : Told (valI (rowI w sl 0 (word.take i))) (so.map fun st => (st.1, st.2, ((valG R st).getD (0, 0)).1)) := told_of hso hper fun st c => by
        rw [← heq]
        constructor
        · intro h
          obtain ⟨x, hx, rfl⟩ := Option.map_eq_some_iff.mp h
          exact ⟨List.mem_map.mpr ⟨(st, x), (valG_mem hok.1).mpr hx, rfl⟩, by rw [hx]; rfl⟩
        · rintro ⟨h1, h2⟩
          obtain ⟨e, he, rfl⟩ := List.mem_map.mp h1
          have hv : valG R e.1 = some e.2 := (valG_mem hok.1).mp he
          rw [h2, hv]
          rfl
      have nDl : Dl ≠ l := fun z => by rw [z, hl2] at nD; cases nD
      walk_at "go"
      refine ow.app mono_tris s4 (by rw [tb.1]; omega) (y := so.map fun st => (st.1, st.2, ((valG R st).getD (0, 0)).1)) ⟨Dl, zs, rfl, but_ne hDl nDl, paired_imp hpz fun x y ⟨a, h1, h2⟩ => ⟨a, h1, but_ne (but_sub _ _ h2) fun z => ?_⟩⟩ fun H5 ow5 k5 => ⟨fun b o e => ?_, _, ow5, ⟨by rw [List.length_append, tb.1]; rfl, fun k L hL => ?_⟩, _, _, _, _, rfl⟩
      · have hb : b ≠ l := fun z => by rw [z] at e; unfold but at e; rw [if_pos rfl] at e; cases e
        rw [k5 b hb]
        exact s4 _ _ (s2 _ _ e)
      · by_cases hk : k < LL.length
        · rw [List.getElem?_append_left hk] at hL
          exact tb.2 k L hL
        · rw [List.getElem?_append_right (by omega)] at hL
          have e0 : k - LL.length = 0 := by
            cases e : k - LL.length with
            | zero => rfl
            | succ n => rw [e] at hL; simp at hL
          rw [e0] at hL
          have : k = i := by have := tb.1; omega
          subst this
          cases hL
          exact told
      · have := but_sub _ _ h2
        rw [z, s4 _ _ hl2] at this
        cases this
  · obtain ⟨s2, LL, ow, tb, v1, v5, v7, v8, rfl⟩ := hp
    rw [lx] at tb
    walk_at "go"
    exact ⟨w, word, sl, l, LL, rfl, good_of w1 w2 low l2 hin l0 l1, dp_tab ow, tb, fun H' _ => q H'⟩
end Sw
local macro_rules | `(tactic| walk_at "go1") => `(tactic| first
  | with_reducible refine Sw.g_seqasg ?_ | with_reducible refine Sw.g_op ?_ | with_reducible refine Sw.g_var rfl ?_ | with_reducible refine Sw.g_c ?_ | with_reducible refine Sw.g_I0 ?_
  | with_reducible refine Sw.g_cons ?_ | with_reducible refine Sw.g_nil ?_ | with_reducible refine Sw.g_call ?_ | with_reducible refine Sw.g_cb ?_ | with_reducible refine Sw.g_test ?_ | with_reducible refine Sw.g_bl ?_
  | with_reducible refine Sw.g_seqdrop ?_ | with_reducible refine Sw.g_seqsub ?_ | with_reducible refine Sw.g_asg ?_ | with_reducible refine Sw.g_asgsub ?_ | with_reducible refine Sw.g_ret ?_ | with_reducible refine Sw.g_drop ?_ | with_reducible refine Sw.g_if ?_ | with_reducible refine Sw.g_next ?_ | with_reducible refine Sw.g_name ?_
  | with_reducible refine Sw.g_B ?_ | with_reducible refine Sw.g_not ?_ | with_reducible refine Sw.g_and ?_ | with_reducible refine Sw.g_or ?_ | with_reducible refine Sw.g_andV ?_ | with_reducible refine Sw.g_orV ?_ | with_reducible refine Sw.g_notV ?_
  | with_reducible refine Sw.g_ifE ?_ | with_reducible refine Sw.g_chain ?_ | with_reducible refine Sw.g_un ?_ | with_reducible refine Sw.g_tup ?_ | with_reducible refine Sw.g_lst ?_ | with_reducible refine Sw.g_sl ?_ | with_reducible refine Sw.g_part ?_ | with_reducible refine Sw.g_nopart ?_
  | with_reducible refine Sw.g_U ?_ | with_reducible refine Sw.g_eq rfl ?_ | with_reducible refine Sw.g_ne rfl ?_ | with_reducible refine Sw.g_int ?_ | with_reducible refine Sw.g_yes ?_ | with_reducible refine L2.iteT ?_ | with_reducible refine L2.iteF ?_ | with_reducible refine Sw.iteNT ?_ | with_reducible refine Sw.iteNF ?_ | with_reducible refine Sw.g_m1 ?_ | with_reducible refine Sw.g_bm ?_ | with_reducible refine ⟨Sw.ty_lst (by assumption), ?_⟩ | with_reducible refine Sw.g_sput ?_ | with_reducible refine Sw.g_put ?_ | with_reducible refine Sw.g_dget2 ?_ | with_reducible refine Sw.g_dget ?_ | with_reducible refine Sw.g_dK ?_ | with_reducible refine Sw.g_dT ?_ | with_reducible refine Sw.g_dnotin ?_ | with_reducible refine Sw.g_din ?_ | with_reducible refine Sw.g_bm0 ?_
  | with_reducible refine Sw.g_ixL (by assumption) rfl ?_ | with_reducible refine Sw.g_ixT (by assumption) rfl ?_)
local macro_rules | `(tactic| walk_at "go") => `(tactic| repeat walk_at "go1")
local macro_rules | `(tactic| walk_at "bd") => `(tactic| repeat (first | with_reducible exact Sw.all_nil | refine Sw.all_cons ⟨_, rfl, by omega, by omega⟩ ?_))
local macro_rules | `(tactic| walk_at "new") => `(tactic| (refine ⟨Nat.le_of_ble_eq_true rfl, fun p np => ?_⟩; generalize hX : L2.upd _ p _ = H'; have sm : L2.Same _ H' := hX ▸ Sw.same_upd np; have hp : H' p = some _ := hX ▸ L2.upd_same; clear hX))
namespace Sw
open PySem PySem.Spec PyProof.Rows L2 SX
def topS (i : Nat) : Stmt := PySem.Challenge.pw_strikewheel_k06_tables.main.body.getD i (.Pass ⟨0, 0, 0, 0⟩)
abbrev s_law_draws : Stmt := topS 33
abbrev s_law_draw : Stmt := topS 34
abbrev s_law_letters : Stmt := topS 35
abbrev s_law_wheel : Stmt := topS 36
abbrev s_law_small : Stmt := topS 37
abbrev s_law_reach_turns : Stmt := topS 28
abbrev s_law_plans : Stmt := topS 29
abbrev s_law_step : Stmt := topS 30
abbrev s_law_cost : Stmt := topS 31
abbrev s_law_tried_all : Stmt := topS 40
abbrev s_are_signs : Stmt := topS 9
abbrev s_is_word : Stmt := topS 10
abbrev s_is_wheel : Stmt := topS 13
abbrev s_look_at_wheel : Stmt := topS 14
abbrev s_look_at_word : Stmt := topS 17
abbrev s_look_at_slack : Stmt := topS 18
abbrev s_look_at_errand : Stmt := topS 22
abbrev s_turns_to : Stmt := topS 23
abbrev s_way_of : Stmt := topS 19
abbrev s_step_cost : Stmt := topS 20
abbrev s_steps_from : Stmt := topS 24
abbrev s_rows_from : Stmt := topS 25
abbrev s_table : Stmt := topS 26
abbrev s_law_whole : Stmt := topS 32
abbrev s_law_right : Stmt := topS 41
abbrev s_law_word : Stmt := topS 38
abbrev s_law_rows : Stmt := topS 39
abbrev s_law : Stmt := topS 42
/-! what the names of built-ins and constants hold -/
structure Bl (mg : Str → Option Value) : Prop where
  abs : mg "abs" = none
  bool : mg "bool" = none
  int : mg "int" = none
  isinstance : mg "isinstance" = none
  len : mg "len" = none
  list : mg "list" = none
  max : mg "max" = none
  min : mg "min" = none
  range : mg "range" = none
  sorted : mg "sorted" = none
  str : mg "str" = none
  sum : mg "sum" = none
  tuple : mg "tuple" = none
  c_LETTERS : ∃ u, mg "LETTERS" = some u ∧ RelV (V.str "abcdefghijklmnopqrstuvwxyz") u
  c_MOST_PLACES : ∃ u, mg "MOST_PLACES" = some u ∧ RelV (V.int 30) u
  c_MOST_SIGNS : ∃ u, mg "MOST_SIGNS" = some u ∧ RelV (V.int 80) u
  c_MOST_SLACK : ∃ u, mg "MOST_SLACK" = some u ∧ RelV (V.int 9) u
structure Xf (K : PySem.W.Frag) (mg : Str → Option Value) (c : Cl) : Prop where
  g_Lacks : mg "Lacks" = some (.ref c.Lacks)
  g_NoSlack : mg "NoSlack" = some (.ref c.NoSlack)
  g_NoWheel : mg "NoWheel" = some (.ref c.NoWheel)
  g_NoWord : mg "NoWord" = some (.ref c.NoWord)
  x_Lacks : PySem.W.excIn K c.Lacks [.type "ValueError", .type "Exception", .type "BaseException", .type "object"] "ValueError.__new__" = true
  k_Lacks : PySem.W.keepIn K (.ref c.Lacks) = true
  b_Lacks : PySem.W.subIn K (.ref c.Lacks) (.type "BaseException") = some true
  t_Lacks : PySem.W.typeIn K (.ref c.Lacks) = some (.type "type")
  x_NoSlack : PySem.W.excIn K c.NoSlack [.type "ValueError", .type "Exception", .type "BaseException", .type "object"] "ValueError.__new__" = true
  k_NoSlack : PySem.W.keepIn K (.ref c.NoSlack) = true
  b_NoSlack : PySem.W.subIn K (.ref c.NoSlack) (.type "BaseException") = some true
  t_NoSlack : PySem.W.typeIn K (.ref c.NoSlack) = some (.type "type")
  x_NoWheel : PySem.W.excIn K c.NoWheel [.type "ValueError", .type "Exception", .type "BaseException", .type "object"] "ValueError.__new__" = true
  k_NoWheel : PySem.W.keepIn K (.ref c.NoWheel) = true
  b_NoWheel : PySem.W.subIn K (.ref c.NoWheel) (.type "BaseException") = some true
  t_NoWheel : PySem.W.typeIn K (.ref c.NoWheel) = some (.type "type")
  x_NoWord : PySem.W.excIn K c.NoWord [.type "ValueError", .type "Exception", .type "BaseException", .type "object"] "ValueError.__new__" = true
  k_NoWord : PySem.W.keepIn K (.ref c.NoWord) = true
  b_NoWord : PySem.W.subIn K (.ref c.NoWord) (.type "BaseException") = some true
  t_NoWord : PySem.W.typeIn K (.ref c.NoWord) = some (.type "type")
section
variable {P : Program} {w : World} {K : PySem.W.Frag} {mg : Str → Option Value} {base : Heap} {c : Cl}
theorem sc_law_draws : FnScope ["script", "k", "primes", "cell", "seed"] ["script", "k"] (defScope s_law_draws) := ⟨rfl, rfl, rfl, by decide +kernel, rfl, by decide +kernel, by decide +kernel⟩
theorem ok_law_draws {f : Addr} {fd : FuncData} (F : L2.Fun K "_law_draws" "_law_draws" s_law_draws f fd) (g : mg "_law_draws" = some (.ref f)) (b : Binds K fd ["script", "k"] []) (B : Bl mg) (X : Xf K mg c)  : Cal P w K mg base 1 "_law_draws" (sp_law_draws K) :=
  ⟨f, fd, ["script", "k"], F.ok sc_law_draws (fun vs H Q E h => ln_law_draws h) (fun cdv A outer s H vs Q E hr h => have hu := hu_of hr; ⟨t_law_draws K, (pss_cons (ps_set (i := 2) sc_law_draws.nd rfl (Or.inl rfl) (pe_tup (pa_cons pe_int (pa_cons pe_int (pa_cons pe_int (pa_cons pe_int (pa_cons pe_int (pa_cons pe_int (pa_cons pe_int (pa_cons pe_int pa_nil))))))))))
      (pss_cons (ps_set (i := 3) sc_law_draws.nd rfl (Or.inl rfl) (pe_op op_add (pe_op op_mulW pe_int (pv 1)) pe_int))
      (pss_cons (ps_if (pt_cmpR op_lt (pv 1) (pe_callB call_len_seq (by rfl) B.len (by decide +kernel) (pa_cons (pv 0) pa_nil)) (nomark _)) (pss_one (ps_set (i := 3) sc_law_draws.nd rfl (Or.inl rfl) (pe_op op_mod (pe_ix ix_list (pv 0) (pv 1) (fun _ _ => rfl)) (pe_op op_mulW (pe_op op_pow pe_int pe_int) (pe_op op_pow pe_int pe_int))))) (pss_one (ps_if (pt_cmpR op_gt (pe_callB call_len_seq (by rfl) B.len (by decide +kernel) (pa_cons (pv 0) pa_nil)) pe_int (nomark _)) (pss_one (ps_set (i := 3) sc_law_draws.nd rfl (Or.inl rfl) (pe_op op_add (pe_op op_mod (pe_ix ix_list (pv 0) (pe_op op_mod (pv 1) (pe_callB call_len_seq (by rfl) B.len (by decide +kernel) (pa_cons (pv 0) pa_nil))) (fun _ _ => rfl)) (pe_op op_pow pe_int pe_int)) (pe_op op_mulW pe_int (pv 1))))) pss_nil)))
      (pss_cons (ps_set (i := 4) sc_law_draws.nd rfl (Or.inl rfl) (pe_op op_mod (pe_op op_mulW (pe_op op_add (pe_op op_add (pe_op op_mod (pv 3) pe_int) (pe_op op_mulW pe_int (pv 1))) pe_int) (pe_op op_add pe_int (pe_op op_mulW (pe_op op_mulW pe_int (pv 1)) (pv 1)))) pe_int))
      (pss_cons (ps_set (i := 4) sc_law_draws.nd rfl (Or.inl rfl) (pe_op op_add (pe_op op_add (pe_op op_mod (pe_op op_mulW (pe_op op_mulW (pv 4) (pv 4)) (pv 4)) pe_int) (pv 1)) pe_int))
      (pss_one (ps_ret (pe_lst (pa_cons (pe_op op_mulW (pv 3) (pe_callTy call_int1 (by rfl) B.int (by decide +kernel) (pa_cons (pe_cmpR op_ge (pv 3) (pe_op op_pow pe_int pe_int) (nomark _)) pa_nil))) (pa_cons (pv 4) (pa_cons (pe_ix ix_tup (pv 2) (pe_op op_mod (pv 1) pe_int) (fun _ _ => rfl)) pa_nil))))))))))), rd_law_draws h⟩), g, F.kp, b⟩
theorem sc_law_draw : FnScope ["draws", "many", "found"] ["draws", "many"] (defScope s_law_draw) := ⟨rfl, rfl, rfl, by decide +kernel, rfl, by decide +kernel, by decide +kernel⟩
theorem ok_law_draw {f : Addr} {fd : FuncData} (F : L2.Fun K "_law_draw" "_law_draw" s_law_draw f fd) (g : mg "_law_draw" = some (.ref f)) (b : Binds K fd ["draws", "many"] []) (B : Bl mg) (X : Xf K mg c)  : Cal P w K mg base 1 "_law_draw" (sp_law_draw K) :=
  ⟨f, fd, ["draws", "many"], F.ok sc_law_draw (fun vs H Q E h => ln_law_draw h) (fun cdv A outer s H vs Q E hr h => have hu := hu_of hr; ⟨t_law_draw K, (pss_cons (ps_if (pt_cmpR op_gt (pe_ix ix_list (pv 0) pe_int (fun _ _ => rfl)) pe_int (nomark _)) (pss_cons (ps_set (i := 2) sc_law_draw.nd rfl (Or.inl rfl) (pe_op op_mod (pe_ix ix_list (pv 0) pe_int (fun _ _ => rfl)) (pv 1)))
      (pss_cons (ps_asg (pe_op op_fdivW (pe_ix ix_list (pv 0) pe_int (fun _ _ => rfl)) (pv 1)) (pg_sub (pv 0) pe_int set_list))
      (pss_one (ps_ret (pv 2))))) pss_nil)
      (pss_cons (ps_asg (pe_op op_add (pe_op op_mod (pe_op op_mulW (pe_ix ix_list (pv 0) pe_int (fun _ _ => rfl)) pe_int) (pe_ix ix_list (pv 0) pe_int (fun _ _ => rfl))) pe_int) (pg_sub (pv 0) pe_int set_list))
      (pss_one (ps_ret (pe_op op_mod (pe_op op_fdivW (pe_op op_mod (pe_op op_mulW (pe_ix ix_list (pv 0) pe_int (fun _ _ => rfl)) (pe_op op_add (pe_op op_fdivW (pe_ix ix_list (pv 0) pe_int (fun _ _ => rfl)) pe_int) pe_int)) pe_int) pe_int) (pv 1)))))), rd_law_draw h⟩), g, F.kp, b⟩
theorem sc_law_letters : FnScope ["draws", "many", "kinds", "letters", "first", "k"] ["draws", "many", "kinds"] (defScope s_law_letters) := ⟨rfl, rfl, rfl, by decide +kernel, rfl, by decide +kernel, by decide +kernel⟩
theorem ok_law_letters {f : Addr} {fd : FuncData} (F : L2.Fun K "_law_letters" "_law_letters" s_law_letters f fd) (g : mg "_law_letters" = some (.ref f)) (b : Binds K fd ["draws", "many", "kinds"] []) (B : Bl mg) (X : Xf K mg c) (c_law_draw : Cal P w K mg base 1 "_law_draw" (sp_law_draw K)) : Cal P w K mg base 2 "_law_letters" (sp_law_letters K) :=
  ⟨f, fd, ["draws", "many", "kinds"], F.ok sc_law_letters (fun vs H Q E h => ln_law_letters h) (fun cdv A outer s H vs Q E hr h => have hu := hu_of hr; ⟨t_law_letters K, (pss_cons (ps_set (i := 3) sc_law_letters.nd rfl (Or.inr rfl) pe_str)
      (pss_cons (ps_set (i := 4) sc_law_letters.nd rfl (Or.inr rfl) (pe_cal c_law_draw hr (by decide) (by rfl) (pa_cons (pv 0) (pa_cons (pe_op op_sub pe_int (pv 2)) pa_nil))))
      (pss_one (ps_ret (pe_join pe_str (pe_lc (own := [("k", 5)]) (g := (gName 5)) (tt := tYes) (by rfl) sc_law_letters.nd (pi_range1 rfl B.range (pa_cons (pv 1) pa_nil)) (blkOk_by (own := [("k", 5)]) (N := ["draws", "many", "kinds", "letters", "first", "k"]) (sc := defScope s_law_letters) (by decide +kernel)) (fun _ _ _ _ _ => (pg_name (i := 5) sc_law_letters.nd rfl (Or.inl rfl))) (fun _ _ _ _ _ => pts_nil) (fun _ _ _ _ _ => (pe_ix ix_str (pv 3) (pe_op op_add (pv 4) (pe_cal c_law_draw hr (by decide) (by rfl) (pa_cons (pv 0) (pa_cons (pv 2) pa_nil)))) (fun _ _ => rfl))))))))), rd_law_letters h⟩), g, F.kp, b⟩
theorem sc_law_wheel : FnScope ["draws", "most", "way", "kinds", "many"] ["draws", "most"] (defScope s_law_wheel) := ⟨rfl, rfl, rfl, by decide +kernel, rfl, by decide +kernel, by decide +kernel⟩
theorem ok_law_wheel {f : Addr} {fd : FuncData} (F : L2.Fun K "_law_wheel" "_law_wheel" s_law_wheel f fd) (g : mg "_law_wheel" = some (.ref f)) (b : Binds K fd ["draws", "most"] []) (B : Bl mg) (X : Xf K mg c) (c_law_draw : Cal P w K mg base 1 "_law_draw" (sp_law_draw K)) (c_law_letters : Cal P w K mg base 2 "_law_letters" (sp_law_letters K)) : Cal P w K mg base 3 "_law_wheel" (sp_law_wheel K) :=
  ⟨f, fd, ["draws", "most"], F.ok sc_law_wheel (fun vs H Q E h => ln_law_wheel h) (fun cdv A outer s H vs Q E hr h => have hu := hu_of hr; ⟨t_law_wheel K, (pss_cons (ps_set (i := 2) sc_law_wheel.nd rfl (Or.inl rfl) (pe_cal c_law_draw hr (by decide) (by rfl) (pa_cons (pv 0) (pa_cons pe_int pa_nil))))
      (pss_cons (ps_set (i := 3) sc_law_wheel.nd rfl (Or.inl rfl) (pe_ix ix_list (pe_lst (pa_cons (pe_op op_add pe_int (pe_cal c_law_draw hr (by decide) (by rfl) (pa_cons (pv 0) (pa_cons pe_int pa_nil)))) (pa_cons pe_int (pa_cons (pe_op op_add pe_int (pe_cal c_law_draw hr (by decide) (by rfl) (pa_cons (pv 0) (pa_cons pe_int pa_nil)))) (pa_cons pe_int pa_nil))))) (pe_cal c_law_draw hr (by decide) (by rfl) (pa_cons (pv 0) (pa_cons pe_int pa_nil))) (fun _ _ => rfl)))
      (pss_cons (ps_set (i := 4) sc_law_wheel.nd rfl (Or.inl rfl) (pe_ix ix_list (pe_lst (pa_cons (pe_op op_add pe_int (pe_cal c_law_draw hr (by decide) (by rfl) (pa_cons (pv 0) (pa_cons pe_int pa_nil)))) (pa_cons (pe_op op_add pe_int (pe_cal c_law_draw hr (by decide) (by rfl) (pa_cons (pv 0) (pa_cons (pv 1) pa_nil)))) (pa_cons (pv 1) (pa_cons (pe_op op_add pe_int (pe_cal c_law_draw hr (by decide) (by rfl) (pa_cons (pv 0) (pa_cons pe_int pa_nil)))) pa_nil))))) (pv 2) (fun _ _ => rfl)))
      (pss_one (ps_ret (pe_cal c_law_letters hr (by decide) (by rfl) (pa_cons (pv 0) (pa_cons (pe_callB (call_min2 rfl) (by rfl) B.min (by decide +kernel) (pa_cons (pv 4) (pa_cons (pv 1) pa_nil))) (pa_cons (pv 3) pa_nil))))))))), rd_law_wheel h⟩), g, F.kp, b⟩
theorem sc_law_small : FnScope ["draws", "wheel", "word", "many", "k", "sign"] ["draws"] (defScope s_law_small) := ⟨rfl, rfl, rfl, by decide +kernel, rfl, by decide +kernel, by decide +kernel⟩
theorem ok_law_small {f : Addr} {fd : FuncData} (F : L2.Fun K "_law_small" "_law_small" s_law_small f fd) (g : mg "_law_small" = some (.ref f)) (b : Binds K fd ["draws"] []) (B : Bl mg) (X : Xf K mg c) (c_law_wheel : Cal P w K mg base 3 "_law_wheel" (sp_law_wheel K)) (c_law_draw : Cal P w K mg base 1 "_law_draw" (sp_law_draw K)) : Cal P w K mg base 4 "_law_small" (sp_law_small K) :=
  ⟨f, fd, ["draws"], F.ok sc_law_small (fun vs H Q E h => ln_law_small h) (fun cdv A outer s H vs Q E hr h => have hu := hu_of hr; ⟨t_law_small K, (pss_cons (ps_set (i := 1) sc_law_small.nd rfl (Or.inl rfl) (pe_cal c_law_wheel hr (by decide) (by rfl) (pa_cons (pv 0) (pa_cons pe_int pa_nil))))
      (pss_cons (ps_set (i := 2) sc_law_small.nd rfl (Or.inl rfl) pe_str)
      (pss_cons (ps_set (i := 3) sc_law_small.nd rfl (Or.inl rfl) pe_int)
      (pss_cons (ps_for PassesOwn.never rfl (pi_range1 rfl B.range (pa_cons (pe_cal c_law_draw hr (by decide) (by rfl) (pa_cons (pv 0) (pa_cons pe_int pa_nil))) pa_nil)) (pg_name (i := 4) sc_law_small.nd rfl (Or.inl rfl))
      (pss_cons (ps_set (i := 5) sc_law_small.nd rfl (Or.inl rfl) (pe_ix ix_str (pv 1) (pe_cal c_law_draw hr (by decide) (by rfl) (pa_cons (pv 0) (pa_cons (pe_callB call_len_str (by rfl) B.len (by decide +kernel) (pa_cons (pv 1) pa_nil)) pa_nil))) (fun _ _ => rfl)))
      (pss_one (ps_if (pt_cmpR op_le (pe_op op_mulW (pe_op op_mulW (pv 3) pe_int) (pe_m1 PySem.F.slot_str_count PySem.F.type_str_count mt_count (pv 1) (pv 5))) pe_int (nomark _)) (pss_cons (ps_set (i := 3) sc_law_small.nd rfl (Or.inl rfl) (pe_op op_mulW (pe_op op_mulW (pv 3) pe_int) (pe_m1 PySem.F.slot_str_count PySem.F.type_str_count mt_count (pv 1) (pv 5))))
      (pss_one (ps_set (i := 2) sc_law_small.nd rfl (Or.inl rfl) (pe_op op_add_str (pv 2) (pv 5))))) pss_nil))))
      (pss_one (ps_ret (pe_tup (pa_cons (pv 1) (pa_cons (pv 2) pa_nil))))))))), rd_law_small h⟩), g, F.kp, b⟩
theorem sc_law_reach_turns : FnScope ["wheel", "place", "sign", "many", "turn"] ["wheel", "place", "sign"] (defScope s_law_reach_turns) := ⟨rfl, rfl, rfl, by decide +kernel, rfl, by decide +kernel, by decide +kernel⟩
theorem ok_law_reach_turns {f : Addr} {fd : FuncData} (F : L2.Fun K "_law_reach_turns" "_law_reach_turns" s_law_reach_turns f fd) (g : mg "_law_reach_turns" = some (.ref f)) (b : Binds K fd ["wheel", "place", "sign"] []) (B : Bl mg) (X : Xf K mg c)  : Cal P w K mg base 1 "_law_reach_turns" (sp_law_reach_turns K) :=
  ⟨f, fd, ["wheel", "place", "sign"], F.ok sc_law_reach_turns (fun vs H Q E h => ln_law_reach_turns h) (fun cdv A outer s H vs Q E hr h => have hu := hu_of hr; ⟨t_law_reach_turns K, (pss_cons (ps_set (i := 3) sc_law_reach_turns.nd rfl (Or.inr rfl) (pe_callB call_len_str (by rfl) B.len (by decide +kernel) (pa_cons (pv 0) pa_nil)))
      (pss_one (ps_ret (pe_lc (own := [("turn", 4)]) (g := (gName 4)) (tt := (tTest (tOp rEq (tOp rIxS (tVar 0) (tOp rMod (tOp rAdd (tVar 1) (tVar 4)) (tVar 3))) (tVar 2)))) (by rfl) sc_law_reach_turns.nd (pi_range2 rfl B.range (pa_cons (pe_op op_sub pe_int (pv 3)) (pa_cons (pv 3) pa_nil))) (blkOk_by (own := [("turn", 4)]) (N := ["wheel", "place", "sign", "many", "turn"]) (sc := defScope s_law_reach_turns) (by decide +kernel)) (fun _ _ _ _ _ => (pg_name (i := 4) sc_law_reach_turns.nd rfl (Or.inl rfl))) (fun _ _ _ _ _ => (pts_one (pt_cmpR op_eq (pe_ix ix_str (pv 0) (pe_op op_mod (pe_op op_add (pv 1) (pv 4)) (pv 3)) (fun _ _ => rfl)) (pv 2) (nomark _)))) (fun _ _ _ _ _ => (pv 4)))))), rd_law_reach_turns h⟩), g, F.kp, b⟩
theorem sc_law_plans : FnScope ["wheel", "word", "found", "sign", "more", "turns", "place", "turn"] ["wheel", "word"] (defScope s_law_plans) := ⟨rfl, rfl, rfl, by decide +kernel, rfl, by decide +kernel, by decide +kernel⟩
theorem ok_law_plans {f : Addr} {fd : FuncData} (F : L2.Fun K "_law_plans" "_law_plans" s_law_plans f fd) (g : mg "_law_plans" = some (.ref f)) (b : Binds K fd ["wheel", "word"] []) (B : Bl mg) (X : Xf K mg c) (c_law_reach_turns : Cal P w K mg base 1 "_law_reach_turns" (sp_law_reach_turns K)) : Cal P w K mg base 2 "_law_plans" (sp_law_plans K) :=
  ⟨f, fd, ["wheel", "word"], F.ok sc_law_plans (fun vs H Q E h => ln_law_plans h) (fun cdv A outer s H vs Q E hr h => have hu := hu_of hr; ⟨t_law_plans K, (pss_cons (ps_set (i := 2) sc_law_plans.nd rfl (Or.inl rfl) (pe_lst (pa_cons (pe_tup (pa_cons (pe_lst pa_nil) (pa_cons pe_int pa_nil))) pa_nil)))
      (pss_cons (ps_for PassesOwn.never rfl (pi_str (pv 1)) (pg_name (i := 3) sc_law_plans.nd rfl (Or.inl rfl))
      (pss_cons (ps_set (i := 4) sc_law_plans.nd rfl (Or.inl rfl) (pe_lst pa_nil))
      (pss_cons (ps_for PassesOwn.never rfl (pi_list (pv 2)) (pg_tup rfl (pgs_cons (pg_name (i := 5) sc_law_plans.nd rfl (Or.inl rfl)) (pgs_cons (pg_name (i := 6) sc_law_plans.nd rfl (Or.inl rfl)) pgs_nil)))
      (pss_one (ps_for PassesOwn.never rfl (pi_list (pe_cal c_law_reach_turns hr (by decide) (by rfl) (pa_cons (pv 0) (pa_cons (pv 6) (pa_cons (pv 3) pa_nil))))) (pg_name (i := 7) sc_law_plans.nd rfl (Or.inl rfl))
      (pss_one (ps_expr (pe_bm PySem.F.plainAttrs_list PySem.F.slot_list_append PySem.F.type_list_append mt_append (pv 4) (pa_cons (pe_tup (pa_cons (pe_op op_cat (pv 5) (pe_lst (pa_cons (pv 7) pa_nil))) (pa_cons (pe_op op_mod (pe_op op_add (pv 6) (pv 7)) (pe_callB call_len_str (by rfl) B.len (by decide +kernel) (pa_cons (pv 0) pa_nil))) pa_nil))) pa_nil)))))))
      (pss_one (ps_set (i := 2) sc_law_plans.nd rfl (Or.inl rfl) (pv 4))))))
      (pss_one (ps_ret (pe_lc (own := [("turns", 5), ("place", 6)]) (g := (gTup K 2 (gCons (gName 5) (gCons (gName 6) gNil)))) (tt := tYes) (by rfl) sc_law_plans.nd (pi_list (pv 2)) (blkOk_by (own := [("turns", 5), ("place", 6)]) (N := ["wheel", "word", "found", "sign", "more", "turns", "place", "turn"]) (sc := defScope s_law_plans) (by decide +kernel)) (fun _ _ _ _ _ => (pg_tup rfl (pgs_cons (pg_name (i := 5) sc_law_plans.nd rfl (Or.inl rfl)) (pgs_cons (pg_name (i := 6) sc_law_plans.nd rfl (Or.inl rfl)) pgs_nil)))) (fun _ _ _ _ _ => pts_nil) (fun _ _ _ _ _ => (pv 5))))))), rd_law_plans h⟩), g, F.kp, b⟩
theorem sc_law_step : FnScope ["turn", "way", "slack", "later"] ["turn", "way", "slack"] (defScope s_law_step) := ⟨rfl, rfl, rfl, by decide +kernel, rfl, by decide +kernel, by decide +kernel⟩
theorem ok_law_step {f : Addr} {fd : FuncData} (F : L2.Fun K "_law_step" "_law_step" s_law_step f fd) (g : mg "_law_step" = some (.ref f)) (b : Binds K fd ["turn", "way", "slack"] []) (B : Bl mg) (X : Xf K mg c)  : Cal P w K mg base 1 "_law_step" (sp_law_step K) :=
  ⟨f, fd, ["turn", "way", "slack"], F.ok sc_law_step (fun vs H Q E h => ln_law_step h) (fun cdv A outer s H vs Q E hr h => have hu := hu_of hr; ⟨t_law_step K, (pss_cons (ps_set (i := 3) sc_law_step.nd rfl (Or.inl rfl) (pe_ix ix_list (pe_lst (pa_cons (pv 1) (pa_cons pe_int (pa_cons (pe_un un_neg pe_int) pa_nil)))) (pe_op op_add (pe_callTy call_int1 (by rfl) B.int (by decide +kernel) (pa_cons (pe_cmpR op_gt (pv 0) pe_int (nomark _)) pa_nil)) (pe_op op_mulW pe_int (pe_callTy call_int1 (by rfl) B.int (by decide +kernel) (pa_cons (pe_cmpR op_lt (pv 0) pe_int (nomark _)) pa_nil)))) (fun _ _ => rfl)))
      (pss_one (ps_ret (pe_tup (pa_cons (pv 3) (pa_cons (pe_op op_add (pe_callB (call_max2 rfl) (by rfl) B.max (by decide +kernel) (pa_cons (pv 0) (pa_cons (pe_op op_sub pe_int (pv 0)) pa_nil))) (pe_op op_mulW (pv 2) (pe_callTy call_int1 (by rfl) B.int (by decide +kernel) (pa_cons (pe_and (pe_cmpR op_ne (pv 3) (pv 1) (nomark _)) (pe_one (pe_cmpR op_ne (pv 1) pe_int (nomark _)))) pa_nil)))) pa_nil)))))), rd_law_step h⟩), g, F.kp, b⟩
theorem sc_law_cost : FnScope ["turns", "slack", "total", "way", "turn", "more"] ["turns", "slack"] (defScope s_law_cost) := ⟨rfl, rfl, rfl, by decide +kernel, rfl, by decide +kernel, by decide +kernel⟩
theorem ok_law_cost {f : Addr} {fd : FuncData} (F : L2.Fun K "_law_cost" "_law_cost" s_law_cost f fd) (g : mg "_law_cost" = some (.ref f)) (b : Binds K fd ["turns", "slack"] []) (B : Bl mg) (X : Xf K mg c) (c_law_step : Cal P w K mg base 1 "_law_step" (sp_law_step K)) : Cal P w K mg base 2 "_law_cost" (sp_law_cost K) :=
  ⟨f, fd, ["turns", "slack"], F.ok sc_law_cost (fun vs H Q E h => ln_law_cost h) (fun cdv A outer s H vs Q E hr h => have hu := hu_of hr; ⟨t_law_cost K, (pss_cons (ps_set (i := 2) sc_law_cost.nd rfl (Or.inl rfl) pe_int)
      (pss_cons (ps_set (i := 3) sc_law_cost.nd rfl (Or.inl rfl) pe_int)
      (pss_cons (ps_for PassesOwn.never rfl (pi_list (pv 0)) (pg_name (i := 4) sc_law_cost.nd rfl (Or.inl rfl))
      (pss_cons (ps_asg (pe_cal c_law_step hr (by decide) (by rfl) (pa_cons (pv 4) (pa_cons (pv 3) (pa_cons (pv 1) pa_nil)))) (pg_tup rfl (pgs_cons (pg_name (i := 3) sc_law_cost.nd rfl (Or.inl rfl)) (pgs_cons (pg_name (i := 5) sc_law_cost.nd rfl (Or.inl rfl)) pgs_nil))))
      (pss_one (ps_set (i := 2) sc_law_cost.nd rfl (Or.inl rfl) (pe_op op_add (pv 2) (pv 5))))))
      (pss_one (ps_ret (pv 2)))))), rd_law_cost h⟩), g, F.kp, b⟩
theorem sc_law_tried_all : FnScope ["wheel", "word", "slack", "told", "many", "row", "turns", "way", "turn", "stand", "spent"] ["wheel", "word", "slack"] (defScope s_law_tried_all) := ⟨rfl, rfl, rfl, by decide +kernel, rfl, by decide +kernel, by decide +kernel⟩
theorem ok_law_tried_all {f : Addr} {fd : FuncData} (F : L2.Fun K "_law_tried_all" "_law_tried_all" s_law_tried_all f fd) (g : mg "_law_tried_all" = some (.ref f)) (b : Binds K fd ["wheel", "word", "slack"] []) (B : Bl mg) (X : Xf K mg c) (c_law_plans : Cal P w K mg base 2 "_law_plans" (sp_law_plans K)) (c_law_step : Cal P w K mg base 1 "_law_step" (sp_law_step K)) (c_law_cost : Cal P w K mg base 2 "_law_cost" (sp_law_cost K)) : Cal P w K mg base 3 "_law_tried_all" (sp_law_tried_all K) :=
  ⟨f, fd, ["wheel", "word", "slack"], F.ok sc_law_tried_all (fun vs H Q E h => ln_law_tried_all h) (fun cdv A outer s H vs Q E hr h => have hu := hu_of hr; ⟨t_law_tried_all K, (pss_cons (ps_set (i := 3) sc_law_tried_all.nd rfl (Or.inl rfl) (pe_lst pa_nil))
      (pss_cons (ps_for PassesOwn.never rfl (pi_range1 rfl B.range (pa_cons (pe_op op_add (pe_callB call_len_str (by rfl) B.len (by decide +kernel) (pa_cons (pv 1) pa_nil)) pe_int) pa_nil)) (pg_name (i := 4) sc_law_tried_all.nd rfl (Or.inl rfl))
      (pss_cons (ps_set (i := 5) sc_law_tried_all.nd rfl (Or.inr rfl) pe_dnewT)
      (pss_cons (ps_for PassesOwn.never rfl (pi_list (pe_cal c_law_plans hr (by decide) (by rfl) (pa_cons (pv 0) (pa_cons (pe_slice sl_str (pv 1) po_none (po_some (pv 4))) pa_nil)))) (pg_name (i := 6) sc_law_tried_all.nd rfl (Or.inl rfl))
      (pss_cons (ps_set (i := 7) sc_law_tried_all.nd rfl (Or.inl rfl) pe_int)
      (pss_cons (ps_for PassesOwn.never rfl (pi_list (pv 6)) (pg_name (i := 8) sc_law_tried_all.nd rfl (Or.inl rfl))
      (pss_one (ps_set (i := 7) sc_law_tried_all.nd rfl (Or.inl rfl) (pe_ix ix_tup (pe_cal c_law_step hr (by decide) (by rfl) (pa_cons (pv 8) (pa_cons (pv 7) (pa_cons (pv 2) pa_nil)))) pe_int (fun _ _ => rfl)))))
      (pss_cons (ps_set (i := 9) sc_law_tried_all.nd rfl (Or.inl rfl) (pe_tup (pa_cons (pe_op op_mod (pe_callB (cr_sum rfl) (by rfl) B.sum (by decide +kernel) (pa_cons (pv 6) pa_nil)) (pe_callB call_len_str (by rfl) B.len (by decide +kernel) (pa_cons (pv 0) pa_nil))) (pa_cons (pv 7) pa_nil))))
      (pss_cons (ps_set (i := 10) sc_law_tried_all.nd rfl (Or.inl rfl) (pe_cal c_law_cost hr (by decide) (by rfl) (pa_cons (pv 6) (pa_cons (pv 2) pa_nil))))
      (pss_one (ps_dput hu (pv 5) (pv 9) (pe_callB (call_min2 rfl) (by rfl) B.min (by decide +kernel) (pa_cons (pv 10) (pa_cons (pe_dget2 hu (pv 5) (pv 9) (pv 10) ⟨rfl, rfl, rfl, rfl⟩) pa_nil))) rfl)))))))
      (pss_one (ps_expr (pe_bm PySem.F.plainAttrs_list PySem.F.slot_list_append PySem.F.type_list_append mt_append (pv 3) (pa_cons (pe_lc (own := [("stand", 9)]) (g := (gName 9)) (tt := tYes) (by rfl) sc_law_tried_all.nd (pi_list (pe_callB cr_sortedPO (by rfl) B.sorted (by decide +kernel) (pa_cons (pe_callTy (call_list_dT (by rfl)) (by rfl) B.list (by decide +kernel) (pa_cons (pv 5) pa_nil)) pa_nil))) (blkOk_by (own := [("stand", 9)]) (N := ["wheel", "word", "slack", "told", "many", "row", "turns", "way", "turn", "stand", "spent"]) (sc := defScope s_law_tried_all) (by decide +kernel)) (fun _ _ _ _ _ => (pg_name (i := 9) sc_law_tried_all.nd rfl (Or.inl rfl))) (fun _ _ _ _ _ => pts_nil) (fun _ _ _ _ _ => (pe_op op_catA (pv 9) (pe_tup (pa_cons (pe_dget hu (pv 5) (pv 9) (fun _ _ => rfl)) pa_nil))))) pa_nil)))))))
      (pss_one (ps_ret (pv 3))))), rd_law_tried_all h⟩), g, F.kp, b⟩
theorem sc_are_signs : FnScope ["text", "sign"] ["text"] (defScope s_are_signs) := ⟨rfl, rfl, rfl, by decide +kernel, rfl, by decide +kernel, by decide +kernel⟩
theorem ok_are_signs {f : Addr} {fd : FuncData} (F : L2.Fun K "are_signs" "are_signs" s_are_signs f fd) (g : mg "are_signs" = some (.ref f)) (b : Binds K fd ["text"] []) (B : Bl mg) (X : Xf K mg c)  : Cal P w K mg base 1 "are_signs" (sp_are_signs K) :=
  ⟨f, fd, ["text"], F.ok sc_are_signs (fun vs H Q E h => ln_are_signs h) (fun cdv A outer s H vs Q E hr h => have hu := hu_of hr; ⟨t_are_signs K, (pss_cons (ps_for PassesOwn.never rfl (pi_str (pv 0)) (pg_name (i := 1) sc_are_signs.nd rfl (Or.inl rfl))
      (pss_one (ps_if (pt_cmpR op_notIn_sign (pv 1) (pe_gc (by rfl) B.c_LETTERS) rfl) (pss_one (ps_ret pe_bl)) pss_nil)))
      (pss_one (ps_ret pe_bl))), rd_are_signs h⟩), g, F.kp, b⟩
theorem sc_is_word : FnScope ["thing"] ["thing"] (defScope s_is_word) := ⟨rfl, rfl, rfl, by decide +kernel, rfl, by decide +kernel, by decide +kernel⟩
theorem ok_is_word {f : Addr} {fd : FuncData} (F : L2.Fun K "is_word" "is_word" s_is_word f fd) (g : mg "is_word" = some (.ref f)) (b : Binds K fd ["thing"] []) (B : Bl mg) (X : Xf K mg c) (c_are_signs : Cal P w K mg base 1 "are_signs" (sp_are_signs K)) : Cal P w K mg base 2 "is_word" (sp_is_word K) :=
  ⟨f, fd, ["thing"], F.ok sc_is_word (fun vs H Q E h => ln_is_word h) (fun cdv A outer s H vs Q E hr h => have hu := hu_of hr; ⟨t_is_word K, (pss_one (ps_ret (pe_and (pe_callB call_isi (by rfl) B.isinstance (by decide +kernel) (pa_cons (pv 0) (pa_cons (pe_bltn (v := .ty "str") (by rfl) B.str (by decide +kernel) rfl) pa_nil))) (pe_and (pe_cmpR op_le (pe_callB call_len_str (by rfl) B.len (by decide +kernel) (pa_cons (pv 0) pa_nil)) (pe_gc (by rfl) B.c_MOST_SIGNS) (nomark _)) (pe_one (pe_cal c_are_signs hr (by decide) (by rfl) (pa_cons (pv 0) pa_nil))))))), rd_is_word h⟩), g, F.kp, b⟩
theorem sc_is_wheel : FnScope ["thing"] ["thing"] (defScope s_is_wheel) := ⟨rfl, rfl, rfl, by decide +kernel, rfl, by decide +kernel, by decide +kernel⟩
theorem ok_is_wheel {f : Addr} {fd : FuncData} (F : L2.Fun K "is_wheel" "is_wheel" s_is_wheel f fd) (g : mg "is_wheel" = some (.ref f)) (b : Binds K fd ["thing"] []) (B : Bl mg) (X : Xf K mg c) (c_is_word : Cal P w K mg base 2 "is_word" (sp_is_word K)) : Cal P w K mg base 3 "is_wheel" (sp_is_wheel K) :=
  ⟨f, fd, ["thing"], F.ok sc_is_wheel (fun vs H Q E h => ln_is_wheel h) (fun cdv A outer s H vs Q E hr h => have hu := hu_of hr; ⟨t_is_wheel K, (pss_one (ps_ret (pe_and (pe_cal c_is_word hr (by decide) (by rfl) (pa_cons (pv 0) pa_nil)) (pe_one (pe_chain op_le op_le pe_int (pe_callB call_len_str (by rfl) B.len (by decide +kernel) (pa_cons (pv 0) pa_nil)) (pe_gc (by rfl) B.c_MOST_PLACES)))))), rd_is_wheel h⟩), g, F.kp, b⟩
theorem sc_look_at_wheel : FnScope ["wheel"] ["wheel"] (defScope s_look_at_wheel) := ⟨rfl, rfl, rfl, by decide +kernel, rfl, by decide +kernel, by decide +kernel⟩
theorem okx_look_at_wheel {f : Addr} {fd : FuncData} (F : L2.Fun K "look_at_wheel" "look_at_wheel" s_look_at_wheel f fd) (g : mg "look_at_wheel" = some (.ref f)) (b : Binds K fd ["wheel"] []) (B : Bl mg) (X : Xf K mg c) (c_is_wheel : Cal P w K mg base 3 "is_wheel" (sp_is_wheel K)) : CalX P w K mg base 4 "look_at_wheel" (spx_look_at_wheel K c) :=
  ⟨f, fd, ["wheel"], okN F sc_look_at_wheel (fun vs H Q E h => lnx_look_at_wheel h) (fun cdv A outer s H vs Q E hr h => have hu := hu_of hr; ⟨tx_look_at_wheel K c E, (pss_one (ps_if (pt_not (pt_val (pe_cal c_is_wheel hr (by decide) (by rfl) (pa_cons (pv 0) pa_nil)))) (pss_one (L2N.ps_raise rfl (L2N.takes_of rfl rfl rfl rfl) (L2N.pmk_own PySem.F.excBase_ValueError X.x_NoWheel X.g_NoWheel X.k_NoWheel (raises_own X.b_NoWheel X.t_NoWheel) (by exact rfl)))) pss_nil)), rdx_look_at_wheel h⟩), g, F.kp, b⟩
theorem sc_look_at_word : FnScope ["word"] ["word"] (defScope s_look_at_word) := ⟨rfl, rfl, rfl, by decide +kernel, rfl, by decide +kernel, by decide +kernel⟩
theorem okx_look_at_word {f : Addr} {fd : FuncData} (F : L2.Fun K "look_at_word" "look_at_word" s_look_at_word f fd) (g : mg "look_at_word" = some (.ref f)) (b : Binds K fd ["word"] []) (B : Bl mg) (X : Xf K mg c) (c_is_word : Cal P w K mg base 2 "is_word" (sp_is_word K)) : CalX P w K mg base 3 "look_at_word" (spx_look_at_word K c) :=
  ⟨f, fd, ["word"], okN F sc_look_at_word (fun vs H Q E h => lnx_look_at_word h) (fun cdv A outer s H vs Q E hr h => have hu := hu_of hr; ⟨tx_look_at_word K c E, (pss_one (ps_if (pt_not (pt_val (pe_cal c_is_word hr (by decide) (by rfl) (pa_cons (pv 0) pa_nil)))) (pss_one (L2N.ps_raise rfl (L2N.takes_of rfl rfl rfl rfl) (L2N.pmk_own PySem.F.excBase_ValueError X.x_NoWord X.g_NoWord X.k_NoWord (raises_own X.b_NoWord X.t_NoWord) (by exact rfl)))) pss_nil)), rdx_look_at_word h⟩), g, F.kp, b⟩
theorem sc_look_at_slack : FnScope ["slack"] ["slack"] (defScope s_look_at_slack) := ⟨rfl, rfl, rfl, by decide +kernel, rfl, by decide +kernel, by decide +kernel⟩
theorem okx_look_at_slack {f : Addr} {fd : FuncData} (F : L2.Fun K "look_at_slack" "look_at_slack" s_look_at_slack f fd) (g : mg "look_at_slack" = some (.ref f)) (b : Binds K fd ["slack"] []) (B : Bl mg) (X : Xf K mg c)  : CalX P w K mg base 1 "look_at_slack" (spx_look_at_slack K c) :=
  ⟨f, fd, ["slack"], okN F sc_look_at_slack (fun vs H Q E h => lnx_look_at_slack h) (fun cdv A outer s H vs Q E hr h => have hu := hu_of hr; ⟨tx_look_at_slack K c E, (pss_one (ps_if (pw_or (pt_cmpR op_lt (pv 0) pe_int (nomark _)) (pw_or1 (pt_cmpR op_gt (pv 0) (pe_gc (by rfl) B.c_MOST_SLACK) (nomark _)))).pt (pss_one (L2N.ps_raise rfl (L2N.takes_of rfl rfl rfl rfl) (L2N.pmk_own PySem.F.excBase_ValueError X.x_NoSlack X.g_NoSlack X.k_NoSlack (raises_own X.b_NoSlack X.t_NoSlack) (by exact rfl)))) pss_nil)), rdx_look_at_slack h⟩), g, F.kp, b⟩
theorem sc_look_at_errand : FnScope ["wheel", "word", "slack", "sign"] ["wheel", "word", "slack"] (defScope s_look_at_errand) := ⟨rfl, rfl, rfl, by decide +kernel, rfl, by decide +kernel, by decide +kernel⟩
theorem okx_look_at_errand {f : Addr} {fd : FuncData} (F : L2.Fun K "look_at_errand" "look_at_errand" s_look_at_errand f fd) (g : mg "look_at_errand" = some (.ref f)) (b : Binds K fd ["wheel", "word", "slack"] []) (B : Bl mg) (X : Xf K mg c) (cx_look_at_wheel : CalX P w K mg base 4 "look_at_wheel" (spx_look_at_wheel K c)) (cx_look_at_word : CalX P w K mg base 3 "look_at_word" (spx_look_at_word K c)) (cx_look_at_slack : CalX P w K mg base 1 "look_at_slack" (spx_look_at_slack K c)) : CalX P w K mg base 5 "look_at_errand" (spx_look_at_errand K c) :=
  ⟨f, fd, ["wheel", "word", "slack"], okN F sc_look_at_errand (fun vs H Q E h => lnx_look_at_errand h) (fun cdv A outer s H vs Q E hr h => have hu := hu_of hr; ⟨tx_look_at_errand K c E, (pss_cons (ps_expr (pe_calX cx_look_at_wheel hr (by decide) (by rfl) passX (pa_cons (pv 0) pa_nil)))
      (pss_cons (ps_expr (pe_calX cx_look_at_word hr (by decide) (by rfl) passX (pa_cons (pv 1) pa_nil)))
      (pss_cons (ps_expr (pe_calX cx_look_at_slack hr (by decide) (by rfl) passX (pa_cons (pv 2) pa_nil)))
      (pss_one (ps_for (passes_of rfl) rfl (pi_str (pv 1)) (pg_name (i := 3) sc_look_at_errand.nd rfl (Or.inl rfl))
      (pss_one (ps_if (pt_cmpR op_notIn_sign (pv 3) (pv 0) rfl) (pss_one (L2N.ps_raise rfl (L2N.takes_of rfl rfl rfl rfl) (L2N.pmk_own PySem.F.excBase_ValueError X.x_Lacks X.g_Lacks X.k_Lacks (raises_own X.b_Lacks X.t_Lacks) (by exact rfl)))) pss_nil))))))), rdx_look_at_errand h⟩), g, F.kp, b⟩
theorem sc_turns_to : FnScope ["wheel", "place", "sign", "many", "found", "turn"] ["wheel", "place", "sign"] (defScope s_turns_to) := ⟨rfl, rfl, rfl, by decide +kernel, rfl, by decide +kernel, by decide +kernel⟩
theorem ok_turns_to {f : Addr} {fd : FuncData} (F : L2.Fun K "turns_to" "turns_to" s_turns_to f fd) (g : mg "turns_to" = some (.ref f)) (b : Binds K fd ["wheel", "place", "sign"] []) (B : Bl mg) (X : Xf K mg c)  : Cal P w K mg base 1 "turns_to" (sp_turns_to K) :=
  ⟨f, fd, ["wheel", "place", "sign"], F.ok sc_turns_to (fun vs H Q E h => ln_turns_to h) (fun cdv A outer s H vs Q E hr h => have hu := hu_of hr; ⟨t_turns_to K, (pss_cons (ps_set (i := 3) sc_turns_to.nd rfl (Or.inl rfl) (pe_callB call_len_str (by rfl) B.len (by decide +kernel) (pa_cons (pv 0) pa_nil)))
      (pss_cons (ps_set (i := 4) sc_turns_to.nd rfl (Or.inl rfl) (pe_lst pa_nil))
      (pss_cons (ps_for PassesOwn.never rfl (pi_range2 rfl B.range (pa_cons (pe_op op_sub pe_int (pv 3)) (pa_cons (pv 3) pa_nil))) (pg_name (i := 5) sc_turns_to.nd rfl (Or.inl rfl))
      (pss_one (ps_if (pt_cmpR op_eq (pe_ix ix_str (pv 0) (pe_op op_mod (pe_op op_add (pv 1) (pv 5)) (pv 3)) (fun _ _ => rfl)) (pv 2) (nomark _)) (pss_one (ps_expr (pe_bm PySem.F.plainAttrs_list PySem.F.slot_list_append PySem.F.type_list_append mt_append (pv 4) (pa_cons (pv 5) pa_nil)))) pss_nil)))
      (pss_one (ps_ret (pv 4)))))), rd_turns_to h⟩), g, F.kp, b⟩
theorem sc_way_of : FnScope ["turn", "way"] ["turn", "way"] (defScope s_way_of) := ⟨rfl, rfl, rfl, by decide +kernel, rfl, by decide +kernel, by decide +kernel⟩
theorem ok_way_of {f : Addr} {fd : FuncData} (F : L2.Fun K "way_of" "way_of" s_way_of f fd) (g : mg "way_of" = some (.ref f)) (b : Binds K fd ["turn", "way"] []) (B : Bl mg) (X : Xf K mg c)  : Cal P w K mg base 1 "way_of" (sp_way_of K) :=
  ⟨f, fd, ["turn", "way"], F.ok sc_way_of (fun vs H Q E h => ln_way_of h) (fun cdv A outer s H vs Q E hr h => have hu := hu_of hr; ⟨t_way_of K, (pss_cons (ps_if (pt_cmpR op_gt (pv 0) pe_int (nomark _)) (pss_one (ps_ret pe_int)) pss_nil)
      (pss_cons (ps_if (pt_cmpR op_lt (pv 0) pe_int (nomark _)) (pss_one (ps_ret (pe_un un_neg pe_int))) pss_nil)
      (pss_one (ps_ret (pv 1))))), rd_way_of h⟩), g, F.kp, b⟩
theorem sc_step_cost : FnScope ["turn", "way", "slack", "later"] ["turn", "way", "slack"] (defScope s_step_cost) := ⟨rfl, rfl, rfl, by decide +kernel, rfl, by decide +kernel, by decide +kernel⟩
theorem ok_step_cost {f : Addr} {fd : FuncData} (F : L2.Fun K "step_cost" "step_cost" s_step_cost f fd) (g : mg "step_cost" = some (.ref f)) (b : Binds K fd ["turn", "way", "slack"] []) (B : Bl mg) (X : Xf K mg c) (c_way_of : Cal P w K mg base 1 "way_of" (sp_way_of K)) : Cal P w K mg base 2 "step_cost" (sp_step_cost K) :=
  ⟨f, fd, ["turn", "way", "slack"], F.ok sc_step_cost (fun vs H Q E h => ln_step_cost h) (fun cdv A outer s H vs Q E hr h => have hu := hu_of hr; ⟨t_step_cost K, (pss_cons (ps_set (i := 3) sc_step_cost.nd rfl (Or.inl rfl) (pe_cal c_way_of hr (by decide) (by rfl) (pa_cons (pv 0) (pa_cons (pv 1) pa_nil))))
      (pss_cons (ps_if (pw_and (pt_cmpR op_ne (pv 1) pe_int (nomark _)) (pw_and1 (pt_cmpR op_ne (pv 3) (pv 1) (nomark _)))).pt (pss_one (ps_ret (pe_op op_add (pe_callB call_abs (by rfl) B.abs (by decide +kernel) (pa_cons (pv 0) pa_nil)) (pv 2)))) pss_nil)
      (pss_one (ps_ret (pe_callB call_abs (by rfl) B.abs (by decide +kernel) (pa_cons (pv 0) pa_nil)))))), rd_step_cost h⟩), g, F.kp, b⟩
theorem sc_steps_from : FnScope ["wheel", "stand", "sign", "slack", "place", "way", "found", "turn", "later"] ["wheel", "stand", "sign", "slack"] (defScope s_steps_from) := ⟨rfl, rfl, rfl, by decide +kernel, rfl, by decide +kernel, by decide +kernel⟩
theorem ok_steps_from {f : Addr} {fd : FuncData} (F : L2.Fun K "steps_from" "steps_from" s_steps_from f fd) (g : mg "steps_from" = some (.ref f)) (b : Binds K fd ["wheel", "stand", "sign", "slack"] []) (B : Bl mg) (X : Xf K mg c) (c_turns_to : Cal P w K mg base 1 "turns_to" (sp_turns_to K)) (c_way_of : Cal P w K mg base 1 "way_of" (sp_way_of K)) (c_step_cost : Cal P w K mg base 2 "step_cost" (sp_step_cost K)) : Cal P w K mg base 3 "steps_from" (sp_steps_from K) :=
  ⟨f, fd, ["wheel", "stand", "sign", "slack"], F.ok sc_steps_from (fun vs H Q E h => ln_steps_from h) (fun cdv A outer s H vs Q E hr h => have hu := hu_of hr; ⟨t_steps_from K, (pss_cons (ps_asg (pv 1) (pg_tup rfl (pgs_cons (pg_name (i := 4) sc_steps_from.nd rfl (Or.inl rfl)) (pgs_cons (pg_name (i := 5) sc_steps_from.nd rfl (Or.inl rfl)) pgs_nil))))
      (pss_cons (ps_set (i := 6) sc_steps_from.nd rfl (Or.inl rfl) (pe_lst pa_nil))
      (pss_cons (ps_for PassesOwn.never rfl (pi_list (pe_cal c_turns_to hr (by decide) (by rfl) (pa_cons (pv 0) (pa_cons (pv 4) (pa_cons (pv 2) pa_nil))))) (pg_name (i := 7) sc_steps_from.nd rfl (Or.inl rfl))
      (pss_cons (ps_set (i := 8) sc_steps_from.nd rfl (Or.inl rfl) (pe_tup (pa_cons (pe_op op_mod (pe_op op_add (pv 4) (pv 7)) (pe_callB call_len_str (by rfl) B.len (by decide +kernel) (pa_cons (pv 0) pa_nil))) (pa_cons (pe_cal c_way_of hr (by decide) (by rfl) (pa_cons (pv 7) (pa_cons (pv 5) pa_nil))) pa_nil))))
      (pss_one (ps_expr (pe_bm PySem.F.plainAttrs_list PySem.F.slot_list_append PySem.F.type_list_append mt_append (pv 6) (pa_cons (pe_tup (pa_cons (pv 7) (pa_cons (pv 8) (pa_cons (pe_cal c_step_cost hr (by decide) (by rfl) (pa_cons (pv 7) (pa_cons (pv 5) (pa_cons (pv 3) pa_nil)))) pa_nil)))) pa_nil))))))
      (pss_one (ps_ret (pv 6)))))), rd_steps_from h⟩), g, F.kp, b⟩
theorem sc_rows_from : FnScope ["wheel", "word", "slack", "place", "row", "rows", "sign", "later", "stand", "turn", "there", "more", "least"] ["wheel", "word", "slack", "place"] (defScope s_rows_from) := ⟨rfl, rfl, rfl, by decide +kernel, rfl, by decide +kernel, by decide +kernel⟩
theorem ok_rows_from {f : Addr} {fd : FuncData} (F : L2.Fun K "rows_from" "rows_from" s_rows_from f fd) (g : mg "rows_from" = some (.ref f)) (b : Binds K fd ["wheel", "word", "slack", "place"] []) (B : Bl mg) (X : Xf K mg c) (c_steps_from : Cal P w K mg base 3 "steps_from" (sp_steps_from K)) : Cal P w K mg base 4 "rows_from" (sp_rows_from K) :=
  ⟨f, fd, ["wheel", "word", "slack", "place"], F.ok sc_rows_from (fun vs H Q E h => ln_rows_from h) (fun cdv A outer s H vs Q E hr h => have hu := hu_of hr; ⟨t_rows_from K, (pss_cons (ps_set (i := 4) sc_rows_from.nd rfl (Or.inl rfl) (pe_dispT hu (pe_tup (pa_cons (pv 3) (pa_cons pe_int pa_nil))) pe_int))
      (pss_cons (ps_set (i := 5) sc_rows_from.nd rfl (Or.inl rfl) (pe_lst (pa_cons (pv 4) pa_nil)))
      (pss_cons (ps_for PassesOwn.never rfl (pi_str (pv 1)) (pg_name (i := 6) sc_rows_from.nd rfl (Or.inl rfl))
      (pss_cons (ps_set (i := 7) sc_rows_from.nd rfl (Or.inl rfl) pe_dnewT)
      (pss_cons (ps_lock (ps_for PassesOwn.never rfl (pi_keys (pv 4)) (pg_name (i := 8) sc_rows_from.nd rfl (Or.inl rfl))
      (pss_one (ps_for PassesOwn.never rfl (pi_list (pe_cal c_steps_from hr (by decide) (by rfl) (pa_cons (pv 0) (pa_cons (pv 8) (pa_cons (pv 6) (pa_cons (pv 2) pa_nil)))))) (pg_tup rfl (pgs_cons (pg_name (i := 9) sc_rows_from.nd rfl (Or.inl rfl)) (pgs_cons (pg_name (i := 10) sc_rows_from.nd rfl (Or.inl rfl)) (pgs_cons (pg_name (i := 11) sc_rows_from.nd rfl (Or.inl rfl)) pgs_nil))))
      (pss_cons (ps_set (i := 12) sc_rows_from.nd rfl (Or.inl rfl) (pe_op op_add (pe_dget hu (pv 4) (pv 8) (fun _ _ => rfl)) (pv 11)))
      (pss_one (ps_if (pw_or (pt_cmp (pc_dnotin hu (pv 10) (pv 7)) rfl) (pw_or1 (pt_cmpR op_lt (pv 12) (pe_dget hu (pv 7) (pv 10) (fun _ _ => rfl)) (nomark _)))).pt (pss_one (ps_dput hu (pv 7) (pv 10) (pv 12) rfl)) pss_nil)))))))
      (pss_cons (ps_set (i := 4) sc_rows_from.nd rfl (Or.inl rfl) (pv 7))
      (pss_one (ps_expr (pe_bm PySem.F.plainAttrs_list PySem.F.slot_list_append PySem.F.type_list_append mt_append (pv 5) (pa_cons (pv 4) pa_nil))))))))
      (pss_one (ps_ret (pv 5)))))), rd_rows_from h⟩), g, F.kp, b⟩
theorem sc_table : FnScope ["wheel", "word", "slack", "told", "row", "stand"] ["wheel", "word", "slack"] (defScope s_table) := ⟨rfl, rfl, rfl, by decide +kernel, rfl, by decide +kernel, by decide +kernel⟩
theorem okx_table {f : Addr} {fd : FuncData} (F : L2.Fun K "table" "table" s_table f fd) (g : mg "table" = some (.ref f)) (b : Binds K fd ["wheel", "word", "slack"] []) (B : Bl mg) (X : Xf K mg c) (cx_look_at_errand : CalX P w K mg base 5 "look_at_errand" (spx_look_at_errand K c)) (c_rows_from : Cal P w K mg base 4 "rows_from" (sp_rows_from K)) : CalX P w K mg base 6 "table" (spx_table K c) :=
  ⟨f, fd, ["wheel", "word", "slack"], okN F sc_table (fun vs H Q E h => lnx_table h) (fun cdv A outer s H vs Q E hr h => have hu := hu_of hr; ⟨tx_table K c E, (pss_cons (ps_expr (pe_calX cx_look_at_errand hr (by decide) (by rfl) passX (pa_cons (pv 0) (pa_cons (pv 1) (pa_cons (pv 2) pa_nil)))))
      (pss_cons (ps_set (i := 3) sc_table.nd rfl (Or.inl rfl) (pe_lst pa_nil))
      (pss_cons (ps_for (passes_of rfl) rfl (pi_list (pe_cal c_rows_from hr (by decide) (by rfl) (pa_cons (pv 0) (pa_cons (pv 1) (pa_cons (pv 2) (pa_cons pe_int pa_nil)))))) (pg_name (i := 4) sc_table.nd rfl (Or.inr rfl))
      (pss_one (ps_expr (pe_bm PySem.F.plainAttrs_list PySem.F.slot_list_append PySem.F.type_list_append mt_append (pv 3) (pa_cons (pe_lc (own := [("stand", 5)]) (g := (gName 5)) (tt := tYes) (by rfl) sc_table.nd (pi_list (pe_callB cr_sortedPO (by rfl) B.sorted (by decide +kernel) (pa_cons (pe_callTy (call_list_dT (by rfl)) (by rfl) B.list (by decide +kernel) (pa_cons (pv 4) pa_nil)) pa_nil))) (blkOk_by (own := [("stand", 5)]) (N := ["wheel", "word", "slack", "told", "row", "stand"]) (sc := defScope s_table) (by decide +kernel)) (fun _ _ _ _ _ => (pg_name (i := 5) sc_table.nd rfl (Or.inl rfl))) (fun _ _ _ _ _ => pts_nil) (fun _ _ _ _ _ => (pe_op op_catA (pv 5) (pe_tup (pa_cons (pe_dget hu (pv 4) (pv 5) (fun _ _ => rfl)) pa_nil))))) pa_nil)))))
      (pss_one (ps_ret (pv 3)))))), rdx_table h⟩), g, F.kp, b⟩
theorem sc_law_whole : FnScope ["found"] ["found"] (defScope s_law_whole) := ⟨rfl, rfl, rfl, by decide +kernel, rfl, by decide +kernel, by decide +kernel⟩
theorem ok_law_whole {f : Addr} {fd : FuncData} (F : L2.Fun K "_law_whole" "_law_whole" s_law_whole f fd) (g : mg "_law_whole" = some (.ref f)) (b : Binds K fd ["found"] []) (B : Bl mg) (X : Xf K mg c)  : Cal P w K mg base 1 "_law_whole" (sp_law_whole K) :=
  ⟨f, fd, ["found"], F.ok sc_law_whole (fun vs H Q E h => ln_law_whole h) (fun cdv A outer s H vs Q E hr h => have hu := hu_of hr; ⟨t_law_whole K, (pss_one (ps_ret (pe_and (pe_callB call_isi (by rfl) B.isinstance (by decide +kernel) (pa_cons (pv 0) (pa_cons (pe_bltn (v := .ty "int") (by rfl) B.int (by decide +kernel) rfl) pa_nil))) (pe_one (pe_not (pe_callB call_isi (by rfl) B.isinstance (by decide +kernel) (pa_cons (pv 0) (pa_cons (pe_bltn (v := .ty "bool") (by rfl) B.bool (by decide +kernel) rfl) pa_nil)))))))), rd_law_whole h⟩), g, F.kp, b⟩
theorem sc_law_right : FnScope ["wheel", "word", "slack", "due", "found", "row", "one", "part"] ["wheel", "word", "slack", "due"] (defScope s_law_right) := ⟨rfl, rfl, rfl, by decide +kernel, rfl, by decide +kernel, by decide +kernel⟩
theorem ok_law_right {f : Addr} {fd : FuncData} (F : L2.Fun K "_law_right" "_law_right" s_law_right f fd) (g : mg "_law_right" = some (.ref f)) (b : Binds K fd ["wheel", "word", "slack", "due"] []) (B : Bl mg) (X : Xf K mg c) (cx_table : CalX P w K mg base 6 "table" (spx_table K c)) (c_law_whole : Cal P w K mg base 1 "_law_whole" (sp_law_whole K)) : Cal P w K mg base 7 "_law_right" (sp_law_right K) :=
  ⟨f, fd, ["wheel", "word", "slack", "due"], F.ok sc_law_right (fun vs H Q E h => ln_law_right h) (fun cdv A outer s H vs Q E hr h => have hu := hu_of hr; ⟨t_law_right K c, (pss_cons (ps_set (i := 4) sc_law_right.nd rfl (Or.inl rfl) (pe_calX cx_table hr (by decide) (by rfl) passE0 (pa_cons (pv 0) (pa_cons (pv 1) (pa_cons (pv 2) pa_nil)))))
      (pss_cons (ps_if (pw_or (pt_not (pt_val (pe_callB call_isi (by rfl) B.isinstance (by decide +kernel) (pa_cons (pv 4) (pa_cons (pe_bltn (v := .ty "list") (by rfl) B.list (by decide +kernel) rfl) pa_nil))))) (pw_or1 (pt_cmpR (op_neD hr.units) (pv 4) (pv 3) (nomark _)))).pt (pss_one (ps_ret pe_bl)) pss_nil)
      (pss_cons (ps_for PassesOwn.never rfl (pi_list (pv 4)) (pg_name (i := 5) sc_law_right.nd rfl (Or.inl rfl))
      (pss_cons (ps_if (pt_not (pt_val (pe_callB call_isi (by rfl) B.isinstance (by decide +kernel) (pa_cons (pv 5) (pa_cons (pe_bltn (v := .ty "list") (by rfl) B.list (by decide +kernel) rfl) pa_nil))))) (pss_one (ps_ret pe_bl)) pss_nil)
      (pss_cons (ps_for PassesOwn.never rfl (pi_list (pv 5)) (pg_name (i := 6) sc_law_right.nd rfl (Or.inl rfl))
      (pss_one (ps_if (pw_or (pt_not (pt_val (pe_callB call_isi (by rfl) B.isinstance (by decide +kernel) (pa_cons (pv 6) (pa_cons (pe_bltn (v := .ty "tuple") (by rfl) B.tuple (by decide +kernel) rfl) pa_nil))))) (pw_or1 (pt_cmpR op_in_seq pe_bl (pe_lc (own := [("part", 7)]) (g := (gName 7)) (tt := tYes) (by rfl) sc_law_right.nd (pi_tup (pv 6)) (blkOk_by (own := [("part", 7)]) (N := ["wheel", "word", "slack", "due", "found", "row", "one", "part"]) (sc := defScope s_law_right) (by decide +kernel)) (fun _ _ _ _ _ => (pg_name (i := 7) sc_law_right.nd rfl (Or.inl rfl))) (fun _ _ _ _ _ => pts_nil) (fun _ _ _ _ _ => (pe_cal c_law_whole hr (by decide) (by rfl) (pa_cons (pv 7) pa_nil)))) rfl))).pt (pss_one (ps_ret pe_bl)) pss_nil)))
      (pss_one (ps_expr (pe_bm PySem.F.plainAttrs_list PySem.F.slot_list_append PySem.F.type_list_append mt_append (pv 5) (pa_cons (pe_tup (pa_cons pe_int (pa_cons pe_int (pa_cons pe_int pa_nil)))) pa_nil)))))))
      (pss_cons (ps_expr (pe_bm0 PySem.F.plainAttrs_list PySem.F.slot_list_clear PySem.F.type_list_clear mt_clear (pv 4)))
      (pss_one (ps_ret (pe_cmpR (op_eqD hr.units) (pe_calX cx_table hr (by decide) (by rfl) passE0 (pa_cons (pv 0) (pa_cons (pv 1) (pa_cons (pv 2) pa_nil)))) (pv 3) (nomark _)))))))), rd_law_right h⟩), g, F.kp, b⟩
theorem sc_law_word : FnScope ["draws", "wheel", "most", "many", "k"] ["draws", "wheel", "most"] (defScope s_law_word) := ⟨rfl, rfl, rfl, by decide +kernel, rfl, by decide +kernel, by decide +kernel⟩
theorem ok_law_word {f : Addr} {fd : FuncData} (F : L2.Fun K "_law_word" "_law_word" s_law_word f fd) (g : mg "_law_word" = some (.ref f)) (b : Binds K fd ["draws", "wheel", "most"] []) (B : Bl mg) (X : Xf K mg c) (c_law_draw : Cal P w K mg base 1 "_law_draw" (sp_law_draw K)) : Cal P w K mg base 2 "_law_word" (sp_law_word K) :=
  ⟨f, fd, ["draws", "wheel", "most"], F.ok sc_law_word (fun vs H Q E h => ln_law_word h) (fun cdv A outer s H vs Q E hr h => have hu := hu_of hr; ⟨t_law_word K, (pss_cons (ps_set (i := 3) sc_law_word.nd rfl (Or.inl rfl) (pe_ix ix_list (pe_lst (pa_cons (pe_cal c_law_draw hr (by decide) (by rfl) (pa_cons (pv 0) (pa_cons pe_int pa_nil))) (pa_cons (pe_cal c_law_draw hr (by decide) (by rfl) (pa_cons (pv 0) (pa_cons (pe_op op_add (pv 2) pe_int) pa_nil))) (pa_cons (pv 2) pa_nil)))) (pe_cal c_law_draw hr (by decide) (by rfl) (pa_cons (pv 0) (pa_cons pe_int pa_nil))) (fun _ _ => rfl)))
      (pss_one (ps_ret (pe_join pe_str (pe_lc (own := [("k", 4)]) (g := (gName 4)) (tt := tYes) (by rfl) sc_law_word.nd (pi_range1 rfl B.range (pa_cons (pe_callB (call_min2 rfl) (by rfl) B.min (by decide +kernel) (pa_cons (pv 3) (pa_cons (pv 2) pa_nil))) pa_nil)) (blkOk_by (own := [("k", 4)]) (N := ["draws", "wheel", "most", "many", "k"]) (sc := defScope s_law_word) (by decide +kernel)) (fun _ _ _ _ _ => (pg_name (i := 4) sc_law_word.nd rfl (Or.inl rfl))) (fun _ _ _ _ _ => pts_nil) (fun _ _ _ _ _ => (pe_ix ix_str (pv 1) (pe_cal c_law_draw hr (by decide) (by rfl) (pa_cons (pv 0) (pa_cons (pe_callB call_len_str (by rfl) B.len (by decide +kernel) (pa_cons (pv 1) pa_nil)) pa_nil))) (fun _ _ => rfl)))))))), rd_law_word h⟩), g, F.kp, b⟩
theorem sc_law_rows : FnScope ["wheel", "word", "slack", "place", "rows", "sign", "later", "stand", "turn", "way", "more", "there", "least", "known"] ["wheel", "word", "slack", "place"] (defScope s_law_rows) := ⟨rfl, rfl, rfl, by decide +kernel, rfl, by decide +kernel, by decide +kernel⟩
theorem ok_law_rows {f : Addr} {fd : FuncData} (F : L2.Fun K "_law_rows" "_law_rows" s_law_rows f fd) (g : mg "_law_rows" = some (.ref f)) (b : Binds K fd ["wheel", "word", "slack", "place"] []) (B : Bl mg) (X : Xf K mg c) (c_law_reach_turns : Cal P w K mg base 1 "_law_reach_turns" (sp_law_reach_turns K)) (c_law_step : Cal P w K mg base 1 "_law_step" (sp_law_step K)) : Cal P w K mg base 2 "_law_rows" (sp_law_rows K) :=
  ⟨f, fd, ["wheel", "word", "slack", "place"], F.ok sc_law_rows (fun vs H Q E h => ln_law_rows h) (fun cdv A outer s H vs Q E hr h => have hu := hu_of hr; ⟨t_law_rows K, (pss_cons (ps_set (i := 4) sc_law_rows.nd rfl (Or.inl rfl) (pe_lst (pa_cons (pe_dispT hu (pe_tup (pa_cons (pv 3) (pa_cons pe_int pa_nil))) (pe_tup (pa_cons pe_int (pa_cons pe_int pa_nil)))) pa_nil)))
      (pss_cons (ps_for PassesOwn.never rfl (pi_str (pv 1)) (pg_name (i := 5) sc_law_rows.nd rfl (Or.inl rfl))
      (pss_cons (ps_set (i := 6) sc_law_rows.nd rfl (Or.inl rfl) pe_dnewT)
      (pss_cons (ps_lock (ps_for PassesOwn.never rfl (pi_keys (pe_ix ix_list (pv 4) (pe_un un_neg pe_int) (fun _ _ => rfl))) (pg_name (i := 7) sc_law_rows.nd rfl (Or.inl rfl))
      (pss_one (ps_for PassesOwn.never rfl (pi_list (pe_cal c_law_reach_turns hr (by decide) (by rfl) (pa_cons (pv 0) (pa_cons (pe_ix ix_tup (pv 7) pe_int (fun _ _ => rfl)) (pa_cons (pv 5) pa_nil))))) (pg_name (i := 8) sc_law_rows.nd rfl (Or.inl rfl))
      (pss_cons (ps_asg (pe_cal c_law_step hr (by decide) (by rfl) (pa_cons (pv 8) (pa_cons (pe_ix ix_tup (pv 7) pe_int (fun _ _ => rfl)) (pa_cons (pv 2) pa_nil)))) (pg_tup rfl (pgs_cons (pg_name (i := 9) sc_law_rows.nd rfl (Or.inl rfl)) (pgs_cons (pg_name (i := 10) sc_law_rows.nd rfl (Or.inl rfl)) pgs_nil))))
      (pss_cons (ps_set (i := 11) sc_law_rows.nd rfl (Or.inl rfl) (pe_tup (pa_cons (pe_op op_mod (pe_op op_add (pe_ix ix_tup (pv 7) pe_int (fun _ _ => rfl)) (pv 8)) (pe_callB call_len_str (by rfl) B.len (by decide +kernel) (pa_cons (pv 0) pa_nil))) (pa_cons (pv 9) pa_nil))))
      (pss_cons (ps_set (i := 12) sc_law_rows.nd rfl (Or.inl rfl) (pe_op op_add (pe_ix ix_tup (pe_dget hu (pe_ix ix_list (pv 4) (pe_un un_neg pe_int) (fun _ _ => rfl)) (pv 7) (fun _ _ => rfl)) pe_int (fun _ _ => rfl)) (pv 10)))
      (pss_cons (ps_set (i := 13) sc_law_rows.nd rfl (Or.inl rfl) (pe_dget2 hu (pv 6) (pv 11) (pe_tup (pa_cons (pe_op op_add (pv 12) pe_int) (pa_cons pe_int pa_nil))) ⟨rfl, rfl, rfl, rfl⟩))
      (pss_one (ps_if (pt_cmpR op_lt (pv 12) (pe_ix ix_tup (pv 13) pe_int (fun _ _ => rfl)) (nomark _)) (pss_one (ps_dput hu (pv 6) (pv 11) (pe_tup (pa_cons (pv 12) (pa_cons (pe_ix ix_tup (pe_dget hu (pe_ix ix_list (pv 4) (pe_un un_neg pe_int) (fun _ _ => rfl)) (pv 7) (fun _ _ => rfl)) pe_int (fun _ _ => rfl)) pa_nil))) rfl)) (pss_one (ps_if (pt_cmpR op_eq (pv 12) (pe_ix ix_tup (pv 13) pe_int (fun _ _ => rfl)) (nomark _)) (pss_one (ps_dput hu (pv 6) (pv 11) (pe_tup (pa_cons (pv 12) (pa_cons (pe_op op_add (pe_ix ix_tup (pv 13) pe_int (fun _ _ => rfl)) (pe_ix ix_tup (pe_dget hu (pe_ix ix_list (pv 4) (pe_un un_neg pe_int) (fun _ _ => rfl)) (pv 7) (fun _ _ => rfl)) pe_int (fun _ _ => rfl))) pa_nil))) rfl)) pss_nil))))))))))))
      (pss_one (ps_expr (pe_bm PySem.F.plainAttrs_list PySem.F.slot_list_append PySem.F.type_list_append mt_append (pv 4) (pa_cons (pv 6) pa_nil)))))))
      (pss_one (ps_ret (pv 4))))), rd_law_rows h⟩), g, F.kp, b⟩
theorem sc_law : FnScope ["script", "draws", "wheel", "word", "slack", "great", "due", "row", "stand"] ["script"] (defScope s_law) := ⟨rfl, rfl, rfl, by decide +kernel, rfl, by decide +kernel, by decide +kernel⟩
theorem ok_law {f : Addr} {fd : FuncData} (F : L2.Fun K "law" "law" s_law f fd) (B : Bl mg) (X : Xf K mg c) (c_law_draws : Cal P w K mg base 1 "_law_draws" (sp_law_draws K)) (c_law_small : Cal P w K mg base 4 "_law_small" (sp_law_small K)) (c_law_draw : Cal P w K mg base 1 "_law_draw" (sp_law_draw K)) (c_law_tried_all : Cal P w K mg base 3 "_law_tried_all" (sp_law_tried_all K)) (c_law_right : Cal P w K mg base 7 "_law_right" (sp_law_right K)) (c_law_letters : Cal P w K mg base 2 "_law_letters" (sp_law_letters K)) (c_law_wheel : Cal P w K mg base 3 "_law_wheel" (sp_law_wheel K)) (c_law_word : Cal P w K mg base 2 "_law_word" (sp_law_word K)) (c_law_rows : Cal P w K mg base 2 "_law_rows" (sp_law_rows K)) : FnOk P w K mg base CX0 8 f fd ["script"] (sp_law K) :=
  F.ok sc_law (fun vs H Q E h => ln_law h) (fun cdv A outer s H vs Q E hr h => have hu := hu_of hr; ⟨t_law K, (pss_cons (ps_set (i := 1) sc_law.nd rfl (Or.inl rfl) (pe_cal c_law_draws hr (by decide) (by rfl) (pa_cons (pv 0) (pa_cons pe_int pa_nil))))
      (pss_cons (ps_asg (pe_cal c_law_small hr (by decide) (by rfl) (pa_cons (pv 1) pa_nil)) (pg_tup rfl (pgs_cons (pg_name (i := 2) sc_law.nd rfl (Or.inl rfl)) (pgs_cons (pg_name (i := 3) sc_law.nd rfl (Or.inl rfl)) pgs_nil))))
      (pss_cons (ps_set (i := 4) sc_law.nd rfl (Or.inl rfl) (pe_cal c_law_draw hr (by decide) (by rfl) (pa_cons (pv 1) (pa_cons pe_int pa_nil))))
      (pss_cons (ps_if (pt_not (pt_val (pe_cal c_law_right hr (by decide) (by rfl) (pa_cons (pv 2) (pa_cons (pv 3) (pa_cons (pv 4) (pa_cons (pe_cal c_law_tried_all hr (by decide) (by rfl) (pa_cons (pv 2) (pa_cons (pv 3) (pa_cons (pv 4) pa_nil)))) pa_nil))))))) (pss_one (ps_ret pe_bl)) pss_nil)
      (pss_cons (ps_set (i := 1) sc_law.nd rfl (Or.inl rfl) (pe_cal c_law_draws hr (by decide) (by rfl) (pa_cons (pv 0) (pa_cons pe_int pa_nil))))
      (pss_cons (ps_set (i := 4) sc_law.nd rfl (Or.inl rfl) (pe_ix ix_list (pe_lst (pa_cons pe_int (pa_cons pe_int (pa_cons pe_int (pa_cons (pe_cal c_law_draw hr (by decide) (by rfl) (pa_cons (pv 1) (pa_cons pe_int pa_nil))) pa_nil))))) (pe_cal c_law_draw hr (by decide) (by rfl) (pa_cons (pv 1) (pa_cons pe_int pa_nil))) (fun _ _ => rfl)))
      (pss_cons (ps_set (i := 5) sc_law.nd rfl (Or.inl rfl) (pe_op op_fdivW (pe_cal c_law_draw hr (by decide) (by rfl) (pa_cons (pv 1) (pa_cons pe_int pa_nil))) pe_int))
      (pss_cons (ps_set (i := 2) sc_law.nd rfl (Or.inl rfl) (pe_ix ix_list (pe_lst (pa_cons (pe_cal c_law_wheel hr (by decide) (by rfl) (pa_cons (pv 1) (pa_cons pe_int pa_nil))) (pa_cons (pe_cal c_law_letters hr (by decide) (by rfl) (pa_cons (pv 1) (pa_cons pe_int (pa_cons pe_int pa_nil)))) pa_nil))) (pv 5) (fun _ _ => rfl)))
      (pss_cons (ps_set (i := 3) sc_law.nd rfl (Or.inl rfl) (pe_cal c_law_word hr (by decide) (by rfl) (pa_cons (pv 1) (pa_cons (pv 2) (pa_cons (pe_ix ix_list (pe_lst (pa_cons pe_int (pa_cons pe_int pa_nil))) (pv 5) (fun _ _ => rfl)) pa_nil)))))
      (pss_cons (ps_set (i := 6) sc_law.nd rfl (Or.inl rfl) (pe_lst pa_nil))
      (pss_cons (ps_for PassesOwn.never rfl (pi_list (pe_cal c_law_rows hr (by decide) (by rfl) (pa_cons (pv 2) (pa_cons (pv 3) (pa_cons (pv 4) (pa_cons pe_int pa_nil)))))) (pg_name (i := 7) sc_law.nd rfl (Or.inr rfl))
      (pss_one (ps_expr (pe_bm PySem.F.plainAttrs_list PySem.F.slot_list_append PySem.F.type_list_append mt_append (pv 6) (pa_cons (pe_lc (own := [("stand", 8)]) (g := (gName 8)) (tt := tYes) (by rfl) sc_law.nd (pi_list (pe_callB cr_sortedPO (by rfl) B.sorted (by decide +kernel) (pa_cons (pe_callTy (call_list_dT (by rfl)) (by rfl) B.list (by decide +kernel) (pa_cons (pv 7) pa_nil)) pa_nil))) (blkOk_by (own := [("stand", 8)]) (N := ["script", "draws", "wheel", "word", "slack", "great", "due", "row", "stand"]) (sc := defScope s_law) (by decide +kernel)) (fun _ _ _ _ _ => (pg_name (i := 8) sc_law.nd rfl (Or.inl rfl))) (fun _ _ _ _ _ => pts_nil) (fun _ _ _ _ _ => (pe_op op_catA (pv 8) (pe_tup (pa_cons (pe_ix ix_tup (pe_dget hu (pv 7) (pv 8) (fun _ _ => rfl)) pe_int (fun _ _ => rfl)) pa_nil))))) pa_nil)))))
      (pss_one (ps_ret (pe_cal c_law_right hr (by decide) (by rfl) (pa_cons (pv 2) (pa_cons (pv 3) (pa_cons (pv 4) (pa_cons (pv 6) pa_nil)))))))))))))))))), rd_law h⟩)
end
theorem all_mk {l : PySem.W.OpenLaw} {w : World} {K : PySem.W.Frag} {h : Heap} {mg : Str → Option Value} {fa : Addr} (Xk : K.In h) (G : h.Ns mainGlobals mg) (hfa : mg "law" = some (.ref fa))
    {f0 : Addr} {od0 an0 : Option Addr} {sl0 : Array (Option Value)} {oc0 kV0 dc0 pm0 cd0 ct0 : Value}
    {f1 : Addr} {od1 an1 : Option Addr} {sl1 : Array (Option Value)} {oc1 kV1 dc1 pm1 cd1 ct1 : Value}
    {f2 : Addr} {od2 an2 : Option Addr} {sl2 : Array (Option Value)} {oc2 kV2 dc2 pm2 cd2 ct2 : Value}
    {f3 : Addr} {od3 an3 : Option Addr} {sl3 : Array (Option Value)} {oc3 kV3 dc3 pm3 cd3 ct3 : Value}
    {f4 : Addr} {od4 an4 : Option Addr} {sl4 : Array (Option Value)} {oc4 kV4 dc4 pm4 cd4 ct4 : Value}
    {f5 : Addr} {od5 an5 : Option Addr} {sl5 : Array (Option Value)} {oc5 kV5 dc5 pm5 cd5 ct5 : Value}
    {f6 : Addr} {od6 an6 : Option Addr} {sl6 : Array (Option Value)} {oc6 kV6 dc6 pm6 cd6 ct6 : Value}
    {f7 : Addr} {od7 an7 : Option Addr} {sl7 : Array (Option Value)} {oc7 kV7 dc7 pm7 cd7 ct7 : Value}
    {f8 : Addr} {od8 an8 : Option Addr} {sl8 : Array (Option Value)} {oc8 kV8 dc8 pm8 cd8 ct8 : Value}
    {f9 : Addr} {od9 an9 : Option Addr} {sl9 : Array (Option Value)} {oc9 kV9 dc9 pm9 cd9 ct9 : Value}
    {f10 : Addr} {od10 an10 : Option Addr} {sl10 : Array (Option Value)} {oc10 kV10 dc10 pm10 cd10 ct10 : Value}
    {f11 : Addr} {od11 an11 : Option Addr} {sl11 : Array (Option Value)} {oc11 kV11 dc11 pm11 cd11 ct11 : Value}
    {f12 : Addr} {od12 an12 : Option Addr} {sl12 : Array (Option Value)} {oc12 kV12 dc12 pm12 cd12 ct12 : Value}
    {f13 : Addr} {od13 an13 : Option Addr} {sl13 : Array (Option Value)} {oc13 kV13 dc13 pm13 cd13 ct13 : Value}
    {f14 : Addr} {od14 an14 : Option Addr} {sl14 : Array (Option Value)} {oc14 kV14 dc14 pm14 cd14 ct14 : Value}
    {f15 : Addr} {od15 an15 : Option Addr} {sl15 : Array (Option Value)} {oc15 kV15 dc15 pm15 cd15 ct15 : Value}
    {f16 : Addr} {od16 an16 : Option Addr} {sl16 : Array (Option Value)} {oc16 kV16 dc16 pm16 cd16 ct16 : Value}
    {f17 : Addr} {od17 an17 : Option Addr} {sl17 : Array (Option Value)} {oc17 kV17 dc17 pm17 cd17 ct17 : Value}
    {f18 : Addr} {od18 an18 : Option Addr} {sl18 : Array (Option Value)} {oc18 kV18 dc18 pm18 cd18 ct18 : Value}
    {f19 : Addr} {od19 an19 : Option Addr} {sl19 : Array (Option Value)} {oc19 kV19 dc19 pm19 cd19 ct19 : Value}
    {f20 : Addr} {od20 an20 : Option Addr} {sl20 : Array (Option Value)} {oc20 kV20 dc20 pm20 cd20 ct20 : Value}
    {f21 : Addr} {od21 an21 : Option Addr} {sl21 : Array (Option Value)} {oc21 kV21 dc21 pm21 cd21 ct21 : Value}
    {f22 : Addr} {od22 an22 : Option Addr} {sl22 : Array (Option Value)} {oc22 kV22 dc22 pm22 cd22 ct22 : Value}
    {f23 : Addr} {od23 an23 : Option Addr} {sl23 : Array (Option Value)} {oc23 kV23 dc23 pm23 cd23 ct23 : Value}
    {f24 : Addr} {od24 an24 : Option Addr} {sl24 : Array (Option Value)} {oc24 kV24 dc24 pm24 cd24 ct24 : Value}
    {f25 : Addr} {od25 an25 : Option Addr} {sl25 : Array (Option Value)} {oc25 kV25 dc25 pm25 cd25 ct25 : Value}
    {f26 : Addr} {od26 an26 : Option Addr} {sl26 : Array (Option Value)} {oc26 kV26 dc26 pm26 cd26 ct26 : Value}
    {f27 : Addr} {od27 an27 : Option Addr} {sl27 : Array (Option Value)} {oc27 kV27 dc27 pm27 cd27 ct27 : Value}
    {t_LETTERS : Tok}
    {t_MOST_PLACES : Tok}
    {t_MOST_SIGNS : Tok}
    {t_MOST_SLACK : Tok}
    {C_Lacks C_NoSlack C_NoWheel C_NoWord : Addr}
    (a0 : PySem.W.nsIn K mainGlobals "_law_draws" = some (some (.ref f0))) (l0 : K.lookup f0 = some ⟨oc0, od0, .func (PySem.W.fnOf "_law_draws" "_law_draws" (defArgs s_law_draws) (defBody s_law_draws) (defScope s_law_draws) .none kV0 dc0 pm0 an0 cd0 ct0), sl0⟩) (c0 : PySem.W.codeIn K cd0 "_law_draws" = true) (k0 : PySem.W.keepIn K (.ref f0) = true)
    (a1 : PySem.W.nsIn K mainGlobals "_law_draw" = some (some (.ref f1))) (l1 : K.lookup f1 = some ⟨oc1, od1, .func (PySem.W.fnOf "_law_draw" "_law_draw" (defArgs s_law_draw) (defBody s_law_draw) (defScope s_law_draw) .none kV1 dc1 pm1 an1 cd1 ct1), sl1⟩) (c1 : PySem.W.codeIn K cd1 "_law_draw" = true) (k1 : PySem.W.keepIn K (.ref f1) = true)
    (a2 : PySem.W.nsIn K mainGlobals "_law_letters" = some (some (.ref f2))) (l2 : K.lookup f2 = some ⟨oc2, od2, .func (PySem.W.fnOf "_law_letters" "_law_letters" (defArgs s_law_letters) (defBody s_law_letters) (defScope s_law_letters) .none kV2 dc2 pm2 an2 cd2 ct2), sl2⟩) (c2 : PySem.W.codeIn K cd2 "_law_letters" = true) (k2 : PySem.W.keepIn K (.ref f2) = true)
    (a3 : PySem.W.nsIn K mainGlobals "_law_wheel" = some (some (.ref f3))) (l3 : K.lookup f3 = some ⟨oc3, od3, .func (PySem.W.fnOf "_law_wheel" "_law_wheel" (defArgs s_law_wheel) (defBody s_law_wheel) (defScope s_law_wheel) .none kV3 dc3 pm3 an3 cd3 ct3), sl3⟩) (c3 : PySem.W.codeIn K cd3 "_law_wheel" = true) (k3 : PySem.W.keepIn K (.ref f3) = true)
    (a4 : PySem.W.nsIn K mainGlobals "_law_small" = some (some (.ref f4))) (l4 : K.lookup f4 = some ⟨oc4, od4, .func (PySem.W.fnOf "_law_small" "_law_small" (defArgs s_law_small) (defBody s_law_small) (defScope s_law_small) .none kV4 dc4 pm4 an4 cd4 ct4), sl4⟩) (c4 : PySem.W.codeIn K cd4 "_law_small" = true) (k4 : PySem.W.keepIn K (.ref f4) = true)
    (a5 : PySem.W.nsIn K mainGlobals "_law_reach_turns" = some (some (.ref f5))) (l5 : K.lookup f5 = some ⟨oc5, od5, .func (PySem.W.fnOf "_law_reach_turns" "_law_reach_turns" (defArgs s_law_reach_turns) (defBody s_law_reach_turns) (defScope s_law_reach_turns) .none kV5 dc5 pm5 an5 cd5 ct5), sl5⟩) (c5 : PySem.W.codeIn K cd5 "_law_reach_turns" = true) (k5 : PySem.W.keepIn K (.ref f5) = true)
    (a6 : PySem.W.nsIn K mainGlobals "_law_plans" = some (some (.ref f6))) (l6 : K.lookup f6 = some ⟨oc6, od6, .func (PySem.W.fnOf "_law_plans" "_law_plans" (defArgs s_law_plans) (defBody s_law_plans) (defScope s_law_plans) .none kV6 dc6 pm6 an6 cd6 ct6), sl6⟩) (c6 : PySem.W.codeIn K cd6 "_law_plans" = true) (k6 : PySem.W.keepIn K (.ref f6) = true)
    (a7 : PySem.W.nsIn K mainGlobals "_law_step" = some (some (.ref f7))) (l7 : K.lookup f7 = some ⟨oc7, od7, .func (PySem.W.fnOf "_law_step" "_law_step" (defArgs s_law_step) (defBody s_law_step) (defScope s_law_step) .none kV7 dc7 pm7 an7 cd7 ct7), sl7⟩) (c7 : PySem.W.codeIn K cd7 "_law_step" = true) (k7 : PySem.W.keepIn K (.ref f7) = true)
    (a8 : PySem.W.nsIn K mainGlobals "_law_cost" = some (some (.ref f8))) (l8 : K.lookup f8 = some ⟨oc8, od8, .func (PySem.W.fnOf "_law_cost" "_law_cost" (defArgs s_law_cost) (defBody s_law_cost) (defScope s_law_cost) .none kV8 dc8 pm8 an8 cd8 ct8), sl8⟩) (c8 : PySem.W.codeIn K cd8 "_law_cost" = true) (k8 : PySem.W.keepIn K (.ref f8) = true)
    (a9 : PySem.W.nsIn K mainGlobals "_law_tried_all" = some (some (.ref f9))) (l9 : K.lookup f9 = some ⟨oc9, od9, .func (PySem.W.fnOf "_law_tried_all" "_law_tried_all" (defArgs s_law_tried_all) (defBody s_law_tried_all) (defScope s_law_tried_all) .none kV9 dc9 pm9 an9 cd9 ct9), sl9⟩) (c9 : PySem.W.codeIn K cd9 "_law_tried_all" = true) (k9 : PySem.W.keepIn K (.ref f9) = true)
    (a10 : PySem.W.nsIn K mainGlobals "are_signs" = some (some (.ref f10))) (l10 : K.lookup f10 = some ⟨oc10, od10, .func (PySem.W.fnOf "are_signs" "are_signs" (defArgs s_are_signs) (defBody s_are_signs) (defScope s_are_signs) .none kV10 dc10 pm10 an10 cd10 ct10), sl10⟩) (c10 : PySem.W.codeIn K cd10 "are_signs" = true) (k10 : PySem.W.keepIn K (.ref f10) = true)
    (a11 : PySem.W.nsIn K mainGlobals "is_word" = some (some (.ref f11))) (l11 : K.lookup f11 = some ⟨oc11, od11, .func (PySem.W.fnOf "is_word" "is_word" (defArgs s_is_word) (defBody s_is_word) (defScope s_is_word) .none kV11 dc11 pm11 an11 cd11 ct11), sl11⟩) (c11 : PySem.W.codeIn K cd11 "is_word" = true) (k11 : PySem.W.keepIn K (.ref f11) = true)
    (a12 : PySem.W.nsIn K mainGlobals "is_wheel" = some (some (.ref f12))) (l12 : K.lookup f12 = some ⟨oc12, od12, .func (PySem.W.fnOf "is_wheel" "is_wheel" (defArgs s_is_wheel) (defBody s_is_wheel) (defScope s_is_wheel) .none kV12 dc12 pm12 an12 cd12 ct12), sl12⟩) (c12 : PySem.W.codeIn K cd12 "is_wheel" = true) (k12 : PySem.W.keepIn K (.ref f12) = true)
    (a13 : PySem.W.nsIn K mainGlobals "look_at_wheel" = some (some (.ref f13))) (l13 : K.lookup f13 = some ⟨oc13, od13, .func (PySem.W.fnOf "look_at_wheel" "look_at_wheel" (defArgs s_look_at_wheel) (defBody s_look_at_wheel) (defScope s_look_at_wheel) .none kV13 dc13 pm13 an13 cd13 ct13), sl13⟩) (c13 : PySem.W.codeIn K cd13 "look_at_wheel" = true) (k13 : PySem.W.keepIn K (.ref f13) = true)
    (a14 : PySem.W.nsIn K mainGlobals "look_at_word" = some (some (.ref f14))) (l14 : K.lookup f14 = some ⟨oc14, od14, .func (PySem.W.fnOf "look_at_word" "look_at_word" (defArgs s_look_at_word) (defBody s_look_at_word) (defScope s_look_at_word) .none kV14 dc14 pm14 an14 cd14 ct14), sl14⟩) (c14 : PySem.W.codeIn K cd14 "look_at_word" = true) (k14 : PySem.W.keepIn K (.ref f14) = true)
    (a15 : PySem.W.nsIn K mainGlobals "look_at_slack" = some (some (.ref f15))) (l15 : K.lookup f15 = some ⟨oc15, od15, .func (PySem.W.fnOf "look_at_slack" "look_at_slack" (defArgs s_look_at_slack) (defBody s_look_at_slack) (defScope s_look_at_slack) .none kV15 dc15 pm15 an15 cd15 ct15), sl15⟩) (c15 : PySem.W.codeIn K cd15 "look_at_slack" = true) (k15 : PySem.W.keepIn K (.ref f15) = true)
    (a16 : PySem.W.nsIn K mainGlobals "look_at_errand" = some (some (.ref f16))) (l16 : K.lookup f16 = some ⟨oc16, od16, .func (PySem.W.fnOf "look_at_errand" "look_at_errand" (defArgs s_look_at_errand) (defBody s_look_at_errand) (defScope s_look_at_errand) .none kV16 dc16 pm16 an16 cd16 ct16), sl16⟩) (c16 : PySem.W.codeIn K cd16 "look_at_errand" = true) (k16 : PySem.W.keepIn K (.ref f16) = true)
    (a17 : PySem.W.nsIn K mainGlobals "turns_to" = some (some (.ref f17))) (l17 : K.lookup f17 = some ⟨oc17, od17, .func (PySem.W.fnOf "turns_to" "turns_to" (defArgs s_turns_to) (defBody s_turns_to) (defScope s_turns_to) .none kV17 dc17 pm17 an17 cd17 ct17), sl17⟩) (c17 : PySem.W.codeIn K cd17 "turns_to" = true) (k17 : PySem.W.keepIn K (.ref f17) = true)
    (a18 : PySem.W.nsIn K mainGlobals "way_of" = some (some (.ref f18))) (l18 : K.lookup f18 = some ⟨oc18, od18, .func (PySem.W.fnOf "way_of" "way_of" (defArgs s_way_of) (defBody s_way_of) (defScope s_way_of) .none kV18 dc18 pm18 an18 cd18 ct18), sl18⟩) (c18 : PySem.W.codeIn K cd18 "way_of" = true) (k18 : PySem.W.keepIn K (.ref f18) = true)
    (a19 : PySem.W.nsIn K mainGlobals "step_cost" = some (some (.ref f19))) (l19 : K.lookup f19 = some ⟨oc19, od19, .func (PySem.W.fnOf "step_cost" "step_cost" (defArgs s_step_cost) (defBody s_step_cost) (defScope s_step_cost) .none kV19 dc19 pm19 an19 cd19 ct19), sl19⟩) (c19 : PySem.W.codeIn K cd19 "step_cost" = true) (k19 : PySem.W.keepIn K (.ref f19) = true)
    (a20 : PySem.W.nsIn K mainGlobals "steps_from" = some (some (.ref f20))) (l20 : K.lookup f20 = some ⟨oc20, od20, .func (PySem.W.fnOf "steps_from" "steps_from" (defArgs s_steps_from) (defBody s_steps_from) (defScope s_steps_from) .none kV20 dc20 pm20 an20 cd20 ct20), sl20⟩) (c20 : PySem.W.codeIn K cd20 "steps_from" = true) (k20 : PySem.W.keepIn K (.ref f20) = true)
    (a21 : PySem.W.nsIn K mainGlobals "rows_from" = some (some (.ref f21))) (l21 : K.lookup f21 = some ⟨oc21, od21, .func (PySem.W.fnOf "rows_from" "rows_from" (defArgs s_rows_from) (defBody s_rows_from) (defScope s_rows_from) .none kV21 dc21 pm21 an21 cd21 ct21), sl21⟩) (c21 : PySem.W.codeIn K cd21 "rows_from" = true) (k21 : PySem.W.keepIn K (.ref f21) = true)
    (a22 : PySem.W.nsIn K mainGlobals "table" = some (some (.ref f22))) (l22 : K.lookup f22 = some ⟨oc22, od22, .func (PySem.W.fnOf "table" "table" (defArgs s_table) (defBody s_table) (defScope s_table) .none kV22 dc22 pm22 an22 cd22 ct22), sl22⟩) (c22 : PySem.W.codeIn K cd22 "table" = true) (k22 : PySem.W.keepIn K (.ref f22) = true)
    (a23 : PySem.W.nsIn K mainGlobals "_law_whole" = some (some (.ref f23))) (l23 : K.lookup f23 = some ⟨oc23, od23, .func (PySem.W.fnOf "_law_whole" "_law_whole" (defArgs s_law_whole) (defBody s_law_whole) (defScope s_law_whole) .none kV23 dc23 pm23 an23 cd23 ct23), sl23⟩) (c23 : PySem.W.codeIn K cd23 "_law_whole" = true) (k23 : PySem.W.keepIn K (.ref f23) = true)
    (a24 : PySem.W.nsIn K mainGlobals "_law_right" = some (some (.ref f24))) (l24 : K.lookup f24 = some ⟨oc24, od24, .func (PySem.W.fnOf "_law_right" "_law_right" (defArgs s_law_right) (defBody s_law_right) (defScope s_law_right) .none kV24 dc24 pm24 an24 cd24 ct24), sl24⟩) (c24 : PySem.W.codeIn K cd24 "_law_right" = true) (k24 : PySem.W.keepIn K (.ref f24) = true)
    (a25 : PySem.W.nsIn K mainGlobals "_law_word" = some (some (.ref f25))) (l25 : K.lookup f25 = some ⟨oc25, od25, .func (PySem.W.fnOf "_law_word" "_law_word" (defArgs s_law_word) (defBody s_law_word) (defScope s_law_word) .none kV25 dc25 pm25 an25 cd25 ct25), sl25⟩) (c25 : PySem.W.codeIn K cd25 "_law_word" = true) (k25 : PySem.W.keepIn K (.ref f25) = true)
    (a26 : PySem.W.nsIn K mainGlobals "_law_rows" = some (some (.ref f26))) (l26 : K.lookup f26 = some ⟨oc26, od26, .func (PySem.W.fnOf "_law_rows" "_law_rows" (defArgs s_law_rows) (defBody s_law_rows) (defScope s_law_rows) .none kV26 dc26 pm26 an26 cd26 ct26), sl26⟩) (c26 : PySem.W.codeIn K cd26 "_law_rows" = true) (k26 : PySem.W.keepIn K (.ref f26) = true)
    (a27 : PySem.W.nsIn K mainGlobals "law" = some (some (.ref f27))) (l27 : K.lookup f27 = some ⟨oc27, od27, .func (PySem.W.fnOf "law" "law" (defArgs s_law) (defBody s_law) (defScope s_law) .none kV27 dc27 pm27 an27 cd27 ct27), sl27⟩) (c27 : PySem.W.codeIn K cd27 "law" = true) (k27 : PySem.W.keepIn K (.ref f27) = true)
    (z_abs : PySem.W.nsIn K mainGlobals "abs" = some none)
    (z_bool : PySem.W.nsIn K mainGlobals "bool" = some none)
    (z_int : PySem.W.nsIn K mainGlobals "int" = some none)
    (z_isinstance : PySem.W.nsIn K mainGlobals "isinstance" = some none)
    (z_len : PySem.W.nsIn K mainGlobals "len" = some none)
    (z_list : PySem.W.nsIn K mainGlobals "list" = some none)
    (z_max : PySem.W.nsIn K mainGlobals "max" = some none)
    (z_min : PySem.W.nsIn K mainGlobals "min" = some none)
    (z_range : PySem.W.nsIn K mainGlobals "range" = some none)
    (z_sorted : PySem.W.nsIn K mainGlobals "sorted" = some none)
    (z_str : PySem.W.nsIn K mainGlobals "str" = some none)
    (z_sum : PySem.W.nsIn K mainGlobals "sum" = some none)
    (z_tuple : PySem.W.nsIn K mainGlobals "tuple" = some none)
    (g_LETTERS : PySem.W.nsIn K mainGlobals "LETTERS" = some (some (Value.str "abcdefghijklmnopqrstuvwxyz" t_LETTERS)))
    (g_MOST_PLACES : PySem.W.nsIn K mainGlobals "MOST_PLACES" = some (some (Value.int 30 t_MOST_PLACES)))
    (g_MOST_SIGNS : PySem.W.nsIn K mainGlobals "MOST_SIGNS" = some (some (Value.int 80 t_MOST_SIGNS)))
    (g_MOST_SLACK : PySem.W.nsIn K mainGlobals "MOST_SLACK" = some (some (Value.int 9 t_MOST_SLACK)))
    (gc_Lacks : PySem.W.nsIn K mainGlobals "Lacks" = some (some (.ref C_Lacks)))
    (gc_NoSlack : PySem.W.nsIn K mainGlobals "NoSlack" = some (some (.ref C_NoSlack)))
    (gc_NoWheel : PySem.W.nsIn K mainGlobals "NoWheel" = some (some (.ref C_NoWheel)))
    (gc_NoWord : PySem.W.nsIn K mainGlobals "NoWord" = some (some (.ref C_NoWord)))
    (x_Lacks : PySem.W.excIn K C_Lacks [.type "ValueError", .type "Exception", .type "BaseException", .type "object"] "ValueError.__new__" = true)
    (k_Lacks : PySem.W.keepIn K (.ref C_Lacks) = true)
    (b_Lacks : PySem.W.subIn K (.ref C_Lacks) (.type "BaseException") = some true)
    (t_Lacks : PySem.W.typeIn K (.ref C_Lacks) = some (.type "type"))
    (x_NoSlack : PySem.W.excIn K C_NoSlack [.type "ValueError", .type "Exception", .type "BaseException", .type "object"] "ValueError.__new__" = true)
    (k_NoSlack : PySem.W.keepIn K (.ref C_NoSlack) = true)
    (b_NoSlack : PySem.W.subIn K (.ref C_NoSlack) (.type "BaseException") = some true)
    (t_NoSlack : PySem.W.typeIn K (.ref C_NoSlack) = some (.type "type"))
    (x_NoWheel : PySem.W.excIn K C_NoWheel [.type "ValueError", .type "Exception", .type "BaseException", .type "object"] "ValueError.__new__" = true)
    (k_NoWheel : PySem.W.keepIn K (.ref C_NoWheel) = true)
    (b_NoWheel : PySem.W.subIn K (.ref C_NoWheel) (.type "BaseException") = some true)
    (t_NoWheel : PySem.W.typeIn K (.ref C_NoWheel) = some (.type "type"))
    (x_NoWord : PySem.W.excIn K C_NoWord [.type "ValueError", .type "Exception", .type "BaseException", .type "object"] "ValueError.__new__" = true)
    (k_NoWord : PySem.W.keepIn K (.ref C_NoWord) = true)
    (b_NoWord : PySem.W.subIn K (.ref C_NoWord) (.type "BaseException") = some true)
    (t_NoWord : PySem.W.typeIn K (.ref C_NoWord) = some (.type "type"))
    : ∃ fd : FuncData, (∀ (s : Shared) (v : Value), BindsTo s fd ⟨[v], []⟩ [("script", v)]) ∧ ∀ base : Heap, K.In base → base.Ns mainGlobals mg → FnOk l.prog w K mg base CX0 8 fa fd ["script"] (sp_law K) := by
  have e := hfa.symm.trans (PySem.W.mg_of Xk G a27)
  cases e
  have B : Bl mg := ⟨PySem.W.mg_none_of Xk G z_abs, PySem.W.mg_none_of Xk G z_bool, PySem.W.mg_none_of Xk G z_int, PySem.W.mg_none_of Xk G z_isinstance, PySem.W.mg_none_of Xk G z_len, PySem.W.mg_none_of Xk G z_list, PySem.W.mg_none_of Xk G z_max, PySem.W.mg_none_of Xk G z_min, PySem.W.mg_none_of Xk G z_range, PySem.W.mg_none_of Xk G z_sorted, PySem.W.mg_none_of Xk G z_str, PySem.W.mg_none_of Xk G z_sum, PySem.W.mg_none_of Xk G z_tuple, ⟨_, PySem.W.mg_of Xk G g_LETTERS, ⟨_, rfl⟩⟩, ⟨_, PySem.W.mg_of Xk G g_MOST_PLACES, ⟨_, rfl⟩⟩, ⟨_, PySem.W.mg_of Xk G g_MOST_SIGNS, ⟨_, rfl⟩⟩, ⟨_, PySem.W.mg_of Xk G g_MOST_SLACK, ⟨_, rfl⟩⟩⟩
  have X : Xf K mg (⟨C_Lacks, 0, 0, 0, 0, 0, 0, 0, C_NoSlack, 0, 0, C_NoWheel, C_NoWord, 0, 0⟩ : Cl) := ⟨PySem.W.mg_of Xk G gc_Lacks, PySem.W.mg_of Xk G gc_NoSlack, PySem.W.mg_of Xk G gc_NoWheel, PySem.W.mg_of Xk G gc_NoWord, x_Lacks, k_Lacks, b_Lacks, t_Lacks, x_NoSlack, k_NoSlack, b_NoSlack, t_NoSlack, x_NoWheel, k_NoWheel, b_NoWheel, t_NoWheel, x_NoWord, k_NoWord, b_NoWord, t_NoWord⟩
  have F0 := fun_mk (st := s_law_draws) l0 c0 k0
  have b0 := F0.binds (ps := ["script", "k"]) fun _ _ _ _ _ _ us hl => match us, hl with | [_, _], _ => rfl
  have F1 := fun_mk (st := s_law_draw) l1 c1 k1
  have b1 := F1.binds (ps := ["draws", "many"]) fun _ _ _ _ _ _ us hl => match us, hl with | [_, _], _ => rfl
  have F2 := fun_mk (st := s_law_letters) l2 c2 k2
  have b2 := F2.binds (ps := ["draws", "many", "kinds"]) fun _ _ _ _ _ _ us hl => match us, hl with | [_, _, _], _ => rfl
  have F3 := fun_mk (st := s_law_wheel) l3 c3 k3
  have b3 := F3.binds (ps := ["draws", "most"]) fun _ _ _ _ _ _ us hl => match us, hl with | [_, _], _ => rfl
  have F4 := fun_mk (st := s_law_small) l4 c4 k4
  have b4 := F4.binds (ps := ["draws"]) fun _ _ _ _ _ _ us hl => match us, hl with | [_], _ => rfl
  have F5 := fun_mk (st := s_law_reach_turns) l5 c5 k5
  have b5 := F5.binds (ps := ["wheel", "place", "sign"]) fun _ _ _ _ _ _ us hl => match us, hl with | [_, _, _], _ => rfl
  have F6 := fun_mk (st := s_law_plans) l6 c6 k6
  have b6 := F6.binds (ps := ["wheel", "word"]) fun _ _ _ _ _ _ us hl => match us, hl with | [_, _], _ => rfl
  have F7 := fun_mk (st := s_law_step) l7 c7 k7
  have b7 := F7.binds (ps := ["turn", "way", "slack"]) fun _ _ _ _ _ _ us hl => match us, hl with | [_, _, _], _ => rfl
  have F8 := fun_mk (st := s_law_cost) l8 c8 k8
  have b8 := F8.binds (ps := ["turns", "slack"]) fun _ _ _ _ _ _ us hl => match us, hl with | [_, _], _ => rfl
  have F9 := fun_mk (st := s_law_tried_all) l9 c9 k9
  have b9 := F9.binds (ps := ["wheel", "word", "slack"]) fun _ _ _ _ _ _ us hl => match us, hl with | [_, _, _], _ => rfl
  have F10 := fun_mk (st := s_are_signs) l10 c10 k10
  have b10 := F10.binds (ps := ["text"]) fun _ _ _ _ _ _ us hl => match us, hl with | [_], _ => rfl
  have F11 := fun_mk (st := s_is_word) l11 c11 k11
  have b11 := F11.binds (ps := ["thing"]) fun _ _ _ _ _ _ us hl => match us, hl with | [_], _ => rfl
  have F12 := fun_mk (st := s_is_wheel) l12 c12 k12
  have b12 := F12.binds (ps := ["thing"]) fun _ _ _ _ _ _ us hl => match us, hl with | [_], _ => rfl
  have F13 := fun_mk (st := s_look_at_wheel) l13 c13 k13
  have b13 := F13.binds (ps := ["wheel"]) fun _ _ _ _ _ _ us hl => match us, hl with | [_], _ => rfl
  have F14 := fun_mk (st := s_look_at_word) l14 c14 k14
  have b14 := F14.binds (ps := ["word"]) fun _ _ _ _ _ _ us hl => match us, hl with | [_], _ => rfl
  have F15 := fun_mk (st := s_look_at_slack) l15 c15 k15
  have b15 := F15.binds (ps := ["slack"]) fun _ _ _ _ _ _ us hl => match us, hl with | [_], _ => rfl
  have F16 := fun_mk (st := s_look_at_errand) l16 c16 k16
  have b16 := F16.binds (ps := ["wheel", "word", "slack"]) fun _ _ _ _ _ _ us hl => match us, hl with | [_, _, _], _ => rfl
  have F17 := fun_mk (st := s_turns_to) l17 c17 k17
  have b17 := F17.binds (ps := ["wheel", "place", "sign"]) fun _ _ _ _ _ _ us hl => match us, hl with | [_, _, _], _ => rfl
  have F18 := fun_mk (st := s_way_of) l18 c18 k18
  have b18 := F18.binds (ps := ["turn", "way"]) fun _ _ _ _ _ _ us hl => match us, hl with | [_, _], _ => rfl
  have F19 := fun_mk (st := s_step_cost) l19 c19 k19
  have b19 := F19.binds (ps := ["turn", "way", "slack"]) fun _ _ _ _ _ _ us hl => match us, hl with | [_, _, _], _ => rfl
  have F20 := fun_mk (st := s_steps_from) l20 c20 k20
  have b20 := F20.binds (ps := ["wheel", "stand", "sign", "slack"]) fun _ _ _ _ _ _ us hl => match us, hl with | [_, _, _, _], _ => rfl
  have F21 := fun_mk (st := s_rows_from) l21 c21 k21
  have b21 := F21.binds (ps := ["wheel", "word", "slack", "place"]) fun _ _ _ _ _ _ us hl => match us, hl with | [_, _, _, _], _ => rfl
  have F22 := fun_mk (st := s_table) l22 c22 k22
  have b22 := F22.binds (ps := ["wheel", "word", "slack"]) fun _ _ _ _ _ _ us hl => match us, hl with | [_, _, _], _ => rfl
  have F23 := fun_mk (st := s_law_whole) l23 c23 k23
  have b23 := F23.binds (ps := ["found"]) fun _ _ _ _ _ _ us hl => match us, hl with | [_], _ => rfl
  have F24 := fun_mk (st := s_law_right) l24 c24 k24
  have b24 := F24.binds (ps := ["wheel", "word", "slack", "due"]) fun _ _ _ _ _ _ us hl => match us, hl with | [_, _, _, _], _ => rfl
  have F25 := fun_mk (st := s_law_word) l25 c25 k25
  have b25 := F25.binds (ps := ["draws", "wheel", "most"]) fun _ _ _ _ _ _ us hl => match us, hl with | [_, _, _], _ => rfl
  have F26 := fun_mk (st := s_law_rows) l26 c26 k26
  have b26 := F26.binds (ps := ["wheel", "word", "slack", "place"]) fun _ _ _ _ _ _ us hl => match us, hl with | [_, _, _, _], _ => rfl
  have F27 := fun_mk (st := s_law) l27 c27 k27
  refine ⟨PySem.W.fnOf "law" "law" (defArgs s_law) (defBody s_law) (defScope s_law) .none kV27 dc27 pm27 an27 cd27 ct27, fun s v => .of_eq rfl, fun base _ _ => ?_⟩
  have C_law_draws := ok_law_draws (P := l.prog) (w := w) (base := base) F0 (PySem.W.mg_of Xk G a0) b0 B X 
  have C_law_draw := ok_law_draw (P := l.prog) (w := w) (base := base) F1 (PySem.W.mg_of Xk G a1) b1 B X 
  have C_law_letters := ok_law_letters (P := l.prog) (w := w) (base := base) F2 (PySem.W.mg_of Xk G a2) b2 B X C_law_draw
  have C_law_wheel := ok_law_wheel (P := l.prog) (w := w) (base := base) F3 (PySem.W.mg_of Xk G a3) b3 B X C_law_draw C_law_letters
  have C_law_small := ok_law_small (P := l.prog) (w := w) (base := base) F4 (PySem.W.mg_of Xk G a4) b4 B X C_law_wheel C_law_draw
  have C_law_reach_turns := ok_law_reach_turns (P := l.prog) (w := w) (base := base) F5 (PySem.W.mg_of Xk G a5) b5 B X 
  have C_law_plans := ok_law_plans (P := l.prog) (w := w) (base := base) F6 (PySem.W.mg_of Xk G a6) b6 B X C_law_reach_turns
  have C_law_step := ok_law_step (P := l.prog) (w := w) (base := base) F7 (PySem.W.mg_of Xk G a7) b7 B X 
  have C_law_cost := ok_law_cost (P := l.prog) (w := w) (base := base) F8 (PySem.W.mg_of Xk G a8) b8 B X C_law_step
  have C_law_tried_all := ok_law_tried_all (P := l.prog) (w := w) (base := base) F9 (PySem.W.mg_of Xk G a9) b9 B X C_law_plans C_law_step C_law_cost
  have C_are_signs := ok_are_signs (P := l.prog) (w := w) (base := base) F10 (PySem.W.mg_of Xk G a10) b10 B X 
  have C_is_word := ok_is_word (P := l.prog) (w := w) (base := base) F11 (PySem.W.mg_of Xk G a11) b11 B X C_are_signs
  have C_is_wheel := ok_is_wheel (P := l.prog) (w := w) (base := base) F12 (PySem.W.mg_of Xk G a12) b12 B X C_is_word
  have CX_look_at_wheel := okx_look_at_wheel (P := l.prog) (w := w) (base := base) F13 (PySem.W.mg_of Xk G a13) b13 B X C_is_wheel
  have CX_look_at_word := okx_look_at_word (P := l.prog) (w := w) (base := base) F14 (PySem.W.mg_of Xk G a14) b14 B X C_is_word
  have CX_look_at_slack := okx_look_at_slack (P := l.prog) (w := w) (base := base) F15 (PySem.W.mg_of Xk G a15) b15 B X 
  have CX_look_at_errand := okx_look_at_errand (P := l.prog) (w := w) (base := base) F16 (PySem.W.mg_of Xk G a16) b16 B X CX_look_at_wheel CX_look_at_word CX_look_at_slack
  have C_turns_to := ok_turns_to (P := l.prog) (w := w) (base := base) F17 (PySem.W.mg_of Xk G a17) b17 B X 
  have C_way_of := ok_way_of (P := l.prog) (w := w) (base := base) F18 (PySem.W.mg_of Xk G a18) b18 B X 
  have C_step_cost := ok_step_cost (P := l.prog) (w := w) (base := base) F19 (PySem.W.mg_of Xk G a19) b19 B X C_way_of
  have C_steps_from := ok_steps_from (P := l.prog) (w := w) (base := base) F20 (PySem.W.mg_of Xk G a20) b20 B X C_turns_to C_way_of C_step_cost
  have C_rows_from := ok_rows_from (P := l.prog) (w := w) (base := base) F21 (PySem.W.mg_of Xk G a21) b21 B X C_steps_from
  have CX_table := okx_table (P := l.prog) (w := w) (base := base) F22 (PySem.W.mg_of Xk G a22) b22 B X CX_look_at_errand C_rows_from
  have C_law_whole := ok_law_whole (P := l.prog) (w := w) (base := base) F23 (PySem.W.mg_of Xk G a23) b23 B X 
  have C_law_right := ok_law_right (P := l.prog) (w := w) (base := base) F24 (PySem.W.mg_of Xk G a24) b24 B X CX_table C_law_whole
  have C_law_word := ok_law_word (P := l.prog) (w := w) (base := base) F25 (PySem.W.mg_of Xk G a25) b25 B X C_law_draw
  have C_law_rows := ok_law_rows (P := l.prog) (w := w) (base := base) F26 (PySem.W.mg_of Xk G a26) b26 B X C_law_reach_turns C_law_step
  exact ok_law F27 B X C_law_draws C_law_small C_law_draw C_law_tried_all C_law_right C_law_letters C_law_wheel C_law_word C_law_rows
end Sw
open PySem PySem.W PyProof.Rows
set_option maxHeartbeats 0 in
theorem PySem.Challenge.cw_strikewheel_k06_tables_holds : PySem.Challenge.rw_strikewheel_k06_tables.Holds := by
  w_on; o_law; k_head; (case hw => w_witness2)
  k_fill
  refine L2.walk_of (l := PySem.Challenge.rw_strikewheel_k06_tables) (n := 63) (k := 8) (x := "script") (CX := fun _ => L2.CX0) (sp := fun w => Sw.sp_law _) rfl (by decide) rfl ⟨rfl, by decide, by decide⟩ (fun w h Y => PySem.W.kIn_of Y) ?F (fun _ _ a ns hl _ hS => ⟨a, ns, rfl, hS, hl, fun _ => rfl⟩) (fun _ _ _ _ _ h => h)
  case F =>
    intro w mg fa h KX G hmg
    refine' Sw.all_mk KX G hmg ?a0 ?l0 ?c0 ?k0 ?a1 ?l1 ?c1 ?k1 ?a2 ?l2 ?c2 ?k2 ?a3 ?l3 ?c3 ?k3 ?a4 ?l4 ?c4 ?k4 ?a5 ?l5 ?c5 ?k5 ?a6 ?l6 ?c6 ?k6 ?a7 ?l7 ?c7 ?k7 ?a8 ?l8 ?c8 ?k8 ?a9 ?l9 ?c9 ?k9 ?a10 ?l10 ?c10 ?k10 ?a11 ?l11 ?c11 ?k11 ?a12 ?l12 ?c12 ?k12 ?a13 ?l13 ?c13 ?k13 ?a14 ?l14 ?c14 ?k14 ?a15 ?l15 ?c15 ?k15 ?a16 ?l16 ?c16 ?k16 ?a17 ?l17 ?c17 ?k17 ?a18 ?l18 ?c18 ?k18 ?a19 ?l19 ?c19 ?k19 ?a20 ?l20 ?c20 ?k20 ?a21 ?l21 ?c21 ?k21 ?a22 ?l22 ?c22 ?k22 ?a23 ?l23 ?c23 ?k23 ?a24 ?l24 ?c24 ?k24 ?a25 ?l25 ?c25 ?k25 ?a26 ?l26 ?c26 ?k26 ?a27 ?l27 ?c27 ?k27 ?z_abs ?z_bool ?z_int ?z_isinstance ?z_len ?z_list ?z_max ?z_min ?z_range ?z_sorted ?z_str ?z_sum ?z_tuple ?g_LETTERS ?g_MOST_PLACES ?g_MOST_SIGNS ?g_MOST_SLACK ?gc_Lacks ?gc_NoSlack ?gc_NoWheel ?gc_NoWord ?x_Lacks ?k_Lacks ?b_Lacks ?t_Lacks ?x_NoSlack ?k_NoSlack ?b_NoSlack ?t_NoSlack ?x_NoWheel ?k_NoWheel ?b_NoWheel ?t_NoWheel ?x_NoWord ?k_NoWord ?b_NoWord ?t_NoWord
    (case a0 => k_is); (case l0 => k_is); (case c0 => k_is); (case k0 => k_is); (case a1 => k_is); (case l1 => k_is)
    (case c1 => k_is); (case k1 => k_is); (case a2 => k_is); (case l2 => k_is); (case c2 => k_is); (case k2 => k_is)
    (case a3 => k_is); (case l3 => k_is); (case c3 => k_is); (case k3 => k_is); (case a4 => k_is); (case l4 => k_is)
    (case c4 => k_is); (case k4 => k_is); (case a5 => k_is); (case l5 => k_is); (case c5 => k_is); (case k5 => k_is)
    (case a6 => k_is); (case l6 => k_is); (case c6 => k_is); (case k6 => k_is); (case a7 => k_is); (case l7 => k_is)
    (case c7 => k_is); (case k7 => k_is); (case a8 => k_is); (case l8 => k_is); (case c8 => k_is); (case k8 => k_is)
    (case a9 => k_is); (case l9 => k_is); (case c9 => k_is); (case k9 => k_is); (case a10 => k_is); (case l10 => k_is)
    (case c10 => k_is); (case k10 => k_is); (case a11 => k_is); (case l11 => k_is); (case c11 => k_is); (case k11 => k_is)
    (case a12 => k_is); (case l12 => k_is); (case c12 => k_is); (case k12 => k_is); (case a13 => k_is); (case l13 => k_is)
    (case c13 => k_is); (case k13 => k_is); (case a14 => k_is); (case l14 => k_is); (case c14 => k_is); (case k14 => k_is)
    (case a15 => k_is); (case l15 => k_is); (case c15 => k_is); (case k15 => k_is); (case a16 => k_is); (case l16 => k_is)
    (case c16 => k_is); (case k16 => k_is); (case a17 => k_is); (case l17 => k_is); (case c17 => k_is); (case k17 => k_is)
    (case a18 => k_is); (case l18 => k_is); (case c18 => k_is); (case k18 => k_is); (case a19 => k_is); (case l19 => k_is)
    (case c19 => k_is); (case k19 => k_is); (case a20 => k_is); (case l20 => k_is); (case c20 => k_is); (case k20 => k_is)
    (case a21 => k_is); (case l21 => k_is); (case c21 => k_is); (case k21 => k_is); (case a22 => k_is); (case l22 => k_is)
    (case c22 => k_is); (case k22 => k_is); (case a23 => k_is); (case l23 => k_is); (case c23 => k_is); (case k23 => k_is)
    (case a24 => k_is); (case l24 => k_is); (case c24 => k_is); (case k24 => k_is); (case a25 => k_is); (case l25 => k_is)
    (case c25 => k_is); (case k25 => k_is); (case a26 => k_is); (case l26 => k_is); (case c26 => k_is); (case k26 => k_is)
    (case a27 => k_is); (case l27 => k_is); (case c27 => k_is); (case k27 => k_is); (case z_abs => k_is); (case z_bool => k_is)
    (case z_int => k_is); (case z_isinstance => k_is); (case z_len => k_is); (case z_list => k_is); (case z_max => k_is); (case z_min => k_is)
    (case z_range => k_is); (case z_sorted => k_is); (case z_str => k_is); (case z_sum => k_is); (case z_tuple => k_is); (case g_LETTERS => k_is)
    (case g_MOST_PLACES => k_is); (case g_MOST_SIGNS => k_is); (case g_MOST_SLACK => k_is); (case gc_Lacks => k_is); (case gc_NoSlack => k_is); (case gc_NoWheel => k_is)
    (case gc_NoWord => k_is); (case x_Lacks => k_exc); (case k_Lacks => k_is); (case b_Lacks => k_is); (case t_Lacks => k_is); (case x_NoSlack => k_exc)
    (case k_NoSlack => k_is); (case b_NoSlack => k_is); (case t_NoSlack => k_is); (case x_NoWheel => k_exc); (case k_NoWheel => k_is); (case b_NoWheel => k_is)
    (case t_NoWheel => k_is); (case x_NoWord => k_exc); (case k_NoWord => k_is); (case b_NoWord => k_is); (case t_NoWord => k_is)
