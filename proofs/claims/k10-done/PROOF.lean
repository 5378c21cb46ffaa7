import PyProof.Rows.All
import Wide.All
import OpenK.AllK
import Wide.FinOn
import HandS.ForMost
import HandS.ForExc
import HandS.EndBits
import HandS.Wide
import HandS.IsInst
import HandS.RaiseMore
import HandS.Conv
import KE.IntTextLaws
import PySem.Challenge.RW_handflow_k10_done
set_option Elab.async false
set_option linter.all false
set_option maxRecDepth 100000
set_option maxHeartbeats 4000000
namespace Hf
open PySem PySem.Spec L2 PyProof.Rows
section
variable {X : Cx} {e a b c : Expr} {pos : Pos} {ta tb tc : TE}
theorem pe_w {t t' : TE} (h : PE X e t) (w : ∀ σ H Q, t' σ H Q → t σ H Q) : PE X e t' := ⟨fun pins s σ H Q I q => h.run pins s σ H Q I (w _ _ _ q)⟩
theorem pt_w {t t' : TT} (h : PT X e t) (w : ∀ σ H Q, t' σ H Q → t σ H Q) : PT X e t' := ⟨fun pins s σ H Q I q => h.run pins s σ H Q I (w _ _ _ q)⟩
theorem ps_w {st : Stmt} {t t' : TS} (h : PS X st t) (w : ∀ D σ H, t' D σ H → t D σ H) : PS X st t' := ⟨fun pins s σ H D I q => h.run pins s σ H D I (w _ _ _ q)⟩
theorem op_w {f : Value → Value → Sem Value} {r r' : R2} (h : OpR X f r) (w : ∀ x y H Q, r' x y H Q → r x y H Q) : OpR X f r' := fun pins s σ H x y v u Q I rx ry q => h pins s σ H x y v u Q I rx ry (w _ _ _ _ q)

/-! names, constants -/
def eVar (i : Nat) (σ : L2.St) (H : Hp) (Q : VK) : Prop := match σ[i]? with
  | some (some v) => Q v H
  | _ => False
theorem dVar (i : Nat) {x : Str} (hN : X.N[i]? = some x := by rfl) (hv : Vis X.env.scope x := by first | exact Or.inl rfl | exact Or.inr (Or.inl rfl) | exact Or.inr (Or.inr rfl))
    (hd : (x == ("__debug__" : Str)) = false := by decide) (hcd : (x == ("__classdict__" : Str)) = false := by decide) : PE X (.Name x pos) (eVar i) :=
  pe_w (pe_var hN hv hd hcd) fun σ H Q q => by
    unfold eVar at q
    split at q
    · exact ⟨_, by assumption, q⟩
    · exact q.elim
def eLit (v : V) (_ : L2.St) (H : Hp) (Q : VK) : Prop := Q v H
theorem dInt {i : Int} {j} : PE X (.Constant (.int i) j pos) (eLit (.int i)) := pe_int
theorem dBl {i : Bool} {j} : PE X (.Constant (.bool i) j pos) (eLit (.bl i)) := pe_bl
theorem dNon {j} : PE X (.Constant .none j pos) (eLit .non) := pe_non
theorem dStr {x : Str} {j} : PE X (.Constant (.str x) j pos) (eLit (.str x)) := pe_str
/-! operators -/
def eBin (r : R2) (ta tb : TE) (σ : L2.St) (H : Hp) (Q : VK) : Prop := ta σ H fun x H1 => tb σ H1 fun y H2 => r x y H2 Q
def eUn (r : V → Hp → VK → Prop) (ta : TE) (σ : L2.St) (H : Hp) (Q : VK) : Prop := ta σ H fun x H1 => r x H1 Q
theorem dBin {op : Operator} {r : R2} (ho : OpR X (binaryOp op) r) (ha : PE X a ta) (hb : PE X b tb) : PE X (.BinOp a op b pos) (eBin r ta tb) := pe_op ho ha hb
theorem dUn {op : UnaryOp} {r : V → Hp → VK → Prop} (ho : UnR X (unaryOp op) r) (ha : PE X a ta) : PE X (.UnaryOp op a pos) (eUn r ta) := pe_un ho ha

/-- two ints, what is asked of them, the answer -/
def uII (C : Int → Int → Prop) (g : Int → Int → V) (x y : V) (H : Hp) (Q : VK) : Prop := match x, y with
  | .int i, .int j => C i j ∧ Q (g i j) H
  | _, _ => False
def uI2 (g : Int → Int → V) (x y : V) (H : Hp) (Q : VK) : Prop := match x, y with
  | .int i, .int j => Q (g i j) H
  | _, _ => False
theorem uII_of {f : Value → Value → Sem Value} {C : Int → Int → Prop} {g : Int → Int → V} (h : OpR X f (rI C g)) : OpR X f (uII C g) := op_w h fun x y H Q q => by
  unfold uII at q
  split at q
  · exact ⟨_, _, rfl, rfl, q⟩
  · exact q.elim
theorem uI2_of {f : Value → Value → Sem Value} {g : Int → Int → V} (h : OpR X f (rI0 g)) : OpR X f (uI2 g) := op_w h fun x y H Q q => by
  unfold uI2 at q
  split at q
  · exact ⟨_, _, rfl, rfl, q⟩
  · exact q.elim
/-- lists are joined, or tuples -/
def catR (K : PySem.W.Frag) (a b : Addr) (H : Hp) (Q : VK) : Prop :=
  (∃ xs ys, SqL K H a xs ∧ SqL K H b ys ∧ xs.length + ys.length ≤ sizeLine ∧ ∀ p, H p = none → Q (.ref p) (upd H p (.lst (xs ++ ys)))) ∨
  (∃ xs ys, SqT K H a xs ∧ SqT K H b ys ∧ xs ≠ [] ∧ ys ≠ [] ∧ xs.length + ys.length ≤ sizeLine ∧ ∀ p, H p = none → Q (.ref p) (upd H p (.tup (xs ++ ys))))
def uAdd (K : PySem.W.Frag) (x y : V) (H : Hp) (Q : VK) : Prop := match x, y with
  | .int i, .int j => Q (.int (i + j)) H
  | .str i, .str j => i.length + j.length ≤ sizeLine ∧ Q (.str (i ++ j)) H
  | .ref i, .ref j => catR K i j H Q
  | _, _ => False

theorem cat_seq : ∀ {pins : List (Addr × Obj)} {s : Shared} {σ : L2.St} {H : Hp} {i j : Addr} {Q : VK}, Inv X pins σ H s → catR X.K i j H Q → wpAny (model X.prog X.w) X.A (binaryOp .Add (.ref i) (.ref j)) (EP X pins σ Q) X.xe s := by
  intro pins s σ H i j Q I h
  rcases h with ⟨xs, ys, h1, h2, hz, q⟩ | ⟨xs, ys, h1, h2, n1, n2, hz, q⟩
  · obtain ⟨i1, r1, ⟨⟨cls, dd, data, sl⟩, n, ho, hc, _, hd⟩, _⟩ := I.list h1
    obtain ⟨i2, r2, ⟨⟨cls2, dd2, data2, sl2⟩, m, ho2, hc2, _, hd2⟩, _⟩ := I.list h2
    simp only at hc hd hc2 hd2
    subst hc hd hc2 hd2
    have l1 := r1.length
    have l2 := r2.length
    have ee : i1.toArray ++ i2.toArray = (i1 ++ i2).toArray := by simp
    refine concat_meets ⟨_, ho, rfl⟩ ⟨_, ho2, rfl⟩ noFill_list_add seq_list_add PySem.F.slot_list_add PySem.F.entry_list_add (PySem.F.args_list_add_2 _ _) (list_addW i j i1.toArray i2.toArray n m dd dd2 sl sl2 (by rw [List.size_toArray, List.size_toArray]; omega)) ⟨ho, ho2, ?_⟩
    rw [ee]
    exact ⟨.ref _, _, I.lnew (t' := s.toks) (r1.append r2) (by rw [List.length_append]; omega), rfl, q _ I.fresh⟩
  · exact op_catT pins s σ H (.ref i) (.ref j) (.ref i) (.ref j) Q I rfl rfl ⟨i, j, xs, ys, rfl, rfl, h1, h2, n1, hz, fun z => absurd z n2, fun _ => q⟩
theorem oAdd : OpR X (binaryOp .Add) (uAdd X.K) := by
  intro pins s σ H x y v u Q I rx ry h
  unfold uAdd at h
  split at h
  · exact op_add pins s σ H _ _ v u Q I rx ry ⟨_, _, rfl, rfl, h⟩
  · exact op_add_str pins s σ H _ _ v u Q I rx ry ⟨_, _, rfl, rfl, h⟩
  · cases rx
    cases ry
    exact cat_seq I h
  · exact h.elim
theorem oSub : OpR X (binaryOp .Sub) (uI2 fun i j => .int (i - j)) := uI2_of op_sub
/-- ints, or a text some times over -/
def repS (z : Str) (k : Int) : Str := ⟨(List.replicate k.toNat z.cps.toList).flatten.toArray⟩
def uMul (x y : V) (H : Hp) (Q : VK) : Prop := match x, y with
  | .int i, .int j => IntMulOk i j ∧ Q (.int (i * j)) H
  | .str z, .int k => k ≤ 1000000 ∧ -1000000 ≤ k ∧ z.length ≤ 16 ∧ Q (.str (repS z k)) H
  | _, _ => False
theorem rep_cps (cs : Array Nat) : ∀ (m : Nat), (List.replicate m cs).foldl (· ++ ·) #[] = (List.replicate m cs.toList).flatten.toArray := by
  intro m
  have gen : ∀ (m : Nat) (acc : Array Nat), (List.replicate m cs).foldl (· ++ ·) acc = acc ++ (List.replicate m cs.toList).flatten.toArray := by
    intro m
    induction m with
    | zero => intro acc; simp
    | succ m ih =>
      intro acc
      rw [List.replicate_succ, List.foldl_cons, ih, List.replicate_succ, List.flatten_cons]
      simp [Array.append_assoc, ← List.append_toArray]
  rw [gen]
  simp
theorem oMul : OpR X (binaryOp .Mult) uMul := by
  intro pins s σ H x y v u Q I rx ry h
  unfold uMul at h
  split at h
  · obtain ⟨t, rfl⟩ := rx
    obtain ⟨t', rfl⟩ := ry
    exact mul_int ⟨.int _, H, I.tok _, ⟨_, rfl⟩, h.2⟩ h.1
  · rename_i z k
    obtain ⟨h1, h2, hz, q⟩ := h
    obtain ⟨t, rfl⟩ := rx
    obtain ⟨t', rfl⟩ := ry
    have hsz : sizeLine = 16777216 := sizeLine_eq
    refine PySem.P.mul_str ?_ ?_ ?_ ?_
    · rw [decide_eq_false (by omega), decide_eq_false (by omega)]; rfl
    · intro a b
      have : (16 : Int) ≤ (2 ^ 63 - 1) / k := by
        rw [Int.le_ediv_iff_mul_le (by omega)]
        omega
      omega
    · intro a b
      unfold Builtin.Str.tooLong
      have e : z.length * k.toNat ≤ 16 * 1000000 := Nat.mul_le_mul hz (by omega)
      have e2 : ¬ sizeLine < z.length * k.toNat := by omega
      simp [e2]
    · split
      · have e : repS z k = Str.empty := by
          have : k.toNat = 0 := by omega
          unfold repS
          rw [this]
          rfl
        rw [e] at q
        exact ⟨by decide, ⟨.str _, H, I.tok _, ⟨_, rfl⟩, q⟩⟩
      · split
        · rename_i a b
          have e : repS z k = z := by
            unfold repS
            rw [Bool.or_eq_true, beq_iff_eq, beq_iff_eq] at b
            rcases b with b | b
            · have : k.toNat = 1 := by omega
              rw [this]
              simp
            · have : z.cps = #[] := Array.eq_empty_of_size_eq_zero b
              cases z
              simp only at this
              subst this
              simp
          rw [e] at q
          exact ⟨.str _, H, I, ⟨_, rfl⟩, q⟩
        · refine ⟨?_, ⟨.str _, H, I.tok _, ⟨_, rfl⟩, ?_⟩⟩
          · rw [rep_cps]
            show (_ : Nat) ≤ _
            have e : z.length * k.toNat ≤ 16 * 1000000 := Nat.mul_le_mul hz (by omega)
            simp [Str.length] at e ⊢
            rw [Nat.mul_comm]
            omega
          · rw [rep_cps]
            exact q
  · exact h.elim
theorem oDiv : OpR X (binaryOp .FloorDiv) (uII CDivW fun i j => .int (i / j)) := uII_of op_fdivW
theorem oMod : OpR X (binaryOp .Mod) (uII (fun _ j => 0 < j) fun i j => .int (i % j)) := uII_of op_mod
theorem oPow : OpR X (binaryOp .Pow) (uII CPow fun i j => .int (i ^ j.toNat)) := uII_of op_pow
theorem oAnd : OpR X (binaryOp .BitAnd) (uI2 fun i j => .int (Builtin.bitAnd i j)) := uI2_of op_and
theorem oOr : OpR X (binaryOp .BitOr) (uI2 fun i j => .int (Builtin.bitOr i j)) := uI2_of op_or
theorem oXor : OpR X (binaryOp .BitXor) (uI2 fun i j => .int (Builtin.bitXor i j)) := uI2_of op_xor
def uNeg (x : V) (H : Hp) (Q : VK) : Prop := match x with
  | .int i => Q (.int (-i)) H
  | _ => False
theorem oNeg : UnR X (unaryOp .USub) uNeg := fun pins s σ H x v Q I rx h => by
  unfold uNeg at h
  split at h
  · exact un_neg pins s σ H _ v Q I rx ⟨_, rfl, h⟩
  · exact h.elim
/-! comparisons -/
theorem oLt : OpR X (compareOp .Lt) (uI2 fun i j => .bl (decide (i < j))) := uI2_of op_lt
theorem oLe : OpR X (compareOp .LtE) (uI2 fun i j => .bl (decide (i ≤ j))) := uI2_of op_le
theorem oGt : OpR X (compareOp .Gt) (uI2 fun i j => .bl (decide (j < i))) := uI2_of op_gt
theorem oGe : OpR X (compareOp .GtE) (uI2 fun i j => .bl (decide (j ≤ i))) := uI2_of op_ge
/-- data of any depth is compared by what it tells -/
def eqD (K : PySem.W.Frag) (x y : V) (H : Hp) (k : Bool → Prop) : Prop := ∃ d e, Dp K H x d ∧ Dp K H y e ∧ SeqAt.shaped d = true ∧ SeqAt.shaped e = true ∧ k (PyData.eqv d e)
def uEq (K : PySem.W.Frag) (x y : V) (H : Hp) (Q : VK) : Prop := match x, y with
  | .int i, .int j => Q (.bl (decide (i = j))) H
  | .str i, .str j => Q (.bl (decide (i = j))) H
  | .bl i, .bl j => Q (.bl (decide (i = j))) H
  | .ref a, y => eqD K (.ref a) y H fun b => Q (.bl (b)) H
  | x, .ref b => eqD K x (.ref b) H fun b => Q (.bl (b)) H
  | x, y => scal x y = true ∧ Q (.bl (decide (x = y))) H
def uNe (K : PySem.W.Frag) (x y : V) (H : Hp) (Q : VK) : Prop := match x, y with
  | .int i, .int j => Q (.bl (!decide (i = j))) H
  | .str i, .str j => Q (.bl (!decide (i = j))) H
  | .bl i, .bl j => Q (.bl (!decide (i = j))) H
  | .ref a, y => eqD K (.ref a) y H fun b => Q (.bl (!b)) H
  | x, .ref b => eqD K x (.ref b) H fun b => Q (.bl (!b)) H
  | x, y => scal x y = true ∧ Q (.bl (!decide (x = y))) H
theorem oEq (hu : X.A.units + 64 < cLine) : OpR X (compareOp .Eq) (uEq X.K) := by
  intro pins s σ H x y v u Q I rx ry h
  unfold uEq at h
  split at h
  · exact op_eq pins s σ H _ _ v u Q I rx ry ⟨rfl, by simpa using h⟩
  · exact op_eq pins s σ H _ _ v u Q I rx ry ⟨rfl, by simpa using h⟩
  · exact op_eq pins s σ H _ _ v u Q I rx ry ⟨rfl, by simpa using h⟩
  · exact op_eqD hu pins s σ H _ _ v u Q I rx ry h
  · exact op_eqD hu pins s σ H _ _ v u Q I rx ry h
  · exact op_eq pins s σ H _ _ v u Q I rx ry h
theorem oNe (hu : X.A.units + 64 < cLine) : OpR X (compareOp .NotEq) (uNe X.K) := by
  intro pins s σ H x y v u Q I rx ry h
  unfold uNe at h
  split at h
  · exact op_ne pins s σ H _ _ v u Q I rx ry ⟨rfl, by simpa using h⟩
  · exact op_ne pins s σ H _ _ v u Q I rx ry ⟨rfl, by simpa using h⟩
  · exact op_ne pins s σ H _ _ v u Q I rx ry ⟨rfl, by simpa using h⟩
  · exact op_neD hu pins s σ H _ _ v u Q I rx ry h
  · exact op_neD hu pins s σ H _ _ v u Q I rx ry h
  · exact op_ne pins s σ H _ _ v u Q I rx ry h
/-- in a list or a tuple of flat things; a sign in a text -/
def inSq (K : PySem.W.Frag) (x : V) (p : Addr) (H : Hp) (k : Bool → Prop) : Prop := ∃ xs, (SqL K H p xs ∨ SqT K H p xs) ∧ flatV x = true ∧ xs.all flatV = true ∧ k (inV x xs)
def inTx (w z : Str) : Bool := !(Builtin.Str.occurrences z w 0 z.length 1).isEmpty
def uIn (K : PySem.W.Frag) (neg : Bool) (x y : V) (H : Hp) (Q : VK) : Prop := match x, y with
  | .str w, .str z => Q (.bl (if neg then !inTx w z else inTx w z)) H
  | x, .ref p => inSq K x p H fun b => Q (.bl (if neg then !b else b)) H
  | _, _ => False
theorem oIn : OpR X (compareOp .In) (uIn X.K false) := by
  intro pins s σ H x y v u Q I rx ry h
  unfold uIn at h
  split at h
  · exact op_in_str pins s σ H _ _ v u Q I rx ry ⟨_, _, rfl, rfl, h⟩
  · obtain ⟨xs, h1, h2, h3, q⟩ := h
    exact op_in_seq pins s σ H _ _ v u Q I rx ry ⟨_, xs, rfl, h1, h2, h3, q⟩
  · exact h.elim
theorem oNotIn : OpR X (compareOp .NotIn) (uIn X.K true) := by
  intro pins s σ H x y v u Q I rx ry h
  unfold uIn at h
  split at h
  · exact op_notIn_str pins s σ H _ _ v u Q I rx ry ⟨_, _, rfl, rfl, h⟩
  · obtain ⟨xs, h1, h2, h3, q⟩ := h
    exact op_notIn_seq pins s σ H _ _ v u Q I rx ry ⟨_, xs, rfl, h1, h2, h3, q⟩
  · exact h.elim
theorem inTx_one (c : Nat) (z : Str) : inTx ⟨#[c]⟩ z = decide (c ∈ z.cps.toList) := PySem.StrLaws.found_one z c
def uIs (neg : Bool) (x y : V) (H : Hp) (Q : VK) : Prop := match y with
  | .non => Q (.bl (if neg then !decide (x = .non) else decide (x = .non))) H
  | _ => False
theorem oIs : OpR X (compareOp .Is) (uIs false) := op_w op_isN fun x y H Q q => by
  unfold uIs at q
  split at q
  · exact ⟨rfl, q⟩
  · exact q.elim
theorem oIsNot : OpR X (compareOp .IsNot) (uIs true) := op_w op_notN fun x y H Q q => by
  unfold uIs at q
  split at q
  · exact ⟨rfl, q⟩
  · exact q.elim
theorem dCmp {op : CmpOp} {r : R2} (ho : OpR X (compareOp op) r) (ha : PE X a ta) (hb : PE X b tb) (hm : behindInMarks op b = false := by first | rfl | exact nomark _) : PE X (.Compare a [op] [b] pos) (eBin r ta tb) := pe_cmpR ho ha hb hm
/-! tests -/
/-- by what a value is -/
def asBl (x : V) (k : Bool → Prop) : Prop := match x with
  | .bl b => k b
  | _ => False
def asInt (x : V) (k : Int → Prop) : Prop := match x with
  | .int i => k i
  | _ => False
def tru (x : V) (H : Hp) (Q : Bool → Hp → Prop) : Prop := match x with
  | .bl k => Q k H
  | .int i => Q (i != 0) H
  | _ => False
theorem asBl_of {x : V} {k : Bool → Prop} (h : asBl x k) : ∃ b, x = .bl b ∧ k b := by
  unfold asBl at h
  split at h
  · exact ⟨_, rfl, h⟩
  · exact h.elim
theorem asInt_of {x : V} {k : Int → Prop} (h : asInt x k) : ∃ b, x = .int b ∧ k b := by
  unfold asInt at h
  split at h
  · exact ⟨_, rfl, h⟩
  · exact h.elim
def tTst (t : TE) (σ : L2.St) (H : Hp) (Q : Bool → Hp → Prop) : Prop := t σ H fun x H1 => tru x H1 Q
theorem tru_of {pins : List (Addr × Obj)} {s : Shared} {σ : L2.St} {H : Hp} {Q : Bool → Hp → Prop} {x : V} {v : Value} (I : Inv X pins σ H s) (r : RelV x v)
    (q : tru x H Q) : wpAny (model X.prog X.w) X.A (truthy v) (TP X pins σ Q) X.xe s := by
  refine tru_ok pins s σ H x v Q I r ?_
  unfold tru at q
  split at q
  · exact ⟨_, rfl, q⟩
  · exact ⟨_, rfl, q⟩
  · exact q.elim
/-- any expression by its truth -/
theorem qVal (ha : PE X a ta) (he : ∀ whole, isTrue a X.env whole = (do let v ← whole; standAt a.pos; holding [v] (truthy v)) := by intro _; rfl) : PT X a (tTst ta) :=
  ⟨fun pins s σ H _ I h => isTrue_plain (thn (ha.run pins s σ H _ I h) fun _ _ ⟨_, _, I1, r1, q1⟩ => tru_of I1 r1 q1) (he _)⟩
theorem qCmp {op : CmpOp} {r : R2} (ho : OpR X (compareOp op) r) (ha : PE X a ta) (hb : PE X b tb) (hm : behindInMarks op b = false := by first | rfl | exact nomark _) : PT X (.Compare a [op] [b] pos) (tTst (eBin r ta tb)) :=
  ⟨fun pins s σ H _ I h => wpAny_isTrue_Compare1 (thn (ha.run pins s σ H _ I h) fun v s1 ⟨x, H1, I1, r1, q1⟩ => thn (hb.run pins s1 σ H1 _ I1 q1) fun u s2 ⟨y, H2, I2, r2, q2⟩ =>
    thn (ho pins s2 σ H2 x y v u _ I2 r1 r2 q2) fun _ _ ⟨_, _, I3, r3, q3⟩ => tru_of I3 r3 q3) hm⟩
/-- a op1 b op2 c -/
def eChain (r r' : R2) (ta tb tc : TE) (σ : L2.St) (H : Hp) (Q : VK) : Prop := ta σ H fun x H1 => tb σ H1 fun y H2 => r x y H2 fun z H3 => asBl z fun k => if k = true then tc σ H3 fun w' H4 => r' y w' H4 Q else Q (.bl false) H3
theorem dChain {op op' : CmpOp} {r r' : R2} (ho : OpR X (compareOp op) r) (ho' : OpR X (compareOp op') r') (ha : PE X a ta) (hb : PE X b tb) (hc : PE X c tc)
    (hm : lastMarks [op, op'] [b, c] = false := by with_unfolding_all rfl) : PE X (.Compare a [op, op'] [b, c] pos) (eChain r r' ta tb tc) := by
  refine ⟨fun pins s σ H Q I h => ?_⟩
  refine Compare_chain (thn (ha.run pins s σ H _ I h) fun v s1 ⟨x, H1, I1, r1, q1⟩ => chain_link (thn (hb.run pins s1 σ H1 _ I1 q1) fun u s2 ⟨y, H2, I2, r2, q2⟩ =>
    thn (ho pins s2 σ H2 x y v u _ I2 r1 r2 q2) fun d s3 ⟨z, H3, I3, r3, q3⟩ => ?_)) hm
  obtain ⟨k, rfl, q3⟩ := asBl_of q3
  · cases r3
    refine wpAny_truthy_bool ?_
    cases k with
    | false => exact ite_ff ⟨.bl false, H3, I3, rfl, q3⟩
    | true => exact ite_tt (chain_last (thn (hc.run pins s3 σ H3 _ I3 q3) fun w' s4 ⟨z', H4, I4, r4, q4⟩ => ho' pins s4 σ H4 y z' u w' Q I4 r2 r4 q4))
theorem qChain {op op' : CmpOp} {r r' : R2} (ho : OpR X (compareOp op) r) (ho' : OpR X (compareOp op') r') (ha : PE X a ta) (hb : PE X b tb) (hc : PE X c tc)
    (hm : lastMarks [op, op'] [b, c] = false := by with_unfolding_all rfl) : PT X (.Compare a [op, op'] [b, c] pos) (tTst (eChain r r' ta tb tc)) := by
  refine ⟨fun pins s σ H Q I h => ?_⟩
  refine isTrue_chain (thn (ha.run pins s σ H _ I h) fun v s1 ⟨x, H1, I1, r1, q1⟩ => test_link (thn (hb.run pins s1 σ H1 _ I1 q1) fun u s2 ⟨y, H2, I2, r2, q2⟩ =>
    thn (ho pins s2 σ H2 x y v u _ I2 r1 r2 q2) fun d s3 ⟨z, H3, I3, r3, q3⟩ => ?_)) hm
  obtain ⟨k, rfl, q3⟩ := asBl_of q3
  · cases r3
    refine wpAny_truthy_bool ?_
    cases k with
    | false => exact ite_ff ⟨H3, I3, q3⟩
    | true => exact ite_tt (test_last (thn (hc.run pins s3 σ H3 _ I3 q3) fun w' s4 ⟨z', H4, I4, r4, q4⟩ => thn (ho' pins s4 σ H4 y z' u w' _ I4 r2 r4 q4) fun _ _ ⟨_, _, I5, r5, q5⟩ => tru_of I5 r5 q5))
variable {rest : List Expr} {tA tB' : TT}
def tAnd (t u : TT) (σ : L2.St) (H : Hp) (Q : Bool → Hp → Prop) : Prop := t σ H fun c H1 => if c = true then u σ H1 Q else Q false H1
def tOr (t u : TT) (σ : L2.St) (H : Hp) (Q : Bool → Hp → Prop) : Prop := t σ H fun c H1 => if c = true then Q true H1 else u σ H1 Q
def tNot (t : TT) (σ : L2.St) (H : Hp) (Q : Bool → Hp → Prop) : Prop := t σ H fun c H1 => Q (!c) H1
theorem qAnd1 (ha : PT X a tA) : PW X (.BoolOp .And [a] pos) tA := pw_and1 ha
theorem qOr1 (ha : PT X a tA) : PW X (.BoolOp .Or [a] pos) tA := pw_or1 ha
theorem qAnd (ha : PT X a tA) (hb : PW X (.BoolOp .And (b :: rest) pos) tB') : PW X (.BoolOp .And (a :: b :: rest) pos) (tAnd tA tB') := pw_and ha hb
theorem qOr (ha : PT X a tA) (hb : PW X (.BoolOp .Or (b :: rest) pos) tB') : PW X (.BoolOp .Or (a :: b :: rest) pos) (tOr tA tB') := pw_or ha hb
theorem qNot (ha : PT X a tA) : PT X (.UnaryOp .Not a pos) (tNot tA) := pt_not ha
/-! and, or, not as values -/
def eAnd (ta tb : TE) (σ : L2.St) (H : Hp) (Q : VK) : Prop := ta σ H fun x H1 => asBl x fun c => if c = true then tb σ H1 Q else Q (.bl false) H1
def eOr (ta tb : TE) (σ : L2.St) (H : Hp) (Q : VK) : Prop := ta σ H fun x H1 => asBl x fun c => if c = true then Q (.bl true) H1 else tb σ H1 Q
def eNot (ta : TE) (σ : L2.St) (H : Hp) (Q : VK) : Prop := ta σ H fun x H1 => asBl x fun c => Q (.bl (!c)) H1
theorem dOne {op} {t : TE} (h : PE X a t) : PE X (.BoolOp op [a] pos) t := pe_one h
theorem dAnd (ha : PE X a ta) (hb : PE X (.BoolOp .And (b :: rest) pos) tb) : PE X (.BoolOp .And (a :: b :: rest) pos) (eAnd ta tb) := by
  refine ⟨fun pins s σ H Q I h => BoolOp_and (thn (ha.run pins s σ H _ I h) fun v s1 ⟨x, H1, I1, r1, q1⟩ => ?_)⟩
  obtain ⟨c, rfl, q1⟩ := asBl_of q1
  · cases r1
    refine wpAny_truthy_bool ?_
    cases c with
    | true => exact hb.run pins s1 σ H1 Q I1 q1
    | false => exact ⟨.bl false, H1, I1, rfl, q1⟩
theorem dOr (ha : PE X a ta) (hb : PE X (.BoolOp .Or (b :: rest) pos) tb) : PE X (.BoolOp .Or (a :: b :: rest) pos) (eOr ta tb) := by
  refine ⟨fun pins s σ H Q I h => BoolOp_or (thn (ha.run pins s σ H _ I h) fun v s1 ⟨x, H1, I1, r1, q1⟩ => ?_)⟩
  obtain ⟨c, rfl, q1⟩ := asBl_of q1
  · cases r1
    refine wpAny_truthy_bool ?_
    cases c with
    | false => exact hb.run pins s1 σ H1 Q I1 q1
    | true => exact ⟨.bl true, H1, I1, rfl, q1⟩
theorem dNot (ha : PE X a ta) : PE X (.UnaryOp .Not a pos) (eNot ta) := by
  refine ⟨fun pins s σ H Q I h => UnaryOp_ (thn (ha.run pins s σ H _ I h) fun v s1 ⟨x, H1, I1, r1, q1⟩ => ?_)⟩
  obtain ⟨c, rfl, q1⟩ := asBl_of q1
  · cases r1
    exact not_of (wpAny_truthy_bool ⟨.bl (!c), H1, I1, rfl, q1⟩)
def eIf (t : TT) (ta tb : TE) (σ : L2.St) (H : Hp) (Q : VK) : Prop := t σ H fun c H1 => if c = true then ta σ H1 Q else tb σ H1 Q
theorem dIf (hc : PT X c tA) (ha : PE X a ta) (hb : PE X b tb) : PE X (.IfExp c a b pos) (eIf tA ta tb) := pe_ifExp hc ha hb
/-! arguments, displays, subscripts, calls -/
variable {es : List Expr} {tes : TA} {te : TE}
def aNil (_ : L2.St) (H : Hp) (Q : List V → Hp → Prop) : Prop := Q [] H
def aCons (ta : TE) (tr : TA) (σ : L2.St) (H : Hp) (Q : List V → Hp → Prop) : Prop := ta σ H fun x H1 => tr σ H1 fun xs H2 => Q (x :: xs) H2
theorem kNil : PA X [] aNil := pa_nil
theorem kCons (ha : PE X e te) (hr : PA X es tes) (hs : starEach (e :: es) X.env = (false, eval e X.env) :: starEach es X.env := by rfl) : PA X (e :: es) (aCons te tes) := pa_cons ha hr hs
def eTup (t : TA) (σ : L2.St) (H : Hp) (Q : VK) : Prop := t σ H fun xs H1 => xs.length ≤ sizeLine ∧ ∀ p, H1 p = none → Q (.ref p) (upd H1 p (.tup xs))
def eLst (t : TA) (σ : L2.St) (H : Hp) (Q : VK) : Prop := t σ H fun xs H1 => xs.length ≤ sizeLine ∧ ∀ p, H1 p = none → Q (.ref p) (upd H1 p (.lst xs))
theorem dTup {x1} (h : PA X es tes) : PE X (.Tuple es x1 pos) (eTup tes) := pe_tup h
theorem dLst (h : PA X es tes) : PE X (.List es pos) (eLst tes) := pe_lst h
/-- a place in a list or a tuple; a sign of a text -/
def ixR (K : PySem.W.Frag) (x : Addr) (i : Int) (H : Hp) (Q : VK) : Prop := ∃ xs v, (SqL K H x xs ∨ SqT K H x xs) ∧ atI xs i = some v ∧ Q v H
def ixS (z : Str) (i : Int) (H : Hp) (Q : VK) : Prop := z.length ≤ sizeLine ∧ ∃ c, atI z.cps.toList i = some c ∧ Q (.str ⟨#[c]⟩) H
def uIx (K : PySem.W.Frag) (x y : V) (H : Hp) (Q : VK) : Prop := match x, y with
  | .ref p, .int i => ixR K p i H Q
  | .str z, .int i => ixS z i H Q
  | _, _ => False
theorem oIx : IxR X (uIx X.K) := by
  intro value slice pins s σ H x y v u Q I rx ry h hs
  unfold uIx at h
  split at h
  · obtain ⟨xs, w, h1 | h1, h2, q⟩ := h
    · exact ix_list value slice pins s σ H _ _ v u Q I rx ry ⟨_, xs, _, w, rfl, rfl, h1, h2, q⟩ hs
    · exact ix_tup value slice pins s σ H _ _ v u Q I rx ry ⟨_, xs, _, w, rfl, rfl, h1, h2, q⟩ hs
  · obtain ⟨hz, k, h1, q⟩ := h
    exact ix_str value slice pins s σ H _ _ v u Q I rx ry ⟨_, _, k, rfl, rfl, hz, h1, q⟩ hs
  · exact h.elim
theorem dIx (ha : PE X a ta) (hb : PE X b tb) (hs : PlainIx b := by exact fun _ _ => rfl) : PE X (.Subscript a b pos) (eBin (uIx X.K) ta tb) := pe_ix oIx ha hb hs
variable {lo hi : Option Expr} {tl th : TO} {p2 : Pos}
def oNone (_ : L2.St) (H : Hp) (Q : Option Int → Hp → Prop) : Prop := Q none H
def oPart (t : TE) (σ : L2.St) (H : Hp) (Q : Option Int → Hp → Prop) : Prop := t σ H fun x H1 => asInt x fun i => Q (some i) H1
theorem gNone : PO X none oNone := po_none
theorem gSome (h : PE X a ta) : PO X (some a) (oPart ta) := by
  refine ⟨fun pins s σ H Q I q => ?_⟩
  rw [evalPart_some]
  refine thn (h.run pins s σ H _ I q) fun u s1 ⟨x, H1, I1, r1, q1⟩ => ?_
  obtain ⟨i, rfl, q1⟩ := asInt_of q1
  obtain ⟨t, rfl⟩ := r1
  exact ⟨some i, H1, I1, .int i t, q1⟩
/-- a part of a list, of a text, of a tuple -/
def cutR (K : PySem.W.Frag) (a : Addr) (lo hi : Option Int) (H : Hp) (Q : VK) : Prop := ∃ xs, SqL K H a xs ∧ ∀ p, H p = none → Q (.ref p) (upd H p (.lst (cutV xs lo hi)))
def uSl (K : PySem.W.Frag) (x : V) (lo hi : Option Int) (H : Hp) (Q : VK) : Prop := match x with
  | .ref a => cutR K a lo hi H Q
  | .str z => z.length ≤ sizeLine ∧ Q (.str (cutS z lo hi)) H
  | _ => False
theorem oSl : SlR X (uSl X.K) := by
  intro pins s σ H x v vl vu lo hi sl Q I rx hs pl pu h
  unfold uSl at h
  split at h
  · obtain ⟨xs, h1, q⟩ := h
    exact sl_list pins s σ H _ v vl vu lo hi sl Q I rx hs pl pu ⟨_, xs, rfl, h1, q⟩
  · exact sl_str pins s σ H _ v vl vu lo hi sl Q I rx hs pl pu ⟨_, rfl, h.1, h.2⟩
  · exact h.elim
def eSl (r : V → Option Int → Option Int → Hp → VK → Prop) (te : TE) (tl th : TO) (σ : L2.St) (H : Hp) (Q : VK) : Prop := te σ H fun x H1 => tl σ H1 fun l H2 => th σ H2 fun u H3 => r x l u H3 Q
theorem dSl (he : PE X e te) (hl : PO X lo tl) (hu : PO X hi th) : PE X (.Subscript e (.Slice lo hi none p2) pos) (eSl (uSl X.K) te tl th) := pe_slice oSl he hl hu
/-! calls -/
def eCall (sp : Sp) (E : XK) (t : TA) (σ : L2.St) (H : Hp) (Q : VK) : Prop := t σ H fun vs H1 => sp vs H1 Q E
variable {CX : CXT} {k : Nat} {f C : Addr} {fd : FuncData} {ps : List Str} {sp : Sp} {E : XK} {x : Str} {p : Pos}
theorem dCall (F : FnOk X.prog X.w X.K X.mg X.base CX k f fd ps sp) (hr : Room k X.A) (hg : Gl X x) (hm : X.mg x = some (.ref f)) (hk : PySem.W.keepIn X.K (.ref f) = true) (hb : Binds X.K fd ps []) (hx : Passes CX X E)
    (ha : PA X (e :: es) tes) (hdb : (x == ("__debug__" : Str)) = false := by decide) (he : starEach (e :: es) X.env = (false, eval e X.env) :: starEach es X.env := by rfl) (hpl : (backTo pos (starEach es X.env)).any (·.1) = false := by rfl) :
    PE X (.Call (.Name x p) (e :: es) [] pos) (eCall sp E tes) := by
  refine pe_w (pe_call F hr hg hm hk hb .nil hx ha hdb he hpl) fun σ H Q q => ?_
  unfold tCall
  simp only [List.append_nil]
  exact q
theorem dCall0 (F : FnOk X.prog X.w X.K X.mg X.base CX k f fd ps sp) (hr : Room k X.A) (hg : Gl X x) (hm : X.mg x = some (.ref f)) (hk : PySem.W.keepIn X.K (.ref f) = true) (hb : Binds X.K fd ps []) (hx : Passes CX X E)
    (hdb : (x == ("__debug__" : Str)) = false := by decide) : PE X (.Call (.Name x p) [] [] pos) (eCall sp E aNil) := pe_call0 F hr hg hm hk hb .nil hx hdb
def eBlt (r : List V → Hp → VK → Prop) (t : TA) (σ : L2.St) (H : Hp) (Q : VK) : Prop := t σ H fun vs H1 => r vs H1 Q
theorem dBlt {id : String} {r : List V → Hp → VK → Prop} (hc : CallR X (.builtin id) r) (hg : Gl X x) (hm : X.mg x = none) (hv : bootBuiltins x = some (.builtin id)) (ha : PA X (e :: es) tes) (hn : x ≠ "__name__" := by decide) (hdb : (x == ("__debug__" : Str)) = false := by decide)
    (he : starEach (e :: es) X.env = (false, eval e X.env) :: starEach es X.env := by rfl) (hpl : (backTo pos (starEach es X.env)).any (·.1) = false := by rfl) : PE X (.Call (.Name x p) (e :: es) [] pos) (eBlt r tes) := pe_callB hc hg hm hv ha hn hdb he hpl
theorem dBty {id : String} {r : List V → Hp → VK → Prop} (hc : CallR X (.type id) r) (hg : Gl X x) (hm : X.mg x = none) (hv : bootBuiltins x = some (.type id)) (ha : PA X (e :: es) tes) (hn : x ≠ "__name__" := by decide) (hdb : (x == ("__debug__" : Str)) = false := by decide)
    (he : starEach (e :: es) X.env = (false, eval e X.env) :: starEach es X.env := by rfl) (hpl : (backTo pos (starEach es X.env)).any (·.1) = false := by rfl) : PE X (.Call (.Name x p) (e :: es) [] pos) (eBlt r tes) := pe_callTy hc hg hm hv ha hn hdb he hpl
/-- len -/
def lenR (K : PySem.W.Frag) (a : Addr) (H : Hp) (k : Int → Prop) : Prop := (∃ xs, (SqL K H a xs ∨ SqT K H a xs) ∧ k xs.length)
def uLen (K : PySem.W.Frag) (vs : List V) (H : Hp) (Q : VK) : Prop := match vs with
  | [.str z] => z.length ≤ sizeLine ∧ Q (.int z.length) H
  | [.ref a] => lenR K a H fun n => Q (.int n) H
  | _ => False
theorem bLen : CallR X (.builtin "len") (uLen X.K) := by
  intro pins s σ H xs us Q I r h
  unfold uLen at h
  split at h
  · exact call_len_str pins s σ H _ us Q I r ⟨_, rfl, h.1, h.2⟩
  · obtain ⟨ys, h1, q⟩ := h
    exact call_len_seq pins s σ H _ us Q I r ⟨_, ys, rfl, h1, q⟩
  · exact h.elim
/-- int, str, list, tuple, max, min, isinstance -/
def uInt (vs : List V) (H : Hp) (Q : VK) : Prop := match vs with
  | [.int i] => Q (.int i) H
  | [.bl b] => Q (.int (if b then 1 else 0)) H
  | [.str z] => ∃ n, PySem.intText? z = some n ∧ z.length ≤ 640 ∧ Q (.int n) H
  | _ => False
theorem bInt : CallR X (.type "int") uInt := by
  intro pins s σ H xs us Q I r h
  unfold uInt at h
  split at h
  · exact call_int1 pins s σ H _ us Q I r (.inl ⟨_, rfl, h⟩)
  · exact call_int1 pins s σ H _ us Q I r (.inr ⟨_, rfl, h⟩)
  · obtain ⟨n, h1, h2, q⟩ := h
    exact call_int_str pins s σ H _ us Q I r ⟨_, n, rfl, h1, h2, q⟩
  · exact h.elim
def uStr (vs : List V) (H : Hp) (Q : VK) : Prop := match vs with
  | [.int i] => i.natAbs.log2 < 1920 ∧ Q (.str (toString i)) H
  | [.str z] => Q (.str z) H
  | _ => False
def uMax (vs : List V) (H : Hp) (Q : VK) : Prop := match vs with
  | [.int i, .int j] => Q (.int (if j > i then j else i)) H
  | _ => False
def uMin (vs : List V) (H : Hp) (Q : VK) : Prop := match vs with
  | [.int i, .int j] => Q (.int (if j < i then j else i)) H
  | _ => False
theorem bMax (hc : X.calm = true) : CallR X (.builtin "max") uMax := by
  intro pins s σ H xs us Q I r h
  unfold uMax at h
  split at h
  · exact call_max2 hc pins s σ H _ us Q I r ⟨_, _, rfl, h⟩
  · exact h.elim
theorem bMin (hc : X.calm = true) : CallR X (.builtin "min") uMin := by
  intro pins s σ H xs us Q I r h
  unfold uMin at h
  split at h
  · exact call_min2 hc pins s σ H _ us Q I r ⟨_, _, rfl, h⟩
  · exact h.elim
def uList (K : PySem.W.Frag) (vs : List V) (H : Hp) (Q : VK) : Prop := match vs with
  | [.ref a] => ∃ xs, (SqL K H a xs ∨ SqT K H a xs) ∧ ∀ p, H p = none → Q (.ref p) (upd H p (.lst xs))
  | _ => False
theorem bList : CallR X (.type "list") (uList X.K) := by
  intro pins s σ H xs us Q I r h
  unfold uList at h
  split at h
  · obtain ⟨ys, h1, q⟩ := h
    exact call_list_of pins s σ H _ us Q I r ⟨_, ys, rfl, h1, q⟩
  · exact h.elim
/-- the types of the values of data -/
def tyN (K : PySem.W.Frag) (x : V) (H : Hp) (k : String → Prop) : Prop := match x with
  | .non => k "NoneType"
  | .bl _ => k "bool"
  | .int _ => k "int"
  | .str _ => k "str"
  | .ref a => ((∃ xs, SqL K H a xs) ∧ k "list") ∨ ((∃ xs, SqT K H a xs) ∧ k "tuple") ∨ ((∃ kvs, H a = some (.dK kvs)) ∧ k "dict")
  | _ => False
theorem tyN_of {K : PySem.W.Frag} {x : V} {H : Hp} {k : String → Prop} (h : tyN K x H k) : ∃ n, TyX K H x (.type n) ∧ k n := by
  unfold tyN at h
  split at h
  · exact ⟨_, .base .non, h⟩
  · exact ⟨_, .base (.bl _), h⟩
  · exact ⟨_, .base (.int _), h⟩
  · exact ⟨_, .base (.str _), h⟩
  · rcases h with ⟨⟨xs, h1⟩, q⟩ | ⟨⟨xs, h1⟩, q⟩ | ⟨⟨xs, h1⟩, q⟩
    · refine ⟨_, ?_, q⟩
      rcases h1 with (h1 | ⟨o, h1⟩) | ⟨o, its, n, h1, h2, _⟩
      · exact .base (.lst h1)
      · exact .base (.frz h1)
      · exact .kList h1 h2
    · refine ⟨_, ?_, q⟩
      rcases h1 with (h1 | ⟨o, h1⟩) | ⟨o, its, n, h1, h2, _⟩
      · exact .base (.tup h1)
      · exact .fTuple h1
      · exact .kTuple h1 h2
    · exact ⟨_, .base (.dK h1), q⟩
  · exact h.elim
/-- isinstance(x, T), T a built-in type -/
def uIsi (K : PySem.W.Frag) (vs : List V) (H : Hp) (Q : VK) : Prop := match vs with
  | [x, .ty t] => tyN K x H fun n => ∃ b, kitB n t = some b ∧ Q (.bl b) H
  | _ => False
theorem bIsi : CallR X (.builtin "isinstance") (uIsi X.K) := by
  intro pins s σ H xs us Q I r h
  unfold uIsi at h
  split at h
  · obtain ⟨n, h1, b, h2, q⟩ := tyN_of h
    exact call_isi pins s σ H _ us Q I r ⟨_, _, _, _, b, rfl, .ty _, h1, kit_ty h2, q⟩
  · exact h.elim
theorem dTy {n : String} (hg : Gl X x) (hm : X.mg x = none) (hv : bootBuiltins x = some (.type n)) (hn : x ≠ "__name__" := by decide) (hd : (x == ("__debug__" : Str)) = false := by decide) : PE X (.Name x p) (eLit (.ty n)) := pe_bltn hg hm hv rfl hn hd
theorem dGl {v : V} {u : Value} (hg : Gl X x) (hm : X.mg x = some u) (r : RelV v u) (hd : (x == ("__debug__" : Str)) = false := by decide) : PE X (.Name x p) (eLit v) := pe_glob hg hm r hd
/-- a method of a built-in type -/
def eMb0 (K : PySem.W.Frag) (T : String) (r : V → List V → Hp → VK → Prop) (to : TE) (σ : L2.St) (H : Hp) (Q : VK) : Prop := to σ H fun x H1 => tyV K T x H1 ∧ r x [] H1 Q
def eMb (K : PySem.W.Frag) (T : String) (r : V → List V → Hp → VK → Prop) (to : TE) (t : TA) (σ : L2.St) (H : Hp) (Q : VK) : Prop := to σ H fun x H1 => tyV K T x H1 ∧ t σ H1 fun xs H2 => r x xs H2 Q
variable {o : Expr} {to : TE} {name : Str} {apos cpos : Pos} {T id : String} {r : V → List V → Hp → VK → Prop}
theorem dMb0 (pa : PlainAttrs T) (slot : Slot T name id) (hty : typeOf (.builtin id) = pure (.type "method_descriptor")) (hm : MtR X id r) (ho : PE X o to)
    (hbase : attributeBase o name X.env (eval o X.env) = eval o X.env := by rfl) (hline : (apos.endLine == cpos.line) = true := by rfl) : PE X (.Call (.Attribute o name apos) [] [] cpos) (eMb0 X.K T r to) := pe_bm0 pa slot hty hm ho hbase hline
theorem dMb (pa : PlainAttrs T) (slot : Slot T name id) (hty : typeOf (.builtin id) = pure (.type "method_descriptor")) (hm : MtR X id r) (ho : PE X o to) (ha : PA X (e :: es) tes)
    (hbase : attributeBase o name X.env (eval o X.env) = eval o X.env := by rfl)
    (hfew : ((backTo cpos (starEach (e :: es) X.env)).all (fun x => !x.1) && (backToKw cpos (keywordEach [] X.env)).all (fun x => x.1.isSome) && decide ((e :: es).length + ([] : List Keyword).length + (if ([] : List Keyword).isEmpty then 0 else 1) < 30)) = true := by rfl)
    (hline : (apos.endLine == cpos.line) = true := by rfl) (hs : starEach (e :: es) X.env = (false, eval e X.env) :: starEach es X.env := by rfl) (hplain : (backTo cpos (starEach es X.env)).any (·.1) = false := by rfl) :
    PE X (.Call (.Attribute o name apos) (e :: es) [] cpos) (eMb X.K T r to tes) := pe_bm pa slot hty hm ho ha hbase hfew hline hs hplain
/-! statements -/
variable {st : Stmt} {sts : List Stmt} {t u : TS} {g : TG}
def sSeq (t u : TS) (D : Ends) (σ : L2.St) (H : Hp) : Prop := t { D with nx := u D } σ H
def sSet (i : Nat) (te : TE) (D : Ends) (σ : L2.St) (H : Hp) : Prop := te σ H fun v H1 => D.nx (σ.set i (some v)) H1
def sExp (te : TE) (D : Ends) (σ : L2.St) (H : Hp) : Prop := te σ H fun _ H1 => D.nx σ H1
def sRet (te : TE) (D : Ends) (σ : L2.St) (H : Hp) : Prop := te σ H D.rt
def sRetN (D : Ends) (_ : L2.St) (H : Hp) : Prop := D.rt .non H
/-- P: what both ways reach -/
def sIf (c : TT) (t u : TS) (D : Ends) (σ : L2.St) (H : Hp) : Prop := ∃ P : L2.St → Hp → Prop, (∀ σ' H', P σ' H' → D.nx σ' H') ∧ c σ H fun b H1 => if b = true then t { D with nx := P } σ H1 else u { D with nx := P } σ H1
theorem ps_hat {st : Stmt} {t : TS} (h : PS X st t) : PS X st (fun D σ H => ∃ P : L2.St → Hp → Prop, (∀ σ' H', P σ' H' → D.nx σ' H') ∧ t { D with nx := P } σ H) :=
  ⟨fun pins s σ H D I ⟨P, w, q⟩ => thn (h.run pins s σ H _ I q) fun f s' z => by
    cases f with
    | next => obtain ⟨σ', H', I', q'⟩ := z; exact ⟨σ', H', I', w _ _ q'⟩
    | brk => exact z
    | cont => exact z
    | ret u => exact z⟩
theorem if_split {c : TT} {t u : TS} {D : Ends} {σ : L2.St} {H : Hp} (h : c σ H fun b H1 => if b = true then t D σ H1 else u D σ H1) : sIf c t u D σ H := ⟨D.nx, fun _ _ q => q, h⟩
theorem if_join {c : TT} {t u : TS} {D : Ends} {σ : L2.St} {H : Hp} (P : L2.St → Hp → Prop) (h : c σ H fun b H1 => if b = true then t { D with nx := P } σ H1 else u { D with nx := P } σ H1) (w : ∀ σ' H', P σ' H' → D.nx σ' H') : sIf c t u D σ H := ⟨P, w, h⟩
def sNil (D : Ends) (σ : L2.St) (H : Hp) : Prop := D.nx σ H
def sBrk (D : Ends) (σ : L2.St) (H : Hp) : Prop := D.bk σ H
def sCnt (D : Ends) (σ : L2.St) (H : Hp) : Prop := D.ct σ H
theorem zCons (h : PS X st t) (hs : PSs X sts u) : PSs X (st :: sts) (sSeq t u) := pss_cons h hs
theorem zOne (h : PS X st t) : PSs X [st] t := pss_one h
theorem zNil : PSs X [] sNil := pss_nil
theorem zSet {i : Nat} {px : Pos} {v : Expr} (nd : X.N.Nodup) (hN : X.N[i]? = some x) (hv : Loc X.env.scope x) (he : PE X v te) (hs : swapsWith v (some (.Name x px)) pos.line X.env = pure false := by rfl) (hf : X.fn x = true ∨ X.env.scope.names.lookup x = some .local := by first | exact .inl rfl | exact .inr rfl | assumption) : PS X (.Assign [.Name x px] v pos) (sSet i te) := ps_set nd hN hv he hs hf
theorem zExp (he : PE X e te) (hs : swapsWith e none pos.line X.env = pure false := by rfl) : PS X (.Expr e pos) (sExp te) := ps_expr he hs
theorem zRet (he : PE X e te) : PS X (.Return (some e) pos) (sRet te) := ps_ret he
theorem zRetN : PS X (.Return none pos) sRetN := ps_retN
theorem zIf {q : List Stmt} (hc : PT X c tA) (h1 : PSs X sts t) (h2 : PSs X q u) : PS X (.If c sts q pos) (sIf tA t u) := ps_hat (ps_if hc h1 h2)
theorem zBrk : PS X (.Break pos) sBrk := ps_break
theorem zCnt : PS X (.Continue pos) sCnt := ps_continue
theorem zPass : PS X (.Pass pos) sNil := ps_pass
/-! loops -/
def whileN (c : TT) (tb : TS) (D : Ends) : Nat → L2.St → Hp → Prop
  | 0, _, _ => False
  | n + 1, σ, H => c σ H fun b H1 => if b = true then tb { D with nx := whileN c tb D n, ct := whileN c tb D n, bk := D.nx } σ H1 else D.nx σ H1
def sWhile (c : TT) (tb : TS) (D : Ends) (σ : L2.St) (H : Hp) : Prop := ∃ n, whileN c tb D n σ H

/-- what follows may be weakened -/
def hat (t : TE) : TE := fun σ H Q => ∃ Q0 : VK, (∀ v H', Q0 v H' → Q v H') ∧ t σ H Q0
def hatT (t : TT) : TT := fun σ H Q => ∃ Q0 : Bool → Hp → Prop, (∀ v H', Q0 v H' → Q v H') ∧ t σ H Q0
def hatA (t : TA) : TA := fun σ H Q => ∃ Q0 : List V → Hp → Prop, (∀ v H', Q0 v H' → Q v H') ∧ t σ H Q0
theorem pe_hat {t : TE} (h : PE X e t) : PE X e (hat t) := ⟨fun pins s σ H Q I ⟨Q0, w, q⟩ => thn (h.run pins s σ H Q0 I q) fun _ _ ⟨v, H', I', r, q'⟩ => ⟨v, H', I', r, w _ _ q'⟩⟩
theorem pt_hat {t : TT} (h : PT X e t) : PT X e (hatT t) := ⟨fun pins s σ H Q I ⟨Q0, w, q⟩ => thn (h.run pins s σ H Q0 I q) fun _ _ ⟨H', I', q'⟩ => ⟨H', I', w _ _ q'⟩⟩
theorem pa_hat {t : TA} (h : PA X es t) : PA X es (hatA t) := ⟨fun pos pins s σ H Q I ⟨Q0, w, q⟩ => thn (h.run pos pins s σ H Q0 I q) fun _ _ ⟨v, H', I', r, q'⟩ => ⟨v, H', I', r, w _ _ q'⟩⟩
theorem zWhile (hp : PassesOwn (model X.prog X.w) X.A X.env X.xe) (hc : PT X c tA) (hb : PSs X sts t) : PS X (.While c sts [] pos) (sWhile tA t) :=
  ps_w (ps_while hp (pt_hat hc) hb) fun D σ H ⟨n, h⟩ => by
    refine ⟨fun m σ H => whileN tA t D m σ H, ⟨n, h⟩, fun m σ H h => ?_⟩
    cases m with
    | zero => exact h.elim
    | succ m =>
      refine ⟨_, fun b H1 q => ?_, h⟩
      cases b with
      | true => exact ⟨whileN tA t D m, fun σ' H' z => ⟨m, Nat.lt_succ_self m, z⟩, q⟩
      | false => exact q
/-- targets -/
def gNm (i : Nat) (v : V) (σ : L2.St) (H : Hp) (Q : L2.St → Hp → Prop) : Prop := Q (σ.set i (some v)) H
def asRef (x : V) (k : Addr → Prop) : Prop := match x with
  | .ref a => k a
  | _ => False
theorem asRef_of {x : V} {k : Addr → Prop} (h : asRef x k) : ∃ b, x = .ref b ∧ k b := by
  unfold asRef at h
  split at h
  · exact ⟨_, rfl, h⟩
  · exact h.elim
def asTx (x : V) (k : Str → Prop) : Prop := match x with
  | .str a => k a
  | _ => False
theorem asTx_of {x : V} {k : Str → Prop} (h : asTx x k) : ∃ b, x = .str b ∧ k b := by
  unfold asTx at h
  split at h
  · exact ⟨_, rfl, h⟩
  · exact h.elim
def gPr (K : PySem.W.Frag) (i j : Nat) (v : V) (σ : L2.St) (H : Hp) (Q : L2.St → Hp → Prop) : Prop := asRef v fun a => ∃ x y, SqT K H a [x, y] ∧ Q ((σ.set i (some x)).set j (some y)) H
theorem tgNm {i : Nat} {px : Pos} (nd : X.N.Nodup) (hN : X.N[i]? = some x) (hv : Loc X.env.scope x) (hf : X.fn x = true ∨ X.env.scope.names.lookup x = some .local := by first | exact .inl rfl | exact .inr rfl | assumption) : PG X (.Name x px) (gNm i) := pg_name nd hN hv hf
theorem tgPr {i j : Nat} {px py : Pos} {y : Str} {kk : Nat} (nd : X.N.Nodup) (hN : X.N[i]? = some x) (hv : Loc X.env.scope x) (hN' : X.N[j]? = some y) (hv' : Loc X.env.scope y) (hc : X.calm = true := by rfl)
    (hf : X.fn x = true ∨ X.env.scope.names.lookup x = some .local := by first | exact .inl rfl | exact .inr rfl | assumption) (hf' : X.fn y = true ∨ X.env.scope.names.lookup y = some .local := by first | exact .inl rfl | exact .inr rfl | assumption) :
    PG X (.Tuple [.Name x px, .Name y py] kk pos) (gPr X.K i j) := by
  refine ⟨fun pins s σ H v u Q I r h => (pg_tup hc (pgs_cons (pg_name nd hN hv hf) (pgs_cons (pg_name nd hN' hv' hf') pgs_nil))).run pins s σ H v u Q I r ?_⟩
  obtain ⟨a, rfl, z, w, h1, q⟩ := asRef_of h
  exact ⟨a, _, rfl, h1, rfl, z, [w], rfl, w, [], rfl, rfl, q⟩
/-! for: the turns one by one; L: what stands through the loop (the list) -/
def walk (L : Hp → Prop) (g : TG) (tb : TS) (D : Ends) : List V → L2.St → Hp → Prop
  | [], σ, H => L H ∧ D.nx σ H
  | x :: r, σ, H => L H ∧ g x σ H fun σ2 H2 => tb { D with nx := walk L g tb D r, ct := walk L g tb D r, bk := D.nx } σ2 H2
/-- .. the items in new pairs -/
def walkP (L : Hp → Prop) (g : TG) (tb : TS) (D : Ends) : List (V × V) → L2.St → Hp → Prop
  | [], σ, H => L H ∧ D.nx σ H
  | x :: r, σ, H => L H ∧ ∀ T, H T = none → g (.ref T) σ (upd H T (.tup [x.1, x.2])) fun σ2 H2 => tb { D with nx := walkP L g tb D r, ct := walkP L g tb D r, bk := D.nx } σ2 H2
def sForSq (K : PySem.W.Frag) (te : TE) (g : TG) (tb : TS) (D : Ends) (σ : L2.St) (H : Hp) : Prop := te σ H fun v H1 => asRef v fun a =>
  (∃ xs, SqL K H1 a xs ∧ walk (fun H => SqL K H a xs) g tb D xs σ H1) ∨ (∃ xs, SqT K H1 a xs ∧ walk (fun H => SqT K H a xs) g tb D xs σ H1)
def sForTx (te : TE) (g : TG) (tb : TS) (D : Ends) (σ : L2.St) (H : Hp) : Prop := te σ H fun v H1 => asTx v fun z => walk (fun _ => True) g tb D (z.cps.toList.map fun c => .str ⟨#[c]⟩) σ H1
def rangeV (lo hi : Int) : List V := (List.range (hi - lo).toNat).map fun (i : Nat) => .int (lo + i)
def enumV (k : Nat) (xs : List V) : List (V × V) := (xs.zipIdx k).map fun p => (.int (p.2 : Nat), p.1)
theorem walk_drop {L : Hp → Prop} {g : TG} {tb : TS} {D : Ends} {xs : List V} {i : Nat} {x : V} (h : xs[i]? = some x) : xs.drop i = x :: xs.drop (i + 1) := by
  obtain ⟨h1, h2⟩ := List.getElem?_eq_some_iff.mp h
  rw [← h2]
  exact List.drop_eq_getElem_cons h1
/-- the loop's word by the turns -/
theorem walk_it {L : Hp → Prop} {J : It} {g : TG} {tb : TS} {D : Ends} {xs : List V} {σ : L2.St} {H : Hp} (hstop : ∀ i H, L H → xs.length ≤ i → J.stop i H) (hgo : ∀ i x H, L H → xs[i]? = some x → J.go i H ∧ ∀ y H', J.yld i H y H' → H' = H ∧ y = x)
    (h : walk L g tb D xs σ H) : ∃ W : Nat → Nat → L2.St → Hp → Prop, (∃ m, W 0 m σ H) ∧ ∀ i m σ H, W i m σ H →
  (J.stop i H ∧ D.nx σ H) ∨ (J.go i H ∧ ∃ N : L2.St → Hp → Prop, (∀ σ' H', N σ' H' → ∃ m', m' < m ∧ W (i + 1) m' σ' H') ∧ ∀ x H', J.yld i H x H' → g x σ H' fun σ2 H2 => tb { D with nx := N, ct := N, bk := D.nx } σ2 H2) := by
  refine ⟨fun i m σ H => m = xs.length - i ∧ i ≤ xs.length ∧ walk L g tb D (xs.drop i) σ H, ⟨xs.length, by simp, Nat.zero_le _, h⟩, ?_⟩
  rintro i m σ H ⟨rfl, hi, p⟩
  by_cases hlt : i < xs.length
  · have e := List.getElem?_eq_getElem hlt
    rw [walk_drop (L := L) (g := g) (tb := tb) (D := D) e] at p
    obtain ⟨l, p⟩ := p
    obtain ⟨h1, h2⟩ := hgo i _ H l e
    refine .inr ⟨h1, walk L g tb D (xs.drop (i + 1)), fun σ' H' z => ⟨xs.length - (i + 1), by omega, rfl, hlt, z⟩, fun y H' q => ?_⟩
    obtain ⟨rfl, rfl⟩ := h2 y H' q
    exact p
  · have e : i = xs.length := by omega
    subst e
    rw [List.drop_length] at p
    exact .inl ⟨hstop _ _ p.1 (Nat.le_refl _), p.2⟩
theorem walk_itP {L : Hp → Prop} {J : It} {g : TG} {tb : TS} {D : Ends} {xs : List (V × V)} {σ : L2.St} {H : Hp} (hstop : ∀ i H, L H → xs.length ≤ i → J.stop i H)
    (hgo : ∀ i x H, L H → xs[i]? = some x → J.go i H ∧ ∀ y H', J.yld i H y H' → ∃ T, y = .ref T ∧ H T = none ∧ H' = upd H T (.tup [x.1, x.2]))
    (h : walkP L g tb D xs σ H) : ∃ W : Nat → Nat → L2.St → Hp → Prop, (∃ m, W 0 m σ H) ∧ ∀ i m σ H, W i m σ H →
  (J.stop i H ∧ D.nx σ H) ∨ (J.go i H ∧ ∃ N : L2.St → Hp → Prop, (∀ σ' H', N σ' H' → ∃ m', m' < m ∧ W (i + 1) m' σ' H') ∧ ∀ x H', J.yld i H x H' → g x σ H' fun σ2 H2 => tb { D with nx := N, ct := N, bk := D.nx } σ2 H2) := by
  refine ⟨fun i m σ H => m = xs.length - i ∧ i ≤ xs.length ∧ walkP L g tb D (xs.drop i) σ H, ⟨xs.length, by simp, Nat.zero_le _, h⟩, ?_⟩
  rintro i m σ H ⟨rfl, hi, p⟩
  by_cases hlt : i < xs.length
  · have e := List.getElem?_eq_getElem hlt
    rw [List.drop_eq_getElem_cons hlt] at p
    obtain ⟨l, p⟩ := p
    obtain ⟨h1, h2⟩ := hgo i _ H l e
    refine .inr ⟨h1, walkP L g tb D (xs.drop (i + 1)), fun σ' H' z => ⟨xs.length - (i + 1), by omega, rfl, hlt, z⟩, fun y H' q => ?_⟩
    obtain ⟨T, rfl, n, rfl⟩ := h2 y H' q
    exact p T n
  · have e : i = xs.length := by omega
    subst e
    rw [List.drop_length] at p
    exact .inl ⟨hstop _ _ p.1 (Nat.le_refl _), p.2⟩
/-- a list or a tuple, walked -/
def iSq (K : PySem.W.Frag) (tl : TE) : TI := fun σ H R => tl σ H fun x H1 => ∃ a, x = .ref a ∧ ((∃ xs, SqL K H1 a xs ∧ R (Itl K a) H1) ∨ (∃ xs, SqT K H1 a xs ∧ R (Itt K a) H1))
theorem pi_seq {tg l : Expr} {tl : TE} (hl : PE X l tl) : PI X tg l (iSq X.K tl) := by
  refine ⟨fun pins s σ H R I h => thn (hl.run pins s σ H _ I h) fun v s1 ⟨x, H1, I1, r1, a, ex, q⟩ => ?_⟩
  subst ex
  cases r1
  have fp : ∀ b ∈ [s1.heap.objs.size], FpOk X pins H1 b := fun b hb => by
    have z : b = s1.heap.objs.size := by simpa using hb
    subst z
    exact I1.fpOk (Nat.le_refl _) (I1.hok.fresh (Nat.le_refl _))
  rcases q with ⟨xs, hq, q⟩ | ⟨xs, hq, q⟩
  · obtain ⟨its, rv, p, hz⟩ := I1.list hq
    exact wpAny_pyIter_list p.isList ⟨s1.heap.objs.size, [s1.heap.objs.size], _, _, H1, rfl, I1.kept (t' := s1.toks) fun b o z => Heap.get?_push_of_some _ z, turn_list a _, ⟨_, Heap.get?_push_size _ rfl, rfl, rfl⟩, fp, q⟩
  · obtain ⟨its, rv, p, hz⟩ := I1.tuple hq
    exact wpAny_pyIter_tuple (show s1.heap.IsTuple a its.toArray from p) ⟨s1.heap.objs.size, [s1.heap.objs.size], _, _, H1, rfl, I1.kept (t' := s1.toks) fun b o z => Heap.get?_push_of_some _ z, turn_tuple a _, ⟨_, Heap.get?_push_size _ rfl, rfl, rfl⟩, fp, q⟩
theorem zForSq {tg iter : Expr} (hp : PassesOwn (model X.prog X.w) X.A X.env X.xe) (hc : X.calm = true) (hi : PE X iter te) (hg : PG X tg g) (hb : PSs X sts t) (hs : ∀ x, foldedSetIterable iter X.env x = pure x := by intro _; rfl) :
    PS X (.For tg iter sts [] pos) (sForSq X.K te g t) :=
  ps_w (ps_for hp hc (pi_seq (pe_hat hi)) hg hb hs) fun D σ H h => by
    refine ⟨_, fun v H1 q => ?_, h⟩
    obtain ⟨a, rfl, q⟩ := asRef_of q
    refine ⟨a, rfl, q.imp (fun ⟨xs, h1, q⟩ => ⟨xs, h1, ?_⟩) fun ⟨xs, h1, q⟩ => ⟨xs, h1, ?_⟩⟩
    · exact walk_it (fun i H l hi => ⟨xs, l, hi⟩) (fun i x H l e => ⟨⟨xs, x, l, e⟩, fun y H' ⟨z, w⟩ => ⟨z, Option.some.inj ((w xs l).symm.trans e)⟩⟩) q
    · exact walk_it (fun i H l hi => ⟨xs, l, hi⟩) (fun i x H l e => ⟨⟨xs, x, l, e⟩, fun y H' ⟨z, w⟩ => ⟨z, Option.some.inj ((w xs l).symm.trans e)⟩⟩) q
theorem zForTx {tg iter : Expr} (hp : PassesOwn (model X.prog X.w) X.A X.env X.xe) (hc : X.calm = true) (hi : PE X iter te) (hg : PG X tg g) (hb : PSs X sts t) (hs : ∀ x, foldedSetIterable iter X.env x = pure x := by intro _; rfl) :
    PS X (.For tg iter sts [] pos) (sForTx te g t) :=
  ps_w (ps_for hp hc (pi_str (pe_hat hi)) hg hb hs) fun D σ H h => by
    refine ⟨_, fun v H1 q => ?_, h⟩
    obtain ⟨z, rfl, q⟩ := asTx_of q
    · refine ⟨z, rfl, walk_it (fun i H l hi => ?_) (fun i x H l e => ?_) q⟩
      · have : z.cps.size ≤ i := by simpa using hi
        exact this
      · rw [List.getElem?_map] at e
        cases e1 : z.cps.toList[i]? with
        | none => rw [e1] at e; cases e
        | some c =>
          rw [e1] at e
          have e2 : z.cps[i]? = some c := by rw [← e1]; simp
          refine ⟨(Array.getElem?_eq_some_iff.mp e2).1, fun y H' ⟨z1, c', z2, z3⟩ => ⟨z1, ?_⟩⟩
          rw [e2] at z2
          cases z2
          rw [z3]
          exact Option.some.inj e
theorem range_at {lo hi : Int} {i : Nat} {x : V} (h : (rangeV lo hi)[i]? = some x) : i < (hi - lo).toNat ∧ x = .int (lo + i) := by
  unfold rangeV at h
  rw [List.getElem?_map] at h
  by_cases z : i < (hi - lo).toNat
  · rw [List.getElem?_range z] at h
    exact ⟨z, (Option.some.inj h).symm⟩
  · rw [List.getElem?_eq_none (by simpa using z)] at h
    cases h
theorem walk_range {D : Ends} {lo hi : Int} {σ : L2.St} {H : Hp} {n : Nat} (hn : n = (hi - lo).toNat) (q : walk (fun _ => True) g t D (rangeV lo hi) σ H) : ∃ W : Nat → Nat → L2.St → Hp → Prop, (∃ m, W 0 m σ H) ∧ ∀ i m σ H, W i m σ H →
  ((Itr lo n).stop i H ∧ D.nx σ H) ∨ ((Itr lo n).go i H ∧ ∃ N : L2.St → Hp → Prop, (∀ σ' H', N σ' H' → ∃ m', m' < m ∧ W (i + 1) m' σ' H') ∧ ∀ x H', (Itr lo n).yld i H x H' → g x σ H' fun σ2 H2 => t { D with nx := N, ct := N, bk := D.nx } σ2 H2) := by
  subst hn
  refine walk_it (fun i H l hi => ?_) (fun i x H l e => ?_) q
  · unfold rangeV at hi
    rw [List.length_map, List.length_range] at hi
    exact hi
  · obtain ⟨h1, h2⟩ := range_at e
    exact ⟨h1, fun y H' ⟨z, w⟩ => ⟨z, w.trans h2.symm⟩⟩
def sForR1 (ta : TE) (g : TG) (tb : TS) (D : Ends) (σ : L2.St) (H : Hp) : Prop := ta σ H fun v H1 => asInt v fun j => (-(2 ^ 62) ≤ j ∧ j < 2 ^ 62) ∧ walk (fun _ => True) g tb D (rangeV 0 j) σ H1
def sForR2 (ta tb : TE) (g : TG) (ts : TS) (D : Ends) (σ : L2.St) (H : Hp) : Prop := ta σ H fun v H1 => tb σ H1 fun u H2 => asInt v fun i => asInt u fun j =>
  (-(2 ^ 62) ≤ i ∧ i < 2 ^ 62 ∧ -(2 ^ 62) ≤ j ∧ j < 2 ^ 62) ∧ walk (fun _ => True) g ts D (rangeV i j) σ H2
theorem zForR1 {tg a : Expr} {p : Pos} (hp : PassesOwn (model X.prog X.w) X.A X.env X.xe) (hc : X.calm = true) (hgl : Gl X "range") (hm : X.mg "range" = none) (hi : PE X a te) (hg : PG X tg g) (hb : PSs X sts t)
    (hs0 : starEach [a] X.env = [(false, eval a X.env)] := by rfl) (hs : ∀ x, foldedSetIterable (.Call (.Name "range" p) [a] [] cpos) X.env x = pure x := by intro _; rfl) :
    PS X (.For tg (.Call (.Name "range" p) [a] [] cpos) sts [] pos) (sForR1 te g t) :=
  ps_w (ps_for hp hc (pi_range1 hgl hm (kCons (pe_hat hi) kNil hs0) hs0) hg hb hs) fun D σ H h => by
    refine ⟨_, fun v H1 q => ?_, h⟩
    obtain ⟨j, rfl, ⟨q1, q2⟩, q⟩ := asInt_of q
    exact ⟨j, rfl, q1, q2, walk_range (by simp) q⟩
theorem zForR2 {tg a b : Expr} {p : Pos} {ta tb : TE} (hp : PassesOwn (model X.prog X.w) X.A X.env X.xe) (hc : X.calm = true) (hgl : Gl X "range") (hm : X.mg "range" = none) (hi : PE X a ta) (hj : PE X b tb) (hg : PG X tg g) (hb : PSs X sts t)
    (hs0 : starEach [a, b] X.env = [(false, eval a X.env), (false, eval b X.env)] := by rfl) (hs1 : starEach [b] X.env = [(false, eval b X.env)] := by rfl) (hs : ∀ x, foldedSetIterable (.Call (.Name "range" p) [a, b] [] cpos) X.env x = pure x := by intro _; rfl) :
    PS X (.For tg (.Call (.Name "range" p) [a, b] [] cpos) sts [] pos) (sForR2 ta tb g t) :=
  ps_w (ps_for hp hc (pi_range2 hgl hm (kCons (pe_hat hi) (kCons (pe_hat hj) kNil hs1) (by rw [hs0, hs1])) hs0 hs1) hg hb hs) fun D σ H h => by
    refine ⟨_, fun v H1 q => ⟨_, fun u H2 z => ?_, q⟩, h⟩
    obtain ⟨i, e1, z1⟩ := asInt_of z
    obtain ⟨j, e2, q1, z2⟩ := asInt_of z1
    exact ⟨i, j, by rw [e1, e2], q1, walk_range rfl z2⟩
/-- enumerate of a list -/
def sForE (K : PySem.W.Frag) (ta : TE) (g : TG) (tb : TS) (D : Ends) (σ : L2.St) (H : Hp) : Prop := ta σ H fun v H1 => asRef v fun a => ∃ xs, SqL K H1 a xs ∧ walkP (fun H => SqL K H a xs) g tb D (enumV 0 xs) σ H1
theorem enum_at {k i : Nat} {xs : List V} {x : V × V} (h : (enumV k xs)[i]? = some x) : ∃ y, xs[i]? = some y ∧ x = (.int ((k + i : Nat) : Int), y) := by
  unfold enumV at h
  rw [List.getElem?_map, List.getElem?_zipIdx] at h
  cases e : xs[i]? with
  | none => rw [e] at h; cases h
  | some y =>
    rw [e] at h
    exact ⟨y, rfl, (Option.some.inj h).symm⟩
theorem zForE {a : Expr} {elts : List Expr} {kk : Nat} {p tpos : Pos} (hp : PassesOwn (model X.prog X.w) X.A X.env X.xe) (hc : X.calm = true) (hgl : Gl X "enumerate") (hm : X.mg "enumerate" = none) (hi : PE X a te) (hg : PG X (.Tuple elts kk tpos) g) (hb : PSs X sts t)
    (hs0 : starEach [a] X.env = [(false, eval a X.env)] := by rfl) (hs : ∀ x, foldedSetIterable (.Call (.Name "enumerate" p) [a] [] cpos) X.env x = pure x := by intro _; rfl) :
    PS X (.For (.Tuple elts kk tpos) (.Call (.Name "enumerate" p) [a] [] cpos) sts [] pos) (sForE X.K te g t) :=
  ps_w (ps_for hp hc (pi_enum hgl hm (kCons (pe_hat hi) kNil hs0) hs0) hg hb hs) fun D σ H h => by
    refine ⟨_, fun v H1 q => ?_, h⟩
    obtain ⟨a, rfl, xs, h1, q⟩ := asRef_of q
    refine ⟨a, xs, rfl, h1, walk_itP (fun i H l hi => ⟨xs, l, ?_⟩) (fun i x H l e => ?_) q⟩
    · unfold enumV at hi
      simpa using hi
    · obtain ⟨y, h2, rfl⟩ := enum_at e
      refine ⟨⟨xs, y, l, h2⟩, fun z H' yy => ?_⟩
      obtain ⟨T, y', e1, e2, e3, e4⟩ := yy
      have e5 : y' = y := Option.some.inj ((e4 xs l).symm.trans h2)
      subst e5
      exact ⟨T, e1, e2, by rw [e3]; simp⟩

/-! methods of texts and of lists -/
def eMs (r : Str → List V → Hp → VK → Prop) (to : TE) (t : TA) (σ : L2.St) (H : Hp) (Q : VK) : Prop := to σ H fun x H1 => asTx x fun z => t σ H1 fun vs H2 => r z vs H2 Q
def eMl (K : PySem.W.Frag) (r : Addr → List V → Hp → VK → Prop) (to : TE) (t : TA) (σ : L2.St) (H : Hp) (Q : VK) : Prop := to σ H fun x H1 => asRef x fun a => (∃ xs, SqL K H1 a xs) ∧ t σ H1 fun vs H2 => r a vs H2 Q
def MsR (X : Cx) (id : String) (r : Str → List V → Hp → VK → Prop) : Prop := MtR X id fun x vs H Q => ∃ z, x = .str z ∧ r z vs H Q
def MlR (X : Cx) (id : String) (r : Addr → List V → Hp → VK → Prop) : Prop := MtR X id fun x vs H Q => ∃ z, x = .ref z ∧ r z vs H Q
section
variable {rs : Str → List V → Hp → VK → Prop} {rl : Addr → List V → Hp → VK → Prop}
theorem dMs0 (slot : Slot "str" name id) (hty : typeOf (.builtin id) = pure (.type "method_descriptor")) (hm : MsR X id rs) (ho : PE X o to)
    (hbase : attributeBase o name X.env (eval o X.env) = eval o X.env := by rfl) (hline : (apos.endLine == cpos.line) = true := by rfl) : PE X (.Call (.Attribute o name apos) [] [] cpos) (eMs rs to aNil) :=
  pe_w (dMb0 PySem.F.plainAttrs_str slot hty hm (pe_hat ho) hbase hline) fun σ H Q q => ⟨_, fun v H1 z => by
    obtain ⟨s, rfl, z⟩ := asTx_of z
    exact ⟨rfl, s, rfl, z⟩, q⟩
theorem dMs (slot : Slot "str" name id) (hty : typeOf (.builtin id) = pure (.type "method_descriptor")) (hm : MsR X id rs) (ho : PE X o to) (ha : PA X (e :: es) tes)
    (hbase : attributeBase o name X.env (eval o X.env) = eval o X.env := by rfl)
    (hfew : ((backTo cpos (starEach (e :: es) X.env)).all (fun x => !x.1) && (backToKw cpos (keywordEach [] X.env)).all (fun x => x.1.isSome) && decide ((e :: es).length + ([] : List Keyword).length + (if ([] : List Keyword).isEmpty then 0 else 1) < 30)) = true := by rfl)
    (hline : (apos.endLine == cpos.line) = true := by rfl) (hs : starEach (e :: es) X.env = (false, eval e X.env) :: starEach es X.env := by rfl) (hplain : (backTo cpos (starEach es X.env)).any (·.1) = false := by rfl) :
    PE X (.Call (.Attribute o name apos) (e :: es) [] cpos) (eMs rs to tes) :=
  pe_w (dMb PySem.F.plainAttrs_str slot hty hm (pe_hat ho) (pa_hat ha) hbase hfew hline hs hplain) fun σ H Q q => ⟨_, fun v H1 z => by
    obtain ⟨s, rfl, z⟩ := asTx_of z
    exact ⟨rfl, _, fun vs H2 z => ⟨s, rfl, z⟩, z⟩, q⟩
theorem dMl0 (slot : Slot "list" name id) (hty : typeOf (.builtin id) = pure (.type "method_descriptor")) (hm : MlR X id rl) (ho : PE X o to)
    (hbase : attributeBase o name X.env (eval o X.env) = eval o X.env := by rfl) (hline : (apos.endLine == cpos.line) = true := by rfl) : PE X (.Call (.Attribute o name apos) [] [] cpos) (eMl X.K rl to aNil) :=
  pe_w (dMb0 PySem.F.plainAttrs_list slot hty hm (pe_hat ho) hbase hline) fun σ H Q q => ⟨_, fun v H1 z => by
    obtain ⟨s, rfl, h, z⟩ := asRef_of z
    exact ⟨.inl ⟨rfl, h⟩, s, rfl, z⟩, q⟩
theorem dMl (slot : Slot "list" name id) (hty : typeOf (.builtin id) = pure (.type "method_descriptor")) (hm : MlR X id rl) (ho : PE X o to) (ha : PA X (e :: es) tes)
    (hbase : attributeBase o name X.env (eval o X.env) = eval o X.env := by rfl)
    (hfew : ((backTo cpos (starEach (e :: es) X.env)).all (fun x => !x.1) && (backToKw cpos (keywordEach [] X.env)).all (fun x => x.1.isSome) && decide ((e :: es).length + ([] : List Keyword).length + (if ([] : List Keyword).isEmpty then 0 else 1) < 30)) = true := by rfl)
    (hline : (apos.endLine == cpos.line) = true := by rfl) (hs : starEach (e :: es) X.env = (false, eval e X.env) :: starEach es X.env := by rfl) (hplain : (backTo cpos (starEach es X.env)).any (·.1) = false := by rfl) :
    PE X (.Call (.Attribute o name apos) (e :: es) [] cpos) (eMl X.K rl to tes) :=
  pe_w (dMb PySem.F.plainAttrs_list slot hty hm (pe_hat ho) (pa_hat ha) hbase hfew hline hs hplain) fun σ H Q q => ⟨_, fun v H1 z => by
    obtain ⟨s, rfl, h, z⟩ := asRef_of z
    exact ⟨.inl ⟨rfl, h⟩, _, fun vs H2 z => ⟨s, rfl, z⟩, z⟩, q⟩
end
/-- one text as the argument -/
def vTx (vs : List V) (k : Str → Prop) : Prop := match vs with
  | [.str b] => k b
  | _ => False
def vNo (vs : List V) (k : Prop) : Prop := match vs with
  | [] => k
  | _ => False
def vOne (vs : List V) (k : V → Prop) : Prop := match vs with
  | [y] => k y
  | _ => False
def vInt (vs : List V) (k : Int → Prop) : Prop := match vs with
  | [.int y] => k y
  | _ => False
def vRef (vs : List V) (k : Addr → Prop) : Prop := match vs with
  | [.ref y] => k y
  | _ => False
theorem vTx_of {vs : List V} {k : Str → Prop} (h : vTx vs k) : ∃ b, vs = [.str b] ∧ k b := by
  unfold vTx at h
  split at h
  · exact ⟨_, rfl, h⟩
  · exact h.elim
theorem vNo_of {vs : List V} {k : Prop} (h : vNo vs k) : vs = [] ∧ k := by
  unfold vNo at h
  split at h
  · exact ⟨rfl, h⟩
  · exact h.elim
theorem vOne_of {vs : List V} {k : V → Prop} (h : vOne vs k) : ∃ b, vs = [b] ∧ k b := by
  unfold vOne at h
  split at h
  · exact ⟨_, rfl, h⟩
  · exact h.elim
theorem vInt_of {vs : List V} {k : Int → Prop} (h : vInt vs k) : ∃ b, vs = [.int b] ∧ k b := by
  unfold vInt at h
  split at h
  · exact ⟨_, rfl, h⟩
  · exact h.elim
theorem vRef_of {vs : List V} {k : Addr → Prop} (h : vRef vs k) : ∃ b, vs = [.ref b] ∧ k b := by
  unfold vRef at h
  split at h
  · exact ⟨_, rfl, h⟩
  · exact h.elim
def uFind (z : Str) (vs : List V) (H : Hp) (Q : VK) : Prop := vTx vs fun b => Q (.int (Txt.find z b)) H
def uStarts (z : Str) (vs : List V) (H : Hp) (Q : VK) : Prop := vTx vs fun b => Q (.bl (Txt.startswith z b)) H
def uSplit (z : Str) (vs : List V) (H : Hp) (Q : VK) : Prop := vTx vs fun b => (b.length == 0) = false ∧ z.length + 2 ≤ sizeLine ∧ ∀ p, H p = none → Q (.ref p) (upd H p (.lst ((Txt.split z b).map V.str)))
def uRstrip (z : Str) (vs : List V) (H : Hp) (Q : VK) : Prop := vNo vs (z.length ≤ sizeLine ∧ Q (.str (Txt.rstrip z)) H)
def uIsdigit (z : Str) (vs : List V) (H : Hp) (Q : VK) : Prop := vNo vs (Q (.bl (Txt.isdigit z)) H)
def uAppend (l : Addr) (vs : List V) (H : Hp) (Q : VK) : Prop := vOne vs fun y => ∃ xs, H l = some (.lst xs) ∧ xs.length < sizeLine ∧ Q .non (upd H l (.lst (xs ++ [y])))
def uPop (l : Addr) (vs : List V) (H : Hp) (Q : VK) : Prop := vNo vs (∃ xs y, H l = some (.lst (xs ++ [y])) ∧ Q y (upd H l (.lst xs)))
def uPop0 (l : Addr) (vs : List V) (H : Hp) (Q : VK) : Prop := vInt vs fun i => i = 0 ∧ ∃ xs y, H l = some (.lst (y :: xs)) ∧ Q y (upd H l (.lst xs))
def uExtend (l : Addr) (vs : List V) (H : Hp) (Q : VK) : Prop := vRef vs fun b => ∃ xs zs, H l = some (.lst xs) ∧ H b = some (.lst zs) ∧ xs.length + zs.length ≤ sizeLine ∧ Q .non (upd H l (.lst (xs ++ zs)))
theorem mFind : MsR X "str.find" uFind := fun pins s σ H x vs v us Q I rx rs ⟨z, e, q⟩ => by
  subst e
  obtain ⟨b, rfl, q⟩ := vTx_of q
  exact mt_find pins s σ H _ _ v us Q I rx rs ⟨z, b, rfl, rfl, q⟩
theorem mStarts : MsR X "str.startswith" uStarts := fun pins s σ H x vs v us Q I rx rs ⟨z, e, q⟩ => by
  subst e
  obtain ⟨b, rfl, q⟩ := vTx_of q
  exact mt_startswith pins s σ H _ _ v us Q I rx rs ⟨z, b, rfl, rfl, q⟩
theorem mSplit : MsR X "str.split" uSplit := fun pins s σ H x vs v us Q I rx rs ⟨z, e, q⟩ => by
  subst e
  obtain ⟨b, rfl, h1, h2, q⟩ := vTx_of q
  exact mt_split pins s σ H _ _ v us Q I rx rs ⟨z, b, rfl, rfl, h1, h2, q⟩
theorem mRstrip : MsR X "str.rstrip" uRstrip := fun pins s σ H x vs v us Q I rx rs ⟨z, e, q⟩ => by
  subst e
  obtain ⟨rfl, h1, q⟩ := vNo_of q
  exact mt_rstrip pins s σ H _ _ v us Q I rx rs ⟨z, rfl, rfl, h1, q⟩
theorem mIsdigit : MsR X "str.isdigit" uIsdigit := fun pins s σ H x vs v us Q I rx rs ⟨z, e, q⟩ => by
  subst e
  obtain ⟨rfl, q⟩ := vNo_of q
  exact mt_isdigit pins s σ H _ _ v us Q I rx rs ⟨z, rfl, rfl, trivial, q⟩
theorem mAppend : MlR X "list.append" uAppend := fun pins s σ H x vs v us Q I rx rs ⟨z, e, q⟩ => by
  subst e
  obtain ⟨y, rfl, xs, h1, h2, q⟩ := vOne_of q
  exact mt_append pins s σ H _ _ v us Q I rx rs ⟨z, xs, y, rfl, rfl, h1, h2, q⟩
theorem mPop : MlR X "list.pop" uPop := fun pins s σ H x vs v us Q I rx rs ⟨z, e, q⟩ => by
  subst e
  obtain ⟨rfl, xs, y, h1, q⟩ := vNo_of q
  exact mt_pop pins s σ H _ _ v us Q I rx rs ⟨z, _, y, rfl, rfl, h1, by simp, by rw [List.dropLast_concat]; exact q⟩
theorem mPop0 : MlR X "list.pop" uPop0 := fun pins s σ H x vs v us Q I rx rs ⟨z, e, q⟩ => by
  subst e
  obtain ⟨i, rfl, rfl, xs, y, h1, q⟩ := vInt_of q
  exact mt_popAt pins s σ H _ _ v us Q I rx rs ⟨z, _, 0, 0, y, rfl, rfl, h1, by decide, by decide, by simp [seqIndex?], rfl, q⟩
theorem mExtend : MlR X "list.extend" uExtend := fun pins s σ H x vs v us Q I rx rs ⟨z, e, q⟩ => by
  subst e
  obtain ⟨y, rfl, xs, zs, h1, h2, h3, q⟩ := vRef_of q
  exact mt_extend pins s σ H _ _ v us Q I rx rs ⟨z, y, xs, zs, rfl, rfl, h1, h2, h3, q⟩
theorem bStr : CallR X (.type "str") uStr := by
  intro pins s σ H xs us Q I r h
  unfold uStr at h
  split at h
  · exact call_str_int pins s σ H _ us Q I r ⟨_, rfl, h.1, h.2⟩
  · exact SkE.call_str_str pins s σ H _ us Q I r ⟨_, rfl, h⟩
  · exact h.elim

/-! the defs of a text -/
abbrev rSub : R2 := uI2 fun i j => .int (i - j)
abbrev rDiv : R2 := uII CDivW fun i j => .int (i / j)
abbrev rMod : R2 := uII (fun _ j => 0 < j) fun i j => .int (i % j)
abbrev rPow : R2 := uII CPow fun i j => .int (i ^ j.toNat)
abbrev rAnd : R2 := uI2 fun i j => .int (Builtin.bitAnd i j)
abbrev rOr : R2 := uI2 fun i j => .int (Builtin.bitOr i j)
abbrev rXor : R2 := uI2 fun i j => .int (Builtin.bitXor i j)
abbrev rLt : R2 := uI2 fun i j => .bl (decide (i < j))
abbrev rLe : R2 := uI2 fun i j => .bl (decide (i ≤ j))
abbrev rGt : R2 := uI2 fun i j => .bl (decide (j < i))
abbrev rGe : R2 := uI2 fun i j => .bl (decide (j ≤ i))
/-- a def stands -/
def Df (K : PySem.W.Frag) (mg : Str → Option Value) (x : Str) (st : Stmt) : Prop := ∃ f fd, L2.Fun K x x st f fd ∧ mg x = some (.ref f)
/-- a def keeps its promise -/
def Fn (P : Program) (w : World) (K : PySem.W.Frag) (mg : Str → Option Value) (base : Heap) (CX : CXT) (k : Nat) (x : Str) (ps : List Str) (sp : Sp) : Prop :=
  ∃ f fd, mg x = some (.ref f) ∧ PySem.W.keepIn K (.ref f) = true ∧ Binds K fd ps [] ∧ FnOk P w K mg base CX k f fd ps sp
/-- a constant of the module -/
def Cn (mg : Str → Option Value) (x : Str) (v : V) : Prop := ∃ u, mg x = some u ∧ RelV v u
theorem dFn (F : Fn X.prog X.w X.K X.mg X.base CX k x ps sp) (hr : Room k X.A) (hg : Gl X x) (hx : Passes CX X E)
    (ha : PA X (e :: es) tes) (hdb : (x == ("__debug__" : Str)) = false := by decide) (he : starEach (e :: es) X.env = (false, eval e X.env) :: starEach es X.env := by rfl) (hpl : (backTo pos (starEach es X.env)).any (·.1) = false := by rfl) :
    PE X (.Call (.Name x p) (e :: es) [] pos) (eCall sp E tes) := by
  obtain ⟨f, fd, g1, g2, g3, g4⟩ := F
  exact dCall g4 hr hg g1 g2 g3 hx ha hdb he hpl
theorem dFn0 (F : Fn X.prog X.w X.K X.mg X.base CX k x ps sp) (hr : Room k X.A) (hg : Gl X x) (hx : Passes CX X E)
    (hdb : (x == ("__debug__" : Str)) = false := by decide) : PE X (.Call (.Name x p) [] [] pos) (eCall sp E aNil) := by
  obtain ⟨f, fd, g1, g2, g3, g4⟩ := F
  exact dCall0 g4 hr hg g1 g2 g3 hx hdb
theorem dCn {v : V} (hg : Gl X x) (C : Cn X.mg x v) (hd : (x == ("__debug__" : Str)) = false := by decide) : PE X (.Name x p) (eLit v) := by
  obtain ⟨u, h1, h2⟩ := C
  exact dGl hg h1 h2 hd
end
/-- the end: what k_head leaves, from the law's promise -/
theorem walkB {l : PySem.W.OpenLaw} {k : Nat} {q : Program} {loose : List Str} {XP : (Str → Option Value) → Heap → Prop} {YP : World → Heap → Prop} {d : DefRec} {K : Params → PySem.W.Frag} (CX : World → CXT) (sp : PySem.W.Frag → Sp) (x : Str)
    (hn : l.most = some 63) (hdf : d.params.defaults = []) (hr : Room k callerA) (hY : ∀ (w : World) (h : Heap), YP w h → (K w.params).In h)
    (F : ∀ (w : World) (mg : Str → Option Value) (fa : Addr) (h : Heap), (K w.params).In h → h.Ns mainGlobals mg → mg d.name = some (.ref fa) →
      ∃ fd : FuncData, (∀ (s : Shared) (u : Value), BindsTo s fd ⟨[u], []⟩ [(x, u)]) ∧ ∀ base : Heap, (K w.params).In base → base.Ns mainGlobals mg → FnOk l.prog w (K w.params) mg base (CX w) k fa fd [x] (sp (K w.params)))
    (hsp : ∀ (K : PySem.W.Frag) (H : Hp) (a : Addr) (ns : List Int), ns.length ≤ 63 → (∀ z ∈ ns, Builtin.Int.intBits z ≤ 1048576) → Only H → SqL K H a (ns.map V.int) → sp K [.ref a] H (fun v _ => v = .bl true) fun _ _ _ => False)
    (hCX : ∀ (w : World) (H : Hp) (s : Shared) (e : Value) (s' : Shared), CX w [] H s (fun _ _ _ => False) e s' → False) :
    PySem.W.WalkO q loose XP YP l.row.toRowW d [] (fun f vs => PySem.call f vs) :=
  L2.walk_ofB (K := K) (CX := CX) (sp := fun w => sp (K w.params)) hn (by decide) hdf hr hY F (fun w H a ns h1 h2 h3 h4 => hsp (K w.params) H a ns h1 h2 h3 h4) hCX
end Hf
set_option Elab.async false
set_option linter.all false
set_option maxRecDepth 100000
set_option maxHeartbeats 4000000
namespace Hf
open PySem PySem.Spec L2 PyProof.Rows
/-- a value, and all that stood stands -/
def Pv (H : Hp) (Q : VK) (v : V) : Prop := ∀ H', Same H H' → Q v H'
theorem Pv.here {H : Hp} {Q : VK} {v : V} (h : Pv H Q v) : Q v H := h H (Same.refl H)
theorem Pv.to {H H1 : Hp} {Q : VK} {v : V} (h : Pv H Q v) (e : Same H H1) : Pv H1 Q v := fun H' z => h H' (e.trans z)
theorem Same.new {H : Hp} {p : Addr} {o : HO} (h : H p = none) : Same H (upd H p o) := fun b x e => by
  rw [upd_ne (ne_of_none e h)]
  exact e
/-! texts by their codes -/
def S (l : List Nat) : Str := ⟨l.toArray⟩
theorem S_cps (l : List Nat) : (S l).cps.toList = l := rfl
theorem S_len (l : List Nat) : (S l).length = l.length := rfl
theorem S_app (a b : List Nat) : S a ++ S b = S (a ++ b) := by
  show (⟨a.toArray ++ b.toArray⟩ : Str) = _
  rw [List.append_toArray]
  rfl
theorem S_of (z : Str) : z = S z.cps.toList := rfl
theorem S_inj {a b : List Nat} (h : S a = S b) : a = b := congrArg (fun z => z.cps.toList) h
theorem S_eq {a b : List Nat} : (S a = S b) = (a = b) := propext ⟨S_inj, fun h => h ▸ rfl⟩
theorem sz : sizeLine = 16777216 := sizeLine_eq
theorem app_len (a b : Str) : (a ++ b).length = a.length + b.length := by
  show (a.cps ++ b.cps).size = _
  exact Array.size_append
/-! sizes of numbers -/
theorem bits_le {i : Int} : Builtin.Int.intBits i ≤ i.natAbs.log2 + 1 := by
  unfold Builtin.Int.intBits
  split <;> omega
theorem mulOk {i j : Int} {a b : Nat} (h1 : Builtin.Int.intBits i ≤ a) (h2 : Builtin.Int.intBits j ≤ b) (h : a + b ≤ 100000000 := by decide) : IntMulOk i j := by
  have e : bitsLine = 134217728 := by decide
  unfold IntMulOk
  intro z
  rw [Bool.and_eq_true] at z
  have z2 := z.2
  unfold Builtin.Int.intTooBig at z2
  have z3 := of_decide_eq_true z2
  rw [e] at z3
  omega
theorem bitsOf {i : Int} {a : Nat} (h : i.natAbs < 2 ^ a) : Builtin.Int.intBits i ≤ a + 1 := by
  refine Nat.le_trans bits_le ?_
  by_cases z : i.natAbs = 0
  · rw [z]
    have : Nat.log2 0 = 0 := by decide
    omega
  · have := (Nat.log2_lt z).mpr h
    omega

/-! the readings at values -/
section
variable {K : PySem.W.Frag} {H : Hp} {Q : VK} {i j : Int} {z w : Str} {a b : Addr} {k l : Bool} {x y : V} {C : Int → Int → Prop} {g : Int → Int → V} {neg : Bool} {lo hi : Option Int} {n : String}
theorem eb1 {f : Bool → Prop} : asBl (.bl k) f = f k := rfl
theorem eb2 {f : Int → Prop} : asInt (.int i) f = f i := rfl
theorem eb3 {f : Addr → Prop} : asRef (.ref a) f = f a := rfl
theorem eb4 {f : Bool → Hp → Prop} : tru (.bl k) H f = f k H := rfl
theorem eb5 {f : Bool → Hp → Prop} : tru (.int i) H f = f (i != 0) H := rfl
theorem eb6 {f : Str → Prop} : asTx (.str z) f = f z := rfl
theorem eb7 {f : Str → Prop} : vTx [.str z] f = f z := rfl
theorem eb8 {f : Prop} : vNo [] f = f := rfl
theorem eb9 {f : V → Prop} : vOne [x] f = f x := rfl
theorem eb10 {f : Int → Prop} : vInt [.int i] f = f i := rfl
theorem eb11 {f : Addr → Prop} : vRef [.ref a] f = f a := rfl
theorem eo1 : uAdd K (.int i) (.int j) H Q = Q (.int (i + j)) H := rfl
theorem eo2 : uAdd K (.str z) (.str w) H Q = (z.length + w.length ≤ sizeLine ∧ Q (.str (z ++ w)) H) := rfl
theorem eo3 : uAdd K (.ref a) (.ref b) H Q = catR K a b H Q := rfl
theorem eo4 : uMul (.int i) (.int j) H Q = (IntMulOk i j ∧ Q (.int (i * j)) H) := rfl
theorem eo5 : uMul (.str z) (.int j) H Q = (j ≤ 1000000 ∧ -1000000 ≤ j ∧ z.length ≤ 16 ∧ Q (.str (repS z j)) H) := rfl
theorem eo6 : uII C g (.int i) (.int j) H Q = (C i j ∧ Q (g i j) H) := rfl
theorem eo7 : uI2 g (.int i) (.int j) H Q = Q (g i j) H := rfl
theorem eo8 : uNeg (.int i) H Q = Q (.int (-i)) H := rfl
theorem ec1 : uEq K (.int i) (.int j) H Q = Q (.bl (decide (i = j))) H := rfl
theorem ec2 : uEq K (.str z) (.str w) H Q = Q (.bl (decide (z = w))) H := rfl
theorem ec3 : uEq K (.bl k) (.bl l) H Q = Q (.bl (decide (k = l))) H := rfl
theorem ec4 : uEq K (.ref a) y H Q = eqD K (.ref a) y H fun b => Q (.bl b) H := by cases y <;> rfl
theorem ec5 : uNe K (.int i) (.int j) H Q = Q (.bl (!decide (i = j))) H := rfl
theorem ec6 : uNe K (.str z) (.str w) H Q = Q (.bl (!decide (z = w))) H := rfl
theorem ec7 : uNe K (.bl k) (.bl l) H Q = Q (.bl (!decide (k = l))) H := rfl
theorem ec8 : uNe K (.ref a) y H Q = eqD K (.ref a) y H fun b => Q (.bl (!b)) H := by cases y <;> rfl
theorem ec9 : uIn K neg (.str w) (.str z) H Q = Q (.bl (if neg then !inTx w z else inTx w z)) H := rfl
theorem ec10 : uIn K neg x (.ref a) H Q = inSq K x a H fun b => Q (.bl (if neg then !b else b)) H := by cases x <;> rfl
theorem ec11 : uIs neg x .non H Q = Q (.bl (if neg then !decide (x = .non) else decide (x = .non))) H := rfl
theorem ex1 : uIx K (.ref a) (.int i) H Q = ixR K a i H Q := rfl
theorem ex2 : uIx K (.str z) (.int i) H Q = ixS z i H Q := rfl
theorem ex3 : uSl K (.ref a) lo hi H Q = cutR K a lo hi H Q := rfl
theorem ex4 : uSl K (.str z) lo hi H Q = (z.length ≤ sizeLine ∧ Q (.str (cutS z lo hi)) H) := rfl
theorem el1 : uLen K [.str z] H Q = (z.length ≤ sizeLine ∧ Q (.int z.length) H) := rfl
theorem el2 : uLen K [.ref a] H Q = lenR K a H fun n => Q (.int n) H := rfl
theorem el3 : uInt [.int i] H Q = Q (.int i) H := rfl
theorem el4 : uInt [.bl k] H Q = Q (.int (if k then 1 else 0)) H := rfl
theorem el5 : uInt [.str z] H Q = ∃ n, PySem.intText? z = some n ∧ z.length ≤ 640 ∧ Q (.int n) H := rfl
theorem el6 : uStr [.int i] H Q = (i.natAbs.log2 < 1920 ∧ Q (.str (toString i)) H) := rfl
theorem el7 : uStr [.str z] H Q = Q (.str z) H := rfl
theorem el8 : uMax [.int i, .int j] H Q = Q (.int (if j > i then j else i)) H := rfl
theorem el9 : uMin [.int i, .int j] H Q = Q (.int (if j < i then j else i)) H := rfl
theorem el10 : uList K [.ref a] H Q = ∃ xs, (SqL K H a xs ∨ SqT K H a xs) ∧ ∀ p, H p = none → Q (.ref p) (upd H p (.lst xs)) := rfl
theorem et1 : uIsi K [x, .ty n] H Q = tyN K x H fun m => ∃ b, kitB m n = some b ∧ Q (.bl b) H := rfl
theorem et2 {f : String → Prop} : tyN K .non H f = f "NoneType" := rfl
theorem et3 {f : String → Prop} : tyN K (.bl k) H f = f "bool" := rfl
theorem et4 {f : String → Prop} : tyN K (.int i) H f = f "int" := rfl
theorem et5 {f : String → Prop} : tyN K (.str z) H f = f "str" := rfl
theorem et6 {f : String → Prop} : tyN K (.ref a) H f = (((∃ xs, SqL K H a xs) ∧ f "list") ∨ ((∃ xs, SqT K H a xs) ∧ f "tuple") ∨ ((∃ kvs, H a = some (.dK kvs)) ∧ f "dict")) := rfl
end
theorem at_len {α : Type} {xs : List α} {i : Int} (h0 : 0 ≤ i) (h1 : i < xs.length) : ∃ v, atI xs i = some v := by
  obtain ⟨k, rfl⟩ := Int.eq_ofNat_of_zero_le h0
  have h2 : k < xs.length := by omega
  exact ⟨xs[k], atI_nat (List.getElem?_eq_getElem h2)⟩
theorem atI_mem {α : Type} {xs : List α} {i : Int} {v : α} (h : atI xs i = some v) : v ∈ xs := by
  unfold atI at h
  cases e : ixN xs.length i with
  | none => rw [e] at h; cases h
  | some j => rw [e] at h; exact List.mem_of_getElem? h
theorem cutS_le (z : Str) (lo hi : Option Int) : (cutS z lo hi).length ≤ z.length := cutS_length z lo hi
theorem repS_len {z : Str} {k : Int} : (repS z k).length = k.toNat * z.length := by
  show ((List.replicate k.toNat z.cps.toList).flatten.toArray).size = _
  simp [Str.length]
/-- the law's cells mixed -/
theorem bits_nn {z : Int} {n : Nat} (h0 : 0 ≤ z) (h : z < n) (hn : n ≤ 2 ^ 64) : Builtin.Int.intBits z ≤ 65 := bitsOf (a := 64) (by omega)
end Hf
set_option Elab.async false
set_option linter.all false
set_option maxRecDepth 100000
set_option maxHeartbeats 4000000
namespace Hf
open PySem PySem.Spec L2 PyProof.Rows
local macro_rules | `(tactic| walk_at "ex") => `(tactic| try simp only [sSeq, sSet, sExp, sRet, sRetN, sNil, sBrk, sCnt, eBin, eUn, eVar, eLit, eAnd, eOr, eNot, eChain, eIf, eTup, eLst, eSl, eCall, eBlt, aNil, aCons, oNone, oPart,
  tTst, tAnd, tOr, tNot, gNm, gPr, sForR1, sForR2, sForSq, sForTx, sForE, eb6, eb7, eb8, eb9, eb10, eb11, eMs, eMl, uFind, uStarts, uSplit, uRstrip, uIsdigit, uAppend, uPop, uPop0, uExtend, eb1, eb2, eb3, eb4, eb5, eo1, eo2, eo3, eo4, eo5, eo6, eo7, eo8, ec1, ec2, ec3, ec4, ec5, ec6, ec7, ec8, ec9, ec10, ec11, ex1, ex2, ex3, ex4, el1, el2, el3, el4, el5, el6, el7, el8, el9, el10, et1, et2, et3, et4, et5, et6,
  List.getElem?_cons_zero, List.getElem?_cons_succ, List.set, decide_eq_true_eq, Bool.not_eq_true', decide_eq_false_iff_not, Bool.not_not, ↓reduceIte, Bool.false_eq_true, Bool.not_true, Bool.not_false, Bool.true_eq_false, reduceCtorEq])
local macro_rules | `(tactic| walk_at "side") => `(tactic| first | decide | omega | exact ⟨by decide, by decide⟩ | decide +kernel | (simp only [List.length_cons, List.length_nil, List.length_map, List.length_append]; first | decide | omega))
local macro_rules | `(tactic| walk_at "sd") => `(tactic| repeat (refine And.intro (by walk_at "side") ?_))
local macro_rules | `(tactic| walk_at "if") => `(tactic| (refine if_split ?_; walk_at "ex"))
def topS (i : Nat) : Stmt := PySem.Challenge.pw_handflow_k10_done.main.body.getD i (.Pass ⟨0, 0, 0, 0⟩)
abbrev v_WHEEL : V := .int (1000000000000000000000000000000)
section
variable {P : Program} {w : World} {K : PySem.W.Frag} {mg : Str → Option Value} {base : Heap}
abbrev s_L_mixed : Stmt := topS 4
theorem sc_L_mixed : FnScope ["_law_cell", "_law_k", "_law_m"] ["_law_cell", "_law_k"] (defScope s_L_mixed) := ⟨rfl, rfl, rfl, by decide +kernel, rfl, by decide +kernel, by decide +kernel⟩
def b_L_mixed (K : PySem.W.Frag) : TS :=
  (sSeq (sSet 2 (eBin (rMod) (eBin (uAdd K) (eBin (uMul) (eBin (rMod) (eVar 0) (eLit (.int 2147483647))) (eLit (.int 48271))) (eBin (uMul) (eBin (uAdd K) (eBin (uAdd K) (eBin (uMul) (eVar 1) (eVar 1)) (eBin (uMul) (eLit (.int 3)) (eVar 1))) (eLit (.int 7))) (eLit (.int 69621)))) (eLit (.int 2147483647))))
  (sRet (eBin (rMod) (eBin (uMul) (eVar 2) (eVar 2)) (eLit (.int 2147483647)))))
structure sp_L_mixed (K : PySem.W.Frag) (vs : List V) (H : Hp) (Q : VK) (E : XK) : Prop where
  run : match vs with
  | [a0, a1] => b_L_mixed K { nx := fun _ H' => Q .non H', rt := Q } [some a0, some a1, none] H
  | _ => False
theorem okf_L_mixed {f : Addr} {fd : FuncData} (F : L2.Fun K "_law_mixed" "_law_mixed" s_L_mixed f fd)  : FnOk P w K mg base CX0 1 f fd ["_law_cell", "_law_k"] (sp_L_mixed K) := by
  have nd := sc_L_mixed.nd
  refine F.ok (k := 0) sc_L_mixed (fun vs H Q E h => ?_) (fun cdv A outer s H vs Q E hr h => ⟨b_L_mixed K, ?_, ?_⟩)
  · have h := h.run; split at h; exact rfl; exact h.elim
  · have hu64 := hr.units
    exact (zCons (zSet (i := 2) nd rfl (by first | exact .inl rfl | exact .inr rfl) (dBin oMod (dBin oAdd (dBin oMul (dBin oMod (dVar 0) dInt) dInt) (dBin oMul (dBin oAdd (dBin oAdd (dBin oMul (dVar 1) (dVar 1)) (dBin oMul dInt (dVar 1))) dInt) dInt)) dInt))
  (zOne (zRet (dBin oMod (dBin oMul (dVar 2) (dVar 2)) dInt))))
  · have h := h.run; split at h; exact h; exact h.elim
theorem ok_L_mixed (D : Df K mg "_law_mixed" s_L_mixed)  : Fn P w K mg base CX0 1 "_law_mixed" ["_law_cell", "_law_k"] (sp_L_mixed K) := by
  obtain ⟨f, fd, F, gm⟩ := D
  exact ⟨f, fd, gm, F.kp, F.binds (fun _ _ _ _ _ _ us hl => match us, hl with | [_, _], _ => rfl), okf_L_mixed F ⟩
abbrev s_L_number : Stmt := topS 5
theorem sc_L_number : FnScope ["_law_cell", "_law_way", "_law_c"] ["_law_cell", "_law_way"] (defScope s_L_number) := ⟨rfl, rfl, rfl, by decide +kernel, rfl, by decide +kernel, by decide +kernel⟩
def b_L_number (K : PySem.W.Frag) : TS :=
  (sSeq (sSet 2 (eBin (rMod) (eVar 0) (eBin (rPow) (eLit (.int 10)) (eLit (.int 60)))))
  (sSeq (sIf (tTst (eBin (uEq K) (eBin (rMod) (eVar 1) (eLit (.int 5))) (eLit (.int 0)))) (sRet (eBin (rMod) (eVar 2) (eLit (.int 3)))) sNil)
  (sSeq (sIf (tTst (eBin (uEq K) (eBin (rMod) (eVar 1) (eLit (.int 5))) (eLit (.int 1)))) (sRet (eBin (rSub) (eBin (rSub) (eBin (rPow) (eLit (.int 10)) (eLit (.int 30))) (eLit (.int 1))) (eBin (rMod) (eVar 2) (eLit (.int 3))))) sNil)
  (sSeq (sIf (tTst (eBin (uEq K) (eBin (rMod) (eVar 1) (eLit (.int 5))) (eLit (.int 2)))) (sRet (eBin (rMod) (eVar 2) (eBin (rPow) (eLit (.int 10)) (eLit (.int 30))))) sNil)
  (sRet (eBin (rMod) (eBin (uMul) (eBin (uMul) (eBin (uAdd K) (eVar 2) (eLit (.int 1))) (eBin (uAdd K) (eBin (uMul) (eVar 1) (eVar 1)) (eLit (.int 11)))) (eLit (.int 618970019642690137449562111))) (eBin (rPow) (eLit (.int 10)) (eLit (.int 30)))))))))
structure sp_L_number (K : PySem.W.Frag) (vs : List V) (H : Hp) (Q : VK) (E : XK) : Prop where
  run : match vs with
  | [a0, a1] => b_L_number K { nx := fun _ H' => Q .non H', rt := Q } [some a0, some a1, none] H
  | _ => False
theorem okf_L_number {f : Addr} {fd : FuncData} (F : L2.Fun K "_law_number" "_law_number" s_L_number f fd)  : FnOk P w K mg base CX0 1 f fd ["_law_cell", "_law_way"] (sp_L_number K) := by
  have nd := sc_L_number.nd
  refine F.ok (k := 0) sc_L_number (fun vs H Q E h => ?_) (fun cdv A outer s H vs Q E hr h => ⟨b_L_number K, ?_, ?_⟩)
  · have h := h.run; split at h; exact rfl; exact h.elim
  · have hu64 := hr.units
    exact (zCons (zSet (i := 2) nd rfl (by first | exact .inl rfl | exact .inr rfl) (dBin oMod (dVar 0) (dBin oPow dInt dInt)))
  (zCons (zIf (qCmp (oEq hu64) (dBin oMod (dVar 1) dInt) dInt) (zOne (zRet (dBin oMod (dVar 2) dInt))) zNil)
  (zCons (zIf (qCmp (oEq hu64) (dBin oMod (dVar 1) dInt) dInt) (zOne (zRet (dBin oSub (dBin oSub (dBin oPow dInt dInt) dInt) (dBin oMod (dVar 2) dInt)))) zNil)
  (zCons (zIf (qCmp (oEq hu64) (dBin oMod (dVar 1) dInt) dInt) (zOne (zRet (dBin oMod (dVar 2) (dBin oPow dInt dInt)))) zNil)
  (zOne (zRet (dBin oMod (dBin oMul (dBin oMul (dBin oAdd (dVar 2) dInt) (dBin oAdd (dBin oMul (dVar 1) (dVar 1)) dInt)) dInt) (dBin oPow dInt dInt))))))))
  · have h := h.run; split at h; exact h; exact h.elim
theorem ok_L_number (D : Df K mg "_law_number" s_L_number)  : Fn P w K mg base CX0 1 "_law_number" ["_law_cell", "_law_way"] (sp_L_number K) := by
  obtain ⟨f, fd, F, gm⟩ := D
  exact ⟨f, fd, gm, F.kp, F.binds (fun _ _ _ _ _ _ us hl => match us, hl with | [_, _], _ => rfl), okf_L_number F ⟩
abbrev s_L_other : Stmt := topS 6
theorem sc_L_other : FnScope ["_law_a", "_law_cell", "_law_way"] ["_law_a", "_law_cell", "_law_way"] (defScope s_L_other) := ⟨rfl, rfl, rfl, by decide +kernel, rfl, by decide +kernel, by decide +kernel⟩
def b_L_other (K : PySem.W.Frag) : TS :=
  (sSeq (sIf (tTst (eBin (uEq K) (eBin (rMod) (eVar 2) (eLit (.int 6))) (eLit (.int 0)))) (sRet (eVar 0)) sNil)
  (sSeq (sIf (tTst (eBin (uEq K) (eBin (rMod) (eVar 2) (eLit (.int 6))) (eLit (.int 1)))) (sRet (eLit (.int 0))) sNil)
  (sSeq (sIf (tTst (eBin (uEq K) (eBin (rMod) (eVar 2) (eLit (.int 6))) (eLit (.int 2)))) (sRet (eBin (uAdd K) (eLit (.int 1)) (eBin (rMod) (eVar 1) (eLit (.int 3))))) sNil)
  (sSeq (sIf (tTst (eBin (uEq K) (eBin (rMod) (eVar 2) (eLit (.int 6))) (eLit (.int 3)))) (sRet (eBin (rMod) (eBin (rSub) (eBin (rPow) (eLit (.int 10)) (eLit (.int 30))) (eVar 0)) (eBin (rPow) (eLit (.int 10)) (eLit (.int 30))))) sNil)
  (sRet (eCall (sp_L_number K) E0 (aCons (eVar 1) (aCons (eBin (rDiv) (eVar 2) (eLit (.int 6))) aNil))))))))
structure sp_L_other (K : PySem.W.Frag) (vs : List V) (H : Hp) (Q : VK) (E : XK) : Prop where
  run : match vs with
  | [a0, a1, a2] => b_L_other K { nx := fun _ H' => Q .non H', rt := Q } [some a0, some a1, some a2] H
  | _ => False
theorem okf_L_other {f : Addr} {fd : FuncData} (F : L2.Fun K "_law_other" "_law_other" s_L_other f fd) (F_L_number : Fn P w K mg base CX0 1 "_law_number" ["_law_cell", "_law_way"] (sp_L_number K)) : FnOk P w K mg base CX0 2 f fd ["_law_a", "_law_cell", "_law_way"] (sp_L_other K) := by
  have nd := sc_L_other.nd
  refine F.ok (k := 1) sc_L_other (fun vs H Q E h => ?_) (fun cdv A outer s H vs Q E hr h => ⟨b_L_other K, ?_, ?_⟩)
  · have h := h.run; split at h; exact rfl; exact h.elim
  · have hu64 := hr.units
    exact (zCons (zIf (qCmp (oEq hu64) (dBin oMod (dVar 2) dInt) dInt) (zOne (zRet (dVar 0))) zNil)
  (zCons (zIf (qCmp (oEq hu64) (dBin oMod (dVar 2) dInt) dInt) (zOne (zRet dInt)) zNil)
  (zCons (zIf (qCmp (oEq hu64) (dBin oMod (dVar 2) dInt) dInt) (zOne (zRet (dBin oAdd dInt (dBin oMod (dVar 1) dInt)))) zNil)
  (zCons (zIf (qCmp (oEq hu64) (dBin oMod (dVar 2) dInt) dInt) (zOne (zRet (dBin oMod (dBin oSub (dBin oPow dInt dInt) (dVar 0)) (dBin oPow dInt dInt)))) zNil)
  (zOne (zRet (dFn F_L_number (hr.mono (by omega)) rfl pass0 (kCons (dVar 1) (kCons (dBin oDiv (dVar 2) dInt) kNil)))))))))
  · have h := h.run; split at h; exact h; exact h.elim
theorem ok_L_other (D : Df K mg "_law_other" s_L_other) (F_L_number : Fn P w K mg base CX0 1 "_law_number" ["_law_cell", "_law_way"] (sp_L_number K)) : Fn P w K mg base CX0 2 "_law_other" ["_law_a", "_law_cell", "_law_way"] (sp_L_other K) := by
  obtain ⟨f, fd, F, gm⟩ := D
  exact ⟨f, fd, gm, F.kp, F.binds (fun _ _ _ _ _ _ us hl => match us, hl with | [_, _, _], _ => rfl), okf_L_other F F_L_number⟩
abbrev s_done : Stmt := topS 2
theorem sc_done : FnScope ["sign", "a", "b"] ["sign", "a", "b"] (defScope s_done) := ⟨rfl, rfl, rfl, by decide +kernel, rfl, by decide +kernel, by decide +kernel⟩
def b_done (K : PySem.W.Frag) : TS :=
  (sSeq (sIf (tTst (eBin (uEq K) (eVar 0) (eLit (.str "+")))) (sRet (eBin (rMod) (eBin (uAdd K) (eVar 1) (eVar 2)) (eLit v_WHEEL))) sNil)
  (sSeq (sIf (tTst (eBin (uEq K) (eVar 0) (eLit (.str "-")))) (sRet (eBin (rMod) (eBin (rSub) (eVar 1) (eVar 2)) (eLit v_WHEEL))) sNil)
  (sSeq (sIf (tTst (eBin (uEq K) (eVar 0) (eLit (.str "*")))) (sRet (eBin (rMod) (eBin (uMul) (eVar 1) (eVar 2)) (eLit v_WHEEL))) sNil)
  (sSeq (sIf (tTst (eBin (uEq K) (eVar 0) (eLit (.str "/")))) (sSeq (sIf (tTst (eBin (uEq K) (eVar 2) (eLit (.int 0)))) (sRet (eLit (.int 0))) sNil)
  (sRet (eBin (rDiv) (eVar 1) (eVar 2)))) sNil)
  (sSeq (sIf (tTst (eBin (uEq K) (eVar 0) (eLit (.str "<")))) (sRet (eBlt (uInt) (aCons (eBin (rLt) (eVar 1) (eVar 2)) aNil))) sNil)
  (sSeq (sIf (tTst (eBin (uEq K) (eVar 0) (eLit (.str "=")))) (sRet (eBlt (uInt) (aCons (eBin (uEq K) (eVar 1) (eVar 2)) aNil))) sNil)
  (sSeq (sIf (tTst (eBin (uEq K) (eVar 0) (eLit (.str "&")))) (sRet (eBin (rAnd) (eVar 1) (eVar 2))) sNil)
  (sSeq (sIf (tTst (eBin (uEq K) (eVar 0) (eLit (.str "|")))) (sRet (eBin (rMod) (eBin (rOr) (eVar 1) (eVar 2)) (eLit v_WHEEL))) sNil)
  (sRet (eBin (rMod) (eBin (rXor) (eVar 1) (eVar 2)) (eLit v_WHEEL)))))))))))
structure sp_done (K : PySem.W.Frag) (vs : List V) (H : Hp) (Q : VK) (E : XK) : Prop where
  run : match vs with
  | [a0, a1, a2] => b_done K { nx := fun _ H' => Q .non H', rt := Q } [some a0, some a1, some a2] H
  | _ => False
theorem okf_done {f : Addr} {fd : FuncData} (F : L2.Fun K "done" "done" s_done f fd) (m_int : mg "int" = none) (C_WHEEL : Cn mg "WHEEL" v_WHEEL) : FnOk P w K mg base CX0 1 f fd ["sign", "a", "b"] (sp_done K) := by
  have nd := sc_done.nd
  refine F.ok (k := 0) sc_done (fun vs H Q E h => ?_) (fun cdv A outer s H vs Q E hr h => ⟨b_done K, ?_, ?_⟩)
  · have h := h.run; split at h; exact rfl; exact h.elim
  · have hu64 := hr.units
    exact (zCons (zIf (qCmp (oEq hu64) (dVar 0) dStr) (zOne (zRet (dBin oMod (dBin oAdd (dVar 1) (dVar 2)) (dCn rfl C_WHEEL)))) zNil)
  (zCons (zIf (qCmp (oEq hu64) (dVar 0) dStr) (zOne (zRet (dBin oMod (dBin oSub (dVar 1) (dVar 2)) (dCn rfl C_WHEEL)))) zNil)
  (zCons (zIf (qCmp (oEq hu64) (dVar 0) dStr) (zOne (zRet (dBin oMod (dBin oMul (dVar 1) (dVar 2)) (dCn rfl C_WHEEL)))) zNil)
  (zCons (zIf (qCmp (oEq hu64) (dVar 0) dStr) (zCons (zIf (qCmp (oEq hu64) (dVar 2) dInt) (zOne (zRet dInt)) zNil)
  (zOne (zRet (dBin oDiv (dVar 1) (dVar 2))))) zNil)
  (zCons (zIf (qCmp (oEq hu64) (dVar 0) dStr) (zOne (zRet (dBty bInt rfl m_int (by decide +kernel) (kCons (dCmp oLt (dVar 1) (dVar 2)) kNil)))) zNil)
  (zCons (zIf (qCmp (oEq hu64) (dVar 0) dStr) (zOne (zRet (dBty bInt rfl m_int (by decide +kernel) (kCons (dCmp (oEq hu64) (dVar 1) (dVar 2)) kNil)))) zNil)
  (zCons (zIf (qCmp (oEq hu64) (dVar 0) dStr) (zOne (zRet (dBin oAnd (dVar 1) (dVar 2)))) zNil)
  (zCons (zIf (qCmp (oEq hu64) (dVar 0) dStr) (zOne (zRet (dBin oMod (dBin oOr (dVar 1) (dVar 2)) (dCn rfl C_WHEEL)))) zNil)
  (zOne (zRet (dBin oMod (dBin oXor (dVar 1) (dVar 2)) (dCn rfl C_WHEEL))))))))))))
  · have h := h.run; split at h; exact h; exact h.elim
theorem ok_done (D : Df K mg "done" s_done) (m_int : mg "int" = none) (C_WHEEL : Cn mg "WHEEL" v_WHEEL) : Fn P w K mg base CX0 1 "done" ["sign", "a", "b"] (sp_done K) := by
  obtain ⟨f, fd, F, gm⟩ := D
  exact ⟨f, fd, gm, F.kp, F.binds (fun _ _ _ _ _ _ us hl => match us, hl with | [_, _, _], _ => rfl), okf_done F m_int C_WHEEL⟩
abbrev s_L_bits : Stmt := topS 7
theorem sc_L_bits : FnScope ["_law_sign", "_law_a", "_law_b", "_law_total", "_law_weight", "_law_k", "_law_both"] ["_law_sign", "_law_a", "_law_b"] (defScope s_L_bits) := ⟨rfl, rfl, rfl, by decide +kernel, rfl, by decide +kernel, by decide +kernel⟩
def l_L_bits_1 (K : PySem.W.Frag) : TS :=
  (sSeq (sSet 6 (eBin (uAdd K) (eBin (rMod) (eVar 1) (eLit (.int 2))) (eBin (rMod) (eVar 2) (eLit (.int 2)))))
  (sSeq (sIf (tOr (tAnd (tTst (eBin (uEq K) (eVar 6) (eLit (.int 2)))) (tTst (eBin (uNe K) (eVar 0) (eLit (.str "^"))))) (tAnd (tTst (eBin (uEq K) (eVar 6) (eLit (.int 1)))) (tTst (eBin (uNe K) (eVar 0) (eLit (.str "&")))))) (sSet 3 (eBin (uAdd K) (eVar 3) (eVar 4))) sNil)
  (sSeq (sSet 1 (eBin (rDiv) (eVar 1) (eLit (.int 2))))
  (sSeq (sSet 2 (eBin (rDiv) (eVar 2) (eLit (.int 2))))
  (sSet 4 (eBin (uMul) (eVar 4) (eLit (.int 2))))))))
theorem el_L_bits_1 {K : PySem.W.Frag} {D : Ends} {σ : L2.St} {H : Hp} : l_L_bits_1 K D σ H = ((sSeq (sSet 6 (eBin (uAdd K) (eBin (rMod) (eVar 1) (eLit (.int 2))) (eBin (rMod) (eVar 2) (eLit (.int 2)))))
  (sSeq (sIf (tOr (tAnd (tTst (eBin (uEq K) (eVar 6) (eLit (.int 2)))) (tTst (eBin (uNe K) (eVar 0) (eLit (.str "^"))))) (tAnd (tTst (eBin (uEq K) (eVar 6) (eLit (.int 1)))) (tTst (eBin (uNe K) (eVar 0) (eLit (.str "&")))))) (sSet 3 (eBin (uAdd K) (eVar 3) (eVar 4))) sNil)
  (sSeq (sSet 1 (eBin (rDiv) (eVar 1) (eLit (.int 2))))
  (sSeq (sSet 2 (eBin (rDiv) (eVar 2) (eLit (.int 2))))
  (sSet 4 (eBin (uMul) (eVar 4) (eLit (.int 2))))))))) D σ H := rfl
def b_L_bits (K : PySem.W.Frag) : TS :=
  (sSeq (sSet 3 (eLit (.int 0)))
  (sSeq (sSet 4 (eLit (.int 1)))
  (sSeq (sForR1 (eLit (.int 100)) (gNm 5) (l_L_bits_1 K))
  (sRet (eVar 3)))))
structure sp_L_bits (K : PySem.W.Frag) (vs : List V) (H : Hp) (Q : VK) (E : XK) : Prop where
  run : match vs with
  | [a0, a1, a2] => b_L_bits K { nx := fun _ H' => Q .non H', rt := Q } [some a0, some a1, some a2, none, none, none, none] H
  | _ => False
theorem okf_L_bits {f : Addr} {fd : FuncData} (F : L2.Fun K "_law_bits" "_law_bits" s_L_bits f fd) (m_range : mg "range" = none) : FnOk P w K mg base CX0 1 f fd ["_law_sign", "_law_a", "_law_b"] (sp_L_bits K) := by
  have nd := sc_L_bits.nd
  refine F.ok (k := 0) sc_L_bits (fun vs H Q E h => ?_) (fun cdv A outer s H vs Q E hr h => ⟨b_L_bits K, ?_, ?_⟩)
  · have h := h.run; split at h; exact rfl; exact h.elim
  · have hu64 := hr.units
    exact (zCons (zSet (i := 3) nd rfl (by first | exact .inl rfl | exact .inr rfl) dInt)
  (zCons (zSet (i := 4) nd rfl (by first | exact .inl rfl | exact .inr rfl) dInt)
  (zCons (zForR1 PassesOwn.never rfl rfl m_range dInt (tgNm (i := 5) nd rfl (by first | exact .inl rfl | exact .inr rfl)) (zCons (zSet (i := 6) nd rfl (by first | exact .inl rfl | exact .inr rfl) (dBin oAdd (dBin oMod (dVar 1) dInt) (dBin oMod (dVar 2) dInt)))
  (zCons (zIf (PW.pt (qOr (PW.pt (qAnd (qCmp (oEq hu64) (dVar 6) dInt) (qAnd1 (qCmp (oNe hu64) (dVar 0) dStr)))) (qOr1 (PW.pt (qAnd (qCmp (oEq hu64) (dVar 6) dInt) (qAnd1 (qCmp (oNe hu64) (dVar 0) dStr))))))) (zOne (zSet (i := 3) nd rfl (by first | exact .inl rfl | exact .inr rfl) (dBin oAdd (dVar 3) (dVar 4)))) zNil)
  (zCons (zSet (i := 1) nd rfl (by first | exact .inl rfl | exact .inr rfl) (dBin oDiv (dVar 1) dInt))
  (zCons (zSet (i := 2) nd rfl (by first | exact .inl rfl | exact .inr rfl) (dBin oDiv (dVar 2) dInt))
  (zOne (zSet (i := 4) nd rfl (by first | exact .inl rfl | exact .inr rfl) (dBin oMul (dVar 4) dInt))))))))
  (zOne (zRet (dVar 3))))))
  · have h := h.run; split at h; exact h; exact h.elim
theorem ok_L_bits (D : Df K mg "_law_bits" s_L_bits) (m_range : mg "range" = none) : Fn P w K mg base CX0 1 "_law_bits" ["_law_sign", "_law_a", "_law_b"] (sp_L_bits K) := by
  obtain ⟨f, fd, F, gm⟩ := D
  exact ⟨f, fd, gm, F.kp, F.binds (fun _ _ _ _ _ _ us hl => match us, hl with | [_, _, _], _ => rfl), okf_L_bits F m_range⟩
abbrev s_L_right : Stmt := topS 8
theorem sc_L_right : FnScope ["_law_sign", "_law_a", "_law_b", "_law_found"] ["_law_sign", "_law_a", "_law_b", "_law_found"] (defScope s_L_right) := ⟨rfl, rfl, rfl, by decide +kernel, rfl, by decide +kernel, by decide +kernel⟩
def b_L_right (K : PySem.W.Frag) : TS :=
  (sSeq (sIf (tTst (eBin (uEq K) (eVar 0) (eLit (.str "+")))) (sRet (eBin (uEq K) (eBin (rMod) (eBin (rSub) (eBin (uAdd K) (eVar 1) (eVar 2)) (eVar 3)) (eBin (rPow) (eLit (.int 10)) (eLit (.int 30)))) (eLit (.int 0)))) sNil)
  (sSeq (sIf (tTst (eBin (uEq K) (eVar 0) (eLit (.str "-")))) (sRet (eBin (uEq K) (eBin (rMod) (eBin (rSub) (eBin (rSub) (eVar 1) (eVar 2)) (eVar 3)) (eBin (rPow) (eLit (.int 10)) (eLit (.int 30)))) (eLit (.int 0)))) sNil)
  (sSeq (sIf (tTst (eBin (uEq K) (eVar 0) (eLit (.str "*")))) (sRet (eBin (uEq K) (eBin (rMod) (eBin (rSub) (eBin (uMul) (eVar 1) (eVar 2)) (eVar 3)) (eBin (rPow) (eLit (.int 10)) (eLit (.int 30)))) (eLit (.int 0)))) sNil)
  (sSeq (sIf (tAnd (tTst (eBin (uEq K) (eVar 0) (eLit (.str "/")))) (tTst (eBin (uEq K) (eVar 2) (eLit (.int 0))))) (sRet (eBin (uEq K) (eVar 3) (eLit (.int 0)))) sNil)
  (sSeq (sIf (tTst (eBin (uEq K) (eVar 0) (eLit (.str "/")))) (sRet (eChain (rLe) (rLt) (eBin (uMul) (eVar 3) (eVar 2)) (eVar 1) (eBin (uAdd K) (eBin (uMul) (eVar 3) (eVar 2)) (eVar 2)))) sNil)
  (sSeq (sIf (tTst (eBin (uEq K) (eVar 0) (eLit (.str "<")))) (sRet (eOr (eAnd (eBin (uEq K) (eVar 3) (eLit (.int 1))) (eBin (rLt) (eVar 1) (eVar 2))) (eAnd (eBin (uEq K) (eVar 3) (eLit (.int 0))) (eBin (rGe) (eVar 1) (eVar 2))))) sNil)
  (sSeq (sIf (tTst (eBin (uEq K) (eVar 0) (eLit (.str "=")))) (sRet (eOr (eAnd (eBin (uEq K) (eVar 3) (eLit (.int 1))) (eBin (uEq K) (eVar 1) (eVar 2))) (eAnd (eBin (uEq K) (eVar 3) (eLit (.int 0))) (eBin (uNe K) (eVar 1) (eVar 2))))) sNil)
  (sRet (eBin (uEq K) (eBin (rMod) (eBin (rSub) (eCall (sp_L_bits K) E0 (aCons (eVar 0) (aCons (eVar 1) (aCons (eVar 2) aNil)))) (eVar 3)) (eBin (rPow) (eLit (.int 10)) (eLit (.int 30)))) (eLit (.int 0)))))))))))
structure sp_L_right (K : PySem.W.Frag) (vs : List V) (H : Hp) (Q : VK) (E : XK) : Prop where
  run : match vs with
  | [a0, a1, a2, a3] => b_L_right K { nx := fun _ H' => Q .non H', rt := Q } [some a0, some a1, some a2, some a3] H
  | _ => False
theorem okf_L_right {f : Addr} {fd : FuncData} (F : L2.Fun K "_law_right" "_law_right" s_L_right f fd) (F_L_bits : Fn P w K mg base CX0 1 "_law_bits" ["_law_sign", "_law_a", "_law_b"] (sp_L_bits K)) : FnOk P w K mg base CX0 2 f fd ["_law_sign", "_law_a", "_law_b", "_law_found"] (sp_L_right K) := by
  have nd := sc_L_right.nd
  refine F.ok (k := 1) sc_L_right (fun vs H Q E h => ?_) (fun cdv A outer s H vs Q E hr h => ⟨b_L_right K, ?_, ?_⟩)
  · have h := h.run; split at h; exact rfl; exact h.elim
  · have hu64 := hr.units
    exact (zCons (zIf (qCmp (oEq hu64) (dVar 0) dStr) (zOne (zRet (dCmp (oEq hu64) (dBin oMod (dBin oSub (dBin oAdd (dVar 1) (dVar 2)) (dVar 3)) (dBin oPow dInt dInt)) dInt))) zNil)
  (zCons (zIf (qCmp (oEq hu64) (dVar 0) dStr) (zOne (zRet (dCmp (oEq hu64) (dBin oMod (dBin oSub (dBin oSub (dVar 1) (dVar 2)) (dVar 3)) (dBin oPow dInt dInt)) dInt))) zNil)
  (zCons (zIf (qCmp (oEq hu64) (dVar 0) dStr) (zOne (zRet (dCmp (oEq hu64) (dBin oMod (dBin oSub (dBin oMul (dVar 1) (dVar 2)) (dVar 3)) (dBin oPow dInt dInt)) dInt))) zNil)
  (zCons (zIf (PW.pt (qAnd (qCmp (oEq hu64) (dVar 0) dStr) (qAnd1 (qCmp (oEq hu64) (dVar 2) dInt)))) (zOne (zRet (dCmp (oEq hu64) (dVar 3) dInt))) zNil)
  (zCons (zIf (qCmp (oEq hu64) (dVar 0) dStr) (zOne (zRet (dChain oLe oLt (dBin oMul (dVar 3) (dVar 2)) (dVar 1) (dBin oAdd (dBin oMul (dVar 3) (dVar 2)) (dVar 2))))) zNil)
  (zCons (zIf (qCmp (oEq hu64) (dVar 0) dStr) (zOne (zRet (dOr (dAnd (dCmp (oEq hu64) (dVar 3) dInt) (dOne (dCmp oLt (dVar 1) (dVar 2)))) (dOne (dAnd (dCmp (oEq hu64) (dVar 3) dInt) (dOne (dCmp oGe (dVar 1) (dVar 2)))))))) zNil)
  (zCons (zIf (qCmp (oEq hu64) (dVar 0) dStr) (zOne (zRet (dOr (dAnd (dCmp (oEq hu64) (dVar 3) dInt) (dOne (dCmp (oEq hu64) (dVar 1) (dVar 2)))) (dOne (dAnd (dCmp (oEq hu64) (dVar 3) dInt) (dOne (dCmp (oNe hu64) (dVar 1) (dVar 2)))))))) zNil)
  (zOne (zRet (dCmp (oEq hu64) (dBin oMod (dBin oSub (dFn F_L_bits (hr.mono (by omega)) rfl pass0 (kCons (dVar 0) (kCons (dVar 1) (kCons (dVar 2) kNil)))) (dVar 3)) (dBin oPow dInt dInt)) dInt))))))))))
  · have h := h.run; split at h; exact h; exact h.elim
theorem ok_L_right (D : Df K mg "_law_right" s_L_right) (F_L_bits : Fn P w K mg base CX0 1 "_law_bits" ["_law_sign", "_law_a", "_law_b"] (sp_L_bits K)) : Fn P w K mg base CX0 2 "_law_right" ["_law_sign", "_law_a", "_law_b", "_law_found"] (sp_L_right K) := by
  obtain ⟨f, fd, F, gm⟩ := D
  exact ⟨f, fd, gm, F.kp, F.binds (fun _ _ _ _ _ _ us hl => match us, hl with | [_, _, _, _], _ => rfl), okf_L_right F F_L_bits⟩
abbrev s_law : Stmt := topS 9
theorem sc_law : FnScope ["_law_script", "_law_cells", "_law_k", "_law_m", "_law_sign", "_law_a", "_law_b", "_law_found"] ["_law_script"] (defScope s_law) := ⟨rfl, rfl, rfl, by decide +kernel, rfl, by decide +kernel, by decide +kernel⟩
def l_law_1 (K : PySem.W.Frag) : TS :=
  (sSeq (sSet 3 (eCall (sp_L_mixed K) E0 (aCons (eBin (uIx K) (eVar 1) (eVar 2)) (aCons (eVar 2) aNil))))
  (sSeq (sSet 4 (eBin (uIx K) (eLit (.str "+-*/<=&|^")) (eBin (rMod) (eVar 3) (eLit (.int 9)))))
  (sSeq (sSet 5 (eCall (sp_L_number K) E0 (aCons (eBin (uIx K) (eVar 1) (eVar 2)) (aCons (eBin (rMod) (eBin (rDiv) (eVar 3) (eLit (.int 9))) (eLit (.int 1009))) aNil))))
  (sSeq (sSet 6 (eCall (sp_L_other K) E0 (aCons (eVar 5) (aCons (eBin (uIx K) (eVar 1) (eBin (rMod) (eBin (uAdd K) (eVar 2) (eLit (.int 1))) (eBlt (uLen K) (aCons (eVar 1) aNil)))) (aCons (eBin (rMod) (eBin (rDiv) (eVar 3) (eLit (.int 9081))) (eLit (.int 997))) aNil)))))
  (sSeq (sSet 7 (eCall (sp_done K) E0 (aCons (eVar 4) (aCons (eVar 5) (aCons (eVar 6) aNil)))))
  (sSeq (sIf (tOr (tNot (tTst (eBlt (uIsi K) (aCons (eVar 7) (aCons (eLit (.ty "int")) aNil))))) (tTst (eBlt (uIsi K) (aCons (eVar 7) (aCons (eLit (.ty "bool")) aNil))))) (sRet (eLit (.bl false))) sNil)
  (sIf (tOr (tNot (tTst (eChain (rLe) (rLt) (eLit (.int 0)) (eVar 7) (eBin (rPow) (eLit (.int 10)) (eLit (.int 30)))))) (tNot (tTst (eCall (sp_L_right K) E0 (aCons (eVar 4) (aCons (eVar 5) (aCons (eVar 6) (aCons (eVar 7) aNil)))))))) (sRet (eLit (.bl false))) sNil)))))))
theorem el_law_1 {K : PySem.W.Frag} {D : Ends} {σ : L2.St} {H : Hp} : l_law_1 K D σ H = ((sSeq (sSet 3 (eCall (sp_L_mixed K) E0 (aCons (eBin (uIx K) (eVar 1) (eVar 2)) (aCons (eVar 2) aNil))))
  (sSeq (sSet 4 (eBin (uIx K) (eLit (.str "+-*/<=&|^")) (eBin (rMod) (eVar 3) (eLit (.int 9)))))
  (sSeq (sSet 5 (eCall (sp_L_number K) E0 (aCons (eBin (uIx K) (eVar 1) (eVar 2)) (aCons (eBin (rMod) (eBin (rDiv) (eVar 3) (eLit (.int 9))) (eLit (.int 1009))) aNil))))
  (sSeq (sSet 6 (eCall (sp_L_other K) E0 (aCons (eVar 5) (aCons (eBin (uIx K) (eVar 1) (eBin (rMod) (eBin (uAdd K) (eVar 2) (eLit (.int 1))) (eBlt (uLen K) (aCons (eVar 1) aNil)))) (aCons (eBin (rMod) (eBin (rDiv) (eVar 3) (eLit (.int 9081))) (eLit (.int 997))) aNil)))))
  (sSeq (sSet 7 (eCall (sp_done K) E0 (aCons (eVar 4) (aCons (eVar 5) (aCons (eVar 6) aNil)))))
  (sSeq (sIf (tOr (tNot (tTst (eBlt (uIsi K) (aCons (eVar 7) (aCons (eLit (.ty "int")) aNil))))) (tTst (eBlt (uIsi K) (aCons (eVar 7) (aCons (eLit (.ty "bool")) aNil))))) (sRet (eLit (.bl false))) sNil)
  (sIf (tOr (tNot (tTst (eChain (rLe) (rLt) (eLit (.int 0)) (eVar 7) (eBin (rPow) (eLit (.int 10)) (eLit (.int 30)))))) (tNot (tTst (eCall (sp_L_right K) E0 (aCons (eVar 4) (aCons (eVar 5) (aCons (eVar 6) (aCons (eVar 7) aNil)))))))) (sRet (eLit (.bl false))) sNil)))))))) D σ H := rfl
def b_law (K : PySem.W.Frag) : TS :=
  (sSeq (sIf (tOr (tNot (tTst (eBlt (uIsi K) (aCons (eLit v_WHEEL) (aCons (eLit (.ty "int")) aNil))))) (tTst (eBin (uNe K) (eLit v_WHEEL) (eBin (rPow) (eLit (.int 10)) (eLit (.int 30)))))) (sRet (eLit (.bl false))) sNil)
  (sSeq (sSet 1 (eBlt (uList K) (aCons (eVar 0) aNil)))
  (sSeq (sIf (tTst (eBin (uEq K) (eBlt (uLen K) (aCons (eVar 1) aNil)) (eLit (.int 0)))) (sSet 1 (eLst (aCons (eLit (.int 0)) aNil))) sNil)
  (sSeq (sForR1 (eBlt (uLen K) (aCons (eVar 1) aNil)) (gNm 2) (l_law_1 K))
  (sRet (eLit (.bl true)))))))
structure sp_law (K : PySem.W.Frag) (vs : List V) (H : Hp) (Q : VK) (E : XK) : Prop where
  run : match vs with
  | [a0] => b_law K { nx := fun _ H' => Q .non H', rt := Q } [some a0, none, none, none, none, none, none, none] H
  | _ => False
theorem okf_law {f : Addr} {fd : FuncData} (F : L2.Fun K "law" "law" s_law f fd) (F_L_mixed : Fn P w K mg base CX0 1 "_law_mixed" ["_law_cell", "_law_k"] (sp_L_mixed K)) (F_L_number : Fn P w K mg base CX0 1 "_law_number" ["_law_cell", "_law_way"] (sp_L_number K)) (F_L_other : Fn P w K mg base CX0 2 "_law_other" ["_law_a", "_law_cell", "_law_way"] (sp_L_other K)) (F_L_right : Fn P w K mg base CX0 2 "_law_right" ["_law_sign", "_law_a", "_law_b", "_law_found"] (sp_L_right K)) (F_done : Fn P w K mg base CX0 1 "done" ["sign", "a", "b"] (sp_done K)) (m_bool : mg "bool" = none) (m_int : mg "int" = none) (m_isinstance : mg "isinstance" = none) (m_len : mg "len" = none) (m_list : mg "list" = none) (m_range : mg "range" = none) (C_WHEEL : Cn mg "WHEEL" v_WHEEL) : FnOk P w K mg base CX0 3 f fd ["_law_script"] (sp_law K) := by
  have nd := sc_law.nd
  refine F.ok (k := 2) sc_law (fun vs H Q E h => ?_) (fun cdv A outer s H vs Q E hr h => ⟨b_law K, ?_, ?_⟩)
  · have h := h.run; split at h; exact rfl; exact h.elim
  · have hu64 := hr.units
    exact (zCons (zIf (PW.pt (qOr (qNot (qVal (dBlt bIsi rfl m_isinstance (by decide +kernel) (kCons (dCn rfl C_WHEEL) (kCons (dTy rfl m_int (by decide +kernel)) kNil))))) (qOr1 (qCmp (oNe hu64) (dCn rfl C_WHEEL) (dBin oPow dInt dInt))))) (zOne (zRet dBl)) zNil)
  (zCons (zSet (i := 1) nd rfl (by first | exact .inl rfl | exact .inr rfl) (dBty bList rfl m_list (by decide +kernel) (kCons (dVar 0) kNil)))
  (zCons (zIf (qCmp (oEq hu64) (dBlt bLen rfl m_len (by decide +kernel) (kCons (dVar 1) kNil)) dInt) (zOne (zSet (i := 1) nd rfl (by first | exact .inl rfl | exact .inr rfl) (dLst (kCons dInt kNil)))) zNil)
  (zCons (zForR1 PassesOwn.never rfl rfl m_range (dBlt bLen rfl m_len (by decide +kernel) (kCons (dVar 1) kNil)) (tgNm (i := 2) nd rfl (by first | exact .inl rfl | exact .inr rfl)) (zCons (zSet (i := 3) nd rfl (by first | exact .inl rfl | exact .inr rfl) (dFn F_L_mixed (hr.mono (by omega)) rfl pass0 (kCons (dIx (dVar 1) (dVar 2)) (kCons (dVar 2) kNil))))
  (zCons (zSet (i := 4) nd rfl (by first | exact .inl rfl | exact .inr rfl) (dIx dStr (dBin oMod (dVar 3) dInt)))
  (zCons (zSet (i := 5) nd rfl (by first | exact .inl rfl | exact .inr rfl) (dFn F_L_number (hr.mono (by omega)) rfl pass0 (kCons (dIx (dVar 1) (dVar 2)) (kCons (dBin oMod (dBin oDiv (dVar 3) dInt) dInt) kNil))))
  (zCons (zSet (i := 6) nd rfl (by first | exact .inl rfl | exact .inr rfl) (dFn F_L_other (hr.mono (by omega)) rfl pass0 (kCons (dVar 5) (kCons (dIx (dVar 1) (dBin oMod (dBin oAdd (dVar 2) dInt) (dBlt bLen rfl m_len (by decide +kernel) (kCons (dVar 1) kNil)))) (kCons (dBin oMod (dBin oDiv (dVar 3) dInt) dInt) kNil)))))
  (zCons (zSet (i := 7) nd rfl (by first | exact .inl rfl | exact .inr rfl) (dFn F_done (hr.mono (by omega)) rfl pass0 (kCons (dVar 4) (kCons (dVar 5) (kCons (dVar 6) kNil)))))
  (zCons (zIf (PW.pt (qOr (qNot (qVal (dBlt bIsi rfl m_isinstance (by decide +kernel) (kCons (dVar 7) (kCons (dTy rfl m_int (by decide +kernel)) kNil))))) (qOr1 (qVal (dBlt bIsi rfl m_isinstance (by decide +kernel) (kCons (dVar 7) (kCons (dTy rfl m_bool (by decide +kernel)) kNil))))))) (zOne (zRet dBl)) zNil)
  (zOne (zIf (PW.pt (qOr (qNot (qChain oLe oLt dInt (dVar 7) (dBin oPow dInt dInt))) (qOr1 (qNot (qVal (dFn F_L_right (hr.mono (by omega)) rfl pass0 (kCons (dVar 4) (kCons (dVar 5) (kCons (dVar 6) (kCons (dVar 7) kNil)))))))))) (zOne (zRet dBl)) zNil)))))))))
  (zOne (zRet dBl))))))
  · have h := h.run; split at h; exact h; exact h.elim
theorem ok_law (D : Df K mg "law" s_law) (F_L_mixed : Fn P w K mg base CX0 1 "_law_mixed" ["_law_cell", "_law_k"] (sp_L_mixed K)) (F_L_number : Fn P w K mg base CX0 1 "_law_number" ["_law_cell", "_law_way"] (sp_L_number K)) (F_L_other : Fn P w K mg base CX0 2 "_law_other" ["_law_a", "_law_cell", "_law_way"] (sp_L_other K)) (F_L_right : Fn P w K mg base CX0 2 "_law_right" ["_law_sign", "_law_a", "_law_b", "_law_found"] (sp_L_right K)) (F_done : Fn P w K mg base CX0 1 "done" ["sign", "a", "b"] (sp_done K)) (m_bool : mg "bool" = none) (m_int : mg "int" = none) (m_isinstance : mg "isinstance" = none) (m_len : mg "len" = none) (m_list : mg "list" = none) (m_range : mg "range" = none) (C_WHEEL : Cn mg "WHEEL" v_WHEEL) : Fn P w K mg base CX0 3 "law" ["_law_script"] (sp_law K) := by
  obtain ⟨f, fd, F, gm⟩ := D
  exact ⟨f, fd, gm, F.kp, F.binds (fun _ _ _ _ _ _ us hl => match us, hl with | [_], _ => rfl), okf_law F F_L_mixed F_L_number F_L_other F_L_right F_done m_bool m_int m_isinstance m_len m_list m_range C_WHEEL⟩
end


variable {K : PySem.W.Frag} {H : Hp} {Q : VK} {E : XK}
theorem sg1 : Str.ofString "+" = ⟨#[43]⟩ := by decide +kernel
theorem sg2 : Str.ofString "-" = ⟨#[45]⟩ := by decide +kernel
theorem sg3 : Str.ofString "*" = ⟨#[42]⟩ := by decide +kernel
theorem sg4 : Str.ofString "/" = ⟨#[47]⟩ := by decide +kernel
theorem sg5 : Str.ofString "<" = ⟨#[60]⟩ := by decide +kernel
theorem sg6 : Str.ofString "=" = ⟨#[61]⟩ := by decide +kernel
theorem sg7 : Str.ofString "&" = ⟨#[38]⟩ := by decide +kernel
theorem sg8 : Str.ofString "|" = ⟨#[124]⟩ := by decide +kernel
theorem sg9 : Str.ofString "^" = ⟨#[94]⟩ := by decide +kernel
theorem sg {c d : Nat} : ((⟨#[c]⟩ : Str) = ⟨#[d]⟩) = (c = d) := by simp
def big : Int := 1000000000000000000000000000000
theorem e30 : (10 : Int) ^ Int.toNat 30 = 1000000000000000000000000000000 := by decide +kernel
theorem e60 : (10 : Int) ^ Int.toNat 60 = 1000000000000000000000000000000000000000000000000000000000000 := by decide +kernel
theorem cp30 : CPow 10 30 := ⟨by decide, by decide, by decide⟩
theorem cp60 : CPow 10 60 := ⟨by decide, by decide, by decide⟩
def isSg (c : Nat) : Prop := c = 43 ∨ c = 45 ∨ c = 42 ∨ c = 47 ∨ c = 60 ∨ c = 61 ∨ c = 38 ∨ c = 124 ∨ c = 94
/-- what a sign makes of two numbers of the wheel -/
def doneV (c : Nat) (a b : Int) : Int :=
  if c = 43 then (a + b) % big else if c = 45 then (a - b) % big else if c = 42 then a * b % big else if c = 47 then (if b = 0 then 0 else a / b)
  else if c = 60 then (if a < b then 1 else 0) else if c = 61 then (if a = b then 1 else 0) else if c = 38 then Builtin.bitAnd a b else if c = 124 then Builtin.bitOr a b % big else Builtin.bitXor a b % big
theorem bits30 {a : Int} (h : 0 ≤ a ∧ a < big) : Builtin.Int.intBits a ≤ 101 := bitsOf (a := 100) (by unfold big at h; omega)
theorem b2 {p : Prop} [Decidable p] : (if decide p = true then (1 : Int) else 0) = if p then 1 else 0 := by simp
theorem c_done (c : Nat) (a b : Int) (hc : isSg c) (ha : 0 ≤ a ∧ a < big) (hb : 0 ≤ b ∧ b < big) (q : Q (.int (doneV c a b)) H) : sp_done K [.str ⟨#[c]⟩, .int a, .int b] H Q E := by
  have dv : b ≠ 0 → CDivW a b := fun h => wide_div (b := 100) (by omega) (by unfold big at hb; omega) (by decide) (by decide)
  have mo := mulOk (bits30 ha) (bits30 hb)
  refine ⟨?_⟩; unfold b_done v_WHEEL
  unfold doneV at q
  walk_at "ex"
  rcases hc with rfl | rfl | rfl | rfl | rfl | rfl | rfl | rfl | rfl
  all_goals simp only [if_true, if_false, Nat.reduceEqDiff] at q
  all_goals repeat (refine if_split ?_; walk_at "ex"; try simp only [sg1, sg2, sg3, sg4, sg5, sg6, sg7, sg8, sg9, sg, if_true, if_false, Nat.reduceEqDiff])
  · exact ⟨by decide, q⟩
  · exact ⟨by decide, q⟩
  · exact ⟨mo, by decide, q⟩
  · by_cases h : b = 0
    · rw [if_pos h] at q ⊢
      exact q
    · rw [if_neg h] at q ⊢
      exact ⟨dv h, q⟩
  · exact q
  · exact q
  · exact q
  · exact ⟨by decide, q⟩
  · exact ⟨by decide, q⟩

/-! bit by bit -/
def bitF (c : Nat) : Nat → Nat → Nat → Nat
  | 0, _, _ => 0
  | m + 1, a, b => (if a % 2 + b % 2 = 2 ∧ ¬ c = 94 ∨ a % 2 + b % 2 = 1 ∧ ¬ c = 38 then 1 else 0) + 2 * bitF c m (a / 2) (b / 2)
theorem split2 (n : Nat) : n = n % 2 + 2 * (n / 2) := by omega
theorem and_mod (a b : Nat) : (a &&& b) % 2 = (a % 2) &&& (b % 2) := by
  have := Nat.and_mod_two_pow (a := a) (b := b) (n := 1)
  simpa using this
theorem or_mod (a b : Nat) : (a ||| b) % 2 = (a % 2) ||| (b % 2) := by
  have := Nat.or_mod_two_pow (a := a) (b := b) (n := 1)
  simpa using this
theorem xor_mod (a b : Nat) : (a ^^^ b) % 2 = (a % 2) ^^^ (b % 2) := by
  have := Nat.xor_mod_two_pow (a := a) (b := b) (n := 1)
  simpa using this
theorem m2 (a : Nat) : a % 2 = 0 ∨ a % 2 = 1 := by omega
theorem bitF_and : ∀ m a b, a < 2 ^ m → b < 2 ^ m → bitF 38 m a b = a &&& b := by
  intro m
  induction m with
  | zero => intro a b ha hb; have : a = 0 := by simpa using ha
            subst this; simp [bitF]
  | succ m ih =>
    intro a b ha hb
    rw [Nat.pow_succ] at ha hb
    rw [split2 (a &&& b), Nat.and_div_two, and_mod, bitF, ih _ _ (by omega) (by omega)]
    rcases m2 a with h | h <;> rcases m2 b with h' | h' <;> simp [h, h']
theorem bitF_or : ∀ m a b, a < 2 ^ m → b < 2 ^ m → bitF 124 m a b = a ||| b := by
  intro m
  induction m with
  | zero =>
    intro a b ha hb
    have h1 : a = 0 := by simpa using ha
    have h2 : b = 0 := by simpa using hb
    subst h1 h2; simp [bitF]
  | succ m ih =>
    intro a b ha hb
    rw [Nat.pow_succ] at ha hb
    rw [split2 (a ||| b), Nat.or_div_two, or_mod, bitF, ih _ _ (by omega) (by omega)]
    rcases m2 a with h | h <;> rcases m2 b with h' | h' <;> simp [h, h']
theorem bitF_xor : ∀ m a b, a < 2 ^ m → b < 2 ^ m → bitF 94 m a b = a ^^^ b := by
  intro m
  induction m with
  | zero =>
    intro a b ha hb
    have h1 : a = 0 := by simpa using ha
    have h2 : b = 0 := by simpa using hb
    subst h1 h2; simp [bitF]
  | succ m ih =>
    intro a b ha hb
    rw [Nat.pow_succ] at ha hb
    rw [split2 (a ^^^ b), Nat.xor_div_two, xor_mod, bitF, ih _ _ (by omega) (by omega)]
    rcases m2 a with h | h <;> rcases m2 b with h' | h' <;> simp [h, h']
theorem c_bits (c a b : Nat) (hc : c = 38 ∨ c = 124 ∨ c = 94) (q : Q (.int (bitF c 100 a b)) H) : sp_L_bits K [.str ⟨#[c]⟩, .int a, .int b] H Q E := by
  refine ⟨?_⟩; unfold b_L_bits
  walk_at "ex"
  refine ⟨by decide, ?_⟩
  have turn : ∀ (xs : List V) (a b t w : Nat) (o1 o2 : Option V), w = 2 ^ (100 - xs.length) → xs.length ≤ 100 → Q (.int ((t + w * bitF c xs.length a b : Nat) : Int)) H → walk (fun _ => True) (gNm 5) (l_L_bits_1 K)
      { nx := sRet (eVar 3) { nx := fun _ H' => Q V.non H', rt := Q }, rt := Q } xs [some (.str ⟨#[c]⟩), some (.int a), some (.int b), some (.int t), some (.int w), o1, o2] H := by
    intro xs
    induction xs with
    | nil =>
      intro a b t w o1 o2 hw hl q
      refine ⟨trivial, ?_⟩
      walk_at "ex"
      simpa [bitF] using q
    | cons x xs ih =>
      intro a b t w o1 o2 hw hl q
      refine ⟨trivial, ?_⟩
      walk_at "ex"
      rw [el_L_bits_1]
      walk_at "ex"
      walk_at "sd"
      rw [List.length_cons] at hw hl q
      have hw2 : w < 2 ^ 100 := by rw [hw]; exact Nat.pow_lt_pow_right (by decide) (by omega)
      have hwm : IntMulOk (w : Int) 2 := mulOk (a := 101) (b := 65) (bitsOf (a := 100) hw2) (by decide)
      have wn : w * 2 = 2 ^ (100 - xs.length) := by
        rw [hw, ← Nat.pow_succ]
        congr 1
        omega
      have ea : (a : Int) / 2 = ((a / 2 : Nat) : Int) := by omega
      have eb : (b : Int) / 2 = ((b / 2 : Nat) : Int) := by omega
      have ew : (w : Int) * 2 = ((w * 2 : Nat) : Int) := by omega
      refine if_join (fun σ H' => H' = H ∧ σ = [some (.str ⟨#[c]⟩), some (.int a), some (.int b), some (.int ((t + w * (if a % 2 + b % 2 = 2 ∧ ¬ c = 94 ∨ a % 2 + b % 2 = 1 ∧ ¬ c = 38 then 1 else 0) : Nat) : Int)), some (.int w), some x, some (.int (a % 2 + b % 2))]) ?_ ?_
      · walk_at "ex"
        simp only [sg9, sg7, sg, Bool.not_eq_true', decide_eq_false_iff_not]
        by_cases h1 : (a : Int) % 2 + b % 2 = 2
        · have h1' : a % 2 + b % 2 = 2 := by omega
          by_cases h2 : c = 94
          · have h3 : ¬ ((a : Int) % 2 + b % 2 = 1) := by omega
            simp [h1, h1', h2]
          · simp [h1, h1', h2]
        · have h1' : ¬ a % 2 + b % 2 = 2 := by omega
          by_cases h3 : (a : Int) % 2 + b % 2 = 1
          · have h3' : a % 2 + b % 2 = 1 := by omega
            by_cases h4 : c = 38
            · simp [h3, h3', h4]
            · simp [h3, h3', h4]
          · have h3' : ¬ a % 2 + b % 2 = 1 := by omega
            simp [h1, h3, h1', h3']
      rintro σ H' ⟨rfl, rfl⟩
      walk_at "ex"
      walk_at "sd"
      rw [ea, eb, ew]
      refine ih _ _ _ _ _ _ wn (by omega) ?_
      have e : t + w * (if a % 2 + b % 2 = 2 ∧ ¬ c = 94 ∨ a % 2 + b % 2 = 1 ∧ ¬ c = 38 then 1 else 0) + w * 2 * bitF c xs.length (a / 2) (b / 2) = t + w * bitF c (xs.length + 1) a b := by
        rw [bitF, Nat.mul_add, Nat.mul_assoc]
        omega
      rw [e]
      exact q
  have len : (rangeV 0 100).length = 100 := by decide
  refine turn (rangeV 0 100) a b 0 1 none none (by rw [len]) (by rw [len]; decide) ?_
  rw [len]
  simpa using q

theorem c_mixed (c k : Int) (hk : 0 ≤ k ∧ k ≤ 64) (q : ∀ i : Int, 0 ≤ i → i < 2147483647 → Q (.int i) H) : sp_L_mixed K [.int c, .int k] H Q E := by
  refine ⟨?_⟩; unfold b_L_mixed
  walk_at "ex"
  obtain ⟨n, rfl⟩ := Int.eq_ofNat_of_zero_le hk.1
  have h1 : n * n ≤ 64 * 64 := Nat.mul_le_mul (by omega) (by omega)
  have h2 : ((n : Int) * n) = ((n * n : Nat) : Int) := by simp
  rw [h2]
  have hm : 0 ≤ (c % 2147483647 * 48271 + (((n * n : Nat) : Int) + 3 * n + 7) * 69621) % 2147483647 ∧ (c % 2147483647 * 48271 + (((n * n : Nat) : Int) + 3 * n + 7) * 69621) % 2147483647 < 2147483647 := by omega
  refine ⟨by decide, mulOk (a := 65) (b := 65) (bitsOf (by omega)) (by decide), mulOk (a := 65) (b := 65) (bitsOf (by omega)) (bitsOf (by omega)), mulOk (a := 65) (b := 65) (by decide) (bitsOf (by omega)), mulOk (a := 65) (b := 65) (bitsOf (by omega)) (by decide), by decide, ?_⟩
  refine ⟨mulOk (a := 65) (b := 65) (bitsOf (by omega)) (bitsOf (by omega)), by decide, q _ (by omega) (by omega)⟩
theorem c_number (c w : Int) (hw : 0 ≤ w ∧ w ≤ 1100) (q : ∀ i : Int, 0 ≤ i ∧ i < big → Q (.int i) H) : sp_L_number K [.int c, .int w] H Q E := by
  refine ⟨?_⟩; unfold b_L_number
  walk_at "ex"
  rw [e60]
  refine ⟨cp60, by decide, ?_⟩
  have hc : 0 ≤ c % 1000000000000000000000000000000000000000000000000000000000000 ∧ c % 1000000000000000000000000000000000000000000000000000000000000 < 1000000000000000000000000000000000000000000000000000000000000 := by omega
  generalize c % 1000000000000000000000000000000000000000000000000000000000000 = c at hc
  unfold big at q
  walk_at "if"
  refine ⟨by decide, ?_⟩
  split
  · exact ⟨by decide, q _ (by omega)⟩
  walk_at "if"
  refine ⟨by decide, ?_⟩
  split
  · rw [e30]
    exact ⟨cp30, by decide, q _ (by omega)⟩
  walk_at "if"
  refine ⟨by decide, ?_⟩
  split
  · rw [e30]
    exact ⟨cp30, by decide, q _ (by omega)⟩
  rw [e30]
  obtain ⟨n, rfl⟩ := Int.eq_ofNat_of_zero_le hw.1
  have h1 : n * n ≤ 1100 * 1100 := Nat.mul_le_mul (by omega) (by omega)
  have h2 : ((n : Int) * n) = ((n * n : Nat) : Int) := by simp
  rw [h2]
  have h3 : (c + 1).natAbs < 2 ^ 200 := by omega
  have h4 : (((n * n : Nat) : Int) + 11).natAbs < 2 ^ 64 := by omega
  exact ⟨mulOk (a := 65) (b := 65) (bitsOf (by omega)) (bitsOf (by omega)), mulOk (bitsOf h3) (bitsOf h4), mulOk (b := 101) (bitsOf (wide_lt h3 h4)) (by decide), cp30, by decide, q _ (by omega)⟩
theorem c_other (a c w : Int) (ha : 0 ≤ a ∧ a < big) (hw : 0 ≤ w ∧ w ≤ 1000) (q : ∀ i : Int, 0 ≤ i ∧ i < big → Q (.int i) H) : sp_L_other K [.int a, .int c, .int w] H Q E := by
  refine ⟨?_⟩; unfold b_L_other
  walk_at "if"
  refine ⟨by decide, ?_⟩
  split
  · exact q _ ha
  walk_at "if"
  refine ⟨by decide, ?_⟩
  split
  · exact q _ (by unfold big; omega)
  walk_at "if"
  refine ⟨by decide, ?_⟩
  split
  · exact ⟨by decide, q _ (by unfold big; omega)⟩
  walk_at "if"
  refine ⟨by decide, ?_⟩
  split
  · rw [e30]
    exact ⟨cp30, cp30, by decide, q _ (by unfold big; omega)⟩
  exact ⟨by walk_at "side", c_number _ _ (by omega) q⟩
theorem doneV_in {c : Nat} {a b : Int} (ha : 0 ≤ a ∧ a < big) (hb : 0 ≤ b ∧ b < big) : 0 ≤ doneV c a b ∧ doneV c a b < big := by
  unfold big at *
  unfold doneV big
  split
  · omega
  split
  · omega
  split
  · omega
  split
  · split
    · omega
    · refine ⟨Int.ediv_nonneg ha.1 hb.1, Int.lt_of_le_of_lt (Int.ediv_le_self _ ha.1) ha.2⟩
  split
  · split <;> omega
  split
  · split <;> omega
  split
  · rw [PyProof.Rows.bitAnd_pp ha.1 hb.1]
    have := Nat.and_le_left (n := a.toNat) (m := b.toNat)
    omega
  split <;> omega
theorem mod_sub (x : Int) : (x - x % big) % big = 0 := by
  unfold big
  omega
theorem c_right (c : Nat) (a b : Int) (hc : isSg c) (ha : 0 ≤ a ∧ a < big) (hb : 0 ≤ b ∧ b < big) (q : Q (.bl true) H) : sp_L_right K [.str ⟨#[c]⟩, .int a, .int b, .int (doneV c a b)] H Q E := by
  have hbig : big = 1000000000000000000000000000000 := rfl
  have mo := mulOk (bits30 ha) (bits30 hb)
  obtain ⟨a', rfl⟩ := Int.eq_ofNat_of_zero_le ha.1
  obtain ⟨b', rfl⟩ := Int.eq_ofNat_of_zero_le hb.1
  have la : a' < 2 ^ 100 := by omega
  have lb : b' < 2 ^ 100 := by omega
  have hd := doneV_in (c := c) ha hb
  have mf := mulOk (bits30 hd) (bits30 hb)
  refine ⟨?_⟩; unfold b_L_right
  generalize hv : doneV c a' b' = v at *
  unfold doneV at hv
  rcases hc with rfl | rfl | rfl | rfl | rfl | rfl | rfl | rfl | rfl
  all_goals simp only [if_true, if_false, Nat.reduceEqDiff] at hv
  all_goals walk_at "ex"
  all_goals repeat (refine if_split ?_; walk_at "ex"; try simp only [sg1, sg2, sg3, sg4, sg5, sg6, sg7, sg8, sg9, sg, if_true, if_false, Nat.reduceEqDiff])
  · rw [e30, ← hv, ← hbig, mod_sub]
    exact ⟨cp30, by decide, q⟩
  · rw [e30, ← hv, ← hbig, mod_sub]
    exact ⟨cp30, by decide, q⟩
  · rw [e30, ← hv, ← hbig, mod_sub]
    exact ⟨mo, cp30, by decide, q⟩
  · by_cases h : (b' : Int) = 0
    · rw [if_pos h] at hv ⊢
      subst hv
      exact q
    · rw [if_neg h] at hv ⊢
      walk_at "if"
      refine ⟨mf, ?_⟩
      have hb0 : 0 < (b' : Int) := by omega
      have h1 := Int.mul_ediv_add_emod (a' : Int) b'
      have h2 := Int.emod_nonneg (a' : Int) h
      have h3 := Int.emod_lt_of_pos (a' : Int) hb0
      rw [hv, Int.mul_comm] at h1
      rw [if_pos (by omega), decide_eq_true (show (a' : Int) < v * b' + b' by omega)]
      exact ⟨mf, q⟩
  · by_cases h : (a' : Int) < b'
    · rw [if_pos h] at hv
      subst hv
      rw [if_pos rfl, if_pos h]
      exact q
    · rw [if_neg h] at hv
      subst hv
      rw [if_neg (by decide), if_pos rfl, decide_eq_true (show (b' : Int) ≤ a' by omega)]
      exact q
  · by_cases h : (a' : Int) = b'
    · rw [if_pos h] at hv
      subst hv
      rw [if_pos rfl, if_pos h]
      exact q
    · rw [if_neg h] at hv
      subst hv
      rw [if_neg (by decide), if_pos rfl, decide_eq_false h]
      exact q
  · refine c_bits 38 a' b' (.inl rfl) ?_
    rw [e30]
    refine ⟨cp30, show (0 : Int) < _ by decide, ?_⟩
    walk_at "ex"
    rw [bitF_and _ _ _ la lb, ← hv, PyProof.Rows.bitAnd_pp ha.1 hb.1, Int.toNat_natCast, Int.toNat_natCast, Int.sub_self]
    exact q
  · refine c_bits 124 a' b' (.inr (.inl rfl)) ?_
    rw [e30]
    refine ⟨cp30, show (0 : Int) < _ by decide, ?_⟩
    walk_at "ex"
    rw [bitF_or _ _ _ la lb, ← hv, Bits.bitOr_pp ha.1 hb.1, Int.toNat_natCast, Int.toNat_natCast, ← hbig, mod_sub]
    exact q
  · refine c_bits 94 a' b' (.inr (.inr rfl)) ?_
    rw [e30]
    refine ⟨cp30, show (0 : Int) < _ by decide, ?_⟩
    walk_at "ex"
    rw [bitF_xor _ _ _ la lb, ← hv, Bits.bitXor_pp ha.1 hb.1, Int.toNat_natCast, Int.toNat_natCast, ← hbig, mod_sub]
    exact q
theorem main {K : PySem.W.Frag} {H : Hp} {a : Addr} {ns : List Int} (hl : ns.length ≤ 63) (hb : ∀ z ∈ ns, Builtin.Int.intBits z ≤ 1048576) (hS : SqL K H a (ns.map V.int)) : sp_law K [.ref a] H (fun v _ => v = .bl true) fun _ _ _ => False := by
  have := sz
  refine ⟨?_⟩; unfold b_law v_WHEEL
  walk_at "ex"
  walk_at "if"
  refine ⟨true, by decide +kernel, ?_⟩
  walk_at "ex"
  rw [e30]
  refine ⟨cp30, ?_⟩
  simp only [decide_true, Bool.not_true, Bool.false_eq_true, if_false]
  rw [if_neg (by simp)]
  refine ⟨ns.map .int, .inl hS, fun l hl => ?_⟩
  -- the cells
  refine if_join (fun σ H' => ∃ (p : Addr) (cs : List Int), cs ≠ [] ∧ cs.length ≤ 63 ∧ H' p = some (.lst (cs.map .int)) ∧ σ = [some (.ref a), some (.ref p), none, none, none, none, none, none]) ?_ ?_
  · walk_at "ex"
    refine ⟨ns.map .int, .inl (SqL.of upd_same), ?_⟩
    walk_at "ex"
    by_cases h : ns = []
    · subst h
      rw [if_pos (by simp)]
      exact ⟨by walk_at "side", fun p hp => ⟨p, [0], by simp, by simp, upd_same, rfl⟩⟩
    · rw [if_neg (by simpa using h)]
      exact ⟨l, ns, h, by omega, upd_same, rfl⟩
  rintro σ H1 ⟨p, cs, hn, hc, hp, rfl⟩
  walk_at "ex"
  refine ⟨cs.map .int, .inl (SqL.of hp), ?_⟩
  rw [List.length_map]
  refine ⟨by omega, ?_⟩
  have hpos : 0 < cs.length := List.length_pos_iff.mpr hn
  have at' : ∀ k : Int, 0 ≤ k → k < cs.length → ∃ c : Int, atI (cs.map V.int) k = some (.int c) := fun k h0 h1 => by
    obtain ⟨v, hv⟩ := at_len (xs := cs.map V.int) h0 (by rw [List.length_map]; exact h1)
    obtain ⟨c, _, rfl⟩ := List.mem_map.mp (atI_mem hv)
    exact ⟨c, hv⟩
  have turn : ∀ (xs : List V) (o1 o2 o3 o4 o5 o6 : Option V), (∀ x ∈ xs, ∃ k : Int, x = .int k ∧ 0 ≤ k ∧ k < cs.length) → walk (fun _ => True) (gNm 2) (l_law_1 K)
      { nx := sRet (eLit (.bl true)) { nx := fun _ _ => V.non = .bl true, rt := fun v _ => v = .bl true }, rt := fun v _ => v = .bl true } xs [some (.ref a), some (.ref p), o1, o2, o3, o4, o5, o6] H1 := by
    intro xs
    induction xs with
    | nil => intro o1 o2 o3 o4 o5 o6 _; exact ⟨trivial, rfl⟩
    | cons x xs ih =>
      intro o1 o2 o3 o4 o5 o6 hx
      obtain ⟨k, rfl, hk0, hk1⟩ := hx _ List.mem_cons_self
      refine ⟨trivial, ?_⟩
      walk_at "ex"
      rw [el_law_1]
      walk_at "ex"
      obtain ⟨c, hc1⟩ := at' k hk0 hk1
      obtain ⟨c2, hc2⟩ := at' ((k + 1) % cs.length) (Int.emod_nonneg _ (by omega)) (Int.emod_lt_of_pos _ (by omega))
      refine ⟨_, _, .inl (SqL.of hp), hc1, ?_⟩
      refine c_mixed _ _ (by omega) fun m hm0 hm1 => ?_
      walk_at "ex"
      obtain ⟨s, hs⟩ := at_len (xs := (Str.ofString "+-*/<=&|^").cps.toList) (i := m % 9) (by omega) (by
        have : (Str.ofString "+-*/<=&|^").cps.toList.length = 9 := by decide +kernel
        omega)
      have hsg : isSg s := by
        have e : (Str.ofString "+-*/<=&|^").cps.toList = [43, 45, 42, 47, 60, 61, 38, 124, 94] := by decide +kernel
        have := atI_mem hs
        rw [e] at this
        simpa [isSg] using this
      refine ⟨by decide, by decide +kernel, s, hs, _, _, .inl (SqL.of hp), hc1, ?_⟩
      walk_at "ex"
      walk_at "sd"
      refine c_number _ _ (by omega) fun x hx1 => ?_
      walk_at "ex"
      refine ⟨_, .inl (SqL.of hp), ?_⟩
      rw [List.length_map]
      refine ⟨by omega, _, _, .inl (SqL.of hp), hc2, ?_⟩
      walk_at "ex"
      walk_at "sd"
      refine c_other _ _ _ hx1 (by omega) fun y hy1 => ?_
      walk_at "ex"
      refine c_done _ _ _ hsg hx1 hy1 ?_
      walk_at "if"
      refine ⟨true, by decide +kernel, ?_⟩
      walk_at "ex"
      refine ⟨false, by decide +kernel, ?_⟩
      walk_at "ex"
      walk_at "if"
      have hd := doneV_in (c := s) hx1 hy1
      rw [if_pos hd.1, e30]
      refine ⟨cp30, ?_⟩
      simp only [show doneV s x y < 1000000000000000000000000000000 from hd.2, decide_true, Bool.not_true, Bool.false_eq_true, if_false]
      refine c_right _ _ _ hsg hx1 hy1 ?_
      walk_at "ex"
      exact ih _ _ _ _ _ _ fun z hz => hx z (List.mem_cons_of_mem _ hz)
  refine turn _ _ _ _ _ _ _ fun x hx => ?_
  unfold rangeV at hx
  obtain ⟨i, hi, rfl⟩ := List.mem_map.mp hx
  have := List.mem_range.mp hi
  exact ⟨_, rfl, by omega, by omega⟩

theorem all_mk {P : Program} {w : World} {K : PySem.W.Frag} {h : Heap} {mg : Str → Option Value} {fa : Addr} (X : K.In h) (G : h.Ns mainGlobals mg) (hfa : mg "law" = some (.ref fa))
    {f0 f1 f2 f3 f4 f5 f6 : Addr} {od0 an0 od1 an1 od2 an2 od3 an3 od4 an4 od5 an5 od6 an6 : Option Addr} {sl0 sl1 sl2 sl3 sl4 sl5 sl6 : Array (Option Value)} {oc0 kV0 dc0 pm0 cd0 ct0 oc1 kV1 dc1 pm1 cd1 ct1 oc2 kV2 dc2 pm2 cd2 ct2 oc3 kV3 dc3 pm3 cd3 ct3 oc4 kV4 dc4 pm4 cd4 ct4 oc5 kV5 dc5 pm5 cd5 ct5 oc6 kV6 dc6 pm6 cd6 ct6 : Value}
    (a0 : PySem.W.nsIn K mainGlobals "_law_mixed" = some (some (.ref f0))) (l0 : K.lookup f0 = some ⟨oc0, od0, .func (PySem.W.fnOf "_law_mixed" "_law_mixed" (defArgs s_L_mixed) (defBody s_L_mixed) (defScope s_L_mixed) .none kV0 dc0 pm0 an0 cd0 ct0), sl0⟩) (c0 : PySem.W.codeIn K cd0 "_law_mixed" = true) (k0 : PySem.W.keepIn K (.ref f0) = true)
    (a1 : PySem.W.nsIn K mainGlobals "_law_number" = some (some (.ref f1))) (l1 : K.lookup f1 = some ⟨oc1, od1, .func (PySem.W.fnOf "_law_number" "_law_number" (defArgs s_L_number) (defBody s_L_number) (defScope s_L_number) .none kV1 dc1 pm1 an1 cd1 ct1), sl1⟩) (c1 : PySem.W.codeIn K cd1 "_law_number" = true) (k1 : PySem.W.keepIn K (.ref f1) = true)
    (a2 : PySem.W.nsIn K mainGlobals "_law_other" = some (some (.ref f2))) (l2 : K.lookup f2 = some ⟨oc2, od2, .func (PySem.W.fnOf "_law_other" "_law_other" (defArgs s_L_other) (defBody s_L_other) (defScope s_L_other) .none kV2 dc2 pm2 an2 cd2 ct2), sl2⟩) (c2 : PySem.W.codeIn K cd2 "_law_other" = true) (k2 : PySem.W.keepIn K (.ref f2) = true)
    (a3 : PySem.W.nsIn K mainGlobals "done" = some (some (.ref f3))) (l3 : K.lookup f3 = some ⟨oc3, od3, .func (PySem.W.fnOf "done" "done" (defArgs s_done) (defBody s_done) (defScope s_done) .none kV3 dc3 pm3 an3 cd3 ct3), sl3⟩) (c3 : PySem.W.codeIn K cd3 "done" = true) (k3 : PySem.W.keepIn K (.ref f3) = true)
    (a4 : PySem.W.nsIn K mainGlobals "_law_bits" = some (some (.ref f4))) (l4 : K.lookup f4 = some ⟨oc4, od4, .func (PySem.W.fnOf "_law_bits" "_law_bits" (defArgs s_L_bits) (defBody s_L_bits) (defScope s_L_bits) .none kV4 dc4 pm4 an4 cd4 ct4), sl4⟩) (c4 : PySem.W.codeIn K cd4 "_law_bits" = true) (k4 : PySem.W.keepIn K (.ref f4) = true)
    (a5 : PySem.W.nsIn K mainGlobals "_law_right" = some (some (.ref f5))) (l5 : K.lookup f5 = some ⟨oc5, od5, .func (PySem.W.fnOf "_law_right" "_law_right" (defArgs s_L_right) (defBody s_L_right) (defScope s_L_right) .none kV5 dc5 pm5 an5 cd5 ct5), sl5⟩) (c5 : PySem.W.codeIn K cd5 "_law_right" = true) (k5 : PySem.W.keepIn K (.ref f5) = true)
    (a6 : PySem.W.nsIn K mainGlobals "law" = some (some (.ref f6))) (l6 : K.lookup f6 = some ⟨oc6, od6, .func (PySem.W.fnOf "law" "law" (defArgs s_law) (defBody s_law) (defScope s_law) .none kV6 dc6 pm6 an6 cd6 ct6), sl6⟩) (c6 : PySem.W.codeIn K cd6 "law" = true) (k6 : PySem.W.keepIn K (.ref f6) = true)
    (z_bool : PySem.W.nsIn K mainGlobals "bool" = some none)
    (z_int : PySem.W.nsIn K mainGlobals "int" = some none)
    (z_isinstance : PySem.W.nsIn K mainGlobals "isinstance" = some none)
    (z_len : PySem.W.nsIn K mainGlobals "len" = some none)
    (z_list : PySem.W.nsIn K mainGlobals "list" = some none)
    (z_range : PySem.W.nsIn K mainGlobals "range" = some none)
    {u_WHEEL : Value} (g_WHEEL : PySem.W.nsIn K mainGlobals "WHEEL" = some (some u_WHEEL)) (r_WHEEL : RelV v_WHEEL u_WHEEL)
    : ∃ fd : FuncData, (∀ (s : Shared) (v : Value), BindsTo s fd ⟨[v], []⟩ [("_law_script", v)]) ∧ ∀ base : Heap, K.In base → base.Ns mainGlobals mg → FnOk P w K mg base CX0 3 fa fd ["_law_script"] (sp_law K) := by
  have e := hfa.symm.trans (PySem.W.mg_of X G a6)
  cases e
  have m_bool := PySem.W.mg_none_of X G z_bool
  have m_int := PySem.W.mg_none_of X G z_int
  have m_isinstance := PySem.W.mg_none_of X G z_isinstance
  have m_len := PySem.W.mg_none_of X G z_len
  have m_list := PySem.W.mg_none_of X G z_list
  have m_range := PySem.W.mg_none_of X G z_range
  have C_WHEEL : Cn mg "WHEEL" v_WHEEL := ⟨_, PySem.W.mg_of X G g_WHEEL, r_WHEEL⟩
  have D_L_mixed : Df K mg "_law_mixed" s_L_mixed := ⟨_, _, fun_mk l0 c0 k0, PySem.W.mg_of X G a0⟩
  have D_L_number : Df K mg "_law_number" s_L_number := ⟨_, _, fun_mk l1 c1 k1, PySem.W.mg_of X G a1⟩
  have D_L_other : Df K mg "_law_other" s_L_other := ⟨_, _, fun_mk l2 c2 k2, PySem.W.mg_of X G a2⟩
  have D_done : Df K mg "done" s_done := ⟨_, _, fun_mk l3 c3 k3, PySem.W.mg_of X G a3⟩
  have D_L_bits : Df K mg "_law_bits" s_L_bits := ⟨_, _, fun_mk l4 c4 k4, PySem.W.mg_of X G a4⟩
  have D_L_right : Df K mg "_law_right" s_L_right := ⟨_, _, fun_mk l5 c5 k5, PySem.W.mg_of X G a5⟩
  have D_law : Df K mg "law" s_law := ⟨_, _, fun_mk l6 c6 k6, PySem.W.mg_of X G a6⟩
  refine ⟨PySem.W.fnOf "law" "law" (defArgs s_law) (defBody s_law) (defScope s_law) .none kV6 dc6 pm6 an6 cd6 ct6, fun s v => .of_eq rfl, fun base _ _ => ?_⟩
  have F_L_mixed := ok_L_mixed (P := P) (w := w) (base := base) D_L_mixed 
  have F_L_number := ok_L_number (P := P) (w := w) (base := base) D_L_number 
  have F_L_other := ok_L_other (P := P) (w := w) (base := base) D_L_other F_L_number
  have F_done := ok_done (P := P) (w := w) (base := base) D_done m_int C_WHEEL
  have F_L_bits := ok_L_bits (P := P) (w := w) (base := base) D_L_bits m_range
  have F_L_right := ok_L_right (P := P) (w := w) (base := base) D_L_right F_L_bits
  exact okf_law (P := P) (w := w) (base := base) (fun_mk l6 c6 k6) F_L_mixed F_L_number F_L_other F_L_right F_done m_bool m_int m_isinstance m_len m_list m_range C_WHEEL

end Hf

open PySem PySem.W PyProof.Rows in
set_option maxRecDepth 100000 in
set_option maxHeartbeats 0 in
theorem PySem.Challenge.cw_handflow_k10_done_holds : PySem.Challenge.rw_handflow_k10_done.Holds := by
  w_on; o_law; k_head; (case hw => w_witness2)
  k_fill
  refine Hf.walkB (l := PySem.Challenge.rw_handflow_k10_done) (k := 3) (fun _ => L2.CX0) Hf.sp_law "_law_script" rfl rfl ⟨rfl, by decide, by decide⟩ (fun w h Y => PySem.W.kIn_of Y) ?F (fun K H a ns hl hb _ hS => Hf.main hl hb hS) fun _ _ _ _ _ z => z
  case F =>
    intro w mg fa h KX G hmg
    refine' Hf.all_mk KX G hmg ?a0 ?l0 ?c0 ?k0 ?a1 ?l1 ?c1 ?k1 ?a2 ?l2 ?c2 ?k2 ?a3 ?l3 ?c3 ?k3 ?a4 ?l4 ?c4 ?k4 ?a5 ?l5 ?c5 ?k5 ?a6 ?l6 ?c6 ?k6 ?z_bool ?z_int ?z_isinstance ?z_len ?z_list ?z_range ?g_WHEEL ?r_WHEEL
    (case a0 => k_is)
    (case l0 => k_is)
    (case c0 => k_is)
    (case k0 => k_is)
    (case a1 => k_is)
    (case l1 => k_is)
    (case c1 => k_is)
    (case k1 => k_is)
    (case a2 => k_is)
    (case l2 => k_is)
    (case c2 => k_is)
    (case k2 => k_is)
    (case a3 => k_is)
    (case l3 => k_is)
    (case c3 => k_is)
    (case k3 => k_is)
    (case a4 => k_is)
    (case l4 => k_is)
    (case c4 => k_is)
    (case k4 => k_is)
    (case a5 => k_is)
    (case l5 => k_is)
    (case c5 => k_is)
    (case k5 => k_is)
    (case a6 => k_is)
    (case l6 => k_is)
    (case c6 => k_is)
    (case k6 => k_is)
    (case z_bool => k_is)
    (case z_int => k_is)
    (case z_isinstance => k_is)
    (case z_len => k_is)
    (case z_list => k_is)
    (case z_range => k_is)
    (case g_WHEEL => k_is)
    (case r_WHEEL => exact ⟨_, rfl⟩)
#print axioms PySem.Challenge.cw_handflow_k10_done_holds
