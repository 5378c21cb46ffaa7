import PyProof.Rows.All
import Wide.All
import OpenK.AllK
import Wide.FinOn
import HandS.ForMost
import HandS.ForExc
import HandS.EndBits
import HandS.Wide
import HandS.IsInst
import HandS.RaiseMore
import HandS.Conv
import HandS.Zip
import KE.IntTextLaws
import PySem.Challenge.RW_handflow_k42_yard
set_option Elab.async false
set_option linter.all false
set_option maxRecDepth 100000
set_option maxHeartbeats 4000000
namespace Hf
open PySem PySem.Spec L2 PyProof.Rows
section
variable {X : Cx} {e a b c : Expr} {pos : Pos} {ta tb tc : TE}
theorem pe_w {t t' : TE} (h : PE X e t) (w : ∀ σ H Q, t' σ H Q → t σ H Q) : PE X e t' := ⟨fun pins s σ H Q I q => h.run pins s σ H Q I (w _ _ _ q)⟩
theorem pt_w {t t' : TT} (h : PT X e t) (w : ∀ σ H Q, t' σ H Q → t σ H Q) : PT X e t' := ⟨fun pins s σ H Q I q => h.run pins s σ H Q I (w _ _ _ q)⟩
theorem ps_w {st : Stmt} {t t' : TS} (h : PS X st t) (w : ∀ D σ H, t' D σ H → t D σ H) : PS X st t' := ⟨fun pins s σ H D I q => h.run pins s σ H D I (w _ _ _ q)⟩
theorem op_w {f : Value → Value → Sem Value} {r r' : R2} (h : OpR X f r) (w : ∀ x y H Q, r' x y H Q → r x y H Q) : OpR X f r' := fun pins s σ H x y v u Q I rx ry q => h pins s σ H x y v u Q I rx ry (w _ _ _ _ q)

/-! names, constants -/
def eVar (i : Nat) (σ : L2.St) (H : Hp) (Q : VK) : Prop := match σ[i]? with
  | some (some v) => Q v H
  | _ => False
theorem dVar (i : Nat) {x : Str} (hN : X.N[i]? = some x := by rfl) (hv : Vis X.env.scope x := by first | exact Or.inl rfl | exact Or.inr (Or.inl rfl) | exact Or.inr (Or.inr rfl))
    (hd : (x == ("__debug__" : Str)) = false := by decide) (hcd : (x == ("__classdict__" : Str)) = false := by decide) : PE X (.Name x pos) (eVar i) :=
  pe_w (pe_var hN hv hd hcd) fun σ H Q q => by
    unfold eVar at q
    split at q
    · exact ⟨_, by assumption, q⟩
    · exact q.elim
def eLit (v : V) (_ : L2.St) (H : Hp) (Q : VK) : Prop := Q v H
theorem dInt {i : Int} {j} : PE X (.Constant (.int i) j pos) (eLit (.int i)) := pe_int
theorem dBl {i : Bool} {j} : PE X (.Constant (.bool i) j pos) (eLit (.bl i)) := pe_bl
theorem dNon {j} : PE X (.Constant .none j pos) (eLit .non) := pe_non
theorem dStr {x : Str} {j} : PE X (.Constant (.str x) j pos) (eLit (.str x)) := pe_str
/-! operators -/
def eBin (r : R2) (ta tb : TE) (σ : L2.St) (H : Hp) (Q : VK) : Prop := ta σ H fun x H1 => tb σ H1 fun y H2 => r x y H2 Q
def eUn (r : V → Hp → VK → Prop) (ta : TE) (σ : L2.St) (H : Hp) (Q : VK) : Prop := ta σ H fun x H1 => r x H1 Q
theorem dBin {op : Operator} {r : R2} (ho : OpR X (binaryOp op) r) (ha : PE X a ta) (hb : PE X b tb) : PE X (.BinOp a op b pos) (eBin r ta tb) := pe_op ho ha hb
theorem dUn {op : UnaryOp} {r : V → Hp → VK → Prop} (ho : UnR X (unaryOp op) r) (ha : PE X a ta) : PE X (.UnaryOp op a pos) (eUn r ta) := pe_un ho ha

/-- two ints, what is asked of them, the answer -/
def uII (C : Int → Int → Prop) (g : Int → Int → V) (x y : V) (H : Hp) (Q : VK) : Prop := match x, y with
  | .int i, .int j => C i j ∧ Q (g i j) H
  | _, _ => False
def uI2 (g : Int → Int → V) (x y : V) (H : Hp) (Q : VK) : Prop := match x, y with
  | .int i, .int j => Q (g i j) H
  | _, _ => False
theorem uII_of {f : Value → Value → Sem Value} {C : Int → Int → Prop} {g : Int → Int → V} (h : OpR X f (rI C g)) : OpR X f (uII C g) := op_w h fun x y H Q q => by
  unfold uII at q
  split at q
  · exact ⟨_, _, rfl, rfl, q⟩
  · exact q.elim
theorem uI2_of {f : Value → Value → Sem Value} {g : Int → Int → V} (h : OpR X f (rI0 g)) : OpR X f (uI2 g) := op_w h fun x y H Q q => by
  unfold uI2 at q
  split at q
  · exact ⟨_, _, rfl, rfl, q⟩
  · exact q.elim
/-- lists are joined, or tuples -/
def catR (K : PySem.W.Frag) (a b : Addr) (H : Hp) (Q : VK) : Prop :=
  (∃ xs ys, SqL K H a xs ∧ SqL K H b ys ∧ xs.length + ys.length ≤ sizeLine ∧ ∀ p, H p = none → Q (.ref p) (upd H p (.lst (xs ++ ys)))) ∨
  (∃ xs ys, SqT K H a xs ∧ SqT K H b ys ∧ xs ≠ [] ∧ xs.length + ys.length ≤ sizeLine ∧ (ys = [] → Q (.ref a) H) ∧ (ys ≠ [] → ∀ p, H p = none → Q (.ref p) (upd H p (.tup (xs ++ ys)))))
def uAdd (K : PySem.W.Frag) (x y : V) (H : Hp) (Q : VK) : Prop := match x, y with
  | .int i, .int j => Q (.int (i + j)) H
  | .str i, .str j => i.length + j.length ≤ sizeLine ∧ Q (.str (i ++ j)) H
  | .ref i, .ref j => catR K i j H Q
  | _, _ => False

theorem cat_seq : ∀ {pins : List (Addr × Obj)} {s : Shared} {σ : L2.St} {H : Hp} {i j : Addr} {Q : VK}, Inv X pins σ H s → catR X.K i j H Q → wpAny (model X.prog X.w) X.A (binaryOp .Add (.ref i) (.ref j)) (EP X pins σ Q) X.xe s := by
  intro pins s σ H i j Q I h
  rcases h with ⟨xs, ys, h1, h2, hz, q⟩ | ⟨xs, ys, h1, h2, n1, hz, q1, q2⟩
  · obtain ⟨i1, r1, ⟨⟨cls, dd, data, sl⟩, n, ho, hc, _, hd⟩, _⟩ := I.list h1
    obtain ⟨i2, r2, ⟨⟨cls2, dd2, data2, sl2⟩, m, ho2, hc2, _, hd2⟩, _⟩ := I.list h2
    simp only at hc hd hc2 hd2
    subst hc hd hc2 hd2
    have l1 := r1.length
    have l2 := r2.length
    have ee : i1.toArray ++ i2.toArray = (i1 ++ i2).toArray := by simp
    refine concat_meets ⟨_, ho, rfl⟩ ⟨_, ho2, rfl⟩ noFill_list_add seq_list_add PySem.F.slot_list_add PySem.F.entry_list_add (PySem.F.args_list_add_2 _ _) (list_addW i j i1.toArray i2.toArray n m dd dd2 sl sl2 (by rw [List.size_toArray, List.size_toArray]; omega)) ⟨ho, ho2, ?_⟩
    rw [ee]
    exact ⟨.ref _, _, I.lnew (t' := s.toks) (r1.append r2) (by rw [List.length_append]; omega), rfl, q _ I.fresh⟩
  · exact op_catT pins s σ H (.ref i) (.ref j) (.ref i) (.ref j) Q I rfl rfl ⟨i, j, xs, ys, rfl, rfl, h1, h2, n1, hz, q1, q2⟩
theorem oAdd : OpR X (binaryOp .Add) (uAdd X.K) := by
  intro pins s σ H x y v u Q I rx ry h
  unfold uAdd at h
  split at h
  · exact op_add pins s σ H _ _ v u Q I rx ry ⟨_, _, rfl, rfl, h⟩
  · exact op_add_str pins s σ H _ _ v u Q I rx ry ⟨_, _, rfl, rfl, h⟩
  · cases rx
    cases ry
    exact cat_seq I h
  · exact h.elim
theorem oSub : OpR X (binaryOp .Sub) (uI2 fun i j => .int (i - j)) := uI2_of op_sub
/-- ints, or a text some times over -/
def repS (z : Str) (k : Int) : Str := ⟨(List.replicate k.toNat z.cps.toList).flatten.toArray⟩
def uMul (x y : V) (H : Hp) (Q : VK) : Prop := match x, y with
  | .int i, .int j => IntMulOk i j ∧ Q (.int (i * j)) H
  | .str z, .int k => k ≤ 1000000 ∧ -1000000 ≤ k ∧ z.length ≤ 16 ∧ Q (.str (repS z k)) H
  | _, _ => False
theorem rep_cps (cs : Array Nat) : ∀ (m : Nat), (List.replicate m cs).foldl (· ++ ·) #[] = (List.replicate m cs.toList).flatten.toArray := by
  intro m
  have gen : ∀ (m : Nat) (acc : Array Nat), (List.replicate m cs).foldl (· ++ ·) acc = acc ++ (List.replicate m cs.toList).flatten.toArray := by
    intro m
    induction m with
    | zero => intro acc; simp
    | succ m ih =>
      intro acc
      rw [List.replicate_succ, List.foldl_cons, ih, List.replicate_succ, List.flatten_cons]
      simp [Array.append_assoc, ← List.append_toArray]
  rw [gen]
  simp
theorem oMul : OpR X (binaryOp .Mult) uMul := by
  intro pins s σ H x y v u Q I rx ry h
  unfold uMul at h
  split at h
  · obtain ⟨t, rfl⟩ := rx
    obtain ⟨t', rfl⟩ := ry
    exact mul_int ⟨.int _, H, I.tok _, ⟨_, rfl⟩, h.2⟩ h.1
  · rename_i z k
    obtain ⟨h1, h2, hz, q⟩ := h
    obtain ⟨t, rfl⟩ := rx
    obtain ⟨t', rfl⟩ := ry
    have hsz : sizeLine = 16777216 := sizeLine_eq
    refine PySem.P.mul_str ?_ ?_ ?_ ?_
    · rw [decide_eq_false (by omega), decide_eq_false (by omega)]; rfl
    · intro a b
      have : (16 : Int) ≤ (2 ^ 63 - 1) / k := by
        rw [Int.le_ediv_iff_mul_le (by omega)]
        omega
      omega
    · intro a b
      unfold Builtin.Str.tooLong
      have e : z.length * k.toNat ≤ 16 * 1000000 := Nat.mul_le_mul hz (by omega)
      have e2 : ¬ sizeLine < z.length * k.toNat := by omega
      simp [e2]
    · split
      · have e : repS z k = Str.empty := by
          have : k.toNat = 0 := by omega
          unfold repS
          rw [this]
          rfl
        rw [e] at q
        exact ⟨by decide, ⟨.str _, H, I.tok _, ⟨_, rfl⟩, q⟩⟩
      · split
        · rename_i a b
          have e : repS z k = z := by
            unfold repS
            rw [Bool.or_eq_true, beq_iff_eq, beq_iff_eq] at b
            rcases b with b | b
            · have : k.toNat = 1 := by omega
              rw [this]
              simp
            · have : z.cps = #[] := Array.eq_empty_of_size_eq_zero b
              cases z
              simp only at this
              subst this
              simp
          rw [e] at q
          exact ⟨.str _, H, I, ⟨_, rfl⟩, q⟩
        · refine ⟨?_, ⟨.str _, H, I.tok _, ⟨_, rfl⟩, ?_⟩⟩
          · rw [rep_cps]
            show (_ : Nat) ≤ _
            have e : z.length * k.toNat ≤ 16 * 1000000 := Nat.mul_le_mul hz (by omega)
            simp [Str.length] at e ⊢
            rw [Nat.mul_comm]
            omega
          · rw [rep_cps]
            exact q
  · exact h.elim
theorem oDiv : OpR X (binaryOp .FloorDiv) (uII CDivW fun i j => .int (i / j)) := uII_of op_fdivW
theorem oMod : OpR X (binaryOp .Mod) (uII (fun _ j => 0 < j) fun i j => .int (i % j)) := uII_of op_mod
theorem oPow : OpR X (binaryOp .Pow) (uII CPow fun i j => .int (i ^ j.toNat)) := uII_of op_pow
theorem oAnd : OpR X (binaryOp .BitAnd) (uI2 fun i j => .int (Builtin.bitAnd i j)) := uI2_of op_and
theorem oOr : OpR X (binaryOp .BitOr) (uI2 fun i j => .int (Builtin.bitOr i j)) := uI2_of op_or
theorem oXor : OpR X (binaryOp .BitXor) (uI2 fun i j => .int (Builtin.bitXor i j)) := uI2_of op_xor
def uNeg (x : V) (H : Hp) (Q : VK) : Prop := match x with
  | .int i => Q (.int (-i)) H
  | _ => False
theorem oNeg : UnR X (unaryOp .USub) uNeg := fun pins s σ H x v Q I rx h => by
  unfold uNeg at h
  split at h
  · exact un_neg pins s σ H _ v Q I rx ⟨_, rfl, h⟩
  · exact h.elim
/-! comparisons -/
theorem oLt : OpR X (compareOp .Lt) (uI2 fun i j => .bl (decide (i < j))) := uI2_of op_lt
theorem oLe : OpR X (compareOp .LtE) (uI2 fun i j => .bl (decide (i ≤ j))) := uI2_of op_le
theorem oGt : OpR X (compareOp .Gt) (uI2 fun i j => .bl (decide (j < i))) := uI2_of op_gt
theorem oGe : OpR X (compareOp .GtE) (uI2 fun i j => .bl (decide (j ≤ i))) := uI2_of op_ge
/-- data of any depth is compared by what it tells -/
def eqD (K : PySem.W.Frag) (x y : V) (H : Hp) (k : Bool → Prop) : Prop := ∃ d e, Dp K H x d ∧ Dp K H y e ∧ SeqAt.shaped d = true ∧ SeqAt.shaped e = true ∧ k (PyData.eqv d e)
def uEq (K : PySem.W.Frag) (x y : V) (H : Hp) (Q : VK) : Prop := match x, y with
  | .int i, .int j => Q (.bl (decide (i = j))) H
  | .str i, .str j => Q (.bl (decide (i = j))) H
  | .bl i, .bl j => Q (.bl (decide (i = j))) H
  | .ref a, y => eqD K (.ref a) y H fun b => Q (.bl (b)) H
  | x, .ref b => eqD K x (.ref b) H fun b => Q (.bl (b)) H
  | x, y => scal x y = true ∧ Q (.bl (decide (x = y))) H
def uNe (K : PySem.W.Frag) (x y : V) (H : Hp) (Q : VK) : Prop := match x, y with
  | .int i, .int j => Q (.bl (!decide (i = j))) H
  | .str i, .str j => Q (.bl (!decide (i = j))) H
  | .bl i, .bl j => Q (.bl (!decide (i = j))) H
  | .ref a, y => eqD K (.ref a) y H fun b => Q (.bl (!b)) H
  | x, .ref b => eqD K x (.ref b) H fun b => Q (.bl (!b)) H
  | x, y => scal x y = true ∧ Q (.bl (!decide (x = y))) H
theorem oEq (hu : X.A.units + 64 < cLine) : OpR X (compareOp .Eq) (uEq X.K) := by
  intro pins s σ H x y v u Q I rx ry h
  unfold uEq at h
  split at h
  · exact op_eq pins s σ H _ _ v u Q I rx ry ⟨rfl, by simpa using h⟩
  · exact op_eq pins s σ H _ _ v u Q I rx ry ⟨rfl, by simpa using h⟩
  · exact op_eq pins s σ H _ _ v u Q I rx ry ⟨rfl, by simpa using h⟩
  · exact op_eqD hu pins s σ H _ _ v u Q I rx ry h
  · exact op_eqD hu pins s σ H _ _ v u Q I rx ry h
  · exact op_eq pins s σ H _ _ v u Q I rx ry h
theorem oNe (hu : X.A.units + 64 < cLine) : OpR X (compareOp .NotEq) (uNe X.K) := by
  intro pins s σ H x y v u Q I rx ry h
  unfold uNe at h
  split at h
  · exact op_ne pins s σ H _ _ v u Q I rx ry ⟨rfl, by simpa using h⟩
  · exact op_ne pins s σ H _ _ v u Q I rx ry ⟨rfl, by simpa using h⟩
  · exact op_ne pins s σ H _ _ v u Q I rx ry ⟨rfl, by simpa using h⟩
  · exact op_neD hu pins s σ H _ _ v u Q I rx ry h
  · exact op_neD hu pins s σ H _ _ v u Q I rx ry h
  · exact op_ne pins s σ H _ _ v u Q I rx ry h
/-- in a list or a tuple of flat things; a sign in a text -/
def inSq (K : PySem.W.Frag) (x : V) (p : Addr) (H : Hp) (k : Bool → Prop) : Prop := ∃ xs, (SqL K H p xs ∨ SqT K H p xs) ∧ flatV x = true ∧ xs.all flatV = true ∧ k (inV x xs)
def inTx (w z : Str) : Bool := !(Builtin.Str.occurrences z w 0 z.length 1).isEmpty
def uIn (K : PySem.W.Frag) (neg : Bool) (x y : V) (H : Hp) (Q : VK) : Prop := match x, y with
  | .str w, .str z => Q (.bl (if neg then !inTx w z else inTx w z)) H
  | x, .ref p => inSq K x p H fun b => Q (.bl (if neg then !b else b)) H
  | _, _ => False
theorem oIn : OpR X (compareOp .In) (uIn X.K false) := by
  intro pins s σ H x y v u Q I rx ry h
  unfold uIn at h
  split at h
  · exact op_in_str pins s σ H _ _ v u Q I rx ry ⟨_, _, rfl, rfl, h⟩
  · obtain ⟨xs, h1, h2, h3, q⟩ := h
    exact op_in_seq pins s σ H _ _ v u Q I rx ry ⟨_, xs, rfl, h1, h2, h3, q⟩
  · exact h.elim
theorem oNotIn : OpR X (compareOp .NotIn) (uIn X.K true) := by
  intro pins s σ H x y v u Q I rx ry h
  unfold uIn at h
  split at h
  · exact op_notIn_str pins s σ H _ _ v u Q I rx ry ⟨_, _, rfl, rfl, h⟩
  · obtain ⟨xs, h1, h2, h3, q⟩ := h
    exact op_notIn_seq pins s σ H _ _ v u Q I rx ry ⟨_, xs, rfl, h1, h2, h3, q⟩
  · exact h.elim
theorem inTx_one (c : Nat) (z : Str) : inTx ⟨#[c]⟩ z = decide (c ∈ z.cps.toList) := PySem.StrLaws.found_one z c
def uIs (neg : Bool) (x y : V) (H : Hp) (Q : VK) : Prop := match y with
  | .non => Q (.bl (if neg then !decide (x = .non) else decide (x = .non))) H
  | _ => False
theorem oIs : OpR X (compareOp .Is) (uIs false) := op_w op_isN fun x y H Q q => by
  unfold uIs at q
  split at q
  · exact ⟨rfl, q⟩
  · exact q.elim
theorem oIsNot : OpR X (compareOp .IsNot) (uIs true) := op_w op_notN fun x y H Q q => by
  unfold uIs at q
  split at q
  · exact ⟨rfl, q⟩
  · exact q.elim
theorem dCmp {op : CmpOp} {r : R2} (ho : OpR X (compareOp op) r) (ha : PE X a ta) (hb : PE X b tb) (hm : behindInMarks op b = false := by first | rfl | exact nomark _) : PE X (.Compare a [op] [b] pos) (eBin r ta tb) := pe_cmpR ho ha hb hm
/-! tests -/
/-- by what a value is -/
def asBl (x : V) (k : Bool → Prop) : Prop := match x with
  | .bl b => k b
  | _ => False
def asInt (x : V) (k : Int → Prop) : Prop := match x with
  | .int i => k i
  | _ => False
def tru (x : V) (H : Hp) (Q : Bool → Hp → Prop) : Prop := match x with
  | .bl k => Q k H
  | .int i => Q (i != 0) H
  | _ => False
theorem asBl_of {x : V} {k : Bool → Prop} (h : asBl x k) : ∃ b, x = .bl b ∧ k b := by
  unfold asBl at h
  split at h
  · exact ⟨_, rfl, h⟩
  · exact h.elim
theorem asInt_of {x : V} {k : Int → Prop} (h : asInt x k) : ∃ b, x = .int b ∧ k b := by
  unfold asInt at h
  split at h
  · exact ⟨_, rfl, h⟩
  · exact h.elim
def tTst (t : TE) (σ : L2.St) (H : Hp) (Q : Bool → Hp → Prop) : Prop := t σ H fun x H1 => tru x H1 Q
theorem tru_of {pins : List (Addr × Obj)} {s : Shared} {σ : L2.St} {H : Hp} {Q : Bool → Hp → Prop} {x : V} {v : Value} (I : Inv X pins σ H s) (r : RelV x v)
    (q : tru x H Q) : wpAny (model X.prog X.w) X.A (truthy v) (TP X pins σ Q) X.xe s := by
  refine tru_ok pins s σ H x v Q I r ?_
  unfold tru at q
  split at q
  · exact ⟨_, rfl, q⟩
  · exact ⟨_, rfl, q⟩
  · exact q.elim
/-- any expression by its truth -/
theorem qVal (ha : PE X a ta) (he : ∀ whole, isTrue a X.env whole = (do let v ← whole; standAt a.pos; holding [v] (truthy v)) := by intro _; rfl) : PT X a (tTst ta) :=
  ⟨fun pins s σ H _ I h => isTrue_plain (thn (ha.run pins s σ H _ I h) fun _ _ ⟨_, _, I1, r1, q1⟩ => tru_of I1 r1 q1) (he _)⟩
theorem qCmp {op : CmpOp} {r : R2} (ho : OpR X (compareOp op) r) (ha : PE X a ta) (hb : PE X b tb) (hm : behindInMarks op b = false := by first | rfl | exact nomark _) : PT X (.Compare a [op] [b] pos) (tTst (eBin r ta tb)) :=
  ⟨fun pins s σ H _ I h => wpAny_isTrue_Compare1 (thn (ha.run pins s σ H _ I h) fun v s1 ⟨x, H1, I1, r1, q1⟩ => thn (hb.run pins s1 σ H1 _ I1 q1) fun u s2 ⟨y, H2, I2, r2, q2⟩ =>
    thn (ho pins s2 σ H2 x y v u _ I2 r1 r2 q2) fun _ _ ⟨_, _, I3, r3, q3⟩ => tru_of I3 r3 q3) hm⟩
/-- a op1 b op2 c -/
def eChain (r r' : R2) (ta tb tc : TE) (σ : L2.St) (H : Hp) (Q : VK) : Prop := ta σ H fun x H1 => tb σ H1 fun y H2 => r x y H2 fun z H3 => asBl z fun k => if k = true then tc σ H3 fun w' H4 => r' y w' H4 Q else Q (.bl false) H3
theorem dChain {op op' : CmpOp} {r r' : R2} (ho : OpR X (compareOp op) r) (ho' : OpR X (compareOp op') r') (ha : PE X a ta) (hb : PE X b tb) (hc : PE X c tc)
    (hm : lastMarks [op, op'] [b, c] = false := by with_unfolding_all rfl) : PE X (.Compare a [op, op'] [b, c] pos) (eChain r r' ta tb tc) := by
  refine ⟨fun pins s σ H Q I h => ?_⟩
  refine Compare_chain (thn (ha.run pins s σ H _ I h) fun v s1 ⟨x, H1, I1, r1, q1⟩ => chain_link (thn (hb.run pins s1 σ H1 _ I1 q1) fun u s2 ⟨y, H2, I2, r2, q2⟩ =>
    thn (ho pins s2 σ H2 x y v u _ I2 r1 r2 q2) fun d s3 ⟨z, H3, I3, r3, q3⟩ => ?_)) hm
  obtain ⟨k, rfl, q3⟩ := asBl_of q3
  · cases r3
    refine wpAny_truthy_bool ?_
    cases k with
    | false => exact ite_ff ⟨.bl false, H3, I3, rfl, q3⟩
    | true => exact ite_tt (chain_last (thn (hc.run pins s3 σ H3 _ I3 q3) fun w' s4 ⟨z', H4, I4, r4, q4⟩ => ho' pins s4 σ H4 y z' u w' Q I4 r2 r4 q4))
theorem qChain {op op' : CmpOp} {r r' : R2} (ho : OpR X (compareOp op) r) (ho' : OpR X (compareOp op') r') (ha : PE X a ta) (hb : PE X b tb) (hc : PE X c tc)
    (hm : lastMarks [op, op'] [b, c] = false := by with_unfolding_all rfl) : PT X (.Compare a [op, op'] [b, c] pos) (tTst (eChain r r' ta tb tc)) := by
  refine ⟨fun pins s σ H Q I h => ?_⟩
  refine isTrue_chain (thn (ha.run pins s σ H _ I h) fun v s1 ⟨x, H1, I1, r1, q1⟩ => test_link (thn (hb.run pins s1 σ H1 _ I1 q1) fun u s2 ⟨y, H2, I2, r2, q2⟩ =>
    thn (ho pins s2 σ H2 x y v u _ I2 r1 r2 q2) fun d s3 ⟨z, H3, I3, r3, q3⟩ => ?_)) hm
  obtain ⟨k, rfl, q3⟩ := asBl_of q3
  · cases r3
    refine wpAny_truthy_bool ?_
    cases k with
    | false => exact ite_ff ⟨H3, I3, q3⟩
    | true => exact ite_tt (test_last (thn (hc.run pins s3 σ H3 _ I3 q3) fun w' s4 ⟨z', H4, I4, r4, q4⟩ => thn (ho' pins s4 σ H4 y z' u w' _ I4 r2 r4 q4) fun _ _ ⟨_, _, I5, r5, q5⟩ => tru_of I5 r5 q5))
variable {rest : List Expr} {tA tB' : TT}
def tAnd (t u : TT) (σ : L2.St) (H : Hp) (Q : Bool → Hp → Prop) : Prop := t σ H fun c H1 => if c = true then u σ H1 Q else Q false H1
def tOr (t u : TT) (σ : L2.St) (H : Hp) (Q : Bool → Hp → Prop) : Prop := t σ H fun c H1 => if c = true then Q true H1 else u σ H1 Q
def tNot (t : TT) (σ : L2.St) (H : Hp) (Q : Bool → Hp → Prop) : Prop := t σ H fun c H1 => Q (!c) H1
theorem qAnd1 (ha : PT X a tA) : PW X (.BoolOp .And [a] pos) tA := pw_and1 ha
theorem qOr1 (ha : PT X a tA) : PW X (.BoolOp .Or [a] pos) tA := pw_or1 ha
theorem qAnd (ha : PT X a tA) (hb : PW X (.BoolOp .And (b :: rest) pos) tB') : PW X (.BoolOp .And (a :: b :: rest) pos) (tAnd tA tB') := pw_and ha hb
theorem qOr (ha : PT X a tA) (hb : PW X (.BoolOp .Or (b :: rest) pos) tB') : PW X (.BoolOp .Or (a :: b :: rest) pos) (tOr tA tB') := pw_or ha hb
theorem qNot (ha : PT X a tA) : PT X (.UnaryOp .Not a pos) (tNot tA) := pt_not ha
/-! and, or, not as values -/
def eAnd (ta tb : TE) (σ : L2.St) (H : Hp) (Q : VK) : Prop := ta σ H fun x H1 => asBl x fun c => if c = true then tb σ H1 Q else Q (.bl false) H1
def eOr (ta tb : TE) (σ : L2.St) (H : Hp) (Q : VK) : Prop := ta σ H fun x H1 => asBl x fun c => if c = true then Q (.bl true) H1 else tb σ H1 Q
def eNot (ta : TE) (σ : L2.St) (H : Hp) (Q : VK) : Prop := ta σ H fun x H1 => asBl x fun c => Q (.bl (!c)) H1
theorem dOne {op} {t : TE} (h : PE X a t) : PE X (.BoolOp op [a] pos) t := pe_one h
theorem dAnd (ha : PE X a ta) (hb : PE X (.BoolOp .And (b :: rest) pos) tb) : PE X (.BoolOp .And (a :: b :: rest) pos) (eAnd ta tb) := by
  refine ⟨fun pins s σ H Q I h => BoolOp_and (thn (ha.run pins s σ H _ I h) fun v s1 ⟨x, H1, I1, r1, q1⟩ => ?_)⟩
  obtain ⟨c, rfl, q1⟩ := asBl_of q1
  · cases r1
    refine wpAny_truthy_bool ?_
    cases c with
    | true => exact hb.run pins s1 σ H1 Q I1 q1
    | false => exact ⟨.bl false, H1, I1, rfl, q1⟩
theorem dOr (ha : PE X a ta) (hb : PE X (.BoolOp .Or (b :: rest) pos) tb) : PE X (.BoolOp .Or (a :: b :: rest) pos) (eOr ta tb) := by
  refine ⟨fun pins s σ H Q I h => BoolOp_or (thn (ha.run pins s σ H _ I h) fun v s1 ⟨x, H1, I1, r1, q1⟩ => ?_)⟩
  obtain ⟨c, rfl, q1⟩ := asBl_of q1
  · cases r1
    refine wpAny_truthy_bool ?_
    cases c with
    | false => exact hb.run pins s1 σ H1 Q I1 q1
    | true => exact ⟨.bl true, H1, I1, rfl, q1⟩
theorem dNot (ha : PE X a ta) : PE X (.UnaryOp .Not a pos) (eNot ta) := by
  refine ⟨fun pins s σ H Q I h => UnaryOp_ (thn (ha.run pins s σ H _ I h) fun v s1 ⟨x, H1, I1, r1, q1⟩ => ?_)⟩
  obtain ⟨c, rfl, q1⟩ := asBl_of q1
  · cases r1
    exact not_of (wpAny_truthy_bool ⟨.bl (!c), H1, I1, rfl, q1⟩)
def eIf (t : TT) (ta tb : TE) (σ : L2.St) (H : Hp) (Q : VK) : Prop := t σ H fun c H1 => if c = true then ta σ H1 Q else tb σ H1 Q
theorem dIf (hc : PT X c tA) (ha : PE X a ta) (hb : PE X b tb) : PE X (.IfExp c a b pos) (eIf tA ta tb) := pe_ifExp hc ha hb
/-! arguments, displays, subscripts, calls -/
variable {es : List Expr} {tes : TA} {te : TE}
def aNil (_ : L2.St) (H : Hp) (Q : List V → Hp → Prop) : Prop := Q [] H
def aCons (ta : TE) (tr : TA) (σ : L2.St) (H : Hp) (Q : List V → Hp → Prop) : Prop := ta σ H fun x H1 => tr σ H1 fun xs H2 => Q (x :: xs) H2
theorem kNil : PA X [] aNil := pa_nil
theorem kCons (ha : PE X e te) (hr : PA X es tes) (hs : starEach (e :: es) X.env = (false, eval e X.env) :: starEach es X.env := by rfl) : PA X (e :: es) (aCons te tes) := pa_cons ha hr hs
def eTup (t : TA) (σ : L2.St) (H : Hp) (Q : VK) : Prop := t σ H fun xs H1 => xs.length ≤ sizeLine ∧ ∀ p, H1 p = none → Q (.ref p) (upd H1 p (.tup xs))
def eLst (t : TA) (σ : L2.St) (H : Hp) (Q : VK) : Prop := t σ H fun xs H1 => xs.length ≤ sizeLine ∧ ∀ p, H1 p = none → Q (.ref p) (upd H1 p (.lst xs))
theorem dTup {x1} (h : PA X es tes) : PE X (.Tuple es x1 pos) (eTup tes) := pe_tup h
theorem dLst (h : PA X es tes) : PE X (.List es pos) (eLst tes) := pe_lst h
/-- a place in a list or a tuple; a sign of a text -/
def ixR (K : PySem.W.Frag) (x : Addr) (i : Int) (H : Hp) (Q : VK) : Prop := ∃ xs v, (SqL K H x xs ∨ SqT K H x xs) ∧ atI xs i = some v ∧ Q v H
def ixS (z : Str) (i : Int) (H : Hp) (Q : VK) : Prop := z.length ≤ sizeLine ∧ ∃ c, atI z.cps.toList i = some c ∧ Q (.str ⟨#[c]⟩) H
def uIx (K : PySem.W.Frag) (x y : V) (H : Hp) (Q : VK) : Prop := match x, y with
  | .ref p, .int i => ixR K p i H Q
  | .str z, .int i => ixS z i H Q
  | _, _ => False
theorem oIx : IxR X (uIx X.K) := by
  intro value slice pins s σ H x y v u Q I rx ry h hs
  unfold uIx at h
  split at h
  · obtain ⟨xs, w, h1 | h1, h2, q⟩ := h
    · exact ix_list value slice pins s σ H _ _ v u Q I rx ry ⟨_, xs, _, w, rfl, rfl, h1, h2, q⟩ hs
    · exact ix_tup value slice pins s σ H _ _ v u Q I rx ry ⟨_, xs, _, w, rfl, rfl, h1, h2, q⟩ hs
  · obtain ⟨hz, k, h1, q⟩ := h
    exact ix_str value slice pins s σ H _ _ v u Q I rx ry ⟨_, _, k, rfl, rfl, hz, h1, q⟩ hs
  · exact h.elim
theorem dIx (ha : PE X a ta) (hb : PE X b tb) (hs : PlainIx b := by exact fun _ _ => rfl) : PE X (.Subscript a b pos) (eBin (uIx X.K) ta tb) := pe_ix oIx ha hb hs
variable {lo hi : Option Expr} {tl th : TO} {p2 : Pos}
def oNone (_ : L2.St) (H : Hp) (Q : Option Int → Hp → Prop) : Prop := Q none H
def oPart (t : TE) (σ : L2.St) (H : Hp) (Q : Option Int → Hp → Prop) : Prop := t σ H fun x H1 => asInt x fun i => Q (some i) H1
theorem gNone : PO X none oNone := po_none
theorem gSome (h : PE X a ta) : PO X (some a) (oPart ta) := by
  refine ⟨fun pins s σ H Q I q => ?_⟩
  rw [evalPart_some]
  refine thn (h.run pins s σ H _ I q) fun u s1 ⟨x, H1, I1, r1, q1⟩ => ?_
  obtain ⟨i, rfl, q1⟩ := asInt_of q1
  obtain ⟨t, rfl⟩ := r1
  exact ⟨some i, H1, I1, .int i t, q1⟩
/-- a part of a list, of a text, of a tuple -/
def cutR (K : PySem.W.Frag) (a : Addr) (lo hi : Option Int) (H : Hp) (Q : VK) : Prop := ∃ xs, SqL K H a xs ∧ ∀ p, H p = none → Q (.ref p) (upd H p (.lst (cutV xs lo hi)))
def uSl (K : PySem.W.Frag) (x : V) (lo hi : Option Int) (H : Hp) (Q : VK) : Prop := match x with
  | .ref a => cutR K a lo hi H Q
  | .str z => z.length ≤ sizeLine ∧ Q (.str (cutS z lo hi)) H
  | _ => False
theorem oSl : SlR X (uSl X.K) := by
  intro pins s σ H x v vl vu lo hi sl Q I rx hs pl pu h
  unfold uSl at h
  split at h
  · obtain ⟨xs, h1, q⟩ := h
    exact sl_list pins s σ H _ v vl vu lo hi sl Q I rx hs pl pu ⟨_, xs, rfl, h1, q⟩
  · exact sl_str pins s σ H _ v vl vu lo hi sl Q I rx hs pl pu ⟨_, rfl, h.1, h.2⟩
  · exact h.elim
def eSl (r : V → Option Int → Option Int → Hp → VK → Prop) (te : TE) (tl th : TO) (σ : L2.St) (H : Hp) (Q : VK) : Prop := te σ H fun x H1 => tl σ H1 fun l H2 => th σ H2 fun u H3 => r x l u H3 Q
theorem dSl (he : PE X e te) (hl : PO X lo tl) (hu : PO X hi th) : PE X (.Subscript e (.Slice lo hi none p2) pos) (eSl (uSl X.K) te tl th) := pe_slice oSl he hl hu
/-! calls -/
def eCall (sp : Sp) (E : XK) (t : TA) (σ : L2.St) (H : Hp) (Q : VK) : Prop := t σ H fun vs H1 => sp vs H1 Q E
variable {CX : CXT} {k : Nat} {f C : Addr} {fd : FuncData} {ps : List Str} {sp : Sp} {E : XK} {x : Str} {p : Pos}
theorem dCall (F : FnOk X.prog X.w X.K X.mg X.base CX k f fd ps sp) (hr : Room k X.A) (hg : Gl X x) (hm : X.mg x = some (.ref f)) (hk : PySem.W.keepIn X.K (.ref f) = true) (hb : Binds X.K fd ps []) (hx : Passes CX X E)
    (ha : PA X (e :: es) tes) (hdb : (x == ("__debug__" : Str)) = false := by decide) (he : starEach (e :: es) X.env = (false, eval e X.env) :: starEach es X.env := by rfl) (hpl : (backTo pos (starEach es X.env)).any (·.1) = false := by rfl) :
    PE X (.Call (.Name x p) (e :: es) [] pos) (eCall sp E tes) := by
  refine pe_w (pe_call F hr hg hm hk hb .nil hx ha hdb he hpl) fun σ H Q q => ?_
  unfold tCall
  simp only [List.append_nil]
  exact q
theorem dCall0 (F : FnOk X.prog X.w X.K X.mg X.base CX k f fd ps sp) (hr : Room k X.A) (hg : Gl X x) (hm : X.mg x = some (.ref f)) (hk : PySem.W.keepIn X.K (.ref f) = true) (hb : Binds X.K fd ps []) (hx : Passes CX X E)
    (hdb : (x == ("__debug__" : Str)) = false := by decide) : PE X (.Call (.Name x p) [] [] pos) (eCall sp E aNil) := pe_call0 F hr hg hm hk hb .nil hx hdb
def eBlt (r : List V → Hp → VK → Prop) (t : TA) (σ : L2.St) (H : Hp) (Q : VK) : Prop := t σ H fun vs H1 => r vs H1 Q
theorem dBlt {id : String} {r : List V → Hp → VK → Prop} (hc : CallR X (.builtin id) r) (hg : Gl X x) (hm : X.mg x = none) (hv : bootBuiltins x = some (.builtin id)) (ha : PA X (e :: es) tes) (hn : x ≠ "__name__" := by decide) (hdb : (x == ("__debug__" : Str)) = false := by decide)
    (he : starEach (e :: es) X.env = (false, eval e X.env) :: starEach es X.env := by rfl) (hpl : (backTo pos (starEach es X.env)).any (·.1) = false := by rfl) : PE X (.Call (.Name x p) (e :: es) [] pos) (eBlt r tes) := pe_callB hc hg hm hv ha hn hdb he hpl
theorem dBty {id : String} {r : List V → Hp → VK → Prop} (hc : CallR X (.type id) r) (hg : Gl X x) (hm : X.mg x = none) (hv : bootBuiltins x = some (.type id)) (ha : PA X (e :: es) tes) (hn : x ≠ "__name__" := by decide) (hdb : (x == ("__debug__" : Str)) = false := by decide)
    (he : starEach (e :: es) X.env = (false, eval e X.env) :: starEach es X.env := by rfl) (hpl : (backTo pos (starEach es X.env)).any (·.1) = false := by rfl) : PE X (.Call (.Name x p) (e :: es) [] pos) (eBlt r tes) := pe_callTy hc hg hm hv ha hn hdb he hpl
/-- len -/
def lenR (K : PySem.W.Frag) (a : Addr) (H : Hp) (k : Int → Prop) : Prop := (∃ xs, (SqL K H a xs ∨ SqT K H a xs) ∧ k xs.length)
def uLen (K : PySem.W.Frag) (vs : List V) (H : Hp) (Q : VK) : Prop := match vs with
  | [.str z] => z.length ≤ sizeLine ∧ Q (.int z.length) H
  | [.ref a] => lenR K a H fun n => Q (.int n) H
  | _ => False
theorem bLen : CallR X (.builtin "len") (uLen X.K) := by
  intro pins s σ H xs us Q I r h
  unfold uLen at h
  split at h
  · exact call_len_str pins s σ H _ us Q I r ⟨_, rfl, h.1, h.2⟩
  · obtain ⟨ys, h1, q⟩ := h
    exact call_len_seq pins s σ H _ us Q I r ⟨_, ys, rfl, h1, q⟩
  · exact h.elim
/-- int, str, list, tuple, max, min, isinstance -/
def uInt (vs : List V) (H : Hp) (Q : VK) : Prop := match vs with
  | [.int i] => Q (.int i) H
  | [.bl b] => Q (.int (if b then 1 else 0)) H
  | [.str z] => ∃ n, PySem.intText? z = some n ∧ z.length ≤ 640 ∧ Q (.int n) H
  | _ => False
theorem bInt : CallR X (.type "int") uInt := by
  intro pins s σ H xs us Q I r h
  unfold uInt at h
  split at h
  · exact call_int1 pins s σ H _ us Q I r (.inl ⟨_, rfl, h⟩)
  · exact call_int1 pins s σ H _ us Q I r (.inr ⟨_, rfl, h⟩)
  · obtain ⟨n, h1, h2, q⟩ := h
    exact call_int_str pins s σ H _ us Q I r ⟨_, n, rfl, h1, h2, q⟩
  · exact h.elim
def uStr (vs : List V) (H : Hp) (Q : VK) : Prop := match vs with
  | [.int i] => i.natAbs.log2 < 1920 ∧ Q (.str (toString i)) H
  | [.str z] => Q (.str z) H
  | _ => False
def uMax (vs : List V) (H : Hp) (Q : VK) : Prop := match vs with
  | [.int i, .int j] => Q (.int (if j > i then j else i)) H
  | _ => False
def uMin (vs : List V) (H : Hp) (Q : VK) : Prop := match vs with
  | [.int i, .int j] => Q (.int (if j < i then j else i)) H
  | _ => False
theorem bMax (hc : X.calm = true) : CallR X (.builtin "max") uMax := by
  intro pins s σ H xs us Q I r h
  unfold uMax at h
  split at h
  · exact call_max2 hc pins s σ H _ us Q I r ⟨_, _, rfl, h⟩
  · exact h.elim
theorem bMin (hc : X.calm = true) : CallR X (.builtin "min") uMin := by
  intro pins s σ H xs us Q I r h
  unfold uMin at h
  split at h
  · exact call_min2 hc pins s σ H _ us Q I r ⟨_, _, rfl, h⟩
  · exact h.elim
def uList (K : PySem.W.Frag) (vs : List V) (H : Hp) (Q : VK) : Prop := match vs with
  | [.ref a] => ∃ xs, (SqL K H a xs ∨ SqT K H a xs) ∧ ∀ p, H p = none → Q (.ref p) (upd H p (.lst xs))
  | _ => False
theorem bList : CallR X (.type "list") (uList X.K) := by
  intro pins s σ H xs us Q I r h
  unfold uList at h
  split at h
  · obtain ⟨ys, h1, q⟩ := h
    exact call_list_of pins s σ H _ us Q I r ⟨_, ys, rfl, h1, q⟩
  · exact h.elim
/-- the types of the values of data -/
def tyN (K : PySem.W.Frag) (x : V) (H : Hp) (k : String → Prop) : Prop := match x with
  | .non => k "NoneType"
  | .bl _ => k "bool"
  | .int _ => k "int"
  | .str _ => k "str"
  | .ref a => ((∃ xs, SqL K H a xs) ∧ k "list") ∨ ((∃ xs, SqT K H a xs) ∧ k "tuple") ∨ ((∃ kvs, H a = some (.dK kvs)) ∧ k "dict")
  | _ => False
theorem tyN_of {K : PySem.W.Frag} {x : V} {H : Hp} {k : String → Prop} (h : tyN K x H k) : ∃ n, TyX K H x (.type n) ∧ k n := by
  unfold tyN at h
  split at h
  · exact ⟨_, .base .non, h⟩
  · exact ⟨_, .base (.bl _), h⟩
  · exact ⟨_, .base (.int _), h⟩
  · exact ⟨_, .base (.str _), h⟩
  · rcases h with ⟨⟨xs, h1⟩, q⟩ | ⟨⟨xs, h1⟩, q⟩ | ⟨⟨xs, h1⟩, q⟩
    · refine ⟨_, ?_, q⟩
      rcases h1 with (h1 | ⟨o, h1⟩) | ⟨o, its, n, h1, h2, _⟩
      · exact .base (.lst h1)
      · exact .base (.frz h1)
      · exact .kList h1 h2
    · refine ⟨_, ?_, q⟩
      rcases h1 with (h1 | ⟨o, h1⟩) | ⟨o, its, n, h1, h2, _⟩
      · exact .base (.tup h1)
      · exact .fTuple h1
      · exact .kTuple h1 h2
    · exact ⟨_, .base (.dK h1), q⟩
  · exact h.elim
/-- isinstance(x, T), T a built-in type -/
def uIsi (K : PySem.W.Frag) (vs : List V) (H : Hp) (Q : VK) : Prop := match vs with
  | [x, .ty t] => tyN K x H fun n => ∃ b, kitB n t = some b ∧ Q (.bl b) H
  | _ => False
theorem bIsi : CallR X (.builtin "isinstance") (uIsi X.K) := by
  intro pins s σ H xs us Q I r h
  unfold uIsi at h
  split at h
  · obtain ⟨n, h1, b, h2, q⟩ := tyN_of h
    exact call_isi pins s σ H _ us Q I r ⟨_, _, _, _, b, rfl, .ty _, h1, kit_ty h2, q⟩
  · exact h.elim
theorem dTy {n : String} (hg : Gl X x) (hm : X.mg x = none) (hv : bootBuiltins x = some (.type n)) (hn : x ≠ "__name__" := by decide) (hd : (x == ("__debug__" : Str)) = false := by decide) : PE X (.Name x p) (eLit (.ty n)) := pe_bltn hg hm hv rfl hn hd
theorem dGl {v : V} {u : Value} (hg : Gl X x) (hm : X.mg x = some u) (r : RelV v u) (hd : (x == ("__debug__" : Str)) = false := by decide) : PE X (.Name x p) (eLit v) := pe_glob hg hm r hd
/-- a method of a built-in type -/
def eMb0 (K : PySem.W.Frag) (T : String) (r : V → List V → Hp → VK → Prop) (to : TE) (σ : L2.St) (H : Hp) (Q : VK) : Prop := to σ H fun x H1 => tyV K T x H1 ∧ r x [] H1 Q
def eMb (K : PySem.W.Frag) (T : String) (r : V → List V → Hp → VK → Prop) (to : TE) (t : TA) (σ : L2.St) (H : Hp) (Q : VK) : Prop := to σ H fun x H1 => tyV K T x H1 ∧ t σ H1 fun xs H2 => r x xs H2 Q
variable {o : Expr} {to : TE} {name : Str} {apos cpos : Pos} {T id : String} {r : V → List V → Hp → VK → Prop}
theorem dMb0 (pa : PlainAttrs T) (slot : Slot T name id) (hty : typeOf (.builtin id) = pure (.type "method_descriptor")) (hm : MtR X id r) (ho : PE X o to)
    (hbase : attributeBase o name X.env (eval o X.env) = eval o X.env := by rfl) (hline : (apos.endLine == cpos.line) = true := by rfl) : PE X (.Call (.Attribute o name apos) [] [] cpos) (eMb0 X.K T r to) := pe_bm0 pa slot hty hm ho hbase hline
theorem dMb (pa : PlainAttrs T) (slot : Slot T name id) (hty : typeOf (.builtin id) = pure (.type "method_descriptor")) (hm : MtR X id r) (ho : PE X o to) (ha : PA X (e :: es) tes)
    (hbase : attributeBase o name X.env (eval o X.env) = eval o X.env := by rfl)
    (hfew : ((backTo cpos (starEach (e :: es) X.env)).all (fun x => !x.1) && (backToKw cpos (keywordEach [] X.env)).all (fun x => x.1.isSome) && decide ((e :: es).length + ([] : List Keyword).length + (if ([] : List Keyword).isEmpty then 0 else 1) < 30)) = true := by rfl)
    (hline : (apos.endLine == cpos.line) = true := by rfl) (hs : starEach (e :: es) X.env = (false, eval e X.env) :: starEach es X.env := by rfl) (hplain : (backTo cpos (starEach es X.env)).any (·.1) = false := by rfl) :
    PE X (.Call (.Attribute o name apos) (e :: es) [] cpos) (eMb X.K T r to tes) := pe_bm pa slot hty hm ho ha hbase hfew hline hs hplain
/-! statements -/
variable {st : Stmt} {sts : List Stmt} {t u : TS} {g : TG}
def sSeq (t u : TS) (D : Ends) (σ : L2.St) (H : Hp) : Prop := t { D with nx := u D } σ H
def sSet (i : Nat) (te : TE) (D : Ends) (σ : L2.St) (H : Hp) : Prop := te σ H fun v H1 => D.nx (σ.set i (some v)) H1
def sExp (te : TE) (D : Ends) (σ : L2.St) (H : Hp) : Prop := te σ H fun _ H1 => D.nx σ H1
def sRet (te : TE) (D : Ends) (σ : L2.St) (H : Hp) : Prop := te σ H D.rt
def sRetN (D : Ends) (_ : L2.St) (H : Hp) : Prop := D.rt .non H
/-- P: what both ways reach -/
def sIf (c : TT) (t u : TS) (D : Ends) (σ : L2.St) (H : Hp) : Prop := ∃ P : L2.St → Hp → Prop, (∀ σ' H', P σ' H' → D.nx σ' H') ∧ c σ H fun b H1 => if b = true then t { D with nx := P } σ H1 else u { D with nx := P } σ H1
theorem ps_hat {st : Stmt} {t : TS} (h : PS X st t) : PS X st (fun D σ H => ∃ P : L2.St → Hp → Prop, (∀ σ' H', P σ' H' → D.nx σ' H') ∧ t { D with nx := P } σ H) :=
  ⟨fun pins s σ H D I ⟨P, w, q⟩ => thn (h.run pins s σ H _ I q) fun f s' z => by
    cases f with
    | next => obtain ⟨σ', H', I', q'⟩ := z; exact ⟨σ', H', I', w _ _ q'⟩
    | brk => exact z
    | cont => exact z
    | ret u => exact z⟩
theorem if_split {c : TT} {t u : TS} {D : Ends} {σ : L2.St} {H : Hp} (h : c σ H fun b H1 => if b = true then t D σ H1 else u D σ H1) : sIf c t u D σ H := ⟨D.nx, fun _ _ q => q, h⟩
theorem if_join {c : TT} {t u : TS} {D : Ends} {σ : L2.St} {H : Hp} (P : L2.St → Hp → Prop) (h : c σ H fun b H1 => if b = true then t { D with nx := P } σ H1 else u { D with nx := P } σ H1) (w : ∀ σ' H', P σ' H' → D.nx σ' H') : sIf c t u D σ H := ⟨P, w, h⟩
def sNil (D : Ends) (σ : L2.St) (H : Hp) : Prop := D.nx σ H
def sBrk (D : Ends) (σ : L2.St) (H : Hp) : Prop := D.bk σ H
def sCnt (D : Ends) (σ : L2.St) (H : Hp) : Prop := D.ct σ H
theorem zCons (h : PS X st t) (hs : PSs X sts u) : PSs X (st :: sts) (sSeq t u) := pss_cons h hs
theorem zOne (h : PS X st t) : PSs X [st] t := pss_one h
theorem zNil : PSs X [] sNil := pss_nil
theorem zSet {i : Nat} {px : Pos} {v : Expr} (nd : X.N.Nodup) (hN : X.N[i]? = some x) (hv : Loc X.env.scope x) (he : PE X v te) (hs : swapsWith v (some (.Name x px)) pos.line X.env = pure false := by rfl) (hf : X.fn x = true ∨ X.env.scope.names.lookup x = some .local := by first | exact .inl rfl | exact .inr rfl | assumption) : PS X (.Assign [.Name x px] v pos) (sSet i te) := ps_set nd hN hv he hs hf
theorem zExp (he : PE X e te) (hs : swapsWith e none pos.line X.env = pure false := by rfl) : PS X (.Expr e pos) (sExp te) := ps_expr he hs
theorem zRet (he : PE X e te) : PS X (.Return (some e) pos) (sRet te) := ps_ret he
theorem zRetN : PS X (.Return none pos) sRetN := ps_retN
theorem zIf {q : List Stmt} (hc : PT X c tA) (h1 : PSs X sts t) (h2 : PSs X q u) : PS X (.If c sts q pos) (sIf tA t u) := ps_hat (ps_if hc h1 h2)
theorem zBrk : PS X (.Break pos) sBrk := ps_break
theorem zCnt : PS X (.Continue pos) sCnt := ps_continue
theorem zPass : PS X (.Pass pos) sNil := ps_pass
/-! loops -/
def whileN (c : TT) (tb : TS) (D : Ends) : Nat → L2.St → Hp → Prop
  | 0, _, _ => False
  | n + 1, σ, H => c σ H fun b H1 => if b = true then tb { D with nx := whileN c tb D n, ct := whileN c tb D n, bk := D.nx } σ H1 else D.nx σ H1
def sWhile (c : TT) (tb : TS) (D : Ends) (σ : L2.St) (H : Hp) : Prop := ∃ n, whileN c tb D n σ H

/-- what follows may be weakened -/
def hat (t : TE) : TE := fun σ H Q => ∃ Q0 : VK, (∀ v H', Q0 v H' → Q v H') ∧ t σ H Q0
def hatT (t : TT) : TT := fun σ H Q => ∃ Q0 : Bool → Hp → Prop, (∀ v H', Q0 v H' → Q v H') ∧ t σ H Q0
def hatA (t : TA) : TA := fun σ H Q => ∃ Q0 : List V → Hp → Prop, (∀ v H', Q0 v H' → Q v H') ∧ t σ H Q0
theorem pe_hat {t : TE} (h : PE X e t) : PE X e (hat t) := ⟨fun pins s σ H Q I ⟨Q0, w, q⟩ => thn (h.run pins s σ H Q0 I q) fun _ _ ⟨v, H', I', r, q'⟩ => ⟨v, H', I', r, w _ _ q'⟩⟩
theorem pt_hat {t : TT} (h : PT X e t) : PT X e (hatT t) := ⟨fun pins s σ H Q I ⟨Q0, w, q⟩ => thn (h.run pins s σ H Q0 I q) fun _ _ ⟨H', I', q'⟩ => ⟨H', I', w _ _ q'⟩⟩
theorem pa_hat {t : TA} (h : PA X es t) : PA X es (hatA t) := ⟨fun pos pins s σ H Q I ⟨Q0, w, q⟩ => thn (h.run pos pins s σ H Q0 I q) fun _ _ ⟨v, H', I', r, q'⟩ => ⟨v, H', I', r, w _ _ q'⟩⟩
theorem zWhile (hp : PassesOwn (model X.prog X.w) X.A X.env X.xe) (hc : PT X c tA) (hb : PSs X sts t) : PS X (.While c sts [] pos) (sWhile tA t) :=
  ps_w (ps_while hp (pt_hat hc) hb) fun D σ H ⟨n, h⟩ => by
    refine ⟨fun m σ H => whileN tA t D m σ H, ⟨n, h⟩, fun m σ H h => ?_⟩
    cases m with
    | zero => exact h.elim
    | succ m =>
      refine ⟨_, fun b H1 q => ?_, h⟩
      cases b with
      | true => exact ⟨whileN tA t D m, fun σ' H' z => ⟨m, Nat.lt_succ_self m, z⟩, q⟩
      | false => exact q
/-- targets -/
def gNm (i : Nat) (v : V) (σ : L2.St) (H : Hp) (Q : L2.St → Hp → Prop) : Prop := Q (σ.set i (some v)) H
def asRef (x : V) (k : Addr → Prop) : Prop := match x with
  | .ref a => k a
  | _ => False
theorem asRef_of {x : V} {k : Addr → Prop} (h : asRef x k) : ∃ b, x = .ref b ∧ k b := by
  unfold asRef at h
  split at h
  · exact ⟨_, rfl, h⟩
  · exact h.elim
def asTx (x : V) (k : Str → Prop) : Prop := match x with
  | .str a => k a
  | _ => False
theorem asTx_of {x : V} {k : Str → Prop} (h : asTx x k) : ∃ b, x = .str b ∧ k b := by
  unfold asTx at h
  split at h
  · exact ⟨_, rfl, h⟩
  · exact h.elim
def gPr (K : PySem.W.Frag) (i j : Nat) (v : V) (σ : L2.St) (H : Hp) (Q : L2.St → Hp → Prop) : Prop := asRef v fun a => ∃ x y, SqT K H a [x, y] ∧ Q ((σ.set i (some x)).set j (some y)) H
theorem tgNm {i : Nat} {px : Pos} (nd : X.N.Nodup) (hN : X.N[i]? = some x) (hv : Loc X.env.scope x) (hf : X.fn x = true ∨ X.env.scope.names.lookup x = some .local := by first | exact .inl rfl | exact .inr rfl | assumption) : PG X (.Name x px) (gNm i) := pg_name nd hN hv hf
theorem tgPr {i j : Nat} {px py : Pos} {y : Str} {kk : Nat} (nd : X.N.Nodup) (hN : X.N[i]? = some x) (hv : Loc X.env.scope x) (hN' : X.N[j]? = some y) (hv' : Loc X.env.scope y) (hc : X.calm = true := by rfl)
    (hf : X.fn x = true ∨ X.env.scope.names.lookup x = some .local := by first | exact .inl rfl | exact .inr rfl | assumption) (hf' : X.fn y = true ∨ X.env.scope.names.lookup y = some .local := by first | exact .inl rfl | exact .inr rfl | assumption) :
    PG X (.Tuple [.Name x px, .Name y py] kk pos) (gPr X.K i j) := by
  refine ⟨fun pins s σ H v u Q I r h => (pg_tup hc (pgs_cons (pg_name nd hN hv hf) (pgs_cons (pg_name nd hN' hv' hf') pgs_nil))).run pins s σ H v u Q I r ?_⟩
  obtain ⟨a, rfl, z, w, h1, q⟩ := asRef_of h
  exact ⟨a, _, rfl, h1, rfl, z, [w], rfl, w, [], rfl, rfl, q⟩
/-! for: the turns one by one; L: what stands through the loop (the list) -/
def walk (L : Hp → Prop) (g : TG) (tb : TS) (D : Ends) : List V → L2.St → Hp → Prop
  | [], σ, H => L H ∧ D.nx σ H
  | x :: r, σ, H => L H ∧ g x σ H fun σ2 H2 => tb { D with nx := walk L g tb D r, ct := walk L g tb D r, bk := D.nx } σ2 H2
/-- .. the items in new pairs -/
def walkP (L : Hp → Prop) (g : TG) (tb : TS) (D : Ends) : List (V × V) → L2.St → Hp → Prop
  | [], σ, H => L H ∧ D.nx σ H
  | x :: r, σ, H => L H ∧ ∀ T, H T = none → g (.ref T) σ (upd H T (.tup [x.1, x.2])) fun σ2 H2 => tb { D with nx := walkP L g tb D r, ct := walkP L g tb D r, bk := D.nx } σ2 H2
def rangeV (lo hi : Int) : List V := (List.range (hi - lo).toNat).map fun (i : Nat) => .int (lo + i)
def enumV (k : Nat) (xs : List V) : List (V × V) := (xs.zipIdx k).map fun p => (.int (p.2 : Nat), p.1)
theorem walk_drop {L : Hp → Prop} {g : TG} {tb : TS} {D : Ends} {xs : List V} {i : Nat} {x : V} (h : xs[i]? = some x) : xs.drop i = x :: xs.drop (i + 1) := by
  obtain ⟨h1, h2⟩ := List.getElem?_eq_some_iff.mp h
  rw [← h2]
  exact List.drop_eq_getElem_cons h1
/-- the loop's word by the turns -/
theorem walk_it {L : Hp → Prop} {J : It} {g : TG} {tb : TS} {D : Ends} {xs : List V} {σ : L2.St} {H : Hp} (hstop : ∀ i H, L H → xs.length ≤ i → J.stop i H) (hgo : ∀ i x H, L H → xs[i]? = some x → J.go i H ∧ ∀ y H', J.yld i H y H' → H' = H ∧ y = x)
    (h : walk L g tb D xs σ H) : ∃ W : Nat → Nat → L2.St → Hp → Prop, (∃ m, W 0 m σ H) ∧ ∀ i m σ H, W i m σ H →
  (J.stop i H ∧ D.nx σ H) ∨ (J.go i H ∧ ∃ N : L2.St → Hp → Prop, (∀ σ' H', N σ' H' → ∃ m', m' < m ∧ W (i + 1) m' σ' H') ∧ ∀ x H', J.yld i H x H' → g x σ H' fun σ2 H2 => tb { D with nx := N, ct := N, bk := D.nx } σ2 H2) := by
  refine ⟨fun i m σ H => m = xs.length - i ∧ i ≤ xs.length ∧ walk L g tb D (xs.drop i) σ H, ⟨xs.length, by simp, Nat.zero_le _, h⟩, ?_⟩
  rintro i m σ H ⟨rfl, hi, p⟩
  by_cases hlt : i < xs.length
  · have e := List.getElem?_eq_getElem hlt
    rw [walk_drop (L := L) (g := g) (tb := tb) (D := D) e] at p
    obtain ⟨l, p⟩ := p
    obtain ⟨h1, h2⟩ := hgo i _ H l e
    refine .inr ⟨h1, walk L g tb D (xs.drop (i + 1)), fun σ' H' z => ⟨xs.length - (i + 1), by omega, rfl, hlt, z⟩, fun y H' q => ?_⟩
    obtain ⟨rfl, rfl⟩ := h2 y H' q
    exact p
  · have e : i = xs.length := by omega
    subst e
    rw [List.drop_length] at p
    exact .inl ⟨hstop _ _ p.1 (Nat.le_refl _), p.2⟩
theorem walk_itP {L : Hp → Prop} {J : It} {g : TG} {tb : TS} {D : Ends} {xs : List (V × V)} {σ : L2.St} {H : Hp} (hstop : ∀ i H, L H → xs.length ≤ i → J.stop i H)
    (hgo : ∀ i x H, L H → xs[i]? = some x → J.go i H ∧ ∀ y H', J.yld i H y H' → ∃ T, y = .ref T ∧ H T = none ∧ H' = upd H T (.tup [x.1, x.2]))
    (h : walkP L g tb D xs σ H) : ∃ W : Nat → Nat → L2.St → Hp → Prop, (∃ m, W 0 m σ H) ∧ ∀ i m σ H, W i m σ H →
  (J.stop i H ∧ D.nx σ H) ∨ (J.go i H ∧ ∃ N : L2.St → Hp → Prop, (∀ σ' H', N σ' H' → ∃ m', m' < m ∧ W (i + 1) m' σ' H') ∧ ∀ x H', J.yld i H x H' → g x σ H' fun σ2 H2 => tb { D with nx := N, ct := N, bk := D.nx } σ2 H2) := by
  refine ⟨fun i m σ H => m = xs.length - i ∧ i ≤ xs.length ∧ walkP L g tb D (xs.drop i) σ H, ⟨xs.length, by simp, Nat.zero_le _, h⟩, ?_⟩
  rintro i m σ H ⟨rfl, hi, p⟩
  by_cases hlt : i < xs.length
  · have e := List.getElem?_eq_getElem hlt
    rw [List.drop_eq_getElem_cons hlt] at p
    obtain ⟨l, p⟩ := p
    obtain ⟨h1, h2⟩ := hgo i _ H l e
    refine .inr ⟨h1, walkP L g tb D (xs.drop (i + 1)), fun σ' H' z => ⟨xs.length - (i + 1), by omega, rfl, hlt, z⟩, fun y H' q => ?_⟩
    obtain ⟨T, rfl, n, rfl⟩ := h2 y H' q
    exact p T n
  · have e : i = xs.length := by omega
    subst e
    rw [List.drop_length] at p
    exact .inl ⟨hstop _ _ p.1 (Nat.le_refl _), p.2⟩
/-- a list or a tuple, walked -/
def iSq (K : PySem.W.Frag) (tl : TE) : TI := fun σ H R => tl σ H fun x H1 => ∃ a, x = .ref a ∧ ((∃ xs, SqL K H1 a xs ∧ R (Itl K a) H1) ∨ (∃ xs, SqT K H1 a xs ∧ R (Itt K a) H1))
theorem pi_seq {tg l : Expr} {tl : TE} (hl : PE X l tl) : PI X tg l (iSq X.K tl) := by
  refine ⟨fun pins s σ H R I h => thn (hl.run pins s σ H _ I h) fun v s1 ⟨x, H1, I1, r1, a, ex, q⟩ => ?_⟩
  subst ex
  cases r1
  have fp : ∀ b ∈ [s1.heap.objs.size], FpOk X pins H1 b := fun b hb => by
    have z : b = s1.heap.objs.size := by simpa using hb
    subst z
    exact I1.fpOk (Nat.le_refl _) (I1.hok.fresh (Nat.le_refl _))
  rcases q with ⟨xs, hq, q⟩ | ⟨xs, hq, q⟩
  · obtain ⟨its, rv, p, hz⟩ := I1.list hq
    exact wpAny_pyIter_list p.isList ⟨s1.heap.objs.size, [s1.heap.objs.size], _, _, H1, rfl, I1.kept (t' := s1.toks) fun b o z => Heap.get?_push_of_some _ z, turn_list a _, ⟨_, Heap.get?_push_size _ rfl, rfl, rfl⟩, fp, q⟩
  · obtain ⟨its, rv, p, hz⟩ := I1.tuple hq
    exact wpAny_pyIter_tuple (show s1.heap.IsTuple a its.toArray from p) ⟨s1.heap.objs.size, [s1.heap.objs.size], _, _, H1, rfl, I1.kept (t' := s1.toks) fun b o z => Heap.get?_push_of_some _ z, turn_tuple a _, ⟨_, Heap.get?_push_size _ rfl, rfl, rfl⟩, fp, q⟩
theorem range_at {lo hi : Int} {i : Nat} {x : V} (h : (rangeV lo hi)[i]? = some x) : i < (hi - lo).toNat ∧ x = .int (lo + i) := by
  unfold rangeV at h
  rw [List.getElem?_map] at h
  by_cases z : i < (hi - lo).toNat
  · rw [List.getElem?_range z] at h
    exact ⟨z, (Option.some.inj h).symm⟩
  · rw [List.getElem?_eq_none (by simpa using z)] at h
    cases h
theorem walk_range {D : Ends} {lo hi : Int} {σ : L2.St} {H : Hp} {n : Nat} (hn : n = (hi - lo).toNat) (q : walk (fun _ => True) g t D (rangeV lo hi) σ H) : ∃ W : Nat → Nat → L2.St → Hp → Prop, (∃ m, W 0 m σ H) ∧ ∀ i m σ H, W i m σ H →
  ((Itr lo n).stop i H ∧ D.nx σ H) ∨ ((Itr lo n).go i H ∧ ∃ N : L2.St → Hp → Prop, (∀ σ' H', N σ' H' → ∃ m', m' < m ∧ W (i + 1) m' σ' H') ∧ ∀ x H', (Itr lo n).yld i H x H' → g x σ H' fun σ2 H2 => t { D with nx := N, ct := N, bk := D.nx } σ2 H2) := by
  subst hn
  refine walk_it (fun i H l hi => ?_) (fun i x H l e => ?_) q
  · unfold rangeV at hi
    rw [List.length_map, List.length_range] at hi
    exact hi
  · obtain ⟨h1, h2⟩ := range_at e
    exact ⟨h1, fun y H' ⟨z, w⟩ => ⟨z, w.trans h2.symm⟩⟩
def sForR1 (ta : TE) (g : TG) (tb : TS) (D : Ends) (σ : L2.St) (H : Hp) : Prop := ta σ H fun v H1 => asInt v fun j => (-(2 ^ 62) ≤ j ∧ j < 2 ^ 62) ∧ walk (fun _ => True) g tb D (rangeV 0 j) σ H1
def sForR2 (ta tb : TE) (g : TG) (ts : TS) (D : Ends) (σ : L2.St) (H : Hp) : Prop := ta σ H fun v H1 => tb σ H1 fun u H2 => asInt v fun i => asInt u fun j =>
  (-(2 ^ 62) ≤ i ∧ i < 2 ^ 62 ∧ -(2 ^ 62) ≤ j ∧ j < 2 ^ 62) ∧ walk (fun _ => True) g ts D (rangeV i j) σ H2
/-! what is walked: L, what stands through the walk; the items -/
abbrev SRC := L2.St → Hp → ((Hp → Prop) → List V → Hp → Prop) → Prop
abbrev SRP := L2.St → Hp → ((Hp → Prop) → List (V × V) → Hp → Prop) → Prop
def Fits (J : It) (L : Hp → Prop) (xs : List V) : Prop := (∀ i H, L H → xs.length ≤ i → J.stop i H) ∧ ∀ i x H, L H → xs[i]? = some x → J.go i H ∧ ∀ y H', J.yld i H y H' → H' = H ∧ y = x
def FitsP (J : It) (L : Hp → Prop) (xs : List (V × V)) : Prop := (∀ i H, L H → xs.length ≤ i → J.stop i H) ∧
  ∀ i x H, L H → xs[i]? = some x → J.go i H ∧ ∀ y H', J.yld i H y H' → ∃ T, y = .ref T ∧ H T = none ∧ H' = upd H T (.tup [x.1, x.2])
def PSrc (X : Cx) (tg iter : Expr) (src : SRC) : Prop := ∃ wi, PI X tg iter wi ∧ ∀ σ H R (R' : It → Hp → Prop), src σ H R → (∀ L xs J H1, Fits J L xs → R L xs H1 → R' J H1) → wi σ H R'
def PSrp (X : Cx) (tg iter : Expr) (src : SRP) : Prop := ∃ wi, PI X tg iter wi ∧ ∀ σ H R (R' : It → Hp → Prop), src σ H R → (∀ L xs J H1, FitsP J L xs → R L xs H1 → R' J H1) → wi σ H R'
def cSq (K : PySem.W.Frag) (te : TE) (σ : L2.St) (H : Hp) (R : (Hp → Prop) → List V → Hp → Prop) : Prop := te σ H fun v H1 => asRef v fun a =>
  (∃ xs, SqL K H1 a xs ∧ R (fun H => SqL K H a xs) xs H1) ∨ (∃ xs, SqT K H1 a xs ∧ R (fun H => SqT K H a xs) xs H1)
def cTx (te : TE) (σ : L2.St) (H : Hp) (R : (Hp → Prop) → List V → Hp → Prop) : Prop := te σ H fun v H1 => asTx v fun z => R (fun _ => True) (z.cps.toList.map fun c => .str ⟨#[c]⟩) H1
def cR1 (te : TE) (σ : L2.St) (H : Hp) (R : (Hp → Prop) → List V → Hp → Prop) : Prop := te σ H fun v H1 => asInt v fun j => (-(2 ^ 62) ≤ j ∧ j < 2 ^ 62) ∧ R (fun _ => True) (rangeV 0 j) H1
def cR2 (ta tb : TE) (σ : L2.St) (H : Hp) (R : (Hp → Prop) → List V → Hp → Prop) : Prop := ta σ H fun v H1 => tb σ H1 fun u H2 => asInt v fun i => asInt u fun j =>
  (-(2 ^ 62) ≤ i ∧ i < 2 ^ 62 ∧ -(2 ^ 62) ≤ j ∧ j < 2 ^ 62) ∧ R (fun _ => True) (rangeV i j) H2
def cRv (K : PySem.W.Frag) (te : TE) (σ : L2.St) (H : Hp) (R : (Hp → Prop) → List V → Hp → Prop) : Prop := te σ H fun v H1 => asRef v fun a => ∃ xs, SqL K H1 a xs ∧ R (fun H => SqL K H a xs) xs.reverse H1
def cEn (K : PySem.W.Frag) (te : TE) (σ : L2.St) (H : Hp) (R : (Hp → Prop) → List (V × V) → Hp → Prop) : Prop := te σ H fun v H1 => asRef v fun a => ∃ xs, SqL K H1 a xs ∧ R (fun H => SqL K H a xs) (enumV 0 xs) H1
def cZp (K : PySem.W.Frag) (ta tb : TE) (σ : L2.St) (H : Hp) (R : (Hp → Prop) → List (V × V) → Hp → Prop) : Prop := ta σ H fun v H1 => tb σ H1 fun u H2 => asRef v fun a => asRef u fun b =>
  (∃ xs ys, SqL K H2 a xs ∧ SqL K H2 b ys ∧ R (fun H => SqL K H a xs ∧ SqL K H b ys) (xs.zip ys) H2) ∨ (∃ xs ys, SqT K H2 a xs ∧ SqT K H2 b ys ∧ R (fun H => SqT K H a xs ∧ SqT K H b ys) (xs.zip ys) H2)
variable {tg iter : Expr}
theorem kSq (hi : PE X iter te) : PSrc X tg iter (cSq X.K te) := by
  refine ⟨_, pi_seq (pe_hat hi), fun σ H R R' h w => ⟨_, fun v H1 q => ?_, h⟩⟩
  obtain ⟨a, rfl, q⟩ := asRef_of q
  refine ⟨a, rfl, q.imp (fun ⟨xs, h1, q⟩ => ⟨xs, h1, w _ xs _ _ ⟨fun i H l hi => ⟨xs, l, hi⟩, fun i x H l e => ⟨⟨xs, x, l, e⟩, fun y H' ⟨z, w⟩ => ⟨z, Option.some.inj ((w xs l).symm.trans e)⟩⟩⟩ q⟩)
    fun ⟨xs, h1, q⟩ => ⟨xs, h1, w _ xs _ _ ⟨fun i H l hi => ⟨xs, l, hi⟩, fun i x H l e => ⟨⟨xs, x, l, e⟩, fun y H' ⟨z, w⟩ => ⟨z, Option.some.inj ((w xs l).symm.trans e)⟩⟩⟩ q⟩⟩
theorem kTx (hi : PE X iter te) : PSrc X tg iter (cTx te) := by
  refine ⟨_, pi_str (pe_hat hi), fun σ H R R' h w => ⟨_, fun v H1 q => ?_, h⟩⟩
  obtain ⟨z, rfl, q⟩ := asTx_of q
  refine ⟨z, rfl, w _ _ _ _ ⟨fun i H l hi => ?_, fun i x H l e => ?_⟩ q⟩
  · have : z.cps.size ≤ i := by simpa using hi
    exact this
  · rw [List.getElem?_map] at e
    cases e1 : z.cps.toList[i]? with
    | none => rw [e1] at e; cases e
    | some c =>
      rw [e1] at e
      have e2 : z.cps[i]? = some c := by rw [← e1]; simp
      refine ⟨(Array.getElem?_eq_some_iff.mp e2).1, fun y H' ⟨z1, c', z2, z3⟩ => ⟨z1, ?_⟩⟩
      rw [e2] at z2
      cases z2
      rw [z3]
      exact Option.some.inj e
theorem fits_range {lo hi : Int} {n : Nat} (hn : n = (hi - lo).toNat) : Fits (Itr lo n) (fun _ => True) (rangeV lo hi) := by
  subst hn
  refine ⟨fun i H l hi => ?_, fun i x H l e => ?_⟩
  · unfold rangeV at hi
    rw [List.length_map, List.length_range] at hi
    exact hi
  · obtain ⟨h1, h2⟩ := range_at e
    exact ⟨h1, fun y H' ⟨z, w⟩ => ⟨z, w.trans h2.symm⟩⟩
theorem kR1 {a : Expr} {p : Pos} (hgl : Gl X "range") (hm : X.mg "range" = none) (hi : PE X a te) (hs0 : starEach [a] X.env = [(false, eval a X.env)] := by rfl) : PSrc X tg (.Call (.Name "range" p) [a] [] cpos) (cR1 te) := by
  refine ⟨_, pi_range1 hgl hm (kCons (pe_hat hi) kNil hs0) hs0, fun σ H R R' h w => ⟨_, fun v H1 q => ?_, h⟩⟩
  obtain ⟨j, rfl, ⟨q1, q2⟩, q⟩ := asInt_of q
  exact ⟨j, rfl, q1, q2, w _ _ _ _ (fits_range (by simp)) q⟩
theorem kR2 {a b : Expr} {p : Pos} {ta tb : TE} (hgl : Gl X "range") (hm : X.mg "range" = none) (hi : PE X a ta) (hj : PE X b tb) (hs0 : starEach [a, b] X.env = [(false, eval a X.env), (false, eval b X.env)] := by rfl) (hs1 : starEach [b] X.env = [(false, eval b X.env)] := by rfl) :
    PSrc X tg (.Call (.Name "range" p) [a, b] [] cpos) (cR2 ta tb) := by
  refine ⟨_, pi_range2 hgl hm (kCons (pe_hat hi) (kCons (pe_hat hj) kNil hs1) (by rw [hs0, hs1])) hs0 hs1, fun σ H R R' h w => ⟨_, fun v H1 q => ⟨_, fun u H2 z => ?_, q⟩, h⟩⟩
  obtain ⟨i, e1, z1⟩ := asInt_of z
  obtain ⟨j, e2, q1, z2⟩ := asInt_of z1
  exact ⟨i, j, by rw [e1, e2], q1, w _ _ _ _ (fits_range rfl) z2⟩
theorem kRv {a : Expr} {p : Pos} (hgl : Gl X "reversed") (hm : X.mg "reversed" = none) (hi : PE X a te) (hs0 : starEach [a] X.env = [(false, eval a X.env)] := by rfl) : PSrc X tg (.Call (.Name "reversed" p) [a] [] cpos) (cRv X.K te) := by
  refine ⟨_, pi_reversed hgl hm (kCons (pe_hat hi) kNil hs0) hs0, fun σ H R R' h w => ⟨_, fun v H1 q => ?_, h⟩⟩
  obtain ⟨a, rfl, xs, h1, q⟩ := asRef_of q
  refine ⟨a, xs, rfl, h1, w _ _ _ _ ⟨fun i H l hi => ?_, fun i x H l e => ?_⟩ q⟩
  · rw [List.length_reverse] at hi
    exact hi
  · have hi : i < xs.length := by
      have := (List.getElem?_eq_some_iff.mp e).1
      rwa [List.length_reverse] at this
    rw [List.getElem?_reverse hi] at e
    exact ⟨⟨hi, xs, x, l, e⟩, fun y H' ⟨z, w⟩ => ⟨z, Option.some.inj ((w xs l).symm.trans e)⟩⟩
theorem enum_at {k i : Nat} {xs : List V} {x : V × V} (h : (enumV k xs)[i]? = some x) : ∃ y, xs[i]? = some y ∧ x = (.int ((k + i : Nat) : Int), y) := by
  unfold enumV at h
  rw [List.getElem?_map, List.getElem?_zipIdx] at h
  cases e : xs[i]? with
  | none => rw [e] at h; cases h
  | some y =>
    rw [e] at h
    exact ⟨y, rfl, (Option.some.inj h).symm⟩
theorem kEn {a : Expr} {elts : List Expr} {kk : Nat} {p tpos : Pos} (hgl : Gl X "enumerate") (hm : X.mg "enumerate" = none) (hi : PE X a te) (hs0 : starEach [a] X.env = [(false, eval a X.env)] := by rfl) :
    PSrp X (.Tuple elts kk tpos) (.Call (.Name "enumerate" p) [a] [] cpos) (cEn X.K te) := by
  refine ⟨_, pi_enum hgl hm (kCons (pe_hat hi) kNil hs0) hs0, fun σ H R R' h w => ⟨_, fun v H1 q => ?_, h⟩⟩
  obtain ⟨a, rfl, xs, h1, q⟩ := asRef_of q
  refine ⟨a, xs, rfl, h1, w _ _ _ _ ⟨fun i H l hi => ⟨xs, l, ?_⟩, fun i x H l e => ?_⟩ q⟩
  · unfold enumV at hi
    simpa using hi
  · obtain ⟨y, h2, rfl⟩ := enum_at e
    refine ⟨⟨xs, y, l, h2⟩, fun z H' yy => ?_⟩
    obtain ⟨T, y', e1, e2, e3, e4⟩ := yy
    have e5 : y' = y := Option.some.inj ((e4 xs l).symm.trans h2)
    subst e5
    exact ⟨T, e1, e2, by rw [e3]; simp⟩
theorem zip_at {α β : Type} {xs : List α} {ys : List β} {i : Nat} {x : α × β} (h : (xs.zip ys)[i]? = some x) : xs[i]? = some x.1 ∧ ys[i]? = some x.2 := by
  rw [List.getElem?_zip_eq_some] at h
  exact h
theorem kZp {a b : Expr} {elts : List Expr} {kk : Nat} {p tpos : Pos} {ta tb : TE} (hgl : Gl X "zip") (hm : X.mg "zip" = none) (hi : PE X a ta) (hj : PE X b tb) (hs0 : starEach [a, b] X.env = (false, eval a X.env) :: starEach [b] X.env := by rfl)
    (hs1 : starEach [b] X.env = [(false, eval b X.env)] := by rfl) (hpl : (backTo cpos (starEach [b] X.env)).any (·.1) = false := by rfl) :
    PSrp X (.Tuple elts kk tpos) (.Call (.Name "zip" p) [a, b] [] cpos) (cZp X.K ta tb) := by
  refine ⟨_, RZ.pi_zipA hgl hm (kCons (pe_hat hi) (kCons (pe_hat hj) kNil hs1) hs0) hs0 hpl, fun σ H R R' h w => ⟨_, fun v H1 q => ⟨_, fun u H2 z => ?_, q⟩, h⟩⟩
  obtain ⟨a, e1, z1⟩ := asRef_of z
  obtain ⟨b, e2, z2⟩ := asRef_of z1
  have hl : ∀ (xs ys : List V) (i : Nat), (xs.zip ys).length ≤ i → xs.length ≤ i ∨ ys.length ≤ i := fun xs ys i h => by
    rw [List.length_zip] at h
    omega
  rcases z2 with ⟨xs, ys, h1, h2, q⟩ | ⟨xs, ys, h1, h2, q⟩
  · refine ⟨a, b, xs, ys, by rw [e1, e2], .inl ⟨h1, h2, w _ _ _ _ ⟨fun i H l hi => ⟨xs, ys, l.1, l.2, hl _ _ _ hi⟩, fun i x H l e => ?_⟩ q⟩⟩
    obtain ⟨g1, g2⟩ := zip_at e
    refine ⟨⟨xs, ys, _, _, l.1, l.2, g1, g2⟩, fun z H' yy => ?_⟩
    obtain ⟨T, x', y', f1, f2, f3, f4, f5⟩ := yy
    have e5 : x' = x.1 := Option.some.inj ((f4 xs l.1).symm.trans g1)
    have e6 : y' = x.2 := Option.some.inj ((f5 ys l.2).symm.trans g2)
    subst e5 e6
    exact ⟨T, f1, f2, f3⟩
  · refine ⟨a, b, xs, ys, by rw [e1, e2], .inr ⟨h1, h2, w _ _ _ _ ⟨fun i H l hi => ⟨xs, ys, l.1, l.2, hl _ _ _ hi⟩, fun i x H l e => ?_⟩ q⟩⟩
    obtain ⟨g1, g2⟩ := zip_at e
    refine ⟨⟨xs, ys, _, _, l.1, l.2, g1, g2⟩, fun z H' yy => ?_⟩
    obtain ⟨T, x', y', f1, f2, f3, f4, f5⟩ := yy
    have e5 : x' = x.1 := Option.some.inj ((f4 xs l.1).symm.trans g1)
    have e6 : y' = x.2 := Option.some.inj ((f5 ys l.2).symm.trans g2)
    subst e5 e6
    exact ⟨T, f1, f2, f3⟩
/-! for, a comprehension, over any of them -/
def sFor (src : SRC) (g : TG) (tb : TS) (D : Ends) (σ : L2.St) (H : Hp) : Prop := src σ H fun L xs H1 => walk L g tb D xs σ H1
def sForP (src : SRP) (g : TG) (tb : TS) (D : Ends) (σ : L2.St) (H : Hp) : Prop := src σ H fun L xs H1 => walkP L g tb D xs σ H1
theorem zFor {src : SRC} (hp : PassesOwn (model X.prog X.w) X.A X.env X.xe) (hc : X.calm = true) (hi : PSrc X tg iter src) (hg : PG X tg g) (hb : PSs X sts t) (hs : ∀ x, foldedSetIterable iter X.env x = pure x := by intro _; rfl) :
    PS X (.For tg iter sts [] pos) (sFor src g t) := by
  obtain ⟨wi, h1, h2⟩ := hi
  exact ps_w (ps_for hp hc h1 hg hb hs) fun D σ H h => h2 σ H _ _ h fun L xs J H1 f q => walk_it f.1 f.2 q
theorem zForP {src : SRP} (hp : PassesOwn (model X.prog X.w) X.A X.env X.xe) (hc : X.calm = true) (hi : PSrp X tg iter src) (hg : PG X tg g) (hb : PSs X sts t) (hs : ∀ x, foldedSetIterable iter X.env x = pure x := by intro _; rfl) :
    PS X (.For tg iter sts [] pos) (sForP src g t) := by
  obtain ⟨wi, h1, h2⟩ := hi
  exact ps_w (ps_for hp hc h1 hg hb hs) fun D σ H h => h2 σ H _ _ h fun L xs J H1 f q => walk_itP f.1 f.2 q
/-- D: the new list -/
def walkC (L : Hp → Prop) (g : TG) (tt : TT) (te : TE) (vs : List Nat) (σ : L2.St) (D : Addr) (Q : VK) : List V → Hp → Prop
  | [], H => L H ∧ Q (.ref D) H
  | x :: r, H => L H ∧ g x (wipe σ vs) H fun σ2 H2 => wipe σ2 vs = wipe σ vs ∧ tt σ2 H2 fun b H3 =>
    if b = true then te σ2 H3 fun y H4 => ∃ acc, H4 D = some (.lst acc) ∧ acc.length < sizeLine ∧ walkC L g tt te vs σ D Q r (upd H4 D (.lst (acc ++ [y]))) else walkC L g tt te vs σ D Q r H3
def walkCP (L : Hp → Prop) (g : TG) (tt : TT) (te : TE) (vs : List Nat) (σ : L2.St) (D : Addr) (Q : VK) : List (V × V) → Hp → Prop
  | [], H => L H ∧ Q (.ref D) H
  | x :: r, H => L H ∧ ∀ T, H T = none → g (.ref T) (wipe σ vs) (upd H T (.tup [x.1, x.2])) fun σ2 H2 => wipe σ2 vs = wipe σ vs ∧ tt σ2 H2 fun b H3 =>
    if b = true then te σ2 H3 fun y H4 => ∃ acc, H4 D = some (.lst acc) ∧ acc.length < sizeLine ∧ walkCP L g tt te vs σ D Q r (upd H4 D (.lst (acc ++ [y]))) else walkCP L g tt te vs σ D Q r H3
def eLc (src : SRC) (g : TG) (tt : TT) (te : TE) (vs : List Nat) (σ : L2.St) (H : Hp) (Q : VK) : Prop := src σ H fun L xs H1 => ∀ D, H1 D = none → walkC L g tt te vs σ D Q xs (upd H1 D (.lst []))
def eLcP (src : SRP) (g : TG) (tt : TT) (te : TE) (vs : List Nat) (σ : L2.St) (H : Hp) (Q : VK) : Prop := src σ H fun L xs H1 => ∀ D, H1 D = none → walkCP L g tt te vs σ D Q xs (upd H1 D (.lst []))
theorem lc_it {L : Hp → Prop} {J : It} {g : TG} {tt : TT} {te : TE} {vs : List Nat} {σ : L2.St} {D : Addr} {Q : VK} {xs : List V} {H : Hp} (f : Fits J L xs) (h : walkC L g tt te vs σ D Q xs H) :
    ∃ W : Nat → Nat → Hp → Prop, (∃ m, W 0 m H) ∧ ∀ i m H, W i m H →
  (J.stop i H ∧ Q (.ref D) H) ∨ (J.go i H ∧ ∃ Nx : Hp → Prop, (∀ H', Nx H' → ∃ m', m' < m ∧ W (i + 1) m' H') ∧ ∀ x H', J.yld i H x H' → g x (wipe σ vs) H' fun σ2 H2 => wipe σ2 vs = wipe σ vs ∧ tt σ2 H2 fun b H3 =>
    if b = true then te σ2 H3 fun y H4 => ∃ acc, H4 D = some (.lst acc) ∧ acc.length < sizeLine ∧ Nx (upd H4 D (.lst (acc ++ [y]))) else Nx H3) := by
  refine ⟨fun i m H => m = xs.length - i ∧ i ≤ xs.length ∧ walkC L g tt te vs σ D Q (xs.drop i) H, ⟨xs.length, by simp, Nat.zero_le _, h⟩, ?_⟩
  rintro i m H ⟨rfl, hi, p⟩
  by_cases hlt : i < xs.length
  · have e := List.getElem?_eq_getElem hlt
    rw [List.drop_eq_getElem_cons hlt] at p
    obtain ⟨l, p⟩ := p
    obtain ⟨h1, h2⟩ := f.2 i _ H l e
    refine .inr ⟨h1, walkC L g tt te vs σ D Q (xs.drop (i + 1)), fun H' z => ⟨xs.length - (i + 1), by omega, rfl, hlt, z⟩, fun y H' q => ?_⟩
    obtain ⟨rfl, rfl⟩ := h2 y H' q
    exact p
  · have e : i = xs.length := by omega
    subst e
    rw [List.drop_length] at p
    exact .inl ⟨f.1 _ _ p.1 (Nat.le_refl _), p.2⟩
theorem lc_itP {L : Hp → Prop} {J : It} {g : TG} {tt : TT} {te : TE} {vs : List Nat} {σ : L2.St} {D : Addr} {Q : VK} {xs : List (V × V)} {H : Hp} (f : FitsP J L xs) (h : walkCP L g tt te vs σ D Q xs H) :
    ∃ W : Nat → Nat → Hp → Prop, (∃ m, W 0 m H) ∧ ∀ i m H, W i m H →
  (J.stop i H ∧ Q (.ref D) H) ∨ (J.go i H ∧ ∃ Nx : Hp → Prop, (∀ H', Nx H' → ∃ m', m' < m ∧ W (i + 1) m' H') ∧ ∀ x H', J.yld i H x H' → g x (wipe σ vs) H' fun σ2 H2 => wipe σ2 vs = wipe σ vs ∧ tt σ2 H2 fun b H3 =>
    if b = true then te σ2 H3 fun y H4 => ∃ acc, H4 D = some (.lst acc) ∧ acc.length < sizeLine ∧ Nx (upd H4 D (.lst (acc ++ [y]))) else Nx H3) := by
  refine ⟨fun i m H => m = xs.length - i ∧ i ≤ xs.length ∧ walkCP L g tt te vs σ D Q (xs.drop i) H, ⟨xs.length, by simp, Nat.zero_le _, h⟩, ?_⟩
  rintro i m H ⟨rfl, hi, p⟩
  by_cases hlt : i < xs.length
  · have e := List.getElem?_eq_getElem hlt
    rw [List.drop_eq_getElem_cons hlt] at p
    obtain ⟨l, p⟩ := p
    obtain ⟨h1, h2⟩ := f.2 i _ H l e
    refine .inr ⟨h1, walkCP L g tt te vs σ D Q (xs.drop (i + 1)), fun H' z => ⟨xs.length - (i + 1), by omega, rfl, hlt, z⟩, fun y H' q => ?_⟩
    obtain ⟨T, rfl, n, rfl⟩ := h2 y H' q
    exact p T n
  · have e : i = xs.length := by omega
    subst e
    rw [List.drop_length] at p
    exact .inl ⟨f.1 _ _ p.1 (Nat.le_refl _), p.2⟩
section
variable {elt : Expr} {ifs : List Expr} {scope : Scope} {own : List (Str × Nat)} {tt : TT} {src : SRC} {srp : SRP}
abbrev BlkG (X : Cx) (scope : Scope) (tg : Expr) (g : TG) : Prop := ∀ (s : Shared) (H : Hp) (C : Addr) (cl : List (Str × Addr)) (fp : List Addr), PG (X.blk s H scope (compEnvC scope cl C X.env) fp) tg g
abbrev BlkT (X : Cx) (scope : Scope) (ifs : List Expr) (tt : TT) : Prop := ∀ (s : Shared) (H : Hp) (C : Addr) (cl : List (Str × Addr)) (fp : List Addr), PTs (X.blk s H scope (compEnvC scope cl C X.env) fp) ifs tt
abbrev BlkE (X : Cx) (scope : Scope) (elt : Expr) (te : TE) : Prop := ∀ (s : Shared) (H : Hp) (C : Addr) (cl : List (Str × Addr)) (fp : List Addr), PE (X.blk s H scope (compEnvC scope cl C X.env) fp) elt te
theorem dLc (hc : X.calm = true) (hN : X.N.Nodup) (hi : PSrc X tg iter src) (ok : BlkOk X.N X.env.scope scope own) (hg : BlkG X scope tg g) (ht : BlkT X scope ifs tt) (he : BlkE X scope elt te) (hs : ∀ x, foldedSetIterable iter X.env x = pure x := by intro _; rfl) :
    PE X (.ListComp elt [⟨tg, iter, ifs, 0⟩] scope pos) (eLc src g tt te (own.map (·.2))) := by
  obtain ⟨wi, h1, h2⟩ := hi
  exact pe_w (pe_lc hc hN h1 ok hg ht he hs) fun σ H Q h => h2 σ H _ _ h fun L xs J H1 f q D n => lc_it f (q D n)
theorem dLcP (hc : X.calm = true) (hN : X.N.Nodup) (hi : PSrp X tg iter srp) (ok : BlkOk X.N X.env.scope scope own) (hg : BlkG X scope tg g) (ht : BlkT X scope ifs tt) (he : BlkE X scope elt te) (hs : ∀ x, foldedSetIterable iter X.env x = pure x := by intro _; rfl) :
    PE X (.ListComp elt [⟨tg, iter, ifs, 0⟩] scope pos) (eLcP srp g tt te (own.map (·.2))) := by
  obtain ⟨wi, h1, h2⟩ := hi
  exact pe_w (pe_lc hc hN h1 ok hg ht he hs) fun σ H Q h => h2 σ H _ _ h fun L xs J H1 f q D n => lc_itP f (q D n)
theorem zSetLc {i : Nat} {y : Str} {py spos : Pos} (hc : X.calm = true) (hN : X.N.Nodup) (hy : X.N[i]? = some y) (hyl : X.env.scope.names.lookup y = some .local) (hsw : swapsWith (.ListComp elt [⟨tg, iter, ifs, 0⟩] scope pos) (some (.Name y py)) spos.line X.env = pure true)
    (hi : PSrc X tg iter src) (ok : BlkOk X.N X.env.scope scope own) (hg : BlkG X scope tg g) (ht : BlkT X scope ifs tt) (he : BlkE X scope elt te) (hs : ∀ x, foldedSetIterable iter X.env x = pure x := by intro _; rfl) :
    PS X (.Assign [.Name y py] (.ListComp elt [⟨tg, iter, ifs, 0⟩] scope pos) spos) (sSet i (eLc src g tt te (own.map (·.2)))) := by
  obtain ⟨wi, h1, h2⟩ := hi
  exact ps_w (ps_setLc hc hN hy hyl hsw h1 ok hg ht he hs) fun D σ H h => h2 σ H _ _ h fun L xs J H1 f q D n => lc_it f (q D n)
theorem zSetLcP {i : Nat} {y : Str} {py spos : Pos} (hc : X.calm = true) (hN : X.N.Nodup) (hy : X.N[i]? = some y) (hyl : X.env.scope.names.lookup y = some .local) (hsw : swapsWith (.ListComp elt [⟨tg, iter, ifs, 0⟩] scope pos) (some (.Name y py)) spos.line X.env = pure true)
    (hi : PSrp X tg iter srp) (ok : BlkOk X.N X.env.scope scope own) (hg : BlkG X scope tg g) (ht : BlkT X scope ifs tt) (he : BlkE X scope elt te) (hs : ∀ x, foldedSetIterable iter X.env x = pure x := by intro _; rfl) :
    PS X (.Assign [.Name y py] (.ListComp elt [⟨tg, iter, ifs, 0⟩] scope pos) spos) (sSet i (eLcP srp g tt te (own.map (·.2)))) := by
  obtain ⟨wi, h1, h2⟩ := hi
  exact ps_w (ps_setLc hc hN hy hyl hsw h1 ok hg ht he hs) fun D σ H h => h2 σ H _ _ h fun L xs J H1 f q D n => lc_itP f (q D n)
end
def tYes (_ : L2.St) (H : Hp) (Q : Bool → Hp → Prop) : Prop := Q true H
theorem iNo : PTs X [] tYes := pts_nil
theorem iOne (h : PT X c tA) : PTs X [c] tA := pts_one h
/-! more statements -/
def sAsg (te : TE) (g : TG) (D : Ends) (σ : L2.St) (H : Hp) : Prop := te σ H fun v H1 => g v σ H1 D.nx
theorem zAsg (he : PE X e te) (hg : PG X tg g) (hs : swapsWithSole [tg] e pos.line X.env = pure false := by rfl) (hw : swappedStores [tg] e X.env = pure none := by rfl) (h1 : (assignEach [tg] X.env).map (·.2) = [assign tg X.env] := by rfl) : PS X (.Assign [tg] e pos) (sAsg te g) := ps_asg he hg hs hw h1
def gTr (K : PySem.W.Frag) (i j k : Nat) (v : V) (σ : L2.St) (H : Hp) (Q : L2.St → Hp → Prop) : Prop := asRef v fun a => ∃ x y z, SqT K H a [x, y, z] ∧ Q (((σ.set i (some x)).set j (some y)).set k (some z)) H
theorem tgTr {i j k : Nat} {px py pz : Pos} {y z : Str} {kk : Nat} (nd : X.N.Nodup) (hN : X.N[i]? = some x) (hv : Loc X.env.scope x) (hN' : X.N[j]? = some y) (hv' : Loc X.env.scope y) (hN2 : X.N[k]? = some z) (hv2 : Loc X.env.scope z) (hc : X.calm = true := by rfl)
    (hf : X.fn x = true ∨ X.env.scope.names.lookup x = some .local := by first | exact .inl rfl | exact .inr rfl | assumption) (hf' : X.fn y = true ∨ X.env.scope.names.lookup y = some .local := by first | exact .inl rfl | exact .inr rfl | assumption) (hf2 : X.fn z = true ∨ X.env.scope.names.lookup z = some .local := by first | exact .inl rfl | exact .inr rfl | assumption) :
    PG X (.Tuple [.Name x px, .Name y py, .Name z pz] kk pos) (gTr X.K i j k) := by
  refine ⟨fun pins s σ H v u Q I r h => (pg_tup hc (pgs_cons (pg_name nd hN hv hf) (pgs_cons (pg_name nd hN' hv' hf') (pgs_cons (pg_name nd hN2 hv2 hf2) pgs_nil)))).run pins s σ H v u Q I r ?_⟩
  obtain ⟨a, rfl, w1, w2, w3, h1, q⟩ := asRef_of h
  exact ⟨a, _, rfl, h1, rfl, w1, _, rfl, w2, _, rfl, w3, [], rfl, rfl, q⟩
def setR (a : Addr) (k : Int) (v : V) (H : Hp) (Q : Hp → Prop) : Prop := ∃ xs j, H a = some (.lst xs) ∧ ixN xs.length k = some j ∧ Q (upd H a (.lst (xs.set j v)))
def sSub (to ti tv : TE) (D : Ends) (σ : L2.St) (H : Hp) : Prop := tv σ H fun v H1 => to σ H1 fun o H2 => ti σ H2 fun i H3 => asRef o fun a => asInt i fun k => setR a k v H3 fun H4 => D.nx σ H4
theorem zSub {o i v : Expr} {to ti tv : TE} {spos : Pos} (ho : PE X o to) (hi : PE X i ti) (hv : PE X v tv) (hs : swapsWithSole [.Subscript o i spos] v pos.line X.env = pure false := by rfl) (hw : swappedStores [.Subscript o i spos] v X.env = pure none := by rfl)
    (h1 : (assignEach [.Subscript o i spos] X.env).map (·.2) = [assign (.Subscript o i spos) X.env] := by rfl)
    (ha : ∀ v, assign (.Subscript o i spos) X.env v = (do let ov ← holding [v] (eval o X.env); let iv ← holding [v, ov] (eval i X.env); standAt spos; holding [v, ov, iv] (setItem ov iv v); release [v, ov, iv] []) := by intro _; rfl) :
    PS X (.Assign [.Subscript o i spos] v pos) (sSub to ti tv) :=
  ps_w (ps_asg (pe_hat hv) (pg_sub (pe_hat ho) (pe_hat hi) set_list ha) hs hw h1) fun D σ H h => ⟨_, fun x H1 q => ⟨_, fun o H2 q => ⟨_, fun i H3 z => by
    obtain ⟨a, rfl, z⟩ := asRef_of z
    obtain ⟨k, rfl, xs, j, h1, h2, z⟩ := asInt_of z
    exact ⟨a, xs, k, j, rfl, rfl, h1, h2, z⟩, q⟩, q⟩, h⟩
def sNever (_ : Ends) (_ : L2.St) (_ : Hp) : Prop := False
theorem zNever {st : Stmt} : PS X st sNever := ⟨fun _ _ _ _ _ _ h => h.elim⟩
def sAug (i : Nat) (r : R2) (te : TE) (D : Ends) (σ : L2.St) (H : Hp) : Prop := eVar i σ H fun x _ => te σ H fun y H1 => r x y H1 fun z H2 => D.nx (σ.set i (some z)) H2
theorem zAug {i : Nat} {px : Pos} {op : Operator} {r : R2} (nd : X.N.Nodup) (hN : X.N[i]? = some x) (hv : Loc X.env.scope x) (he : PE X e te) (ho : OpR X (inplaceOp op) r) (hf : X.fn x = true ∨ X.env.scope.names.lookup x = some .local := by first | exact .inl rfl | exact .inr rfl | assumption) : PS X (.AugAssign (.Name x px) op e pos) (sAug i r te) := by
  have hin : PIp X op fun v y H Q => ∃ Q0 : VK, (∀ z H', Q0 z H' → Q z H') ∧ r v y H Q0 := fun pins s σ H x y u v Q I rx ry ⟨Q0, w, q⟩ => thn (ho pins s σ H x y u v Q0 I rx ry q) fun _ _ ⟨z, H', I', r', q'⟩ => ⟨z, H', I', r', w _ _ q'⟩
  exact ps_w (ps_aug nd hN hv (pe_hat he) hin hf) fun D σ H h => by
    unfold sAug eVar at h
    split at h
    · exact ⟨_, by assumption, _, fun y H1 q => ⟨_, fun z H2 q => q, q⟩, h⟩
    · exact h.elim
theorem ioAddI : OpR X (inplaceOp .Add) (uI2 fun i j => .int (i + j)) := uI2_of iop_add
theorem ioSub : OpR X (inplaceOp .Sub) (uI2 fun i j => .int (i - j)) := uI2_of iop_sub
def vRef' (vs : List V) (k : Addr → Prop) : Prop := match vs with
  | [.ref y] => k y
  | _ => False
def uTuple (K : PySem.W.Frag) (vs : List V) (H : Hp) (Q : VK) : Prop := vRef' vs fun a => (∃ xs, SqL K H a xs ∧ ∀ p, H p = none → Q (.ref p) (upd H p (.tup xs))) ∨ (∃ xs, SqT K H a xs ∧ Q (.ref a) H)
theorem bTuple : CallR X (.type "tuple") (uTuple X.K) := by
  intro pins s σ H xs us Q I r h
  unfold uTuple vRef' at h
  split at h
  · rcases h with ⟨ys, h1, q⟩ | ⟨ys, h1, q⟩
    · exact call_tuple_of pins s σ H _ us Q I r ⟨_, ys, rfl, .inl ⟨h1, q⟩⟩
    · exact call_tuple_of pins s σ H _ us Q I r ⟨_, ys, rfl, .inr ⟨h1, q⟩⟩
  · exact h.elim
/-! methods of texts and of lists -/
def eMs (r : Str → List V → Hp → VK → Prop) (to : TE) (t : TA) (σ : L2.St) (H : Hp) (Q : VK) : Prop := to σ H fun x H1 => asTx x fun z => t σ H1 fun vs H2 => r z vs H2 Q
def eMl (K : PySem.W.Frag) (r : Addr → List V → Hp → VK → Prop) (to : TE) (t : TA) (σ : L2.St) (H : Hp) (Q : VK) : Prop := to σ H fun x H1 => asRef x fun a => (∃ xs, SqL K H1 a xs) ∧ t σ H1 fun vs H2 => r a vs H2 Q
def MsR (X : Cx) (id : String) (r : Str → List V → Hp → VK → Prop) : Prop := MtR X id fun x vs H Q => ∃ z, x = .str z ∧ r z vs H Q
def MlR (X : Cx) (id : String) (r : Addr → List V → Hp → VK → Prop) : Prop := MtR X id fun x vs H Q => ∃ z, x = .ref z ∧ r z vs H Q
section
variable {rs : Str → List V → Hp → VK → Prop} {rl : Addr → List V → Hp → VK → Prop}
theorem dMs0 (slot : Slot "str" name id) (hty : typeOf (.builtin id) = pure (.type "method_descriptor")) (hm : MsR X id rs) (ho : PE X o to)
    (hbase : attributeBase o name X.env (eval o X.env) = eval o X.env := by rfl) (hline : (apos.endLine == cpos.line) = true := by rfl) : PE X (.Call (.Attribute o name apos) [] [] cpos) (eMs rs to aNil) :=
  pe_w (dMb0 PySem.F.plainAttrs_str slot hty hm (pe_hat ho) hbase hline) fun σ H Q q => ⟨_, fun v H1 z => by
    obtain ⟨s, rfl, z⟩ := asTx_of z
    exact ⟨rfl, s, rfl, z⟩, q⟩
theorem dMs (slot : Slot "str" name id) (hty : typeOf (.builtin id) = pure (.type "method_descriptor")) (hm : MsR X id rs) (ho : PE X o to) (ha : PA X (e :: es) tes)
    (hbase : attributeBase o name X.env (eval o X.env) = eval o X.env := by rfl)
    (hfew : ((backTo cpos (starEach (e :: es) X.env)).all (fun x => !x.1) && (backToKw cpos (keywordEach [] X.env)).all (fun x => x.1.isSome) && decide ((e :: es).length + ([] : List Keyword).length + (if ([] : List Keyword).isEmpty then 0 else 1) < 30)) = true := by rfl)
    (hline : (apos.endLine == cpos.line) = true := by rfl) (hs : starEach (e :: es) X.env = (false, eval e X.env) :: starEach es X.env := by rfl) (hplain : (backTo cpos (starEach es X.env)).any (·.1) = false := by rfl) :
    PE X (.Call (.Attribute o name apos) (e :: es) [] cpos) (eMs rs to tes) :=
  pe_w (dMb PySem.F.plainAttrs_str slot hty hm (pe_hat ho) (pa_hat ha) hbase hfew hline hs hplain) fun σ H Q q => ⟨_, fun v H1 z => by
    obtain ⟨s, rfl, z⟩ := asTx_of z
    exact ⟨rfl, _, fun vs H2 z => ⟨s, rfl, z⟩, z⟩, q⟩
theorem dMl0 (slot : Slot "list" name id) (hty : typeOf (.builtin id) = pure (.type "method_descriptor")) (hm : MlR X id rl) (ho : PE X o to)
    (hbase : attributeBase o name X.env (eval o X.env) = eval o X.env := by rfl) (hline : (apos.endLine == cpos.line) = true := by rfl) : PE X (.Call (.Attribute o name apos) [] [] cpos) (eMl X.K rl to aNil) :=
  pe_w (dMb0 PySem.F.plainAttrs_list slot hty hm (pe_hat ho) hbase hline) fun σ H Q q => ⟨_, fun v H1 z => by
    obtain ⟨s, rfl, h, z⟩ := asRef_of z
    exact ⟨.inl ⟨rfl, h⟩, s, rfl, z⟩, q⟩
theorem dMl (slot : Slot "list" name id) (hty : typeOf (.builtin id) = pure (.type "method_descriptor")) (hm : MlR X id rl) (ho : PE X o to) (ha : PA X (e :: es) tes)
    (hbase : attributeBase o name X.env (eval o X.env) = eval o X.env := by rfl)
    (hfew : ((backTo cpos (starEach (e :: es) X.env)).all (fun x => !x.1) && (backToKw cpos (keywordEach [] X.env)).all (fun x => x.1.isSome) && decide ((e :: es).length + ([] : List Keyword).length + (if ([] : List Keyword).isEmpty then 0 else 1) < 30)) = true := by rfl)
    (hline : (apos.endLine == cpos.line) = true := by rfl) (hs : starEach (e :: es) X.env = (false, eval e X.env) :: starEach es X.env := by rfl) (hplain : (backTo cpos (starEach es X.env)).any (·.1) = false := by rfl) :
    PE X (.Call (.Attribute o name apos) (e :: es) [] cpos) (eMl X.K rl to tes) :=
  pe_w (dMb PySem.F.plainAttrs_list slot hty hm (pe_hat ho) (pa_hat ha) hbase hfew hline hs hplain) fun σ H Q q => ⟨_, fun v H1 z => by
    obtain ⟨s, rfl, h, z⟩ := asRef_of z
    exact ⟨.inl ⟨rfl, h⟩, _, fun vs H2 z => ⟨s, rfl, z⟩, z⟩, q⟩
end
/-- one text as the argument -/
def vTx (vs : List V) (k : Str → Prop) : Prop := match vs with
  | [.str b] => k b
  | _ => False
def vNo (vs : List V) (k : Prop) : Prop := match vs with
  | [] => k
  | _ => False
def vOne (vs : List V) (k : V → Prop) : Prop := match vs with
  | [y] => k y
  | _ => False
def vInt (vs : List V) (k : Int → Prop) : Prop := match vs with
  | [.int y] => k y
  | _ => False
def vRef (vs : List V) (k : Addr → Prop) : Prop := match vs with
  | [.ref y] => k y
  | _ => False
theorem vTx_of {vs : List V} {k : Str → Prop} (h : vTx vs k) : ∃ b, vs = [.str b] ∧ k b := by
  unfold vTx at h
  split at h
  · exact ⟨_, rfl, h⟩
  · exact h.elim
theorem vNo_of {vs : List V} {k : Prop} (h : vNo vs k) : vs = [] ∧ k := by
  unfold vNo at h
  split at h
  · exact ⟨rfl, h⟩
  · exact h.elim
theorem vOne_of {vs : List V} {k : V → Prop} (h : vOne vs k) : ∃ b, vs = [b] ∧ k b := by
  unfold vOne at h
  split at h
  · exact ⟨_, rfl, h⟩
  · exact h.elim
theorem vInt_of {vs : List V} {k : Int → Prop} (h : vInt vs k) : ∃ b, vs = [.int b] ∧ k b := by
  unfold vInt at h
  split at h
  · exact ⟨_, rfl, h⟩
  · exact h.elim
theorem vRef_of {vs : List V} {k : Addr → Prop} (h : vRef vs k) : ∃ b, vs = [.ref b] ∧ k b := by
  unfold vRef at h
  split at h
  · exact ⟨_, rfl, h⟩
  · exact h.elim
def uFind (z : Str) (vs : List V) (H : Hp) (Q : VK) : Prop := vTx vs fun b => Q (.int (Txt.find z b)) H
def uStarts (z : Str) (vs : List V) (H : Hp) (Q : VK) : Prop := vTx vs fun b => Q (.bl (Txt.startswith z b)) H
def uSplit (z : Str) (vs : List V) (H : Hp) (Q : VK) : Prop := vTx vs fun b => (b.length == 0) = false ∧ z.length + 2 ≤ sizeLine ∧ ∀ p, H p = none → Q (.ref p) (upd H p (.lst ((Txt.split z b).map V.str)))
def uRstrip (z : Str) (vs : List V) (H : Hp) (Q : VK) : Prop := vNo vs (z.length ≤ sizeLine ∧ Q (.str (Txt.rstrip z)) H)
def uIsdigit (z : Str) (vs : List V) (H : Hp) (Q : VK) : Prop := vNo vs (Q (.bl (Txt.isdigit z)) H)
def uAppend (l : Addr) (vs : List V) (H : Hp) (Q : VK) : Prop := vOne vs fun y => ∃ xs, H l = some (.lst xs) ∧ xs.length < sizeLine ∧ Q .non (upd H l (.lst (xs ++ [y])))
def uPop (l : Addr) (vs : List V) (H : Hp) (Q : VK) : Prop := vNo vs (∃ xs y, H l = some (.lst (xs ++ [y])) ∧ Q y (upd H l (.lst xs)))
def uPop0 (l : Addr) (vs : List V) (H : Hp) (Q : VK) : Prop := vInt vs fun i => i = 0 ∧ ∃ xs y, H l = some (.lst (y :: xs)) ∧ Q y (upd H l (.lst xs))
def uExtend (l : Addr) (vs : List V) (H : Hp) (Q : VK) : Prop := vRef vs fun b => ∃ xs zs, H l = some (.lst xs) ∧ H b = some (.lst zs) ∧ xs.length + zs.length ≤ sizeLine ∧ Q .non (upd H l (.lst (xs ++ zs)))
theorem mFind : MsR X "str.find" uFind := fun pins s σ H x vs v us Q I rx rs ⟨z, e, q⟩ => by
  subst e
  obtain ⟨b, rfl, q⟩ := vTx_of q
  exact mt_find pins s σ H _ _ v us Q I rx rs ⟨z, b, rfl, rfl, q⟩
theorem mStarts : MsR X "str.startswith" uStarts := fun pins s σ H x vs v us Q I rx rs ⟨z, e, q⟩ => by
  subst e
  obtain ⟨b, rfl, q⟩ := vTx_of q
  exact mt_startswith pins s σ H _ _ v us Q I rx rs ⟨z, b, rfl, rfl, q⟩
theorem mSplit : MsR X "str.split" uSplit := fun pins s σ H x vs v us Q I rx rs ⟨z, e, q⟩ => by
  subst e
  obtain ⟨b, rfl, h1, h2, q⟩ := vTx_of q
  exact mt_split pins s σ H _ _ v us Q I rx rs ⟨z, b, rfl, rfl, h1, h2, q⟩
theorem mRstrip : MsR X "str.rstrip" uRstrip := fun pins s σ H x vs v us Q I rx rs ⟨z, e, q⟩ => by
  subst e
  obtain ⟨rfl, h1, q⟩ := vNo_of q
  exact mt_rstrip pins s σ H _ _ v us Q I rx rs ⟨z, rfl, rfl, h1, q⟩
theorem mIsdigit : MsR X "str.isdigit" uIsdigit := fun pins s σ H x vs v us Q I rx rs ⟨z, e, q⟩ => by
  subst e
  obtain ⟨rfl, q⟩ := vNo_of q
  exact mt_isdigit pins s σ H _ _ v us Q I rx rs ⟨z, rfl, rfl, trivial, q⟩
theorem mAppend : MlR X "list.append" uAppend := fun pins s σ H x vs v us Q I rx rs ⟨z, e, q⟩ => by
  subst e
  obtain ⟨y, rfl, xs, h1, h2, q⟩ := vOne_of q
  exact mt_append pins s σ H _ _ v us Q I rx rs ⟨z, xs, y, rfl, rfl, h1, h2, q⟩
theorem mPop : MlR X "list.pop" uPop := fun pins s σ H x vs v us Q I rx rs ⟨z, e, q⟩ => by
  subst e
  obtain ⟨rfl, xs, y, h1, q⟩ := vNo_of q
  exact mt_pop pins s σ H _ _ v us Q I rx rs ⟨z, _, y, rfl, rfl, h1, by simp, by rw [List.dropLast_concat]; exact q⟩
theorem mPop0 : MlR X "list.pop" uPop0 := fun pins s σ H x vs v us Q I rx rs ⟨z, e, q⟩ => by
  subst e
  obtain ⟨i, rfl, rfl, xs, y, h1, q⟩ := vInt_of q
  exact mt_popAt pins s σ H _ _ v us Q I rx rs ⟨z, _, 0, 0, y, rfl, rfl, h1, by decide, by decide, by simp [seqIndex?], rfl, q⟩
theorem mExtend : MlR X "list.extend" uExtend := fun pins s σ H x vs v us Q I rx rs ⟨z, e, q⟩ => by
  subst e
  obtain ⟨y, rfl, xs, zs, h1, h2, h3, q⟩ := vRef_of q
  exact mt_extend pins s σ H _ _ v us Q I rx rs ⟨z, y, xs, zs, rfl, rfl, h1, h2, h3, q⟩
theorem bStr : CallR X (.type "str") uStr := by
  intro pins s σ H xs us Q I r h
  unfold uStr at h
  split at h
  · exact call_str_int pins s σ H _ us Q I r ⟨_, rfl, h.1, h.2⟩
  · exact SkE.call_str_str pins s σ H _ us Q I r ⟨_, rfl, h⟩
  · exact h.elim

/-! the defs of a text -/
abbrev rSub : R2 := uI2 fun i j => .int (i - j)
abbrev rDiv : R2 := uII CDivW fun i j => .int (i / j)
abbrev rMod : R2 := uII (fun _ j => 0 < j) fun i j => .int (i % j)
abbrev rPow : R2 := uII CPow fun i j => .int (i ^ j.toNat)
abbrev rAnd : R2 := uI2 fun i j => .int (Builtin.bitAnd i j)
abbrev rOr : R2 := uI2 fun i j => .int (Builtin.bitOr i j)
abbrev rXor : R2 := uI2 fun i j => .int (Builtin.bitXor i j)
abbrev rLt : R2 := uI2 fun i j => .bl (decide (i < j))
abbrev rLe : R2 := uI2 fun i j => .bl (decide (i ≤ j))
abbrev rGt : R2 := uI2 fun i j => .bl (decide (j < i))
abbrev rGe : R2 := uI2 fun i j => .bl (decide (j ≤ i))
/-- a def stands -/
def Df (K : PySem.W.Frag) (mg : Str → Option Value) (x : Str) (st : Stmt) : Prop := ∃ f fd, L2.Fun K x x st f fd ∧ mg x = some (.ref f)
/-- a def keeps its promise -/
def Fn (P : Program) (w : World) (K : PySem.W.Frag) (mg : Str → Option Value) (base : Heap) (CX : CXT) (k : Nat) (x : Str) (ps : List Str) (sp : Sp) : Prop :=
  ∃ f fd, mg x = some (.ref f) ∧ PySem.W.keepIn K (.ref f) = true ∧ Binds K fd ps [] ∧ FnOk P w K mg base CX k f fd ps sp
/-- a constant of the module -/
def Cn (mg : Str → Option Value) (x : Str) (v : V) : Prop := ∃ u, mg x = some u ∧ RelV v u
theorem dFn (F : Fn X.prog X.w X.K X.mg X.base CX k x ps sp) (hr : Room k X.A) (hg : Gl X x) (hx : Passes CX X E)
    (ha : PA X (e :: es) tes) (hdb : (x == ("__debug__" : Str)) = false := by decide) (he : starEach (e :: es) X.env = (false, eval e X.env) :: starEach es X.env := by rfl) (hpl : (backTo pos (starEach es X.env)).any (·.1) = false := by rfl) :
    PE X (.Call (.Name x p) (e :: es) [] pos) (eCall sp E tes) := by
  obtain ⟨f, fd, g1, g2, g3, g4⟩ := F
  exact dCall g4 hr hg g1 g2 g3 hx ha hdb he hpl
theorem dFn0 (F : Fn X.prog X.w X.K X.mg X.base CX k x ps sp) (hr : Room k X.A) (hg : Gl X x) (hx : Passes CX X E)
    (hdb : (x == ("__debug__" : Str)) = false := by decide) : PE X (.Call (.Name x p) [] [] pos) (eCall sp E aNil) := by
  obtain ⟨f, fd, g1, g2, g3, g4⟩ := F
  exact dCall0 g4 hr hg g1 g2 g3 hx hdb
theorem dCn {v : V} (hg : Gl X x) (C : Cn X.mg x v) (hd : (x == ("__debug__" : Str)) = false := by decide) : PE X (.Name x p) (eLit v) := by
  obtain ⟨u, h1, h2⟩ := C
  exact dGl hg h1 h2 hd
end
/-! classes: Γ tells where the class of a name stands -/
section
open PySem PySem.Spec L2 PyProof.Rows
abbrev Gm := Str → Addr
def insR (Γ : Gm) (cs : List Str) (a : Addr) (H : Hp) (k : Str → Addr → List (Str × V) → Prop) : Prop := ∃ c dx fs, c ∈ cs ∧ H a = some (.ins (Γ c) dx fs) ∧ k c dx fs
/-- what is to be known of the classes that have a field -/
def Flds (K : PySem.W.Frag) (Γ : Gm) (cs : List Str) (f : Str) : Prop := ∀ c ∈ cs, Cls K (Γ c) ∧ NoAttr K (Γ c) f
theorem Flds.nil {K : PySem.W.Frag} {Γ : Gm} {f : Str} : Flds K Γ [] f := fun _ h => nomatch h
theorem Flds.cons {K : PySem.W.Frag} {Γ : Gm} {c f : Str} {cs : List Str} (h1 : Cls K (Γ c)) (h2 : NoAttr K (Γ c) f) (h : Flds K Γ cs f) : Flds K Γ (c :: cs) f := fun x hx => by
  rcases List.mem_cons.mp hx with rfl | hx
  · exact ⟨h1, h2⟩
  · exact h x hx
variable {X : Cx} {e o value : Expr} {es : List Expr} {pos pos' tpos apos : Pos} {ta tv te to : TE} {tes : TA} {f m x : Str} {Γ : Gm} {cs : List Str} {p : Pos}
def eFld (Γ : Gm) (cs : List Str) (f : Str) (ta : TE) (σ : L2.St) (H : Hp) (Q : VK) : Prop := ta σ H fun x H1 => asRef x fun a => insR Γ cs a H1 fun _ _ fs => ∃ v, fs.lookup f = some v ∧ Q v H1
theorem dFld (hk : Flds X.K Γ cs f) (he : PE X e ta) (hb : attributeBase e f X.env (eval e X.env) = eval e X.env := by rfl) : PE X (.Attribute e f pos) (eFld Γ cs f ta) :=
  pe_w (pe_fld (pe_hat he) hb) fun σ H Q h => ⟨_, fun y H1 q => by
    obtain ⟨a, rfl, c, dx, fs, hc, h1, v, h2, q⟩ := asRef_of q
    exact ⟨a, _, dx, fs, v, rfl, h1, (hk c hc).1, (hk c hc).2, h2, q⟩, h⟩
def sFld (Γ : Gm) (cs : List Str) (f : Str) (ta tv : TE) (D : Ends) (σ : L2.St) (H : Hp) : Prop := tv σ H fun y H1 => ta σ H1 fun x H2 => asRef x fun a => insR Γ cs a H2 fun c dx fs => fs.length < 1000 ∧ D.nx σ (upd H2 a (.ins (Γ c) dx (putF f y fs)))
theorem zFld (hk : Flds X.K Γ cs f) (ha : PE X o ta) (hv : PE X value tv) (hs : swapsWith value (some (.Attribute o f pos')) pos.line X.env = pure false := by rfl) : PS X (.Assign [.Attribute o f pos'] value pos) (sFld Γ cs f ta tv) :=
  ps_w (ps_fld (pe_hat ha) (pe_hat hv) hs) fun D σ H h => ⟨_, fun y H1 q => ⟨_, fun x H2 q => by
    obtain ⟨a, rfl, c, dx, fs, hc, h1, h2, q⟩ := asRef_of q
    exact ⟨a, _, dx, fs, rfl, h1, (hk c hc).1, (hk c hc).2, h2, q⟩, q⟩, h⟩
/-- o.f op= e -/
def sFldAug (Γ : Gm) (cs : List Str) (f : Str) (r : R2) (ta tv : TE) (D : Ends) (σ : L2.St) (H : Hp) : Prop := ta σ H fun x H1 => asRef x fun a => insR Γ cs a H1 fun c _ fs => ∃ v, fs.lookup f = some v ∧
  tv σ H1 fun y H2 => r v y H2 fun z H3 => ∃ dx' fs', H3 a = some (.ins (Γ c) dx' fs') ∧ fs'.length < 1000 ∧ D.nx σ (upd H3 a (.ins (Γ c) dx' (putF f z fs')))
theorem zFldAug {op : Operator} {r : R2} (hk : Flds X.K Γ cs f) (ha : PE X o ta) (hv : PE X value tv) (hop : OpR X (inplaceOp op) r) : PS X (.AugAssign (.Attribute o f tpos) op value pos) (sFldAug Γ cs f r ta tv) := by
  have hin : InOp X op fun v y H Q => ∃ Q0 : VK, (∀ z H', Q0 z H' → Q z H') ∧ r v y H Q0 := fun pins s σ H x y u v Q I rx ry ⟨Q0, w, q⟩ => thn (hop pins s σ H x y u v Q0 I rx ry q) fun _ _ ⟨z, H', I', r', q'⟩ => ⟨z, H', I', r', w _ _ q'⟩
  exact ps_w (ps_fldaug (pe_hat ha) (pe_hat hv) hin) fun D σ H h => ⟨_, fun x H1 q => by
    obtain ⟨a, rfl, c, dx, fs, hc, h1, v, h2, q⟩ := asRef_of q
    exact ⟨a, _, dx, fs, v, rfl, h1, (hk c hc).1, (hk c hc).2, h2, _, fun y H2 q => ⟨_, fun z H3 q => q, q⟩, q⟩, h⟩
/-- methods by the class of the instance -/
def MOk (X : Cx) (Γ : Gm) (CX : CXT) (k : Nat) (m : Str) (cs : List (Str × Sp)) : Prop := ∀ c ∈ cs, ∃ g fd ps, Cls X.K (Γ c.1) ∧ Meth X.K (Γ c.1) m g ∧ Binds X.K fd ps [] ∧ FnOk X.prog X.w X.K X.mg X.base CX k g fd ps c.2
/-- a class's method keeps its promise -/
def Mn (P : Program) (w : World) (K : PySem.W.Frag) (mg : Str → Option Value) (base : Heap) (Γ : Gm) (CX : CXT) (k : Nat) (c m : Str) (sp : Sp) : Prop := ∃ g fd ps, Cls K (Γ c) ∧ Meth K (Γ c) m g ∧ Binds K fd ps [] ∧ FnOk P w K mg base CX k g fd ps sp
theorem MOk.nil {CX : CXT} {k : Nat} : MOk X Γ CX k m [] := fun _ h => nomatch h
theorem MOk.cons {CX : CXT} {j k : Nat} {c : Str} {sp : Sp} {cs : List (Str × Sp)} (F : Mn X.prog X.w X.K X.mg X.base Γ CX j c m sp) (hj : j ≤ k) (h : MOk X Γ CX k m cs) : MOk X Γ CX k m ((c, sp) :: cs) := fun x hx => by
  rcases List.mem_cons.mp hx with rfl | hx
  · obtain ⟨g, fd, ps, h1, h2, h3, h4⟩ := F
    exact ⟨g, fd, ps, h1, h2, h3, h4.mono hj⟩
  · exact h x hx
def mthR (Γ : Gm) (m : Str) (a : Addr) (H : Hp) (cs : List (Str × Sp)) (k : Sp → Prop) : Prop := ∃ c ∈ cs, ∃ dx fs, H a = some (.ins (Γ c.1) dx fs) ∧ fs.lookup m = none ∧ k c.2
def eMth (Γ : Gm) (m : Str) (cs : List (Str × Sp)) (E : XK) (ta : TE) (t : TA) (σ : L2.St) (H : Hp) (Q : VK) : Prop := ta σ H fun x H1 => asRef x fun a => mthR Γ m a H1 cs fun sp => t σ H1 fun vs H2 => sp (x :: vs) H2 Q E
theorem dMth {CX : CXT} {k : Nat} {ms : List (Str × Sp)} {E : XK} {pl : Sem Bool} (F : MOk X Γ CX k m ms) (hr : Room k X.A) (hx : Passes CX X E) (he : PE X o ta) (ha : PA X (e :: es) tes)
    (hst : starEach (e :: es) X.env = (false, eval e X.env) :: starEach es X.env := by rfl) (hpl : (backTo pos (starEach es X.env)).any (·.1) = false := by rfl)
    (ht : eval (.Call (.Attribute o m apos) (e :: es) [] pos) X.env = (do let ov ← eval o X.env; standAt apos.atName; let (f, first) ← holding [ov] (getMethod ov m pl); callWith pos f first (backTo pos (starEach (e :: es) X.env)) (backToKw pos (keywordEach [] X.env))) := by rfl) :
    PE X (.Call (.Attribute o m apos) (e :: es) [] pos) (eMth Γ m ms E ta tes) := by
  refine ⟨fun pins s σ H Q I h => PySem.W.methodCall_KW (pl := pl) (thn (he.run pins s σ H _ I h) fun u s1 ⟨x, H1, I1, rx, q⟩ => ?_) ht⟩
  obtain ⟨a, ex, c, hc, dx, fs, ea, l, q⟩ := asRef_of q
  subst ex
  obtain rfl : u = Value.ref a := rx
  obtain ⟨g, fd, ps, h1, h2, h3, h4⟩ := F c hc
  refine getmeth_ok I1 ea h1 h2 l ?_
  exact PySem.W.callWith_K (first := [.ref a]) (h₀ := X.base) I.ok.mod.kin h2.kp (thn (ha.run pos pins s1 σ H1 _ I1 q) fun us s2 ⟨vs, H2, I2, r, q2⟩ => ⟨I2.kIn, run_fn (us := .ref a :: us) (vs := .ref a :: vs) (dvs := []) h4 hr h3 .nil hx I2 (.cons rfl r) (by rw [List.append_nil]; exact q2)⟩) hst hpl
theorem dMth0 {CX : CXT} {k : Nat} {ms : List (Str × Sp)} {E : XK} {pl : Sem Bool} (F : MOk X Γ CX k m ms) (hr : Room k X.A) (hx : Passes CX X E) (he : PE X o ta)
    (ht : eval (.Call (.Attribute o m apos) [] [] pos) X.env = (do let ov ← eval o X.env; standAt apos.atName; let (f, first) ← holding [ov] (getMethod ov m pl); callWith pos f first (backTo pos (starEach [] X.env)) (backToKw pos (keywordEach [] X.env))) := by rfl) :
    PE X (.Call (.Attribute o m apos) [] [] pos) (eMth Γ m ms E ta aNil) := by
  refine ⟨fun pins s σ H Q I h => PySem.W.methodCall_KW (pl := pl) (thn (he.run pins s σ H _ I h) fun u s1 ⟨x, H1, I1, rx, q⟩ => ?_) ht⟩
  obtain ⟨a, ex, c, hc, dx, fs, ea, l, q⟩ := asRef_of q
  subst ex
  obtain rfl : u = Value.ref a := rx
  obtain ⟨g, fd, ps, h1, h2, h3, h4⟩ := F c hc
  refine getmeth_ok I1 ea h1 h2 l ?_
  exact PySem.W.callWith_K0 (first := [.ref a]) I1.kIn h2.kp (run_fn (us := [.ref a]) (vs := [.ref a]) (dvs := []) h4 hr h3 .nil hx I1 (.cons rfl .nil) q)
/-- C(..): made, then __init__ -/
def Mi (P : Program) (w : World) (K : PySem.W.Frag) (mg : Str → Option Value) (base : Heap) (Γ : Gm) (CX : CXT) (k : Nat) (c : Str) (sp : Sp) : Prop := ∃ g fd ps, Mk K (Γ c) g ∧ mg c = some (.ref (Γ c)) ∧ Binds K fd ps [] ∧ FnOk P w K mg base CX k g fd ps sp
def eNew (Γ : Gm) (c : Str) (sp : Sp) (E : XK) (t : TA) (σ : L2.St) (H : Hp) (Q : VK) : Prop := t σ H fun vs H1 => ∀ x dx, H1 x = none → H1 dx = none → dx ≠ x →
  sp (.ref x :: vs) (upd (upd H1 dx (.own x)) x (.ins (Γ c) dx [])) (fun v H2 => v = .non ∧ Q (.ref x) H2) E
theorem dNew {CX : CXT} {k : Nat} {sp : Sp} {E : XK} (F : Mi X.prog X.w X.K X.mg X.base Γ CX k x sp) (hr : Room (k + 1) X.A) (hg : Gl X x) (hx : Passes CX X E) (ha : PA X (e :: es) tes)
    (hdb : (x == ("__debug__" : Str)) = false := by decide) (he : starEach (e :: es) X.env = (false, eval e X.env) :: starEach es X.env := by rfl) (hpl : (backTo pos (starEach es X.env)).any (·.1) = false := by rfl) :
    PE X (.Call (.Name x p) (e :: es) [] pos) (eNew Γ x sp E tes) := by
  obtain ⟨g, fd, ps, h1, h2, h3, h4⟩ := F
  refine pe_w (pe_make h1 h4 hr hg h2 h3 .nil hx ha hdb he hpl) fun σ H Q q => ?_
  unfold tMake
  simp only [List.append_nil]
  exact q
theorem dNew0 {CX : CXT} {k : Nat} {sp : Sp} {E : XK} (F : Mi X.prog X.w X.K X.mg X.base Γ CX k x sp) (hr : Room (k + 1) X.A) (hg : Gl X x) (hx : Passes CX X E)
    (hdb : (x == ("__debug__" : Str)) = false := by decide) : PE X (.Call (.Name x p) [] [] pos) (eNew Γ x sp E aNil) := by
  obtain ⟨g, fd, ps, h1, h2, h3, h4⟩ := F
  exact pe_make0 h1 h4 hr hg h2 h3 .nil hx hdb
/-- C.m(self, ..): a def of a class, read off the class -/
def Mc (P : Program) (w : World) (K : PySem.W.Frag) (mg : Str → Option Value) (base : Heap) (Γ : Gm) (CX : CXT) (k : Nat) (c m : Str) (sp : Sp) : Prop := ∃ g fd ps mc, mg c = some (.ref (Γ c)) ∧ PySem.W.readsIn K (Γ c) mc = true ∧
  PySem.W.specialIn K (.ref (Γ c)) "__getattribute__" = some (some (.builtin "type.__getattribute__")) ∧ PySem.W.findCls K (.ref (Γ c)) mc m = some (.val (.ref g)) ∧ PySem.W.keepIn K (.ref g) = true ∧ Binds K fd ps [] ∧ FnOk P w K mg base CX k g fd ps sp
theorem dCls {CX : CXT} {k : Nat} {sp : Sp} {E : XK} {pl : Sem Bool} (F : Mc X.prog X.w X.K X.mg X.base Γ CX k x m sp) (hr : Room k X.A) (hg : Gl X x) (hx : Passes CX X E) (ha : PA X (e :: es) tes) (hdb : (x == ("__debug__" : Str)) = false := by decide)
    (hst : starEach (e :: es) X.env = (false, eval e X.env) :: starEach es X.env := by rfl) (hpl : (backTo pos (starEach es X.env)).any (·.1) = false := by rfl)
    (ht : eval (.Call (.Attribute (.Name x p) m apos) (e :: es) [] pos) X.env = (do let ov ← eval (.Name x p) X.env; standAt apos.atName; let (f, first) ← holding [ov] (getMethod ov m pl); callWith pos f first (backTo pos (starEach (e :: es) X.env)) (backToKw pos (keywordEach [] X.env))) := by rfl) :
    PE X (.Call (.Attribute (.Name x p) m apos) (e :: es) [] pos) (eCall sp E tes) := by
  obtain ⟨g, fd, ps, mc, h1, h2, h3, h4, h5, h6, h7⟩ := F
  refine ⟨fun pins s σ H Q I h => PySem.W.methodCall_KW (pl := pl) (ld_glob I hg h1 ?_ hdb) ht⟩
  refine PySem.W.method_cls I.kIn h3 (PySem.W.cls_value I.kIn h2 h4 rfl ?_)
  exact PySem.W.callWith_K (first := []) (h₀ := X.base) I.ok.mod.kin h5 (thn (ha.run pos pins _ σ H _ (I.tok _) h) fun us s2 ⟨vs, H2, I2, r, q2⟩ => ⟨I2.kIn, run_fn (us := us) (vs := vs) (dvs := []) h7 hr h6 .nil hx I2 r (by rw [List.append_nil]; exact q2)⟩) hst hpl
end
/-- a wall: what stands in it is not looked through -/
structure Bx (p : Prop) : Prop where
  run : p
def gam (l : List (Str × Addr)) : Gm := fun c => (l.lookup c).getD 0
theorem fn_no {P : Program} {w : World} {K : PySem.W.Frag} {mg : Str → Option Value} {base : Heap} {CX : CXT} {k : Nat} {f : Addr} {fd : FuncData} {ps : List Str} : FnOk P w K mg base CX k f fd ps (fun _ _ _ _ => False) := ⟨fun _ _ _ _ h => h.elim, fun _ _ _ _ _ _ _ _ _ _ _ _ _ h => h.elim⟩
/-! isinstance(x, C), C and the class of x own ones -/
section
open PySem PySem.Spec L2 PyProof.Rows
def Kit1 (K : PySem.W.Frag) (Γ : Gm) (d : Str) (c : Str × Bool) : Prop := Cls K (Γ c.1) ∧ PySem.W.findIn K (.ref (Γ c.1)) "__class__" = some (some (.builtin "object.__class__")) ∧ PySem.W.specialIn K (.builtin "object.__class__") "__get__" = some (some (.builtin "getset_descriptor.__get__")) ∧
  PySem.W.takesIn K (.builtin "object.__class__") = some true ∧ PySem.W.mroIn K (Γ c.1) (.type "object") = some true ∧ PySem.W.kitOne K (.ref (Γ c.1)) (.ref (Γ d)) = some c.2
def Kits (K : PySem.W.Frag) (mg : Str → Option Value) (Γ : Gm) (d : Str) (tab : List (Str × Bool)) : Prop := mg d = some (.ref (Γ d)) ∧ ∀ c ∈ tab, Kit1 K Γ d c
theorem Kits.nil {K : PySem.W.Frag} {mg : Str → Option Value} {Γ : Gm} {d : Str} (h : mg d = some (.ref (Γ d))) : Kits K mg Γ d [] := ⟨h, fun _ h => nomatch h⟩
theorem Kits.cons {K : PySem.W.Frag} {mg : Str → Option Value} {Γ : Gm} {c d : Str} {b : Bool} {tab : List (Str × Bool)} (h1 : Cls K (Γ c)) (h2 : PySem.W.findIn K (.ref (Γ c)) "__class__" = some (some (.builtin "object.__class__")))
    (h3 : PySem.W.specialIn K (.builtin "object.__class__") "__get__" = some (some (.builtin "getset_descriptor.__get__"))) (h4 : PySem.W.takesIn K (.builtin "object.__class__") = some true) (h5 : PySem.W.mroIn K (Γ c) (.type "object") = some true)
    (h6 : PySem.W.kitOne K (.ref (Γ c)) (.ref (Γ d)) = some b) (h : Kits K mg Γ d tab) : Kits K mg Γ d ((c, b) :: tab) := ⟨h.1, fun x hx => by
  rcases List.mem_cons.mp hx with rfl | hx
  · exact ⟨h1, h2, h3, h4, h5, h6⟩
  · exact h.2 x hx⟩
def eIsC (Γ : Gm) (tab : List (Str × Bool)) (ta : TE) (σ : L2.St) (H : Hp) (Q : VK) : Prop := ta σ H fun x H1 => asRef x fun a => ∃ c ∈ tab, ∃ dx fs, H1 a = some (.ins (Γ c.1) dx fs) ∧ Q (.bl c.2) H1
variable {X : Cx} {a : Expr} {ta : TE} {p p2 pos : Pos} {Γ : Gm} {d : Str} {tab : List (Str × Bool)}
theorem dIsC (kt : Kits X.K X.mg Γ d tab) (hg : Gl X "isinstance") (hm : X.mg "isinstance" = none) (hv : bootBuiltins "isinstance" = some (.builtin "isinstance")) (ha : PE X a ta) (hgd : Gl X d := by rfl)
    (he : starEach [a, .Name d p2] X.env = (false, eval a X.env) :: starEach [.Name d p2] X.env := by rfl) (he2 : starEach [.Name d p2] X.env = (false, eval (.Name d p2) X.env) :: starEach [] X.env := by rfl) (hpl : (backTo pos (starEach [.Name d p2] X.env)).any (·.1) = false := by rfl) (hdb : (d == ("__debug__" : Str)) = false := by decide) :
    PE X (.Call (.Name "isinstance" p) [a, .Name d p2] [] pos) (eIsC Γ tab ta) := by
  refine pe_w (dBlt call_isi hg hm hv (kCons (pe_hat ha) (kCons (dGl (v := .ref (Γ d)) hgd kt.1 rfl hdb) kNil he2) he) (by decide) (by decide) he hpl) fun σ H Q h => ?_
  refine ⟨_, fun x H1 q => ?_, h⟩
  obtain ⟨a, rfl, c, hc, dx, fs, h1, q⟩ := asRef_of q
  obtain ⟨g1, g2, g3, g4, g5, g6⟩ := kt.2 c hc
  exact ⟨_, _, _, _, c.2, rfl, .own _, .base (.ins h1 g1 g2 g3 g4 g5), g6, q⟩
end
/-- the end: what k_head leaves, from the law's promise -/
theorem walkB {l : PySem.W.OpenLaw} {k : Nat} {q : Program} {loose : List Str} {XP : (Str → Option Value) → Heap → Prop} {YP : World → Heap → Prop} {d : DefRec} {K : Params → PySem.W.Frag} (CX : World → CXT) (sp : PySem.W.Frag → Sp) (x : Str)
    (hn : l.most = some 63) (hdf : d.params.defaults = []) (hr : Room k callerA) (hY : ∀ (w : World) (h : Heap), YP w h → (K w.params).In h)
    (F : ∀ (w : World) (mg : Str → Option Value) (fa : Addr) (h : Heap), (K w.params).In h → h.Ns mainGlobals mg → mg d.name = some (.ref fa) →
      ∃ fd : FuncData, (∀ (s : Shared) (u : Value), BindsTo s fd ⟨[u], []⟩ [(x, u)]) ∧ ∀ base : Heap, (K w.params).In base → base.Ns mainGlobals mg → FnOk l.prog w (K w.params) mg base (CX w) k fa fd [x] (sp (K w.params)))
    (hsp : ∀ (K : PySem.W.Frag) (H : Hp) (a : Addr) (ns : List Int), ns.length ≤ 63 → (∀ z ∈ ns, Builtin.Int.intBits z ≤ 1048576) → Only H → SqL K H a (ns.map V.int) → sp K [.ref a] H (fun v _ => v = .bl true) fun _ _ _ => False)
    (hCX : ∀ (w : World) (H : Hp) (s : Shared) (e : Value) (s' : Shared), CX w [] H s (fun _ _ _ => False) e s' → False) :
    PySem.W.WalkO q loose XP YP l.row.toRowW d [] (fun f vs => PySem.call f vs) :=
  L2.walk_ofB (K := K) (CX := CX) (sp := fun w => sp (K w.params)) hn (by decide) hdf hr hY F (fun w H a ns h1 h2 h3 h4 => hsp (K w.params) H a ns h1 h2 h3 h4) hCX
end Hf
set_option Elab.async false
set_option linter.all false
set_option maxRecDepth 100000
set_option maxHeartbeats 4000000
namespace Hf
open PySem PySem.Spec L2 PyProof.Rows
/-- a value, and all that stood stands -/
def Pv (H : Hp) (Q : VK) (v : V) : Prop := ∀ H', Same H H' → Q v H'
theorem Pv.here {H : Hp} {Q : VK} {v : V} (h : Pv H Q v) : Q v H := h H (Same.refl H)
theorem Pv.to {H H1 : Hp} {Q : VK} {v : V} (h : Pv H Q v) (e : Same H H1) : Pv H1 Q v := fun H' z => h H' (e.trans z)
theorem Same.new {H : Hp} {p : Addr} {o : HO} (h : H p = none) : Same H (upd H p o) := fun b x e => by
  rw [upd_ne (ne_of_none e h)]
  exact e
/-! texts by their codes -/
def S (l : List Nat) : Str := ⟨l.toArray⟩
theorem S_cps (l : List Nat) : (S l).cps.toList = l := rfl
theorem S_len (l : List Nat) : (S l).length = l.length := rfl
theorem S_app (a b : List Nat) : S a ++ S b = S (a ++ b) := by
  show (⟨a.toArray ++ b.toArray⟩ : Str) = _
  rw [List.append_toArray]
  rfl
theorem S_of (z : Str) : z = S z.cps.toList := rfl
theorem S_inj {a b : List Nat} (h : S a = S b) : a = b := congrArg (fun z => z.cps.toList) h
theorem S_eq {a b : List Nat} : (S a = S b) = (a = b) := propext ⟨S_inj, fun h => h ▸ rfl⟩
theorem sz : sizeLine = 16777216 := sizeLine_eq
theorem app_len (a b : Str) : (a ++ b).length = a.length + b.length := by
  show (a.cps ++ b.cps).size = _
  exact Array.size_append
/-! sizes of numbers -/
theorem bits_le {i : Int} : Builtin.Int.intBits i ≤ i.natAbs.log2 + 1 := by
  unfold Builtin.Int.intBits
  split <;> omega
theorem mulOk {i j : Int} {a b : Nat} (h1 : Builtin.Int.intBits i ≤ a) (h2 : Builtin.Int.intBits j ≤ b) (h : a + b ≤ 100000000 := by decide) : IntMulOk i j := by
  have e : bitsLine = 134217728 := by decide
  unfold IntMulOk
  intro z
  rw [Bool.and_eq_true] at z
  have z2 := z.2
  unfold Builtin.Int.intTooBig at z2
  have z3 := of_decide_eq_true z2
  rw [e] at z3
  omega
theorem bitsOf {i : Int} {a : Nat} (h : i.natAbs < 2 ^ a) : Builtin.Int.intBits i ≤ a + 1 := by
  refine Nat.le_trans bits_le ?_
  by_cases z : i.natAbs = 0
  · rw [z]
    have : Nat.log2 0 = 0 := by decide
    omega
  · have := (Nat.log2_lt z).mpr h
    omega

/-! the readings at values -/
section
variable {K : PySem.W.Frag} {H : Hp} {Q : VK} {i j : Int} {z w : Str} {a b : Addr} {k l : Bool} {x y : V} {C : Int → Int → Prop} {g : Int → Int → V} {neg : Bool} {lo hi : Option Int} {n : String}
theorem eb1 {f : Bool → Prop} : asBl (.bl k) f = f k := rfl
theorem eb2 {f : Int → Prop} : asInt (.int i) f = f i := rfl
theorem eb3 {f : Addr → Prop} : asRef (.ref a) f = f a := rfl
theorem eb4 {f : Bool → Hp → Prop} : tru (.bl k) H f = f k H := rfl
theorem eb5 {f : Bool → Hp → Prop} : tru (.int i) H f = f (i != 0) H := rfl
theorem eb6 {f : Str → Prop} : asTx (.str z) f = f z := rfl
theorem eb12 {f : Addr → Prop} : vRef' [.ref a] f = f a := rfl
theorem eb7 {f : Str → Prop} : vTx [.str z] f = f z := rfl
theorem eb8 {f : Prop} : vNo [] f = f := rfl
theorem eb9 {f : V → Prop} : vOne [x] f = f x := rfl
theorem eb10 {f : Int → Prop} : vInt [.int i] f = f i := rfl
theorem eb11 {f : Addr → Prop} : vRef [.ref a] f = f a := rfl
theorem eo1 : uAdd K (.int i) (.int j) H Q = Q (.int (i + j)) H := rfl
theorem eo2 : uAdd K (.str z) (.str w) H Q = (z.length + w.length ≤ sizeLine ∧ Q (.str (z ++ w)) H) := rfl
theorem eo3 : uAdd K (.ref a) (.ref b) H Q = catR K a b H Q := rfl
theorem eo4 : uMul (.int i) (.int j) H Q = (IntMulOk i j ∧ Q (.int (i * j)) H) := rfl
theorem eo5 : uMul (.str z) (.int j) H Q = (j ≤ 1000000 ∧ -1000000 ≤ j ∧ z.length ≤ 16 ∧ Q (.str (repS z j)) H) := rfl
theorem eo6 : uII C g (.int i) (.int j) H Q = (C i j ∧ Q (g i j) H) := rfl
theorem eo7 : uI2 g (.int i) (.int j) H Q = Q (g i j) H := rfl
theorem eo8 : uNeg (.int i) H Q = Q (.int (-i)) H := rfl
theorem ec1 : uEq K (.int i) (.int j) H Q = Q (.bl (decide (i = j))) H := rfl
theorem ec2 : uEq K (.str z) (.str w) H Q = Q (.bl (decide (z = w))) H := rfl
theorem ec3 : uEq K (.bl k) (.bl l) H Q = Q (.bl (decide (k = l))) H := rfl
theorem ec4 : uEq K (.ref a) y H Q = eqD K (.ref a) y H fun b => Q (.bl b) H := by cases y <;> rfl
theorem ec5 : uNe K (.int i) (.int j) H Q = Q (.bl (!decide (i = j))) H := rfl
theorem ec6 : uNe K (.str z) (.str w) H Q = Q (.bl (!decide (z = w))) H := rfl
theorem ec7 : uNe K (.bl k) (.bl l) H Q = Q (.bl (!decide (k = l))) H := rfl
theorem ec8 : uNe K (.ref a) y H Q = eqD K (.ref a) y H fun b => Q (.bl (!b)) H := by cases y <;> rfl
theorem ec9 : uIn K neg (.str w) (.str z) H Q = Q (.bl (if neg then !inTx w z else inTx w z)) H := rfl
theorem ec10 : uIn K neg x (.ref a) H Q = inSq K x a H fun b => Q (.bl (if neg then !b else b)) H := by cases x <;> rfl
theorem ec11 : uIs neg x .non H Q = Q (.bl (if neg then !decide (x = .non) else decide (x = .non))) H := rfl
theorem ex1 : uIx K (.ref a) (.int i) H Q = ixR K a i H Q := rfl
theorem ex2 : uIx K (.str z) (.int i) H Q = ixS z i H Q := rfl
theorem ex3 : uSl K (.ref a) lo hi H Q = cutR K a lo hi H Q := rfl
theorem ex4 : uSl K (.str z) lo hi H Q = (z.length ≤ sizeLine ∧ Q (.str (cutS z lo hi)) H) := rfl
theorem el1 : uLen K [.str z] H Q = (z.length ≤ sizeLine ∧ Q (.int z.length) H) := rfl
theorem el2 : uLen K [.ref a] H Q = lenR K a H fun n => Q (.int n) H := rfl
theorem el3 : uInt [.int i] H Q = Q (.int i) H := rfl
theorem el4 : uInt [.bl k] H Q = Q (.int (if k then 1 else 0)) H := rfl
theorem el5 : uInt [.str z] H Q = ∃ n, PySem.intText? z = some n ∧ z.length ≤ 640 ∧ Q (.int n) H := rfl
theorem el6 : uStr [.int i] H Q = (i.natAbs.log2 < 1920 ∧ Q (.str (toString i)) H) := rfl
theorem el7 : uStr [.str z] H Q = Q (.str z) H := rfl
theorem el8 : uMax [.int i, .int j] H Q = Q (.int (if j > i then j else i)) H := rfl
theorem el9 : uMin [.int i, .int j] H Q = Q (.int (if j < i then j else i)) H := rfl
theorem el10 : uList K [.ref a] H Q = ∃ xs, (SqL K H a xs ∨ SqT K H a xs) ∧ ∀ p, H p = none → Q (.ref p) (upd H p (.lst xs)) := rfl
theorem et1 : uIsi K [x, .ty n] H Q = tyN K x H fun m => ∃ b, kitB m n = some b ∧ Q (.bl b) H := rfl
theorem et2 {f : String → Prop} : tyN K .non H f = f "NoneType" := rfl
theorem et3 {f : String → Prop} : tyN K (.bl k) H f = f "bool" := rfl
theorem et4 {f : String → Prop} : tyN K (.int i) H f = f "int" := rfl
theorem et5 {f : String → Prop} : tyN K (.str z) H f = f "str" := rfl
theorem et6 {f : String → Prop} : tyN K (.ref a) H f = (((∃ xs, SqL K H a xs) ∧ f "list") ∨ ((∃ xs, SqT K H a xs) ∧ f "tuple") ∨ ((∃ kvs, H a = some (.dK kvs)) ∧ f "dict")) := rfl
end
theorem at_len {α : Type} {xs : List α} {i : Int} (h0 : 0 ≤ i) (h1 : i < xs.length) : ∃ v, atI xs i = some v := by
  obtain ⟨k, rfl⟩ := Int.eq_ofNat_of_zero_le h0
  have h2 : k < xs.length := by omega
  exact ⟨xs[k], atI_nat (List.getElem?_eq_getElem h2)⟩
theorem atI_mem {α : Type} {xs : List α} {i : Int} {v : α} (h : atI xs i = some v) : v ∈ xs := by
  unfold atI at h
  cases e : ixN xs.length i with
  | none => rw [e] at h; cases h
  | some j => rw [e] at h; exact List.mem_of_getElem? h
theorem cutS_le (z : Str) (lo hi : Option Int) : (cutS z lo hi).length ≤ z.length := cutS_length z lo hi
theorem repS_len {z : Str} {k : Int} : (repS z k).length = k.toNat * z.length := by
  show ((List.replicate k.toNat z.cps.toList).flatten.toArray).size = _
  simp [Str.length]
/-- the law's cells mixed -/
theorem bits_nn {z : Int} {n : Nat} (h0 : 0 ≤ z) (h : z < n) (hn : n ≤ 2 ^ 64) : Builtin.Int.intBits z ≤ 65 := bitsOf (a := 64) (by omega)
/-! what stands: F, the part of the heap that is not written any more -/
theorem Same.up {F H : Hp} {a : Addr} {o : HO} (s : Same F H) (n : F a = none) : Same F (upd H a o) := fun b x e => by
  rw [upd_ne (ne_of_none e n)]
  exact s _ _ e
theorem Same.both {F H : Hp} {a : Addr} {o : HO} (s : Same F H) : Same (upd F a o) (upd H a o) := fun b x e => by
  by_cases h : b = a
  · subst h
    rw [upd_same] at e ⊢
    exact e
  · rw [upd_ne h] at e ⊢
    exact s _ _ e
theorem Same.sqT {K : PySem.W.Frag} {H H' : Hp} {a : Addr} {xs : List V} (e : Same H H') (h : SqT K H a xs) : SqT K H' a xs := by
  rcases h with (h | ⟨o, h⟩) | h
  · exact .inl (.inl (e _ _ h))
  · exact .inl (.inr ⟨o, e _ _ h⟩)
  · exact .inr h
mutual
theorem Dp.same {K : PySem.W.Frag} {H H' : Hp} (e : Same H H') : ∀ {d : PyData} {v : V}, Dp K H v d → Dp K H' v d
  | .none, _, h => by cases h; exact .non
  | .bool b, _, h => by cases h; exact .bl b
  | .int i, _, h => by cases h; exact .int i
  | .str x, _, h => by cases h; exact .str x
  | .list ds, _, h => by cases h with | lst hs ha => exact .lst (e.seq hs) (DpAll.same e ha)
  | .tuple ds, _, h => by cases h with | tup hs ha => exact .tup (Same.sqT e hs) (DpAll.same e ha)
  | .dict _, _, h => by cases h
theorem DpAll.same {K : PySem.W.Frag} {H H' : Hp} (e : Same H H') : ∀ {ds : List PyData} {vs : List V}, DpAll K H vs ds → DpAll K H' vs ds
  | [], _, h => by cases h; exact .nil
  | d :: ds, _, h => by cases h with | cons h1 h2 => exact .cons (Dp.same e h1) (DpAll.same e h2)
end
theorem DpAll.len {K : PySem.W.Frag} {H : Hp} : ∀ {ds : List PyData} {vs : List V}, DpAll K H vs ds → vs.length = ds.length
  | [], _, h => by cases h; rfl
  | d :: ds, _, h => by cases h with | cons h1 h2 => simp [DpAll.len h2]
theorem DpAll.at {K : PySem.W.Frag} {H : Hp} : ∀ {ds : List PyData} {vs : List V} {i : Nat} {v : V}, DpAll K H vs ds → vs[i]? = some v → ∃ d, ds[i]? = some d ∧ Dp K H v d
  | [], _, _, _, h, e => by cases h; simp at e
  | d :: ds, _, 0, v, h, e => by cases h with | cons h1 h2 => simp at e; subst e; exact ⟨d, rfl, h1⟩
  | d :: ds, _, i + 1, v, h, e => by cases h with | cons h1 h2 => exact DpAll.at (i := i) h2 (by simpa using e)
theorem DpAll.at' {K : PySem.W.Frag} {H : Hp} {ds : List PyData} {vs : List V} {i : Nat} {d : PyData} (h : DpAll K H vs ds) (e : ds[i]? = some d) : ∃ v, vs[i]? = some v ∧ Dp K H v d := by
  have hi := (List.getElem?_eq_some_iff.mp e).1
  rw [← DpAll.len h] at hi
  obtain ⟨d', e', h'⟩ := DpAll.at h (List.getElem?_eq_getElem hi)
  rw [e] at e'
  cases e'
  exact ⟨_, List.getElem?_eq_getElem hi, h'⟩
theorem DpAll.app {K : PySem.W.Frag} {H : Hp} : ∀ {ds es : List PyData} {vs ws : List V}, DpAll K H vs ds → DpAll K H ws es → DpAll K H (vs ++ ws) (ds ++ es)
  | [], _, _, _, h, g => by cases h; exact g
  | d :: ds, _, _, _, h, g => by cases h with | cons h1 h2 => exact .cons h1 (DpAll.app h2 g)
theorem DpAll.ints {K : PySem.W.Frag} {H : Hp} : ∀ {ns : List Int}, DpAll K H (ns.map V.int) (ns.map PyData.int)
  | [] => .nil
  | n :: ns => .cons (.int n) DpAll.ints
theorem DpAll.strs {K : PySem.W.Frag} {H : Hp} : ∀ {ns : List Str}, DpAll K H (ns.map V.str) (ns.map PyData.str)
  | [] => .nil
  | n :: ns => .cons (.str n) DpAll.strs
/-- behind a call: F' the frozen part then -/
structure Grow (F H F' H' : Hp) : Prop where
  ff : Same F F'
  fh : Same F' H'
  hh : Same H H'
  apart : ∀ b, F b = none → H b ≠ none → F' b = none
theorem Grow.rfl' {F H : Hp} (h : Same F H) : Grow F H F H := ⟨Same.refl _, h, Same.refl _, fun _ h _ => h⟩
theorem Grow.trans {F H F1 H1 F2 H2 : Hp} (a : Grow F H F1 H1) (b : Grow F1 H1 F2 H2) : Grow F H F2 H2 := ⟨a.ff.trans b.ff, b.fh, a.hh.trans b.hh, fun x h1 h2 => b.apart x (a.apart x h1 h2) fun z => by
  cases e : H x with
  | none => exact h2 e
  | some o => rw [a.hh _ _ e] at z; cases z⟩
/-- something new that is not written any more -/
theorem Grow.new {F H : Hp} {p : Addr} {o : HO} (s : Same F H) (h : H p = none) : Grow F H (upd F p o) (upd H p o) := ⟨Same.new (Same.free s h), Same.both s, Same.new h, fun b h1 h2 => by
  rw [upd_ne (fun z => h2 (by rw [z]; exact h))]
  exact h1⟩
/-- something new that is thrown away -/
theorem Grow.drop {F H : Hp} {p : Addr} {o : HO} (s : Same F H) (h : H p = none) : Grow F H F (upd H p o) := ⟨Same.refl _, Same.up s (Same.free s h), Same.new h, fun _ h _ => h⟩
/-- a cell of one's own -/
structure Cell (F H : Hp) (a : Addr) (o : HO) : Prop where
  f : F a = none
  h : H a = some o
theorem Cell.grow {F H F' H' : Hp} {a : Addr} {o : HO} (c : Cell F H a o) (g : Grow F H F' H') : Cell F' H' a o := ⟨g.apart a c.f (by rw [c.h]; simp), g.hh _ _ c.h⟩
theorem Cell.set {F H : Hp} {a : Addr} {o u : HO} (c : Cell F H a o) : Cell F (upd H a u) a u := ⟨c.f, upd_same⟩
theorem Cell.other {F H : Hp} {a b : Addr} {o u : HO} (c : Cell F H a o) (h : a ≠ b) : Cell F (upd H b u) a o := ⟨c.f, by rw [upd_ne h]; exact c.h⟩
theorem Cell.new {F H : Hp} {p : Addr} {o : HO} (s : Same F H) (h : H p = none) : Cell F (upd H p o) p o := ⟨Same.free s h, upd_same⟩
/-- .. is given away: from now on it stands -/
theorem Cell.close {F H : Hp} {a : Addr} {o : HO} (s : Same F H) (c : Cell F H a o) : Same F (upd F a o) ∧ Same (upd F a o) H := ⟨Same.new c.f, fun b x e => by
  by_cases h : b = a
  · subst h
    rw [upd_same] at e
    cases e
    exact c.h
  · rw [upd_ne h] at e
    exact s _ _ e⟩
theorem SqL.f {K : PySem.W.Frag} {F H : Hp} {a : Addr} {xs : List V} (s : Same F H) (h : SqL K F a xs) : SqL K H a xs := s.seq h
/-! depth of data -/
inductive Sh : Nat → PyData → Prop
  | none {n : Nat} : Sh n .none
  | bool {n : Nat} {b : Bool} : Sh n (.bool b)
  | int {n : Nat} {i : Int} : Sh n (.int i)
  | str {n : Nat} {x : Str} : Sh n (.str x)
  | list {n : Nat} {ds : List PyData} (h : ds.length ≤ 16777216) (hs : ∀ d ∈ ds, Sh n d) : Sh (n + 1) (.list ds)
  | tuple {n : Nat} {ds : List PyData} (h : ds.length ≤ 16777216) (hs : ∀ d ∈ ds, Sh n d) : Sh (n + 1) (.tuple ds)
theorem atNat {α : Type} {xs : List α} {i : Nat} {v : α} (h : xs[i]? = some v) : atI xs (i : Int) = some v := atI_nat h
/-- the turns of a range -/
theorem range_mem {lo hi : Int} {x : V} (h : x ∈ rangeV lo hi) : ∃ k : Int, x = .int k ∧ lo ≤ k ∧ k < hi := by
  unfold rangeV at h
  obtain ⟨i, hi, rfl⟩ := List.mem_map.mp h
  have := List.mem_range.mp hi
  exact ⟨_, rfl, by omega, by omega⟩
theorem kit_of {a b : String} {r : Bool} {p : Bool → Prop} (h : kitB a b = some r) : (∃ x, kitB a b = some x ∧ p x) = p r := propext ⟨fun ⟨x, e, q⟩ => by rw [h] at e; cases e; exact q, fun q => ⟨r, h, q⟩⟩
theorem kt1 {p : Bool → Prop} : (∃ x, kitB "NoneType" "bool" = some x ∧ p x) = p false := kit_of (by decide +kernel)
theorem kt2 {p : Bool → Prop} : (∃ x, kitB "NoneType" "int" = some x ∧ p x) = p false := kit_of (by decide +kernel)
theorem kt3 {p : Bool → Prop} : (∃ x, kitB "NoneType" "str" = some x ∧ p x) = p false := kit_of (by decide +kernel)
theorem kt4 {p : Bool → Prop} : (∃ x, kitB "NoneType" "list" = some x ∧ p x) = p false := kit_of (by decide +kernel)
theorem kt5 {p : Bool → Prop} : (∃ x, kitB "NoneType" "tuple" = some x ∧ p x) = p false := kit_of (by decide +kernel)
theorem kt6 {p : Bool → Prop} : (∃ x, kitB "NoneType" "dict" = some x ∧ p x) = p false := kit_of (by decide +kernel)
theorem kt7 {p : Bool → Prop} : (∃ x, kitB "bool" "bool" = some x ∧ p x) = p true := kit_of (by decide +kernel)
theorem kt8 {p : Bool → Prop} : (∃ x, kitB "bool" "int" = some x ∧ p x) = p true := kit_of (by decide +kernel)
theorem kt9 {p : Bool → Prop} : (∃ x, kitB "bool" "str" = some x ∧ p x) = p false := kit_of (by decide +kernel)
theorem kt10 {p : Bool → Prop} : (∃ x, kitB "bool" "list" = some x ∧ p x) = p false := kit_of (by decide +kernel)
theorem kt11 {p : Bool → Prop} : (∃ x, kitB "bool" "tuple" = some x ∧ p x) = p false := kit_of (by decide +kernel)
theorem kt12 {p : Bool → Prop} : (∃ x, kitB "bool" "dict" = some x ∧ p x) = p false := kit_of (by decide +kernel)
theorem kt13 {p : Bool → Prop} : (∃ x, kitB "int" "bool" = some x ∧ p x) = p false := kit_of (by decide +kernel)
theorem kt14 {p : Bool → Prop} : (∃ x, kitB "int" "int" = some x ∧ p x) = p true := kit_of (by decide +kernel)
theorem kt15 {p : Bool → Prop} : (∃ x, kitB "int" "str" = some x ∧ p x) = p false := kit_of (by decide +kernel)
theorem kt16 {p : Bool → Prop} : (∃ x, kitB "int" "list" = some x ∧ p x) = p false := kit_of (by decide +kernel)
theorem kt17 {p : Bool → Prop} : (∃ x, kitB "int" "tuple" = some x ∧ p x) = p false := kit_of (by decide +kernel)
theorem kt18 {p : Bool → Prop} : (∃ x, kitB "int" "dict" = some x ∧ p x) = p false := kit_of (by decide +kernel)
theorem kt19 {p : Bool → Prop} : (∃ x, kitB "str" "bool" = some x ∧ p x) = p false := kit_of (by decide +kernel)
theorem kt20 {p : Bool → Prop} : (∃ x, kitB "str" "int" = some x ∧ p x) = p false := kit_of (by decide +kernel)
theorem kt21 {p : Bool → Prop} : (∃ x, kitB "str" "str" = some x ∧ p x) = p true := kit_of (by decide +kernel)
theorem kt22 {p : Bool → Prop} : (∃ x, kitB "str" "list" = some x ∧ p x) = p false := kit_of (by decide +kernel)
theorem kt23 {p : Bool → Prop} : (∃ x, kitB "str" "tuple" = some x ∧ p x) = p false := kit_of (by decide +kernel)
theorem kt24 {p : Bool → Prop} : (∃ x, kitB "str" "dict" = some x ∧ p x) = p false := kit_of (by decide +kernel)
theorem kt25 {p : Bool → Prop} : (∃ x, kitB "list" "bool" = some x ∧ p x) = p false := kit_of (by decide +kernel)
theorem kt26 {p : Bool → Prop} : (∃ x, kitB "list" "int" = some x ∧ p x) = p false := kit_of (by decide +kernel)
theorem kt27 {p : Bool → Prop} : (∃ x, kitB "list" "str" = some x ∧ p x) = p false := kit_of (by decide +kernel)
theorem kt28 {p : Bool → Prop} : (∃ x, kitB "list" "list" = some x ∧ p x) = p true := kit_of (by decide +kernel)
theorem kt29 {p : Bool → Prop} : (∃ x, kitB "list" "tuple" = some x ∧ p x) = p false := kit_of (by decide +kernel)
theorem kt30 {p : Bool → Prop} : (∃ x, kitB "list" "dict" = some x ∧ p x) = p false := kit_of (by decide +kernel)
theorem kt31 {p : Bool → Prop} : (∃ x, kitB "tuple" "bool" = some x ∧ p x) = p false := kit_of (by decide +kernel)
theorem kt32 {p : Bool → Prop} : (∃ x, kitB "tuple" "int" = some x ∧ p x) = p false := kit_of (by decide +kernel)
theorem kt33 {p : Bool → Prop} : (∃ x, kitB "tuple" "str" = some x ∧ p x) = p false := kit_of (by decide +kernel)
theorem kt34 {p : Bool → Prop} : (∃ x, kitB "tuple" "list" = some x ∧ p x) = p false := kit_of (by decide +kernel)
theorem kt35 {p : Bool → Prop} : (∃ x, kitB "tuple" "tuple" = some x ∧ p x) = p true := kit_of (by decide +kernel)
theorem kt36 {p : Bool → Prop} : (∃ x, kitB "tuple" "dict" = some x ∧ p x) = p false := kit_of (by decide +kernel)
theorem kt37 {p : Bool → Prop} : (∃ x, kitB "dict" "bool" = some x ∧ p x) = p false := kit_of (by decide +kernel)
theorem kt38 {p : Bool → Prop} : (∃ x, kitB "dict" "int" = some x ∧ p x) = p false := kit_of (by decide +kernel)
theorem kt39 {p : Bool → Prop} : (∃ x, kitB "dict" "str" = some x ∧ p x) = p false := kit_of (by decide +kernel)
theorem kt40 {p : Bool → Prop} : (∃ x, kitB "dict" "list" = some x ∧ p x) = p false := kit_of (by decide +kernel)
theorem kt41 {p : Bool → Prop} : (∃ x, kitB "dict" "tuple" = some x ∧ p x) = p false := kit_of (by decide +kernel)
theorem kt42 {p : Bool → Prop} : (∃ x, kitB "dict" "dict" = some x ∧ p x) = p true := kit_of (by decide +kernel)
end Hf
set_option Elab.async false
set_option linter.all false
set_option maxRecDepth 100000
set_option maxHeartbeats 4000000
namespace Hf
open PySem PySem.Spec L2 PyProof.Rows
local macro_rules | `(tactic| walk_at "ex") => `(tactic| try simp only [sSeq, sSet, sExp, sRet, sRetN, sNil, sBrk, sCnt, eBin, eUn, eVar, eLit, eAnd, eOr, eNot, eChain, eIf, eTup, eLst, eSl, eCall, eBlt, aNil, aCons, oNone, oPart,
  tTst, tAnd, tOr, tNot, gNm, gPr, sFor, sForP, cSq, cTx, cR1, cR2, cRv, cEn, cZp, eLc, eLcP, tYes, eb6, eb7, eb12, sAsg, gTr, sSub, sNever, sAug, uTuple, eIsC, eFld, sFld, sFldAug, eMth, eNew, eb8, eb9, eb10, eb11, eMs, eMl, uFind, uStarts, uSplit, uRstrip, uIsdigit, uAppend, uPop, uPop0, uExtend, eb1, eb2, eb3, eb4, eb5, eo1, eo2, eo3, eo4, eo5, eo6, eo7, eo8, ec1, ec2, ec3, ec4, ec5, ec6, ec7, ec8, ec9, ec10, ec11, ex1, ex2, ex3, ex4, el1, el2, el3, el4, el5, el6, el7, el8, el9, el10, kt1, kt2, kt3, kt4, kt5, kt6, kt7, kt8, kt9, kt10, kt11, kt12, kt13, kt14, kt15, kt16, kt17, kt18, kt19, kt20, kt21, kt22, kt23, kt24, kt25, kt26, kt27, kt28, kt29, kt30, kt31, kt32, kt33, kt34, kt35, kt36, kt37, kt38, kt39, kt40, kt41, kt42, et1, et2, et3, et4, et5, et6,
  List.getElem?_cons_zero, List.getElem?_cons_succ, List.set, decide_eq_true_eq, Bool.not_eq_true', decide_eq_false_iff_not, Bool.not_not, ↓reduceIte, Bool.false_eq_true, Bool.not_true, Bool.not_false, Bool.true_eq_false, reduceCtorEq])
local macro_rules | `(tactic| walk_at "side") => `(tactic| first | decide | omega | exact ⟨by decide, by decide⟩ | decide +kernel | (simp only [List.length_cons, List.length_nil, List.length_map, List.length_append]; first | decide | omega))
local macro_rules | `(tactic| walk_at "sd") => `(tactic| repeat (refine And.intro (by walk_at "side") ?_))
local macro_rules | `(tactic| walk_at "if") => `(tactic| (refine if_split ?_; walk_at "ex"))
def topS (i : Nat) : Stmt := PySem.Challenge.pw_handflow_k42_yard.main.body.getD i (.Pass ⟨0, 0, 0, 0⟩)
section
variable {P : Program} {w : World} {K : PySem.W.Frag} {mg : Str → Option Value} {base : Heap} {Γ : Gm}
abbrev s_L_mixed : Stmt := topS 4
theorem sc_L_mixed : FnScope ["_law_cell_here", "_law_k", "_law_m"] ["_law_cell_here", "_law_k"] (defScope s_L_mixed) := ⟨rfl, rfl, rfl, by decide +kernel, rfl, by decide +kernel, by decide +kernel⟩
def b_L_mixed (K : PySem.W.Frag) (Γ : Gm) : TS :=
  (sSeq (sSet 2 (eBin (rMod) (eBin (uAdd K) (eBin (uMul) (eBin (rMod) (eVar 0) (eLit (.int 2147483647))) (eLit (.int 48271))) (eBin (uMul) (eBin (uAdd K) (eBin (uAdd K) (eBin (uMul) (eVar 1) (eVar 1)) (eBin (uMul) (eLit (.int 3)) (eVar 1))) (eLit (.int 7))) (eLit (.int 69621)))) (eLit (.int 2147483647))))
  (sRet (eBin (rMod) (eBin (uMul) (eVar 2) (eVar 2)) (eLit (.int 2147483647)))))
structure sp_L_mixed (K : PySem.W.Frag) (Γ : Gm) (vs : List V) (H : Hp) (Q : VK) (E : XK) : Prop where
  run : match vs with
  | [a0, a1] => b_L_mixed K Γ { nx := fun _ H' => Q .non H', rt := Q } [some a0, some a1, none] H
  | _ => False
theorem okf_L_mixed {f : Addr} {fd : FuncData} (F : L2.Fun K "_law_mixed" "_law_mixed" s_L_mixed f fd)  : FnOk P w K mg base CX0 (0 + 1) f fd ["_law_cell_here", "_law_k"] (sp_L_mixed K Γ) := by
  have nd := sc_L_mixed.nd
  refine F.ok (k := 0) sc_L_mixed (fun vs H Q E h => ?_) (fun cdv A outer s H vs Q E hr h => ⟨b_L_mixed K Γ, ?_, ?_⟩)
  · have h := h.run; split at h; exact rfl; exact h.elim
  · have hu64 := hr.units
    have hu1 := hu_of hr
    exact (zCons (zSet (i := 2) nd rfl (by first | exact .inl rfl | exact .inr rfl) (dBin oMod (dBin oAdd (dBin oMul (dBin oMod (dVar 0) dInt) dInt) (dBin oMul (dBin oAdd (dBin oAdd (dBin oMul (dVar 1) (dVar 1)) (dBin oMul dInt (dVar 1))) dInt) dInt)) dInt))
  (zOne (zRet (dBin oMod (dBin oMul (dVar 2) (dVar 2)) dInt))))
  · have h := h.run; split at h; exact h; exact h.elim
theorem bd_L_mixed {f : Addr} {fd : FuncData} (F : L2.Fun K "_law_mixed" "_law_mixed" s_L_mixed f fd) : Binds K fd ["_law_cell_here", "_law_k"] [] := F.binds (fun _ _ _ _ _ _ us hl => match us, hl with | [_, _], _ => rfl)
abbrev s_L_number : Stmt := topS 5
theorem sc_L_number : FnScope ["_law_cell_here", "_law_way", "_law_c"] ["_law_cell_here", "_law_way"] (defScope s_L_number) := ⟨rfl, rfl, rfl, by decide +kernel, rfl, by decide +kernel, by decide +kernel⟩
def b_L_number (K : PySem.W.Frag) (Γ : Gm) : TS :=
  (sSeq (sSet 2 (eBin (rMod) (eVar 0) (eBin (rPow) (eLit (.int 10)) (eLit (.int 60)))))
  (sSeq (sIf (tTst (eBin (uEq K) (eBin (rMod) (eVar 1) (eLit (.int 5))) (eLit (.int 0)))) (sRet (eBin (rMod) (eVar 2) (eLit (.int 3)))) sNil)
  (sSeq (sIf (tTst (eBin (uEq K) (eBin (rMod) (eVar 1) (eLit (.int 5))) (eLit (.int 1)))) (sRet (eBin (rSub) (eBin (rSub) (eBin (rPow) (eLit (.int 10)) (eLit (.int 30))) (eLit (.int 1))) (eBin (rMod) (eVar 2) (eLit (.int 3))))) sNil)
  (sSeq (sIf (tTst (eBin (uEq K) (eBin (rMod) (eVar 1) (eLit (.int 5))) (eLit (.int 2)))) (sRet (eBin (rMod) (eVar 2) (eBin (rPow) (eLit (.int 10)) (eLit (.int 30))))) sNil)
  (sRet (eBin (rMod) (eBin (uMul) (eBin (uMul) (eBin (uAdd K) (eVar 2) (eLit (.int 1))) (eBin (uAdd K) (eBin (uMul) (eVar 1) (eVar 1)) (eLit (.int 11)))) (eLit (.int 618970019642690137449562111))) (eBin (rPow) (eLit (.int 10)) (eLit (.int 30)))))))))
structure sp_L_number (K : PySem.W.Frag) (Γ : Gm) (vs : List V) (H : Hp) (Q : VK) (E : XK) : Prop where
  run : match vs with
  | [a0, a1] => b_L_number K Γ { nx := fun _ H' => Q .non H', rt := Q } [some a0, some a1, none] H
  | _ => False
theorem okf_L_number {f : Addr} {fd : FuncData} (F : L2.Fun K "_law_number" "_law_number" s_L_number f fd)  : FnOk P w K mg base CX0 (0 + 1) f fd ["_law_cell_here", "_law_way"] (sp_L_number K Γ) := by
  have nd := sc_L_number.nd
  refine F.ok (k := 0) sc_L_number (fun vs H Q E h => ?_) (fun cdv A outer s H vs Q E hr h => ⟨b_L_number K Γ, ?_, ?_⟩)
  · have h := h.run; split at h; exact rfl; exact h.elim
  · have hu64 := hr.units
    have hu1 := hu_of hr
    exact (zCons (zSet (i := 2) nd rfl (by first | exact .inl rfl | exact .inr rfl) (dBin oMod (dVar 0) (dBin oPow dInt dInt)))
  (zCons (zIf (qCmp (oEq hu64) (dBin oMod (dVar 1) dInt) dInt) (zOne (zRet (dBin oMod (dVar 2) dInt))) zNil)
  (zCons (zIf (qCmp (oEq hu64) (dBin oMod (dVar 1) dInt) dInt) (zOne (zRet (dBin oSub (dBin oSub (dBin oPow dInt dInt) dInt) (dBin oMod (dVar 2) dInt)))) zNil)
  (zCons (zIf (qCmp (oEq hu64) (dBin oMod (dVar 1) dInt) dInt) (zOne (zRet (dBin oMod (dVar 2) (dBin oPow dInt dInt)))) zNil)
  (zOne (zRet (dBin oMod (dBin oMul (dBin oMul (dBin oAdd (dVar 2) dInt) (dBin oAdd (dBin oMul (dVar 1) (dVar 1)) dInt)) dInt) (dBin oPow dInt dInt))))))))
  · have h := h.run; split at h; exact h; exact h.elim
theorem bd_L_number {f : Addr} {fd : FuncData} (F : L2.Fun K "_law_number" "_law_number" s_L_number f fd) : Binds K fd ["_law_cell_here", "_law_way"] [] := F.binds (fun _ _ _ _ _ _ us hl => match us, hl with | [_, _], _ => rfl)
abbrev s_L_line : Stmt := topS 7
theorem sc_L_line : FnScope ["_law_cell_here", "_law_k", "_law_m", "_law_length", "_law_many", "_law_j"] ["_law_cell_here", "_law_k"] (defScope s_L_line) := ⟨rfl, rfl, rfl, by decide +kernel, rfl, by decide +kernel, by decide +kernel⟩
def b_L_line (K : PySem.W.Frag) (Γ : Gm) : TS :=
  (sSeq (sSet 2 (eCall (sp_L_mixed K Γ) E0 (aCons (eVar 0) (aCons (eBin (uAdd K) (eVar 1) (eLit (.int 11))) aNil))))
  (sSeq (sSet 3 (eBin (uIx K) (eLst (aCons (eLit (.int 1)) (aCons (eLit (.int 2)) (aCons (eLit (.int 3)) (aCons (eLit (.int 4)) (aCons (eLit .non) aNil)))))) (eBin (rMod) (eVar 2) (eLit (.int 5)))))
  (sSeq (sSet 4 (eBin (rMod) (eBin (rDiv) (eVar 2) (eLit (.int 5))) (eLit (.int 4))))
  (sSeq (sIf (tTst (eBin (uIs true) (eVar 3) (eLit .non))) (sSet 4 (eBlt (uMin) (aCons (eVar 4) (aCons (eVar 3) aNil)))) sNil)
  (sRet (eTup (aCons (eVar 3) (aCons (eBlt (uTuple K) (aCons (eLc (cR1 (eVar 4)) (gNm 5) tYes (eCall (sp_L_number K Γ) E0 (aCons (eBin (uAdd K) (eVar 0) (eVar 5)) (aCons (eBin (uAdd K) (eBin (rDiv) (eVar 2) (eLit (.int 20))) (eVar 5)) aNil))) [5]) aNil)) aNil))))))))
structure sp_L_line (K : PySem.W.Frag) (Γ : Gm) (vs : List V) (H : Hp) (Q : VK) (E : XK) : Prop where
  run : match vs with
  | [a0, a1] => b_L_line K Γ { nx := fun _ H' => Q .non H', rt := Q } [some a0, some a1, none, none, none, none] H
  | _ => False
theorem okf_L_line {f : Addr} {fd : FuncData} (F : L2.Fun K "_law_line" "_law_line" s_L_line f fd) (F_L_mixed : Fn P w K mg base CX0 (1) "_law_mixed" ["_law_cell_here", "_law_k"] (sp_L_mixed K Γ)) (F_L_number : Fn P w K mg base CX0 (1) "_law_number" ["_law_cell_here", "_law_way"] (sp_L_number K Γ)) (m_min : mg "min" = none) (m_range : mg "range" = none) (m_tuple : mg "tuple" = none) : FnOk P w K mg base CX0 (1 + 1) f fd ["_law_cell_here", "_law_k"] (sp_L_line K Γ) := by
  have nd := sc_L_line.nd
  refine F.ok (k := 1) sc_L_line (fun vs H Q E h => ?_) (fun cdv A outer s H vs Q E hr h => ⟨b_L_line K Γ, ?_, ?_⟩)
  · have h := h.run; split at h; exact rfl; exact h.elim
  · have hu64 := hr.units
    have hu1 := hu_of hr
    exact (zCons (zSet (i := 2) nd rfl (by first | exact .inl rfl | exact .inr rfl) (dFn F_L_mixed (hr.mono (by omega)) rfl pass0 (kCons (dVar 0) (kCons (dBin oAdd (dVar 1) dInt) kNil))))
  (zCons (zSet (i := 3) nd rfl (by first | exact .inl rfl | exact .inr rfl) (dIx (dLst (kCons dInt (kCons dInt (kCons dInt (kCons dInt (kCons dNon kNil)))))) (dBin oMod (dVar 2) dInt)))
  (zCons (zSet (i := 4) nd rfl (by first | exact .inl rfl | exact .inr rfl) (dBin oMod (dBin oDiv (dVar 2) dInt) dInt))
  (zCons (zIf (qCmp oIsNot (dVar 3) dNon) (zOne (zSet (i := 4) nd rfl (by first | exact .inl rfl | exact .inr rfl) (dBlt (bMin rfl) rfl m_min (by decide +kernel) (kCons (dVar 4) (kCons (dVar 3) kNil))))) zNil)
  (zOne (zRet (dTup (kCons (dVar 3) (kCons (dBty bTuple rfl m_tuple (by decide +kernel) (kCons (dLc (own := [("_law_j", 5)]) rfl nd (kR1 rfl m_range (dVar 4)) (blkOk_by (by first | (show blkC ["_law_cell_here", "_law_k", "_law_m", "_law_length", "_law_many", "_law_j"] (defScope s_L_line) _ _ = true; decide +kernel) | rfl)) (fun _ _ _ _ _ => (tgNm (i := 5) nd rfl (by first | exact .inl rfl | exact .inr rfl))) (fun _ _ _ _ _ => iNo) (fun _ _ _ _ _ => (dFn F_L_number (hr.mono (by omega)) rfl pass0 (kCons (dBin oAdd (dVar 0) (dVar 5)) (kCons (dBin oAdd (dBin oDiv (dVar 2) dInt) (dVar 5)) kNil))))) kNil)) kNil)))))))))
  · have h := h.run; split at h; exact h; exact h.elim
theorem bd_L_line {f : Addr} {fd : FuncData} (F : L2.Fun K "_law_line" "_law_line" s_L_line f fd) : Binds K fd ["_law_cell_here", "_law_k"] [] := F.binds (fun _ _ _ _ _ _ us hl => match us, hl with | [_, _], _ => rfl)
abbrev s_Yard___init__ : Stmt := inClass (topS 1) 0
theorem sc_Yard___init__ : FnScope ["self", "lines", "line"] ["self", "lines"] (defScope s_Yard___init__) := ⟨rfl, rfl, rfl, by decide +kernel, rfl, by decide +kernel, by decide +kernel⟩
def b_Yard___init__ (K : PySem.W.Frag) (Γ : Gm) : TS :=
  (sSeq (sFld Γ ["Yard"] "lengths" (eVar 0) (eLc (cSq K (eVar 1)) (gNm 2) tYes (eBin (uIx K) (eVar 2) (eLit (.int 0))) [2]))
  (sFld Γ ["Yard"] "rows" (eVar 0) (eLc (cSq K (eVar 1)) (gNm 2) tYes (eBlt (uList K) (aCons (eBin (uIx K) (eVar 2) (eLit (.int 1))) aNil)) [2])))
structure sp_Yard___init__ (K : PySem.W.Frag) (Γ : Gm) (vs : List V) (H : Hp) (Q : VK) (E : XK) : Prop where
  run : match vs with
  | [a0, a1] => b_Yard___init__ K Γ { nx := fun _ H' => Q .non H', rt := Q } [some a0, some a1, none] H
  | _ => False
theorem okf_Yard___init__ {f : Addr} {fd : FuncData} (F : L2.Fun K "__init__" "Yard.__init__" s_Yard___init__ f fd) (m_list : mg "list" = none) (W_lengths : Flds K Γ ["Yard"] "lengths") (W_rows : Flds K Γ ["Yard"] "rows") : FnOk P w K mg base CX0 (0 + 1) f fd ["self", "lines"] (sp_Yard___init__ K Γ) := by
  have nd := sc_Yard___init__.nd
  refine F.ok (k := 0) sc_Yard___init__ (fun vs H Q E h => ?_) (fun cdv A outer s H vs Q E hr h => ⟨b_Yard___init__ K Γ, ?_, ?_⟩)
  · have h := h.run; split at h; exact rfl; exact h.elim
  · have hu64 := hr.units
    have hu1 := hu_of hr
    exact (zCons (zFld W_lengths (dVar 0) (dLc (own := [("line", 2)]) rfl nd (kSq (dVar 1)) (blkOk_by (by first | (show blkC ["self", "lines", "line"] (defScope s_Yard___init__) _ _ = true; decide +kernel) | rfl)) (fun _ _ _ _ _ => (tgNm (i := 2) nd rfl (by first | exact .inl rfl | exact .inr rfl))) (fun _ _ _ _ _ => iNo) (fun _ _ _ _ _ => (dIx (dVar 2) dInt))))
  (zOne (zFld W_rows (dVar 0) (dLc (own := [("line", 2)]) rfl nd (kSq (dVar 1)) (blkOk_by (by first | (show blkC ["self", "lines", "line"] (defScope s_Yard___init__) _ _ = true; decide +kernel) | rfl)) (fun _ _ _ _ _ => (tgNm (i := 2) nd rfl (by first | exact .inl rfl | exact .inr rfl))) (fun _ _ _ _ _ => iNo) (fun _ _ _ _ _ => (dBty bList rfl m_list (by decide +kernel) (kCons (dIx (dVar 2) dInt) kNil)))))))
  · have h := h.run; split at h; exact h; exact h.elim
theorem bd_Yard___init__ {f : Addr} {fd : FuncData} (F : L2.Fun K "__init__" "Yard.__init__" s_Yard___init__ f fd) : Binds K fd ["self", "lines"] [] := F.binds (fun _ _ _ _ _ _ us hl => match us, hl with | [_, _], _ => rfl)
abbrev s_L_cell : Stmt := topS 3
theorem sc_L_cell : FnScope ["_law_script", "_law_k"] ["_law_script", "_law_k"] (defScope s_L_cell) := ⟨rfl, rfl, rfl, by decide +kernel, rfl, by decide +kernel, by decide +kernel⟩
def b_L_cell (K : PySem.W.Frag) (Γ : Gm) : TS :=
  (sSeq (sIf (tTst (eBin (rLt) (eVar 1) (eBlt (uLen K) (aCons (eVar 0) aNil)))) (sRet (eBin (uIx K) (eVar 0) (eVar 1))) sNil)
  (sRet (eLit (.int 0))))
structure sp_L_cell (K : PySem.W.Frag) (Γ : Gm) (vs : List V) (H : Hp) (Q : VK) (E : XK) : Prop where
  run : match vs with
  | [a0, a1] => b_L_cell K Γ { nx := fun _ H' => Q .non H', rt := Q } [some a0, some a1] H
  | _ => False
theorem okf_L_cell {f : Addr} {fd : FuncData} (F : L2.Fun K "_law_cell" "_law_cell" s_L_cell f fd) (m_len : mg "len" = none) : FnOk P w K mg base CX0 (0 + 1) f fd ["_law_script", "_law_k"] (sp_L_cell K Γ) := by
  have nd := sc_L_cell.nd
  refine F.ok (k := 0) sc_L_cell (fun vs H Q E h => ?_) (fun cdv A outer s H vs Q E hr h => ⟨b_L_cell K Γ, ?_, ?_⟩)
  · have h := h.run; split at h; exact rfl; exact h.elim
  · have hu64 := hr.units
    have hu1 := hu_of hr
    exact (zCons (zIf (qCmp oLt (dVar 1) (dBlt bLen rfl m_len (by decide +kernel) (kCons (dVar 0) kNil))) (zOne (zRet (dIx (dVar 0) (dVar 1)))) zNil)
  (zOne (zRet dInt)))
  · have h := h.run; split at h; exact h; exact h.elim
theorem bd_L_cell {f : Addr} {fd : FuncData} (F : L2.Fun K "_law_cell" "_law_cell" s_L_cell f fd) : Binds K fd ["_law_script", "_law_k"] [] := F.binds (fun _ _ _ _ _ _ us hl => match us, hl with | [_, _], _ => rfl)
abbrev s_L_roomy : Stmt := topS 8
theorem sc_L_roomy : FnScope ["_law_line_here", "_law_row"] ["_law_line_here", "_law_row"] (defScope s_L_roomy) := ⟨rfl, rfl, rfl, by decide +kernel, rfl, by decide +kernel, by decide +kernel⟩
def b_L_roomy (K : PySem.W.Frag) (Γ : Gm) : TS :=
  (sRet (eOr (eBin (uIs false) (eBin (uIx K) (eVar 0) (eLit (.int 0))) (eLit .non)) (eBin (rLt) (eBlt (uLen K) (aCons (eVar 1) aNil)) (eBin (uIx K) (eVar 0) (eLit (.int 0))))))
structure sp_L_roomy (K : PySem.W.Frag) (Γ : Gm) (vs : List V) (H : Hp) (Q : VK) (E : XK) : Prop where
  run : match vs with
  | [a0, a1] => b_L_roomy K Γ { nx := fun _ H' => Q .non H', rt := Q } [some a0, some a1] H
  | _ => False
theorem okf_L_roomy {f : Addr} {fd : FuncData} (F : L2.Fun K "_law_roomy" "_law_roomy" s_L_roomy f fd) (m_len : mg "len" = none) : FnOk P w K mg base CX0 (0 + 1) f fd ["_law_line_here", "_law_row"] (sp_L_roomy K Γ) := by
  have nd := sc_L_roomy.nd
  refine F.ok (k := 0) sc_L_roomy (fun vs H Q E h => ?_) (fun cdv A outer s H vs Q E hr h => ⟨b_L_roomy K Γ, ?_, ?_⟩)
  · have h := h.run; split at h; exact rfl; exact h.elim
  · have hu64 := hr.units
    have hu1 := hu_of hr
    exact (zOne (zRet (dOr (dCmp oIs (dIx (dVar 0) dInt) dNon) (dOne (dCmp oLt (dBlt bLen rfl m_len (by decide +kernel) (kCons (dVar 1) kNil)) (dIx (dVar 0) dInt))))))
  · have h := h.run; split at h; exact h; exact h.elim
theorem bd_L_roomy {f : Addr} {fd : FuncData} (F : L2.Fun K "_law_roomy" "_law_roomy" s_L_roomy f fd) : Binds K fd ["_law_line_here", "_law_row"] [] := F.binds (fun _ _ _ _ _ _ us hl => match us, hl with | [_, _], _ => rfl)
abbrev s_L_alike : Stmt := topS 6
theorem sc_L_alike : FnScope ["_law_found", "_law_due", "_law_k"] ["_law_found", "_law_due"] (defScope s_L_alike) := ⟨rfl, rfl, rfl, by decide +kernel, rfl, by decide +kernel, by decide +kernel⟩
def l_L_alike_1 (K : PySem.W.Frag) (Γ : Gm) (self_L_alike : Sp) : TS :=
  (sIf (tNot (tTst (eCall (self_L_alike) E0 (aCons (eBin (uIx K) (eVar 0) (eVar 2)) (aCons (eBin (uIx K) (eVar 1) (eVar 2)) aNil))))) (sRet (eLit (.bl false))) sNil)
theorem el_L_alike_1 {K : PySem.W.Frag} {Γ : Gm} {self_L_alike : Sp} {D : Ends} {σ : L2.St} {H : Hp} : l_L_alike_1 K Γ self_L_alike D σ H = ((sIf (tNot (tTst (eCall (self_L_alike) E0 (aCons (eBin (uIx K) (eVar 0) (eVar 2)) (aCons (eBin (uIx K) (eVar 1) (eVar 2)) aNil))))) (sRet (eLit (.bl false))) sNil)) D σ H := rfl
def b_L_alike (K : PySem.W.Frag) (Γ : Gm) (self_L_alike : Sp) : TS :=
  (sSeq (sIf (tTst (eBin (uIs false) (eVar 1) (eLit .non))) (sRet (eBin (uIs false) (eVar 0) (eLit .non))) sNil)
  (sSeq (sIf (tTst (eBlt (uIsi K) (aCons (eVar 1) (aCons (eLit (.ty "bool")) aNil)))) (sRet (eAnd (eBlt (uIsi K) (aCons (eVar 0) (aCons (eLit (.ty "bool")) aNil))) (eBin (uEq K) (eVar 0) (eVar 1)))) sNil)
  (sSeq (sIf (tTst (eBlt (uIsi K) (aCons (eVar 1) (aCons (eLit (.ty "int")) aNil)))) (sRet (eAnd (eBlt (uIsi K) (aCons (eVar 0) (aCons (eLit (.ty "int")) aNil))) (eAnd (eNot (eBlt (uIsi K) (aCons (eVar 0) (aCons (eLit (.ty "bool")) aNil)))) (eBin (uEq K) (eVar 0) (eVar 1))))) sNil)
  (sSeq (sIf (tTst (eBlt (uIsi K) (aCons (eVar 1) (aCons (eLit (.ty "str")) aNil)))) (sRet (eAnd (eBlt (uIsi K) (aCons (eVar 0) (aCons (eLit (.ty "str")) aNil))) (eBin (uEq K) (eVar 0) (eVar 1)))) sNil)
  (sSeq (sIf (tAnd (tTst (eBlt (uIsi K) (aCons (eVar 1) (aCons (eLit (.ty "tuple")) aNil)))) (tNot (tTst (eBlt (uIsi K) (aCons (eVar 0) (aCons (eLit (.ty "tuple")) aNil)))))) (sRet (eLit (.bl false))) sNil)
  (sSeq (sIf (tAnd (tTst (eBlt (uIsi K) (aCons (eVar 1) (aCons (eLit (.ty "list")) aNil)))) (tNot (tTst (eBlt (uIsi K) (aCons (eVar 0) (aCons (eLit (.ty "list")) aNil)))))) (sRet (eLit (.bl false))) sNil)
  (sSeq (sIf (tTst (eBin (uNe K) (eBlt (uLen K) (aCons (eVar 0) aNil)) (eBlt (uLen K) (aCons (eVar 1) aNil)))) (sRet (eLit (.bl false))) sNil)
  (sSeq (sFor (cR1 (eBlt (uLen K) (aCons (eVar 1) aNil))) (gNm 2) (l_L_alike_1 K Γ self_L_alike))
  (sRet (eLit (.bl true)))))))))))
def sp_L_alike (K : PySem.W.Frag) (Γ : Gm) : Nat → Sp
  | 0 => fun _ _ _ _ => False
  | n + 1 => fun vs H Q _ => Bx (match vs with
  | [a0, a1] => b_L_alike K Γ (sp_L_alike K Γ n) { nx := fun _ H' => Q .non H', rt := Q } [some a0, some a1, none] H
  | _ => False)
theorem okf_L_alike {f : Addr} {fd : FuncData} (F : L2.Fun K "_law_alike" "_law_alike" s_L_alike f fd) (m_bool : mg "bool" = none) (m_int : mg "int" = none) (m_isinstance : mg "isinstance" = none) (m_len : mg "len" = none) (m_list : mg "list" = none) (m_range : mg "range" = none) (m_str : mg "str" = none) (m_tuple : mg "tuple" = none) {n : Nat} (F_L_alike : Fn P w K mg base CX0 (0 + n) "_law_alike" ["_law_found", "_law_due"] (sp_L_alike K Γ n)) : FnOk P w K mg base CX0 (0 + n + 1) f fd ["_law_found", "_law_due"] (sp_L_alike K Γ (n + 1)) := by
  have nd := sc_L_alike.nd
  refine F.ok (k := 0 + n) sc_L_alike (fun vs H Q E h => ?_) (fun cdv A outer s H vs Q E hr h => ⟨b_L_alike K Γ (sp_L_alike K Γ n), ?_, ?_⟩)
  · unfold sp_L_alike at h; have h := h.run; split at h; exact rfl; exact h.elim
  · have hu64 := hr.units
    have hu1 := hu_of hr
    exact (zCons (zIf (qCmp oIs (dVar 1) dNon) (zOne (zRet (dCmp oIs (dVar 0) dNon))) zNil)
  (zCons (zIf (qVal (dBlt bIsi rfl m_isinstance (by decide +kernel) (kCons (dVar 1) (kCons (dTy rfl m_bool (by decide +kernel)) kNil)))) (zOne (zRet (dAnd (dBlt bIsi rfl m_isinstance (by decide +kernel) (kCons (dVar 0) (kCons (dTy rfl m_bool (by decide +kernel)) kNil))) (dOne (dCmp (oEq hu64) (dVar 0) (dVar 1)))))) zNil)
  (zCons (zIf (qVal (dBlt bIsi rfl m_isinstance (by decide +kernel) (kCons (dVar 1) (kCons (dTy rfl m_int (by decide +kernel)) kNil)))) (zOne (zRet (dAnd (dBlt bIsi rfl m_isinstance (by decide +kernel) (kCons (dVar 0) (kCons (dTy rfl m_int (by decide +kernel)) kNil))) (dAnd (dNot (dBlt bIsi rfl m_isinstance (by decide +kernel) (kCons (dVar 0) (kCons (dTy rfl m_bool (by decide +kernel)) kNil)))) (dOne (dCmp (oEq hu64) (dVar 0) (dVar 1))))))) zNil)
  (zCons (zIf (qVal (dBlt bIsi rfl m_isinstance (by decide +kernel) (kCons (dVar 1) (kCons (dTy rfl m_str (by decide +kernel)) kNil)))) (zOne (zRet (dAnd (dBlt bIsi rfl m_isinstance (by decide +kernel) (kCons (dVar 0) (kCons (dTy rfl m_str (by decide +kernel)) kNil))) (dOne (dCmp (oEq hu64) (dVar 0) (dVar 1)))))) zNil)
  (zCons (zIf (PW.pt (qAnd (qVal (dBlt bIsi rfl m_isinstance (by decide +kernel) (kCons (dVar 1) (kCons (dTy rfl m_tuple (by decide +kernel)) kNil)))) (qAnd1 (qNot (qVal (dBlt bIsi rfl m_isinstance (by decide +kernel) (kCons (dVar 0) (kCons (dTy rfl m_tuple (by decide +kernel)) kNil)))))))) (zOne (zRet dBl)) zNil)
  (zCons (zIf (PW.pt (qAnd (qVal (dBlt bIsi rfl m_isinstance (by decide +kernel) (kCons (dVar 1) (kCons (dTy rfl m_list (by decide +kernel)) kNil)))) (qAnd1 (qNot (qVal (dBlt bIsi rfl m_isinstance (by decide +kernel) (kCons (dVar 0) (kCons (dTy rfl m_list (by decide +kernel)) kNil)))))))) (zOne (zRet dBl)) zNil)
  (zCons (zIf (qCmp (oNe hu64) (dBlt bLen rfl m_len (by decide +kernel) (kCons (dVar 0) kNil)) (dBlt bLen rfl m_len (by decide +kernel) (kCons (dVar 1) kNil))) (zOne (zRet dBl)) zNil)
  (zCons (zFor PassesOwn.never rfl (kR1 rfl m_range (dBlt bLen rfl m_len (by decide +kernel) (kCons (dVar 1) kNil))) (tgNm (i := 2) nd rfl (by first | exact .inl rfl | exact .inr rfl)) (zOne (zIf (qNot (qVal (dFn F_L_alike (hr.mono (by omega)) rfl pass0 (kCons (dIx (dVar 0) (dVar 2)) (kCons (dIx (dVar 1) (dVar 2)) kNil))))) (zOne (zRet dBl)) zNil)))
  (zOne (zRet dBl))))))))))
  · unfold sp_L_alike at h; have h := h.run; split at h; exact h; exact h.elim
theorem bd_L_alike {f : Addr} {fd : FuncData} (F : L2.Fun K "_law_alike" "_law_alike" s_L_alike f fd) : Binds K fd ["_law_found", "_law_due"] [] := F.binds (fun _ _ _ _ _ _ us hl => match us, hl with | [_, _], _ => rfl)
abbrev s_Yard_hand : Stmt := inClass (topS 1) 4
theorem sc_Yard_hand : FnScope ["self", "line", "thing"] ["self", "line", "thing"] (defScope s_Yard_hand) := ⟨rfl, rfl, rfl, by decide +kernel, rfl, by decide +kernel, by decide +kernel⟩
def b_Yard_hand (K : PySem.W.Frag) (Γ : Gm) : TS :=
  (sExp (eMl K uAppend (eBin (uIx K) (eFld Γ ["Yard"] "rows" (eVar 0)) (eVar 1)) (aCons (eVar 2) aNil)))
structure sp_Yard_hand (K : PySem.W.Frag) (Γ : Gm) (vs : List V) (H : Hp) (Q : VK) (E : XK) : Prop where
  run : match vs with
  | [a0, a1, a2] => b_Yard_hand K Γ { nx := fun _ H' => Q .non H', rt := Q } [some a0, some a1, some a2] H
  | _ => False
theorem okf_Yard_hand {f : Addr} {fd : FuncData} (F : L2.Fun K "hand" "Yard.hand" s_Yard_hand f fd) (W_rows : Flds K Γ ["Yard"] "rows") : FnOk P w K mg base CX0 (0 + 1) f fd ["self", "line", "thing"] (sp_Yard_hand K Γ) := by
  have nd := sc_Yard_hand.nd
  refine F.ok (k := 0) sc_Yard_hand (fun vs H Q E h => ?_) (fun cdv A outer s H vs Q E hr h => ⟨b_Yard_hand K Γ, ?_, ?_⟩)
  · have h := h.run; split at h; exact rfl; exact h.elim
  · have hu64 := hr.units
    have hu1 := hu_of hr
    exact (zOne (zExp (dMl PySem.F.slot_list_append PySem.F.type_list_append mAppend (dIx (dFld W_rows (dVar 0)) (dVar 1)) (kCons (dVar 2) kNil))))
  · have h := h.run; split at h; exact h; exact h.elim
theorem bd_Yard_hand {f : Addr} {fd : FuncData} (F : L2.Fun K "hand" "Yard.hand" s_Yard_hand f fd) : Binds K fd ["self", "line", "thing"] [] := F.binds (fun _ _ _ _ _ _ us hl => match us, hl with | [_, _, _], _ => rfl)
abbrev s_Yard_taken : Stmt := inClass (topS 1) 5
theorem sc_Yard_taken : FnScope ["self", "line"] ["self", "line"] (defScope s_Yard_taken) := ⟨rfl, rfl, rfl, by decide +kernel, rfl, by decide +kernel, by decide +kernel⟩
def b_Yard_taken (K : PySem.W.Frag) (Γ : Gm) : TS :=
  (sRet (eMl K uPop0 (eBin (uIx K) (eFld Γ ["Yard"] "rows" (eVar 0)) (eVar 1)) (aCons (eLit (.int 0)) aNil)))
structure sp_Yard_taken (K : PySem.W.Frag) (Γ : Gm) (vs : List V) (H : Hp) (Q : VK) (E : XK) : Prop where
  run : match vs with
  | [a0, a1] => b_Yard_taken K Γ { nx := fun _ H' => Q .non H', rt := Q } [some a0, some a1] H
  | _ => False
theorem okf_Yard_taken {f : Addr} {fd : FuncData} (F : L2.Fun K "taken" "Yard.taken" s_Yard_taken f fd) (W_rows : Flds K Γ ["Yard"] "rows") : FnOk P w K mg base CX0 (0 + 1) f fd ["self", "line"] (sp_Yard_taken K Γ) := by
  have nd := sc_Yard_taken.nd
  refine F.ok (k := 0) sc_Yard_taken (fun vs H Q E h => ?_) (fun cdv A outer s H vs Q E hr h => ⟨b_Yard_taken K Γ, ?_, ?_⟩)
  · have h := h.run; split at h; exact rfl; exact h.elim
  · have hu64 := hr.units
    have hu1 := hu_of hr
    exact (zOne (zRet (dMl PySem.F.slot_list_pop PySem.F.type_list_pop mPop0 (dIx (dFld W_rows (dVar 0)) (dVar 1)) (kCons dInt kNil))))
  · have h := h.run; split at h; exact h; exact h.elim
theorem bd_Yard_taken {f : Addr} {fd : FuncData} (F : L2.Fun K "taken" "Yard.taken" s_Yard_taken f fd) : Binds K fd ["self", "line"] [] := F.binds (fun _ _ _ _ _ _ us hl => match us, hl with | [_, _], _ => rfl)
abbrev s_L_deed : Stmt := topS 10
theorem sc_L_deed : FnScope ["_law_yard", "_law_lines", "_law_rows", "_law_at", "_law_m", "_law_cell_here", "_law_free", "_law_thing"] ["_law_yard", "_law_lines", "_law_rows", "_law_at", "_law_m", "_law_cell_here"] (defScope s_L_deed) := ⟨rfl, rfl, rfl, by decide +kernel, rfl, by decide +kernel, by decide +kernel⟩
def b_L_deed (K : PySem.W.Frag) (Γ : Gm) : TS :=
  (sSeq (sSet 6 (eCall (sp_L_roomy K Γ) E0 (aCons (eBin (uIx K) (eVar 1) (eVar 3)) (aCons (eBin (uIx K) (eVar 2) (eVar 3)) aNil))))
  (sSeq (sIf (tAnd (tTst (eBin (rGt) (eBlt (uLen K) (aCons (eBin (uIx K) (eVar 2) (eVar 3)) aNil)) (eLit (.int 0)))) (tOr (tTst (eBin (uEq K) (eBin (rMod) (eVar 4) (eLit (.int 2))) (eLit (.int 0)))) (tNot (tTst (eVar 6))))) (sRet (eCall (sp_L_alike K Γ 8) E0 (aCons (eMth Γ "taken" [("Yard", (sp_Yard_taken K Γ))] E0 (eVar 0) (aCons (eVar 3) aNil)) (aCons (eMl K uPop0 (eBin (uIx K) (eVar 2) (eVar 3)) (aCons (eLit (.int 0)) aNil)) aNil)))) sNil)
  (sSeq (sSet 7 (eCall (sp_L_number K Γ) E0 (aCons (eVar 5) (aCons (eBin (rMod) (eBin (rDiv) (eVar 4) (eLit (.int 2))) (eLit (.int 1009))) aNil))))
  (sSeq (sExp (eMl K uAppend (eBin (uIx K) (eVar 2) (eVar 3)) (aCons (eVar 7) aNil)))
  (sRet (eBin (uIs false) (eMth Γ "hand" [("Yard", (sp_Yard_hand K Γ))] E0 (eVar 0) (aCons (eVar 3) (aCons (eVar 7) aNil))) (eLit .non)))))))
structure sp_L_deed (K : PySem.W.Frag) (Γ : Gm) (vs : List V) (H : Hp) (Q : VK) (E : XK) : Prop where
  run : match vs with
  | [a0, a1, a2, a3, a4, a5] => b_L_deed K Γ { nx := fun _ H' => Q .non H', rt := Q } [some a0, some a1, some a2, some a3, some a4, some a5, none, none] H
  | _ => False
theorem okf_L_deed {f : Addr} {fd : FuncData} (F : L2.Fun K "_law_deed" "_law_deed" s_L_deed f fd) (F_L_alike : Fn P w K mg base CX0 (8) "_law_alike" ["_law_found", "_law_due"] (sp_L_alike K Γ 8)) (F_L_number : Fn P w K mg base CX0 (1) "_law_number" ["_law_cell_here", "_law_way"] (sp_L_number K Γ)) (F_L_roomy : Fn P w K mg base CX0 (1) "_law_roomy" ["_law_line_here", "_law_row"] (sp_L_roomy K Γ)) (M_Yard_hand : Mn P w K mg base Γ CX0 (1) "Yard" "hand" (sp_Yard_hand K Γ)) (M_Yard_taken : Mn P w K mg base Γ CX0 (1) "Yard" "taken" (sp_Yard_taken K Γ)) (m_len : mg "len" = none) : FnOk P w K mg base CX0 (8 + 1) f fd ["_law_yard", "_law_lines", "_law_rows", "_law_at", "_law_m", "_law_cell_here"] (sp_L_deed K Γ) := by
  have nd := sc_L_deed.nd
  refine F.ok (k := 8) sc_L_deed (fun vs H Q E h => ?_) (fun cdv A outer s H vs Q E hr h => ⟨b_L_deed K Γ, ?_, ?_⟩)
  · have h := h.run; split at h; exact rfl; exact h.elim
  · have hu64 := hr.units
    have hu1 := hu_of hr
    exact (zCons (zSet (i := 6) nd rfl (by first | exact .inl rfl | exact .inr rfl) (dFn F_L_roomy (hr.mono (by omega)) rfl pass0 (kCons (dIx (dVar 1) (dVar 3)) (kCons (dIx (dVar 2) (dVar 3)) kNil))))
  (zCons (zIf (PW.pt (qAnd (qCmp oGt (dBlt bLen rfl m_len (by decide +kernel) (kCons (dIx (dVar 2) (dVar 3)) kNil)) dInt) (qAnd1 (PW.pt (qOr (qCmp (oEq hu64) (dBin oMod (dVar 4) dInt) dInt) (qOr1 (qNot (qVal (dVar 6))))))))) (zOne (zRet (dFn F_L_alike (hr.mono (by omega)) rfl pass0 (kCons (dMth (Γ := Γ) (MOk.cons M_Yard_taken (by omega) MOk.nil) hr pass0 (dVar 0) (kCons (dVar 3) kNil)) (kCons (dMl PySem.F.slot_list_pop PySem.F.type_list_pop mPop0 (dIx (dVar 2) (dVar 3)) (kCons dInt kNil)) kNil))))) zNil)
  (zCons (zSet (i := 7) nd rfl (by first | exact .inl rfl | exact .inr rfl) (dFn F_L_number (hr.mono (by omega)) rfl pass0 (kCons (dVar 5) (kCons (dBin oMod (dBin oDiv (dVar 4) dInt) dInt) kNil))))
  (zCons (zExp (dMl PySem.F.slot_list_append PySem.F.type_list_append mAppend (dIx (dVar 2) (dVar 3)) (kCons (dVar 7) kNil)))
  (zOne (zRet (dCmp oIs (dMth (Γ := Γ) (MOk.cons M_Yard_hand (by omega) MOk.nil) hr pass0 (dVar 0) (kCons (dVar 3) (kCons (dVar 7) kNil))) dNon)))))))
  · have h := h.run; split at h; exact h; exact h.elim
theorem bd_L_deed {f : Addr} {fd : FuncData} (F : L2.Fun K "_law_deed" "_law_deed" s_L_deed f fd) : Binds K fd ["_law_yard", "_law_lines", "_law_rows", "_law_at", "_law_m", "_law_cell_here"] [] := F.binds (fun _ _ _ _ _ _ us hl => match us, hl with | [_, _, _, _, _, _], _ => rfl)
abbrev s_Yard_holds : Stmt := inClass (topS 1) 1
theorem sc_Yard_holds : FnScope ["self", "line"] ["self", "line"] (defScope s_Yard_holds) := ⟨rfl, rfl, rfl, by decide +kernel, rfl, by decide +kernel, by decide +kernel⟩
def b_Yard_holds (K : PySem.W.Frag) (Γ : Gm) : TS :=
  (sRet (eBlt (uLen K) (aCons (eBin (uIx K) (eFld Γ ["Yard"] "rows" (eVar 0)) (eVar 1)) aNil)))
structure sp_Yard_holds (K : PySem.W.Frag) (Γ : Gm) (vs : List V) (H : Hp) (Q : VK) (E : XK) : Prop where
  run : match vs with
  | [a0, a1] => b_Yard_holds K Γ { nx := fun _ H' => Q .non H', rt := Q } [some a0, some a1] H
  | _ => False
theorem okf_Yard_holds {f : Addr} {fd : FuncData} (F : L2.Fun K "holds" "Yard.holds" s_Yard_holds f fd) (m_len : mg "len" = none) (W_rows : Flds K Γ ["Yard"] "rows") : FnOk P w K mg base CX0 (0 + 1) f fd ["self", "line"] (sp_Yard_holds K Γ) := by
  have nd := sc_Yard_holds.nd
  refine F.ok (k := 0) sc_Yard_holds (fun vs H Q E h => ?_) (fun cdv A outer s H vs Q E hr h => ⟨b_Yard_holds K Γ, ?_, ?_⟩)
  · have h := h.run; split at h; exact rfl; exact h.elim
  · have hu64 := hr.units
    have hu1 := hu_of hr
    exact (zOne (zRet (dBlt bLen rfl m_len (by decide +kernel) (kCons (dIx (dFld W_rows (dVar 0)) (dVar 1)) kNil))))
  · have h := h.run; split at h; exact h; exact h.elim
theorem bd_Yard_holds {f : Addr} {fd : FuncData} (F : L2.Fun K "holds" "Yard.holds" s_Yard_holds f fd) : Binds K fd ["self", "line"] [] := F.binds (fun _ _ _ _ _ _ us hl => match us, hl with | [_, _], _ => rfl)
abbrev s_Yard_room : Stmt := inClass (topS 1) 2
theorem sc_Yard_room : FnScope ["self", "line", "length"] ["self", "line"] (defScope s_Yard_room) := ⟨rfl, rfl, rfl, by decide +kernel, rfl, by decide +kernel, by decide +kernel⟩
def b_Yard_room (K : PySem.W.Frag) (Γ : Gm) : TS :=
  (sSeq (sSet 2 (eBin (uIx K) (eFld Γ ["Yard"] "lengths" (eVar 0)) (eVar 1)))
  (sRet (eOr (eBin (uIs false) (eVar 2) (eLit .non)) (eBin (rLt) (eBlt (uLen K) (aCons (eBin (uIx K) (eFld Γ ["Yard"] "rows" (eVar 0)) (eVar 1)) aNil)) (eVar 2)))))
structure sp_Yard_room (K : PySem.W.Frag) (Γ : Gm) (vs : List V) (H : Hp) (Q : VK) (E : XK) : Prop where
  run : match vs with
  | [a0, a1] => b_Yard_room K Γ { nx := fun _ H' => Q .non H', rt := Q } [some a0, some a1, none] H
  | _ => False
theorem okf_Yard_room {f : Addr} {fd : FuncData} (F : L2.Fun K "room" "Yard.room" s_Yard_room f fd) (m_len : mg "len" = none) (W_lengths : Flds K Γ ["Yard"] "lengths") (W_rows : Flds K Γ ["Yard"] "rows") : FnOk P w K mg base CX0 (0 + 1) f fd ["self", "line"] (sp_Yard_room K Γ) := by
  have nd := sc_Yard_room.nd
  refine F.ok (k := 0) sc_Yard_room (fun vs H Q E h => ?_) (fun cdv A outer s H vs Q E hr h => ⟨b_Yard_room K Γ, ?_, ?_⟩)
  · have h := h.run; split at h; exact rfl; exact h.elim
  · have hu64 := hr.units
    have hu1 := hu_of hr
    exact (zCons (zSet (i := 2) nd rfl (by first | exact .inl rfl | exact .inr rfl) (dIx (dFld W_lengths (dVar 0)) (dVar 1)))
  (zOne (zRet (dOr (dCmp oIs (dVar 2) dNon) (dOne (dCmp oLt (dBlt bLen rfl m_len (by decide +kernel) (kCons (dIx (dFld W_rows (dVar 0)) (dVar 1)) kNil)) (dVar 2)))))))
  · have h := h.run; split at h; exact h; exact h.elim
theorem bd_Yard_room {f : Addr} {fd : FuncData} (F : L2.Fun K "room" "Yard.room" s_Yard_room f fd) : Binds K fd ["self", "line"] [] := F.binds (fun _ _ _ _ _ _ us hl => match us, hl with | [_, _], _ => rfl)
abbrev s_Yard_first : Stmt := inClass (topS 1) 3
theorem sc_Yard_first : FnScope ["self", "line"] ["self", "line"] (defScope s_Yard_first) := ⟨rfl, rfl, rfl, by decide +kernel, rfl, by decide +kernel, by decide +kernel⟩
def b_Yard_first (K : PySem.W.Frag) (Γ : Gm) : TS :=
  (sSeq (sIf (tTst (eBin (uEq K) (eBin (uIx K) (eFld Γ ["Yard"] "rows" (eVar 0)) (eVar 1)) (eLst aNil))) (sRet (eLit .non)) sNil)
  (sRet (eBin (uIx K) (eBin (uIx K) (eFld Γ ["Yard"] "rows" (eVar 0)) (eVar 1)) (eLit (.int 0)))))
structure sp_Yard_first (K : PySem.W.Frag) (Γ : Gm) (vs : List V) (H : Hp) (Q : VK) (E : XK) : Prop where
  run : match vs with
  | [a0, a1] => b_Yard_first K Γ { nx := fun _ H' => Q .non H', rt := Q } [some a0, some a1] H
  | _ => False
theorem okf_Yard_first {f : Addr} {fd : FuncData} (F : L2.Fun K "first" "Yard.first" s_Yard_first f fd) (W_rows : Flds K Γ ["Yard"] "rows") : FnOk P w K mg base CX0 (0 + 1) f fd ["self", "line"] (sp_Yard_first K Γ) := by
  have nd := sc_Yard_first.nd
  refine F.ok (k := 0) sc_Yard_first (fun vs H Q E h => ?_) (fun cdv A outer s H vs Q E hr h => ⟨b_Yard_first K Γ, ?_, ?_⟩)
  · have h := h.run; split at h; exact rfl; exact h.elim
  · have hu64 := hr.units
    have hu1 := hu_of hr
    exact (zCons (zIf (qCmp (oEq hu64) (dIx (dFld W_rows (dVar 0)) (dVar 1)) (dLst kNil)) (zOne (zRet dNon)) zNil)
  (zOne (zRet (dIx (dIx (dFld W_rows (dVar 0)) (dVar 1)) dInt))))
  · have h := h.run; split at h; exact h; exact h.elim
theorem bd_Yard_first {f : Addr} {fd : FuncData} (F : L2.Fun K "first" "Yard.first" s_Yard_first f fd) : Binds K fd ["self", "line"] [] := F.binds (fun _ _ _ _ _ _ us hl => match us, hl with | [_, _], _ => rfl)
abbrev s_Yard_stands : Stmt := inClass (topS 1) 6
theorem sc_Yard_stands : FnScope ["self", "row"] ["self"] (defScope s_Yard_stands) := ⟨rfl, rfl, rfl, by decide +kernel, rfl, by decide +kernel, by decide +kernel⟩
def b_Yard_stands (K : PySem.W.Frag) (Γ : Gm) : TS :=
  (sRet (eLc (cSq K (eFld Γ ["Yard"] "rows" (eVar 0))) (gNm 1) tYes (eBlt (uList K) (aCons (eVar 1) aNil)) [1]))
structure sp_Yard_stands (K : PySem.W.Frag) (Γ : Gm) (vs : List V) (H : Hp) (Q : VK) (E : XK) : Prop where
  run : match vs with
  | [a0] => b_Yard_stands K Γ { nx := fun _ H' => Q .non H', rt := Q } [some a0, none] H
  | _ => False
theorem okf_Yard_stands {f : Addr} {fd : FuncData} (F : L2.Fun K "stands" "Yard.stands" s_Yard_stands f fd) (m_list : mg "list" = none) (W_rows : Flds K Γ ["Yard"] "rows") : FnOk P w K mg base CX0 (0 + 1) f fd ["self"] (sp_Yard_stands K Γ) := by
  have nd := sc_Yard_stands.nd
  refine F.ok (k := 0) sc_Yard_stands (fun vs H Q E h => ?_) (fun cdv A outer s H vs Q E hr h => ⟨b_Yard_stands K Γ, ?_, ?_⟩)
  · have h := h.run; split at h; exact rfl; exact h.elim
  · have hu64 := hr.units
    have hu1 := hu_of hr
    exact (zOne (zRet (dLc (own := [("row", 1)]) rfl nd (kSq (dFld W_rows (dVar 0))) (blkOk_by (by first | (show blkC ["self", "row"] (defScope s_Yard_stands) _ _ = true; decide +kernel) | rfl)) (fun _ _ _ _ _ => (tgNm (i := 1) nd rfl (by first | exact .inl rfl | exact .inr rfl))) (fun _ _ _ _ _ => iNo) (fun _ _ _ _ _ => (dBty bList rfl m_list (by decide +kernel) (kCons (dVar 1) kNil))))))
  · have h := h.run; split at h; exact h; exact h.elim
theorem bd_Yard_stands {f : Addr} {fd : FuncData} (F : L2.Fun K "stands" "Yard.stands" s_Yard_stands f fd) : Binds K fd ["self"] [] := F.binds (fun _ _ _ _ _ _ us hl => match us, hl with | [_], _ => rfl)
abbrev s_L_looked : Stmt := topS 9
theorem sc_L_looked : FnScope ["_law_yard", "_law_lines", "_law_rows", "_law_at", "_law_way", "_law_k", "_law_what", "_law_head"] ["_law_yard", "_law_lines", "_law_rows", "_law_at", "_law_way"] (defScope s_L_looked) := ⟨rfl, rfl, rfl, by decide +kernel, rfl, by decide +kernel, by decide +kernel⟩
def l_L_looked_1 (K : PySem.W.Frag) (Γ : Gm) : TS :=
  (sSeq (sSet 6 (eBin (rMod) (eBin (uAdd K) (eVar 4) (eVar 5)) (eLit (.int 4))))
  (sSeq (sIf (tAnd (tTst (eBin (uEq K) (eVar 6) (eLit (.int 0)))) (tNot (tTst (eCall (sp_L_alike K Γ 8) E0 (aCons (eMth Γ "holds" [("Yard", (sp_Yard_holds K Γ))] E0 (eVar 0) (aCons (eVar 3) aNil)) (aCons (eBlt (uLen K) (aCons (eBin (uIx K) (eVar 2) (eVar 3)) aNil)) aNil)))))) (sRet (eLit (.bl false))) sNil)
  (sSeq (sIf (tAnd (tTst (eBin (uEq K) (eVar 6) (eLit (.int 1)))) (tNot (tTst (eCall (sp_L_alike K Γ 8) E0 (aCons (eMth Γ "room" [("Yard", (sp_Yard_room K Γ))] E0 (eVar 0) (aCons (eVar 3) aNil)) (aCons (eCall (sp_L_roomy K Γ) E0 (aCons (eBin (uIx K) (eVar 1) (eVar 3)) (aCons (eBin (uIx K) (eVar 2) (eVar 3)) aNil))) aNil)))))) (sRet (eLit (.bl false))) sNil)
  (sSeq (sIf (tTst (eBin (uEq K) (eVar 6) (eLit (.int 2)))) (sSeq (sSet 7 (eIf (tTst (eBin (rGt) (eBlt (uLen K) (aCons (eBin (uIx K) (eVar 2) (eVar 3)) aNil)) (eLit (.int 0)))) (eBin (uIx K) (eBin (uIx K) (eVar 2) (eVar 3)) (eLit (.int 0))) (eLit .non)))
  (sIf (tNot (tTst (eCall (sp_L_alike K Γ 8) E0 (aCons (eMth Γ "first" [("Yard", (sp_Yard_first K Γ))] E0 (eVar 0) (aCons (eVar 3) aNil)) (aCons (eVar 7) aNil))))) (sRet (eLit (.bl false))) sNil)) sNil)
  (sIf (tAnd (tTst (eBin (uEq K) (eVar 6) (eLit (.int 3)))) (tNot (tTst (eCall (sp_L_alike K Γ 8) E0 (aCons (eMth Γ "stands" [("Yard", (sp_Yard_stands K Γ))] E0 (eVar 0) aNil) (aCons (eVar 2) aNil)))))) (sRet (eLit (.bl false))) sNil)))))
theorem el_L_looked_1 {K : PySem.W.Frag} {Γ : Gm} {D : Ends} {σ : L2.St} {H : Hp} : l_L_looked_1 K Γ D σ H = ((sSeq (sSet 6 (eBin (rMod) (eBin (uAdd K) (eVar 4) (eVar 5)) (eLit (.int 4))))
  (sSeq (sIf (tAnd (tTst (eBin (uEq K) (eVar 6) (eLit (.int 0)))) (tNot (tTst (eCall (sp_L_alike K Γ 8) E0 (aCons (eMth Γ "holds" [("Yard", (sp_Yard_holds K Γ))] E0 (eVar 0) (aCons (eVar 3) aNil)) (aCons (eBlt (uLen K) (aCons (eBin (uIx K) (eVar 2) (eVar 3)) aNil)) aNil)))))) (sRet (eLit (.bl false))) sNil)
  (sSeq (sIf (tAnd (tTst (eBin (uEq K) (eVar 6) (eLit (.int 1)))) (tNot (tTst (eCall (sp_L_alike K Γ 8) E0 (aCons (eMth Γ "room" [("Yard", (sp_Yard_room K Γ))] E0 (eVar 0) (aCons (eVar 3) aNil)) (aCons (eCall (sp_L_roomy K Γ) E0 (aCons (eBin (uIx K) (eVar 1) (eVar 3)) (aCons (eBin (uIx K) (eVar 2) (eVar 3)) aNil))) aNil)))))) (sRet (eLit (.bl false))) sNil)
  (sSeq (sIf (tTst (eBin (uEq K) (eVar 6) (eLit (.int 2)))) (sSeq (sSet 7 (eIf (tTst (eBin (rGt) (eBlt (uLen K) (aCons (eBin (uIx K) (eVar 2) (eVar 3)) aNil)) (eLit (.int 0)))) (eBin (uIx K) (eBin (uIx K) (eVar 2) (eVar 3)) (eLit (.int 0))) (eLit .non)))
  (sIf (tNot (tTst (eCall (sp_L_alike K Γ 8) E0 (aCons (eMth Γ "first" [("Yard", (sp_Yard_first K Γ))] E0 (eVar 0) (aCons (eVar 3) aNil)) (aCons (eVar 7) aNil))))) (sRet (eLit (.bl false))) sNil)) sNil)
  (sIf (tAnd (tTst (eBin (uEq K) (eVar 6) (eLit (.int 3)))) (tNot (tTst (eCall (sp_L_alike K Γ 8) E0 (aCons (eMth Γ "stands" [("Yard", (sp_Yard_stands K Γ))] E0 (eVar 0) aNil) (aCons (eVar 2) aNil)))))) (sRet (eLit (.bl false))) sNil)))))) D σ H := rfl
def b_L_looked (K : PySem.W.Frag) (Γ : Gm) : TS :=
  (sSeq (sFor (cR1 (eLit (.int 4))) (gNm 5) (l_L_looked_1 K Γ))
  (sRet (eLit (.bl true))))
structure sp_L_looked (K : PySem.W.Frag) (Γ : Gm) (vs : List V) (H : Hp) (Q : VK) (E : XK) : Prop where
  run : match vs with
  | [a0, a1, a2, a3, a4] => b_L_looked K Γ { nx := fun _ H' => Q .non H', rt := Q } [some a0, some a1, some a2, some a3, some a4, none, none, none] H
  | _ => False
theorem okf_L_looked {f : Addr} {fd : FuncData} (F : L2.Fun K "_law_looked" "_law_looked" s_L_looked f fd) (F_L_alike : Fn P w K mg base CX0 (8) "_law_alike" ["_law_found", "_law_due"] (sp_L_alike K Γ 8)) (F_L_roomy : Fn P w K mg base CX0 (1) "_law_roomy" ["_law_line_here", "_law_row"] (sp_L_roomy K Γ)) (M_Yard_first : Mn P w K mg base Γ CX0 (1) "Yard" "first" (sp_Yard_first K Γ)) (M_Yard_holds : Mn P w K mg base Γ CX0 (1) "Yard" "holds" (sp_Yard_holds K Γ)) (M_Yard_room : Mn P w K mg base Γ CX0 (1) "Yard" "room" (sp_Yard_room K Γ)) (M_Yard_stands : Mn P w K mg base Γ CX0 (1) "Yard" "stands" (sp_Yard_stands K Γ)) (m_len : mg "len" = none) (m_range : mg "range" = none) : FnOk P w K mg base CX0 (8 + 1) f fd ["_law_yard", "_law_lines", "_law_rows", "_law_at", "_law_way"] (sp_L_looked K Γ) := by
  have nd := sc_L_looked.nd
  refine F.ok (k := 8) sc_L_looked (fun vs H Q E h => ?_) (fun cdv A outer s H vs Q E hr h => ⟨b_L_looked K Γ, ?_, ?_⟩)
  · have h := h.run; split at h; exact rfl; exact h.elim
  · have hu64 := hr.units
    have hu1 := hu_of hr
    exact (zCons (zFor PassesOwn.never rfl (kR1 rfl m_range dInt) (tgNm (i := 5) nd rfl (by first | exact .inl rfl | exact .inr rfl)) (zCons (zSet (i := 6) nd rfl (by first | exact .inl rfl | exact .inr rfl) (dBin oMod (dBin oAdd (dVar 4) (dVar 5)) dInt))
  (zCons (zIf (PW.pt (qAnd (qCmp (oEq hu64) (dVar 6) dInt) (qAnd1 (qNot (qVal (dFn F_L_alike (hr.mono (by omega)) rfl pass0 (kCons (dMth (Γ := Γ) (MOk.cons M_Yard_holds (by omega) MOk.nil) hr pass0 (dVar 0) (kCons (dVar 3) kNil)) (kCons (dBlt bLen rfl m_len (by decide +kernel) (kCons (dIx (dVar 2) (dVar 3)) kNil)) kNil)))))))) (zOne (zRet dBl)) zNil)
  (zCons (zIf (PW.pt (qAnd (qCmp (oEq hu64) (dVar 6) dInt) (qAnd1 (qNot (qVal (dFn F_L_alike (hr.mono (by omega)) rfl pass0 (kCons (dMth (Γ := Γ) (MOk.cons M_Yard_room (by omega) MOk.nil) hr pass0 (dVar 0) (kCons (dVar 3) kNil)) (kCons (dFn F_L_roomy (hr.mono (by omega)) rfl pass0 (kCons (dIx (dVar 1) (dVar 3)) (kCons (dIx (dVar 2) (dVar 3)) kNil))) kNil)))))))) (zOne (zRet dBl)) zNil)
  (zCons (zIf (qCmp (oEq hu64) (dVar 6) dInt) (zCons (zSet (i := 7) nd rfl (by first | exact .inl rfl | exact .inr rfl) (dIf (qCmp oGt (dBlt bLen rfl m_len (by decide +kernel) (kCons (dIx (dVar 2) (dVar 3)) kNil)) dInt) (dIx (dIx (dVar 2) (dVar 3)) dInt) dNon))
  (zOne (zIf (qNot (qVal (dFn F_L_alike (hr.mono (by omega)) rfl pass0 (kCons (dMth (Γ := Γ) (MOk.cons M_Yard_first (by omega) MOk.nil) hr pass0 (dVar 0) (kCons (dVar 3) kNil)) (kCons (dVar 7) kNil))))) (zOne (zRet dBl)) zNil))) zNil)
  (zOne (zIf (PW.pt (qAnd (qCmp (oEq hu64) (dVar 6) dInt) (qAnd1 (qNot (qVal (dFn F_L_alike (hr.mono (by omega)) rfl pass0 (kCons (dMth0 (Γ := Γ) (MOk.cons M_Yard_stands (by omega) MOk.nil) hr pass0 (dVar 0)) (kCons (dVar 2) kNil)))))))) (zOne (zRet dBl)) zNil)))))))
  (zOne (zRet dBl)))
  · have h := h.run; split at h; exact h; exact h.elim
theorem bd_L_looked {f : Addr} {fd : FuncData} (F : L2.Fun K "_law_looked" "_law_looked" s_L_looked f fd) : Binds K fd ["_law_yard", "_law_lines", "_law_rows", "_law_at", "_law_way"] [] := F.binds (fun _ _ _ _ _ _ us hl => match us, hl with | [_, _, _, _, _], _ => rfl)
abbrev s_law : Stmt := topS 11
theorem sc_law : FnScope ["_law_script", "_law_many", "_law_lines", "_law_k", "_law_handed", "_law_yards", "_law_rows", "_law_line_here", "_law_told", "_law_kept", "_law_cell_here", "_law_m", "_law_one", "_law_at", "_law_other", "_law_row", "_law_yard"] ["_law_script"] (defScope s_law) := ⟨rfl, rfl, rfl, by decide +kernel, rfl, by decide +kernel, by decide +kernel⟩
def l_law_1 (K : PySem.W.Frag) (Γ : Gm) : TS :=
  (sIf (tNot (tTst (eCall (sp_L_alike K Γ 8) E0 (aCons (eMth Γ "stands" [("Yard", (sp_Yard_stands K Γ))] E0 (eVar 16) aNil) (aCons (eVar 15) aNil))))) (sRet (eLit (.bl false))) sNil)
theorem el_law_1 {K : PySem.W.Frag} {Γ : Gm} {D : Ends} {σ : L2.St} {H : Hp} : l_law_1 K Γ D σ H = ((sIf (tNot (tTst (eCall (sp_L_alike K Γ 8) E0 (aCons (eMth Γ "stands" [("Yard", (sp_Yard_stands K Γ))] E0 (eVar 16) aNil) (aCons (eVar 15) aNil))))) (sRet (eLit (.bl false))) sNil)) D σ H := rfl
def l_law_2 (K : PySem.W.Frag) (Γ : Gm) : TS :=
  (sSeq (sSet 11 (eCall (sp_L_mixed K Γ) E0 (aCons (eVar 10) (aCons (eVar 3) aNil))))
  (sSeq (sSet 12 (eBin (rMod) (eVar 11) (eLit (.int 2))))
  (sSeq (sSet 13 (eBin (rMod) (eBin (rDiv) (eVar 11) (eLit (.int 2))) (eVar 1)))
  (sSeq (sIf (tNot (tTst (eCall (sp_L_deed K Γ) E0 (aCons (eBin (uIx K) (eVar 5) (eVar 12)) (aCons (eVar 2) (aCons (eBin (uIx K) (eVar 6) (eVar 12)) (aCons (eVar 13) (aCons (eBin (rDiv) (eVar 11) (eLit (.int 14))) (aCons (eVar 10) aNil))))))))) (sRet (eLit (.bl false))) sNil)
  (sSeq (sSet 14 (eBin (rMod) (eBin (rDiv) (eVar 11) (eLit (.int 5000))) (eVar 1)))
  (sSeq (sIf (tNot (tTst (eCall (sp_L_looked K Γ) E0 (aCons (eBin (uIx K) (eVar 5) (eVar 12)) (aCons (eVar 2) (aCons (eBin (uIx K) (eVar 6) (eVar 12)) (aCons (eVar 13) (aCons (eBin (rDiv) (eVar 11) (eLit (.int 300))) aNil)))))))) (sRet (eLit (.bl false))) sNil)
  (sSeq (sIf (tNot (tTst (eCall (sp_L_looked K Γ) E0 (aCons (eBin (uIx K) (eVar 5) (eBin (rSub) (eLit (.int 1)) (eVar 12))) (aCons (eVar 2) (aCons (eBin (uIx K) (eVar 6) (eBin (rSub) (eLit (.int 1)) (eVar 12))) (aCons (eVar 14) (aCons (eBin (rDiv) (eVar 11) (eLit (.int 700))) aNil)))))))) (sRet (eLit (.bl false))) sNil)
  (sIf (tTst (eBin (rLt) (eVar 3) (eLit (.int 40)))) (sSeq (sExp (eMl K uAppend (eVar 8) (aCons (eMth Γ "stands" [("Yard", (sp_Yard_stands K Γ))] E0 (eBin (uIx K) (eVar 5) (eVar 12)) aNil) aNil)))
  (sExp (eMl K uAppend (eVar 9) (aCons (eLc (cSq K (eBin (uIx K) (eVar 6) (eVar 12))) (gNm 15) tYes (eBlt (uList K) (aCons (eVar 15) aNil)) [15]) aNil)))) sNil))))))))
theorem el_law_2 {K : PySem.W.Frag} {Γ : Gm} {D : Ends} {σ : L2.St} {H : Hp} : l_law_2 K Γ D σ H = ((sSeq (sSet 11 (eCall (sp_L_mixed K Γ) E0 (aCons (eVar 10) (aCons (eVar 3) aNil))))
  (sSeq (sSet 12 (eBin (rMod) (eVar 11) (eLit (.int 2))))
  (sSeq (sSet 13 (eBin (rMod) (eBin (rDiv) (eVar 11) (eLit (.int 2))) (eVar 1)))
  (sSeq (sIf (tNot (tTst (eCall (sp_L_deed K Γ) E0 (aCons (eBin (uIx K) (eVar 5) (eVar 12)) (aCons (eVar 2) (aCons (eBin (uIx K) (eVar 6) (eVar 12)) (aCons (eVar 13) (aCons (eBin (rDiv) (eVar 11) (eLit (.int 14))) (aCons (eVar 10) aNil))))))))) (sRet (eLit (.bl false))) sNil)
  (sSeq (sSet 14 (eBin (rMod) (eBin (rDiv) (eVar 11) (eLit (.int 5000))) (eVar 1)))
  (sSeq (sIf (tNot (tTst (eCall (sp_L_looked K Γ) E0 (aCons (eBin (uIx K) (eVar 5) (eVar 12)) (aCons (eVar 2) (aCons (eBin (uIx K) (eVar 6) (eVar 12)) (aCons (eVar 13) (aCons (eBin (rDiv) (eVar 11) (eLit (.int 300))) aNil)))))))) (sRet (eLit (.bl false))) sNil)
  (sSeq (sIf (tNot (tTst (eCall (sp_L_looked K Γ) E0 (aCons (eBin (uIx K) (eVar 5) (eBin (rSub) (eLit (.int 1)) (eVar 12))) (aCons (eVar 2) (aCons (eBin (uIx K) (eVar 6) (eBin (rSub) (eLit (.int 1)) (eVar 12))) (aCons (eVar 14) (aCons (eBin (rDiv) (eVar 11) (eLit (.int 700))) aNil)))))))) (sRet (eLit (.bl false))) sNil)
  (sIf (tTst (eBin (rLt) (eVar 3) (eLit (.int 40)))) (sSeq (sExp (eMl K uAppend (eVar 8) (aCons (eMth Γ "stands" [("Yard", (sp_Yard_stands K Γ))] E0 (eBin (uIx K) (eVar 5) (eVar 12)) aNil) aNil)))
  (sExp (eMl K uAppend (eVar 9) (aCons (eLc (cSq K (eBin (uIx K) (eVar 6) (eVar 12))) (gNm 15) tYes (eBlt (uList K) (aCons (eVar 15) aNil)) [15]) aNil)))) sNil))))))))) D σ H := rfl
def b_law (K : PySem.W.Frag) (Γ : Gm) : TS :=
  (sSeq (sSet 1 (eBin (uAdd K) (eLit (.int 1)) (eBin (rMod) (eCall (sp_L_mixed K Γ) E0 (aCons (eCall (sp_L_cell K Γ) E0 (aCons (eVar 0) (aCons (eLit (.int 0)) aNil))) (aCons (eLit (.int 1)) aNil))) (eLit (.int 6)))))
  (sSeq (sSet 2 (eLc (cR1 (eVar 1)) (gNm 3) tYes (eCall (sp_L_line K Γ) E0 (aCons (eCall (sp_L_cell K Γ) E0 (aCons (eVar 0) (aCons (eLit (.int 1)) aNil))) (aCons (eVar 3) aNil))) [3]))
  (sSeq (sSet 4 (eBlt (uList K) (aCons (eVar 2) aNil)))
  (sSeq (sSet 5 (eLst (aCons (eNew Γ "Yard" (sp_Yard___init__ K Γ) E0 (aCons (eVar 4) aNil)) (aCons (eNew Γ "Yard" (sp_Yard___init__ K Γ) E0 (aCons (eVar 4) aNil)) aNil))))
  (sSeq (sSub (eVar 4) (eLit (.int 0)) (eTup (aCons (eLit (.int 1)) (aCons (eTup (aCons (eLit (.int 5)) aNil)) aNil))))
  (sSeq (sExp (eMl K uAppend (eVar 4) (aCons (eTup (aCons (eLit (.int 2)) (aCons (eTup (aCons (eLit (.int 6)) (aCons (eLit (.int 7)) aNil))) aNil))) aNil)))
  (sSeq (sSet 6 (eLc (cR1 (eLit (.int 2))) (gNm 3) tYes (eLc (cSq K (eVar 2)) (gNm 7) tYes (eBlt (uList K) (aCons (eBin (uIx K) (eVar 7) (eLit (.int 1))) aNil)) [7]) [3]))
  (sSeq (sSet 8 (eLst aNil))
  (sSeq (sSet 9 (eLst aNil))
  (sSeq (sForP (cEn K (eSl (uSl K) (eVar 0) (oPart (eLit (.int 2))) (oPart (eLit (.int 302))))) (gPr K 3 10) (l_law_2 K Γ))
  (sSeq (sForP (cZp K (eVar 5) (eVar 6)) (gPr K 16 15) (l_law_1 K Γ))
  (sRet (eBin (uEq K) (eVar 8) (eVar 9))))))))))))))
structure sp_law (K : PySem.W.Frag) (Γ : Gm) (vs : List V) (H : Hp) (Q : VK) (E : XK) : Prop where
  run : match vs with
  | [a0] => b_law K Γ { nx := fun _ H' => Q .non H', rt := Q } [some a0, none, none, none, none, none, none, none, none, none, none, none, none, none, none, none, none] H
  | _ => False
theorem okf_law {f : Addr} {fd : FuncData} (F : L2.Fun K "law" "law" s_law f fd) (F_L_alike : Fn P w K mg base CX0 (8) "_law_alike" ["_law_found", "_law_due"] (sp_L_alike K Γ 8)) (F_L_cell : Fn P w K mg base CX0 (1) "_law_cell" ["_law_script", "_law_k"] (sp_L_cell K Γ)) (F_L_deed : Fn P w K mg base CX0 (9) "_law_deed" ["_law_yard", "_law_lines", "_law_rows", "_law_at", "_law_m", "_law_cell_here"] (sp_L_deed K Γ)) (F_L_line : Fn P w K mg base CX0 (2) "_law_line" ["_law_cell_here", "_law_k"] (sp_L_line K Γ)) (F_L_looked : Fn P w K mg base CX0 (9) "_law_looked" ["_law_yard", "_law_lines", "_law_rows", "_law_at", "_law_way"] (sp_L_looked K Γ)) (F_L_mixed : Fn P w K mg base CX0 (1) "_law_mixed" ["_law_cell_here", "_law_k"] (sp_L_mixed K Γ)) (I_Yard : Mi P w K mg base Γ CX0 (1) "Yard" (sp_Yard___init__ K Γ)) (M_Yard_stands : Mn P w K mg base Γ CX0 (1) "Yard" "stands" (sp_Yard_stands K Γ)) (m_enumerate : mg "enumerate" = none) (m_list : mg "list" = none) (m_range : mg "range" = none) (m_zip : mg "zip" = none) : FnOk P w K mg base CX0 (9 + 1) f fd ["_law_script"] (sp_law K Γ) := by
  have nd := sc_law.nd
  refine F.ok (k := 9) sc_law (fun vs H Q E h => ?_) (fun cdv A outer s H vs Q E hr h => ⟨b_law K Γ, ?_, ?_⟩)
  · have h := h.run; split at h; exact rfl; exact h.elim
  · have hu64 := hr.units
    have hu1 := hu_of hr
    exact (zCons (zSet (i := 1) nd rfl (by first | exact .inl rfl | exact .inr rfl) (dBin oAdd dInt (dBin oMod (dFn F_L_mixed (hr.mono (by omega)) rfl pass0 (kCons (dFn F_L_cell (hr.mono (by omega)) rfl pass0 (kCons (dVar 0) (kCons dInt kNil))) (kCons dInt kNil))) dInt)))
  (zCons (zSet (i := 2) nd rfl (by first | exact .inl rfl | exact .inr rfl) (dLc (own := [("_law_k", 3)]) rfl nd (kR1 rfl m_range (dVar 1)) (blkOk_by (by first | (show blkC ["_law_script", "_law_many", "_law_lines", "_law_k", "_law_handed", "_law_yards", "_law_rows", "_law_line_here", "_law_told", "_law_kept", "_law_cell_here", "_law_m", "_law_one", "_law_at", "_law_other", "_law_row", "_law_yard"] (defScope s_law) _ _ = true; decide +kernel) | rfl)) (fun _ _ _ _ _ => (tgNm (i := 3) nd rfl (by first | exact .inl rfl | exact .inr rfl))) (fun _ _ _ _ _ => iNo) (fun _ _ _ _ _ => (dFn F_L_line (hr.mono (by omega)) rfl pass0 (kCons (dFn F_L_cell (hr.mono (by omega)) rfl pass0 (kCons (dVar 0) (kCons dInt kNil))) (kCons (dVar 3) kNil))))))
  (zCons (zSet (i := 4) nd rfl (by first | exact .inl rfl | exact .inr rfl) (dBty bList rfl m_list (by decide +kernel) (kCons (dVar 2) kNil)))
  (zCons (zSet (i := 5) nd rfl (by first | exact .inl rfl | exact .inr rfl) (dLst (kCons (dNew I_Yard (hr.mono (by omega)) rfl pass0 (kCons (dVar 4) kNil)) (kCons (dNew I_Yard (hr.mono (by omega)) rfl pass0 (kCons (dVar 4) kNil)) kNil))))
  (zCons (zSub (dVar 4) dInt (dTup (kCons dInt (kCons (dTup (kCons dInt kNil)) kNil))))
  (zCons (zExp (dMl PySem.F.slot_list_append PySem.F.type_list_append mAppend (dVar 4) (kCons (dTup (kCons dInt (kCons (dTup (kCons dInt (kCons dInt kNil))) kNil))) kNil)))
  (zCons (zSetLc (i := 6) (own := [("_law_k", 3)]) rfl nd rfl rfl (sw_true rfl rfl rfl (by decide +kernel)) (kR1 rfl m_range dInt) (blkOk_by (by first | (show blkC ["_law_script", "_law_many", "_law_lines", "_law_k", "_law_handed", "_law_yards", "_law_rows", "_law_line_here", "_law_told", "_law_kept", "_law_cell_here", "_law_m", "_law_one", "_law_at", "_law_other", "_law_row", "_law_yard"] (defScope s_law) _ _ = true; decide +kernel) | rfl)) (fun _ _ _ _ _ => (tgNm (i := 3) nd rfl (by first | exact .inl rfl | exact .inr rfl))) (fun _ _ _ _ _ => iNo) (fun _ _ _ _ _ => (dLc (own := [("_law_line_here", 7)]) rfl nd (kSq (dVar 2)) (blkOk_by (by first | (show blkC ["_law_script", "_law_many", "_law_lines", "_law_k", "_law_handed", "_law_yards", "_law_rows", "_law_line_here", "_law_told", "_law_kept", "_law_cell_here", "_law_m", "_law_one", "_law_at", "_law_other", "_law_row", "_law_yard"] (defScope s_law) _ _ = true; decide +kernel) | rfl)) (fun _ _ _ _ _ => (tgNm (i := 7) nd rfl (by first | exact .inl rfl | exact .inr rfl))) (fun _ _ _ _ _ => iNo) (fun _ _ _ _ _ => (dBty bList rfl m_list (by decide +kernel) (kCons (dIx (dVar 7) dInt) kNil))))))
  (zCons (zSet (i := 8) nd rfl (by first | exact .inl rfl | exact .inr rfl) (dLst kNil))
  (zCons (zSet (i := 9) nd rfl (by first | exact .inl rfl | exact .inr rfl) (dLst kNil))
  (zCons (zForP PassesOwn.never rfl (kEn rfl m_enumerate (dSl (dVar 0) (gSome dInt) (gSome dInt))) (tgPr (i := 3) (j := 10) nd rfl (by first | exact .inl rfl | exact .inr rfl) rfl (by first | exact .inl rfl | exact .inr rfl)) (zCons (zSet (i := 11) nd rfl (by first | exact .inl rfl | exact .inr rfl) (dFn F_L_mixed (hr.mono (by omega)) rfl pass0 (kCons (dVar 10) (kCons (dVar 3) kNil))))
  (zCons (zSet (i := 12) nd rfl (by first | exact .inl rfl | exact .inr rfl) (dBin oMod (dVar 11) dInt))
  (zCons (zSet (i := 13) nd rfl (by first | exact .inl rfl | exact .inr rfl) (dBin oMod (dBin oDiv (dVar 11) dInt) (dVar 1)))
  (zCons (zIf (qNot (qVal (dFn F_L_deed (hr.mono (by omega)) rfl pass0 (kCons (dIx (dVar 5) (dVar 12)) (kCons (dVar 2) (kCons (dIx (dVar 6) (dVar 12)) (kCons (dVar 13) (kCons (dBin oDiv (dVar 11) dInt) (kCons (dVar 10) kNil))))))))) (zOne (zRet dBl)) zNil)
  (zCons (zSet (i := 14) nd rfl (by first | exact .inl rfl | exact .inr rfl) (dBin oMod (dBin oDiv (dVar 11) dInt) (dVar 1)))
  (zCons (zIf (qNot (qVal (dFn F_L_looked (hr.mono (by omega)) rfl pass0 (kCons (dIx (dVar 5) (dVar 12)) (kCons (dVar 2) (kCons (dIx (dVar 6) (dVar 12)) (kCons (dVar 13) (kCons (dBin oDiv (dVar 11) dInt) kNil)))))))) (zOne (zRet dBl)) zNil)
  (zCons (zIf (qNot (qVal (dFn F_L_looked (hr.mono (by omega)) rfl pass0 (kCons (dIx (dVar 5) (dBin oSub dInt (dVar 12))) (kCons (dVar 2) (kCons (dIx (dVar 6) (dBin oSub dInt (dVar 12))) (kCons (dVar 14) (kCons (dBin oDiv (dVar 11) dInt) kNil)))))))) (zOne (zRet dBl)) zNil)
  (zOne (zIf (qCmp oLt (dVar 3) dInt) (zCons (zExp (dMl PySem.F.slot_list_append PySem.F.type_list_append mAppend (dVar 8) (kCons (dMth0 (Γ := Γ) (MOk.cons M_Yard_stands (by omega) MOk.nil) hr pass0 (dIx (dVar 5) (dVar 12))) kNil)))
  (zOne (zExp (dMl PySem.F.slot_list_append PySem.F.type_list_append mAppend (dVar 9) (kCons (dLc (own := [("_law_row", 15)]) rfl nd (kSq (dIx (dVar 6) (dVar 12))) (blkOk_by (by first | (show blkC ["_law_script", "_law_many", "_law_lines", "_law_k", "_law_handed", "_law_yards", "_law_rows", "_law_line_here", "_law_told", "_law_kept", "_law_cell_here", "_law_m", "_law_one", "_law_at", "_law_other", "_law_row", "_law_yard"] (defScope s_law) _ _ = true; decide +kernel) | rfl)) (fun _ _ _ _ _ => (tgNm (i := 15) nd rfl (by first | exact .inl rfl | exact .inr rfl))) (fun _ _ _ _ _ => iNo) (fun _ _ _ _ _ => (dBty bList rfl m_list (by decide +kernel) (kCons (dVar 15) kNil)))) kNil))))) zNil))))))))))
  (zCons (zForP PassesOwn.never rfl (kZp rfl m_zip (dVar 5) (dVar 6)) (tgPr (i := 16) (j := 15) nd rfl (by first | exact .inl rfl | exact .inr rfl) rfl (by first | exact .inl rfl | exact .inr rfl)) (zOne (zIf (qNot (qVal (dFn F_L_alike (hr.mono (by omega)) rfl pass0 (kCons (dMth0 (Γ := Γ) (MOk.cons M_Yard_stands (by omega) MOk.nil) hr pass0 (dVar 16)) (kCons (dVar 15) kNil))))) (zOne (zRet dBl)) zNil)))
  (zOne (zRet (dCmp (oEq hu64) (dVar 8) (dVar 9)))))))))))))))
  · have h := h.run; split at h; exact h; exact h.elim
theorem bd_law {f : Addr} {fd : FuncData} (F : L2.Fun K "law" "law" s_law f fd) : Binds K fd ["_law_script"] [] := F.binds (fun _ _ _ _ _ _ us hl => match us, hl with | [_], _ => rfl)
end
def spL (K : PySem.W.Frag) : Sp := fun vs H Q E => ∀ Γ, sp_law K Γ vs H Q E

def big : Int := 1000000000000000000000000000000
theorem e30 : (10 : Int) ^ Int.toNat 30 = 1000000000000000000000000000000 := by decide +kernel
theorem e60 : (10 : Int) ^ Int.toNat 60 = 1000000000000000000000000000000000000000000000000000000000000 := by decide +kernel
theorem cp30 : CPow 10 30 := ⟨by decide, by decide, by decide⟩
theorem cp60 : CPow 10 60 := ⟨by decide, by decide, by decide⟩
theorem bits30 {a : Int} (h : 0 ≤ a ∧ a < big) : Builtin.Int.intBits a ≤ 101 := bitsOf (a := 100) (by unfold big at h; omega)
section
variable {K : PySem.W.Frag} {Γ : Gm} {H : Hp} {Q : VK} {E : XK}
theorem sq_nat {n m : Nat} (h : n ≤ m) : n * n ≤ m * m := Nat.mul_le_mul h h
theorem c_mixed (c k : Int) (hk : 0 ≤ k ∧ k ≤ 1000000) (q : ∀ i : Int, 0 ≤ i → i < 2147483647 → Q (.int i) H) : sp_L_mixed K Γ [.int c, .int k] H Q E := by
  refine ⟨?_⟩
  unfold b_L_mixed
  walk_at "ex"
  obtain ⟨n, rfl⟩ := Int.eq_ofNat_of_zero_le hk.1
  have h1 : n * n ≤ 1000000 * 1000000 := sq_nat (by omega)
  have h2 : ((n : Int) * n) = ((n * n : Nat) : Int) := by simp
  rw [h2]
  have hm : 0 ≤ (c % 2147483647 * 48271 + (((n * n : Nat) : Int) + 3 * n + 7) * 69621) % 2147483647 ∧ (c % 2147483647 * 48271 + (((n * n : Nat) : Int) + 3 * n + 7) * 69621) % 2147483647 < 2147483647 := by omega
  refine ⟨by decide, mulOk (a := 65) (b := 65) (bitsOf (by omega)) (by decide), mulOk (a := 65) (b := 65) (bitsOf (by omega)) (bitsOf (by omega)), mulOk (a := 65) (b := 65) (by decide) (bitsOf (by omega)), mulOk (a := 65) (b := 65) (bitsOf (by omega)) (by decide), by decide, ?_⟩
  exact ⟨mulOk (a := 65) (b := 65) (bitsOf (by omega)) (bitsOf (by omega)), by decide, q _ (by omega) (by omega)⟩
theorem c_number (c w : Int) (hw : 0 ≤ w ∧ w ≤ 4294967296) (q : ∀ i : Int, 0 ≤ i ∧ i < big → Q (.int i) H) : sp_L_number K Γ [.int c, .int w] H Q E := by
  refine ⟨?_⟩
  unfold b_L_number
  walk_at "ex"
  rw [e60]
  refine ⟨cp60, by decide, ?_⟩
  have hc : 0 ≤ c % 1000000000000000000000000000000000000000000000000000000000000 ∧ c % 1000000000000000000000000000000000000000000000000000000000000 < 1000000000000000000000000000000000000000000000000000000000000 := by omega
  generalize c % 1000000000000000000000000000000000000000000000000000000000000 = c at hc
  unfold big at q
  walk_at "if"
  refine ⟨by decide, ?_⟩
  split
  · exact ⟨by decide, q _ (by omega)⟩
  walk_at "if"
  refine ⟨by decide, ?_⟩
  split
  · rw [e30]
    exact ⟨cp30, by decide, q _ (by omega)⟩
  walk_at "if"
  refine ⟨by decide, ?_⟩
  split
  · rw [e30]
    exact ⟨cp30, by decide, q _ (by omega)⟩
  rw [e30]
  obtain ⟨n, rfl⟩ := Int.eq_ofNat_of_zero_le hw.1
  have h1 : n * n ≤ 4294967296 * 4294967296 := sq_nat (by omega)
  have h2 : ((n : Int) * n) = ((n * n : Nat) : Int) := by simp
  rw [h2]
  have h3 : (c + 1).natAbs < 2 ^ 200 := by omega
  have h4 : (((n * n : Nat) : Int) + 11).natAbs < 2 ^ 65 := by omega
  exact ⟨mulOk (a := 65) (b := 65) (bitsOf (by omega)) (bitsOf (by omega)), mulOk (bitsOf h3) (bitsOf h4), mulOk (b := 101) (bitsOf (wide_lt h3 h4)) (by decide), cp30, by decide, q _ (by omega)⟩
/-- a cell of the script, 0 behind its end -/
theorem c_cell {a : Addr} {ns : List Int} (k : Int) (hk : 0 ≤ k) (hS : SqL K H a (ns.map V.int)) (q : ∀ i : Int, Q (.int i) H) : sp_L_cell K Γ [.ref a, .int k] H Q E := by
  refine ⟨?_⟩
  unfold b_L_cell
  walk_at "if"
  refine ⟨_, .inl hS, ?_⟩
  walk_at "ex"
  split
  · rename_i h
    rw [List.length_map] at h
    obtain ⟨v, hv⟩ := at_len (xs := ns.map V.int) hk (by rw [List.length_map]; exact h)
    obtain ⟨c, _, rfl⟩ := List.mem_map.mp (atI_mem hv)
    exact ⟨_, _, .inl hS, hv, q c⟩
  · exact q 0
end

theorem c_alike {K : PySem.W.Frag} {Γ : Gm} : ∀ (n : Nat) (d : PyData) (x y : V) (H : Hp) (Q : VK) (E : XK), Sh n d → Dp K H x d → Dp K H y d → Q (.bl true) H → sp_L_alike K Γ (n + 1) [x, y] H Q E := by
  intro n
  induction n with
  | zero =>
    intro d x y H Q E hs hx hy q
    unfold sp_L_alike
    refine ⟨?_⟩
    unfold b_L_alike
    cases hs <;> cases hx <;> cases hy
    all_goals repeat (refine if_split ?_; walk_at "ex")
    all_goals first | exact q | (simp only [decide_true]; exact q)
  | succ n ih =>
    intro d x y H Q E hs hx hy q
    unfold sp_L_alike
    refine ⟨?_⟩
    unfold b_L_alike
    have turn : ∀ (a b : Addr) (xs ys : List V) (ds : List PyData) (zs : List V) (o : Option V), (SqL K H a xs ∨ SqT K H a xs) → (SqL K H b ys ∨ SqT K H b ys) → DpAll K H xs ds → DpAll K H ys ds → (∀ d ∈ ds, Sh n d) → (∀ z ∈ zs, ∃ k : Int, z = .int k ∧ 0 ≤ k ∧ k < ds.length) →
        walk (fun _ => True) (gNm 2) (l_L_alike_1 K Γ (sp_L_alike K Γ (n + 1))) { nx := sRet (eLit (.bl true)) { nx := fun _ H' => Q V.non H', rt := Q }, rt := Q } zs [some (.ref a), some (.ref b), o] H := by
      intro a b xs ys ds zs o ha hb h1 h2 hsh
      induction zs generalizing o with
      | nil => intro _; exact ⟨trivial, q⟩
      | cons z zs ih2 =>
        intro hz
        obtain ⟨k, rfl, hk0, hk1⟩ := hz z List.mem_cons_self
        refine ⟨trivial, ?_⟩
        walk_at "ex"
        rw [el_L_alike_1]
        walk_at "if"
        obtain ⟨i, rfl⟩ := Int.eq_ofNat_of_zero_le hk0
        have hi : i < ds.length := by omega
        obtain ⟨v1, e1, g1⟩ := DpAll.at' h1 (List.getElem?_eq_getElem hi)
        obtain ⟨v2, e2, g2⟩ := DpAll.at' h2 (List.getElem?_eq_getElem hi)
        refine ⟨xs, v1, ha, atNat e1, ?_⟩
        refine ⟨ys, v2, hb, atNat e2, ?_⟩
        refine ih _ _ _ _ _ _ (hsh _ (List.getElem_mem hi)) g1 g2 ?_
        walk_at "ex"
        exact ih2 _ fun z h => hz z (List.mem_cons_of_mem _ h)
    have fin : ∀ (a b : Addr) (xs ys : List V) (ds : List PyData), ds.length ≤ 16777216 → (SqL K H a xs ∨ SqT K H a xs) → (SqL K H b ys ∨ SqT K H b ys) → DpAll K H xs ds → DpAll K H ys ds → (∀ d ∈ ds, Sh n d) →
        sIf (tTst (eBin (uNe K) (eBlt (uLen K) (aCons (eVar 0) aNil)) (eBlt (uLen K) (aCons (eVar 1) aNil)))) (sRet (eLit (.bl false))) sNil
          { nx := sSeq (sFor (cR1 (eBlt (uLen K) (aCons (eVar 1) aNil))) (gNm 2) (l_L_alike_1 K Γ (sp_L_alike K Γ (n + 1)))) (sRet (eLit (.bl true))) { nx := fun _ H' => Q V.non H', rt := Q }, rt := Q } [some (.ref a), some (.ref b), none] H := by
      intro a b xs ys ds hl ha hb h1 h2 hsh
      have l1 := DpAll.len h1
      have l2 := DpAll.len h2
      walk_at "if"
      refine ⟨xs, ha, ?_⟩
      walk_at "ex"
      refine ⟨ys, hb, ?_⟩
      walk_at "ex"
      rw [if_neg (by simp [l1, l2])]
      refine ⟨ys, hb, ?_⟩
      refine ⟨by omega, turn a b xs ys ds _ _ ha hb h1 h2 hsh fun z hz => ?_⟩
      obtain ⟨k, h1, h2, h3⟩ := range_mem hz
      exact ⟨k, h1, h2, by omega⟩
    cases hs with
    | list hl hsh =>
      cases hx with | lst s1 a1 => cases hy with | lst s2 a2 =>
      walk_at "if"
      iterate 5 (refine if_split ?_; walk_at "ex"; refine .inl ⟨⟨_, s2⟩, ?_⟩; walk_at "ex")
      refine .inl ⟨⟨_, s1⟩, ?_⟩
      walk_at "ex"
      exact fin _ _ _ _ _ hl (.inl s1) (.inl s2) a1 a2 hsh
    | tuple hl hsh =>
      cases hx with | tup s1 a1 => cases hy with | tup s2 a2 =>
      walk_at "if"
      iterate 4 (refine if_split ?_; walk_at "ex"; refine .inr (.inl ⟨⟨_, s2⟩, ?_⟩); walk_at "ex")
      refine .inr (.inl ⟨⟨_, s1⟩, ?_⟩)
      walk_at "ex"
      refine if_split ?_
      walk_at "ex"
      refine .inr (.inl ⟨⟨_, s2⟩, ?_⟩)
      walk_at "ex"
      exact fin _ _ _ _ _ hl (.inr s1) (.inr s2) a1 a2 hsh
    | _ =>
      cases hx <;> cases hy
      all_goals repeat (refine if_split ?_; walk_at "ex")
      all_goals first | exact q | (simp only [decide_true]; exact q)

theorem Grow.of {F H H' : Hp} (s : Same F H) (t : Same H H') : Grow F H F H' := ⟨Same.refl _, s.trans t, t, fun _ h _ => h⟩
theorem Grow.s {F H F' H' : Hp} (g : Grow F H F' H') : Same F' H' := g.fh
/-- a new thing is written, that may be written again -/
theorem Grow.cell {F H F' H' : Hp} {x : Addr} {o : HO} (g : Grow F H F' H') (h1 : F' x = none) (h2 : H x = none) : Grow F H F' (upd H' x o) := ⟨g.ff, Same.up g.fh h1, Same.up g.hh h2, g.apart⟩
/-- .. is shut: it isn't written any more -/
theorem Grow.shut {F H F' H' : Hp} {x : Addr} {o : HO} (g : Grow F H F' H') (h1 : F' x = none) (h2 : H x = none) (h3 : H' x = some o) : Grow F H (upd F' x o) H' := ⟨g.ff.trans (Same.new h1), fun b u e => by
  by_cases h : b = x
  · subst h
    rw [upd_same] at e
    cases e
    exact h3
  · rw [upd_ne h] at e
    exact g.fh _ _ e, g.hh, fun b z1 z2 => by
    have : b ≠ x := fun e => z2 (by rw [e]; exact h2)
    rw [upd_ne this]
    exact g.apart b z1 z2⟩
def put {α : Type} (f : Nat → α) (q : Nat) (x : α) : Nat → α := fun z => if z = q then x else f z
theorem put_same {α : Type} {f : Nat → α} {q : Nat} {x : α} : put f q x q = x := if_pos rfl
theorem put_ne {α : Type} {f : Nat → α} {q z : Nat} {x : α} (h : z ≠ q) : put f q x z = f z := if_neg h
/-- rows of cells of one's own, all apart -/
structure Own (F H : Hp) (ad : Nat → List Addr) (R : Nat → List HO) : Prop where
  s : Same F H
  c : ∀ {q i : Nat} {a : Addr}, (ad q)[i]? = some a → ∃ o, (R q)[i]? = some o ∧ Cell F H a o
  len : ∀ q, (ad q).length = (R q).length
  inj : ∀ {q i q' i' : Nat} {a : Addr}, (ad q)[i]? = some a → (ad q')[i']? = some a → q = q' ∧ i = i'
theorem Own.grow {F H F' H' : Hp} {ad : Nat → List Addr} {R : Nat → List HO} (o : Own F H ad R) (g : Grow F H F' H') : Own F' H' ad R := ⟨g.fh, fun h => by
  obtain ⟨u, e, c⟩ := o.c h
  exact ⟨u, e, c.grow g⟩, o.len, o.inj⟩
theorem Own.set {F H : Hp} {ad : Nat → List Addr} {R : Nat → List HO} {q i : Nat} {a : Addr} {u : HO} (o : Own F H ad R) (h : (ad q)[i]? = some a) : Own F (upd H a u) ad (put R q ((R q).set i u)) := ⟨Same.up o.s (o.c h).choose_spec.2.f, fun {q' i' b} h' => by
  obtain ⟨v, e, c⟩ := o.c h'
  by_cases z : b = a
  · subst z
    obtain ⟨rfl, rfl⟩ := o.inj h' h
    refine ⟨u, ?_, c.set⟩
    rw [put_same, List.getElem?_set_self]
    exact (List.getElem?_eq_some_iff.mp e).1
  · refine ⟨v, ?_, c.other z⟩
    by_cases y : q' = q
    · subst y
      rw [put_same, List.getElem?_set_ne, e]
      rintro rfl
      rw [h] at h'
      exact z (Option.some.inj h').symm
    · rw [put_ne y]
      exact e, fun q' => by
  by_cases y : q' = q
  · subst y; rw [put_same, List.length_set]; exact o.len q'
  · rw [put_ne y]; exact o.len q', o.inj⟩
/-- new cells -/
structure Nw (H0 H : Hp) (ps : List Addr) (os : List HO) : Prop where
  nd : ps.Nodup
  fr : ∀ p ∈ ps, H0 p = none
  at' : ∀ {i : Nat} {p : Addr}, ps[i]? = some p → ∃ o, os[i]? = some o ∧ H p = some o
  len : ps.length = os.length
theorem Nw.nil {H0 H : Hp} : Nw H0 H [] [] := ⟨List.nodup_nil, fun _ h => (nomatch h), fun h => (nomatch h), rfl⟩
theorem Nw.mem {H0 H : Hp} {ps : List Addr} {os : List HO} (n : Nw H0 H ps os) {p : Addr} (h : p ∈ ps) : ∃ o, H p = some o := by
  obtain ⟨i, hi⟩ := List.getElem?_of_mem h
  obtain ⟨o, _, e⟩ := n.at' hi
  exact ⟨o, e⟩
theorem Nw.push {H0 H : Hp} {ps : List Addr} {os : List HO} {p : Addr} {o : HO} (n : Nw H0 H ps os) (s : Same H0 H) (h : H p = none) : Nw H0 (upd H p o) (ps ++ [p]) (os ++ [o]) := ⟨by
  rw [List.nodup_append]
  refine ⟨n.nd, by simp, fun a ha b hb => ?_⟩
  rw [List.mem_singleton] at hb
  subst hb
  obtain ⟨u, e⟩ := n.mem ha
  exact ne_of_none e h, fun a ha => by
  rcases List.mem_append.mp ha with ha | ha
  · exact n.fr a ha
  · rw [List.mem_singleton] at ha
    subst ha
    exact Same.free s h, fun {i a} hi => by
  by_cases z : i < ps.length
  · rw [List.getElem?_append_left z] at hi
    obtain ⟨u, e1, e2⟩ := n.at' hi
    refine ⟨u, ?_, ?_⟩
    · rw [List.getElem?_append_left (by rw [← n.len]; exact z)]
      exact e1
    · rw [upd_ne (ne_of_none e2 h)]
      exact e2
  · rw [List.getElem?_append_right (by omega)] at hi
    have hz : i - ps.length = 0 := by
      have := (List.getElem?_eq_some_iff.mp hi).1
      simp at this
      omega
    rw [hz] at hi
    simp at hi
    subst hi
    refine ⟨o, ?_, upd_same⟩
    rw [List.getElem?_append_right (by rw [← n.len]; omega), ← n.len, hz]
    rfl, by simp [n.len]⟩
theorem Nw.same {H0 H H' : Hp} {ps : List Addr} {os : List HO} (n : Nw H0 H ps os) (s : Same H H') : Nw H0 H' ps os := ⟨n.nd, n.fr, fun h => by
  obtain ⟨o, e, z⟩ := n.at' h
  exact ⟨o, e, s _ _ z⟩, n.len⟩
theorem Nw.wr {H0 H : Hp} {ps : List Addr} {os : List HO} {x : Addr} {u : HO} (n : Nw H0 H ps os) (h : x ∉ ps) : Nw H0 (upd H x u) ps os := ⟨n.nd, n.fr, fun {i p} hi => by
  obtain ⟨o, e, z⟩ := n.at' hi
  refine ⟨o, e, ?_⟩
  rw [upd_ne (fun e2 => h (by rw [← e2]; exact List.mem_of_getElem? hi))]
  exact z, n.len⟩
theorem Nw.back {H0 H1 H : Hp} {ps : List Addr} {os : List HO} (n : Nw H1 H ps os) (s : Same H0 H1) : Nw H0 H ps os := ⟨n.nd, fun p h => Same.free s (n.fr p h), n.at', n.len⟩
theorem Own.add {F H F' H' : Hp} {ad : Nat → List Addr} {R : Nat → List HO} {q : Nat} {ps : List Addr} {os : List HO} (o : Own F H ad R) (g : Grow F H F' H') (n : Nw H H' ps os) (hf : ∀ p ∈ ps, F' p = none) (hq : ad q = []) : Own F' H' (put ad q ps) (put R q os) := by
  have o' := o.grow g
  have old : ∀ {q' i : Nat} {a : Addr}, (ad q')[i]? = some a → a ∉ ps := fun h z => by
    obtain ⟨u, _, c⟩ := o.c h
    have := n.fr _ z
    rw [c.h] at this
    cases this
  refine ⟨g.fh, fun {q' i a} h => ?_, fun q' => ?_, fun {q1 i1 q2 i2 a} h1 h2 => ?_⟩
  · by_cases y : q' = q
    · subst y
      rw [put_same] at h ⊢
      obtain ⟨u, e1, e2⟩ := n.at' h
      exact ⟨u, e1, hf _ (List.mem_of_getElem? h), e2⟩
    · rw [put_ne y] at h ⊢
      exact o'.c h
  · by_cases y : q' = q
    · subst y; rw [put_same, put_same]; exact n.len
    · rw [put_ne y, put_ne y]; exact o.len q'
  · by_cases y1 : q1 = q <;> by_cases y2 : q2 = q
    · subst y1; subst y2
      rw [put_same] at h1 h2
      refine ⟨rfl, ?_⟩
      exact (List.getElem?_inj (List.getElem?_eq_some_iff.mp h1).1 n.nd).mp (h1.trans h2.symm)
    · subst y1
      rw [put_same] at h1
      rw [put_ne y2] at h2
      exact (old h2 (List.mem_of_getElem? h1)).elim
    · subst y2
      rw [put_same] at h2
      rw [put_ne y1] at h1
      exact (old h1 (List.mem_of_getElem? h2)).elim
    · rw [put_ne y1] at h1
      rw [put_ne y2] at h2
      exact o.inj h1 h2
theorem Own.zero {F H : Hp} (s : Same F H) : Own F H (fun _ => []) (fun _ => []) := ⟨s, fun h => by simp at h, fun _ => rfl, fun h => by simp at h⟩
/-! data that can be laid side by side -/
inductive Pl : Nat → PyData → Prop
  | none {n : Nat} : Pl n .none
  | bool {n : Nat} {b : Bool} : Pl n (.bool b)
  | int {n : Nat} {i : Int} : Pl n (.int i)
  | str {n : Nat} {x : Str} (h : (PyData.str x).canLay0 = true) : Pl n (.str x)
  | list {n : Nat} {ds : List PyData} (hs : ∀ d ∈ ds, Pl n d) : Pl (n + 1) (.list ds)
  | tuple {n : Nat} {ds : List PyData} (hs : ∀ d ∈ ds, Pl n d) : Pl (n + 1) (.tuple ds)
theorem all_lay {ds : List PyData} (h : ∀ d ∈ ds, d.canLay0 = true) : PyData.canLayAll0 ds = true := by
  induction ds with
  | nil => rfl
  | cons d ds ih =>
    rw [PyData.canLayAll0, h d List.mem_cons_self, ih fun x hx => h x (List.mem_cons_of_mem _ hx)]
    rfl
theorem all_deep {n : Nat} {ds : List PyData} (h : ∀ d ∈ ds, d.depth ≤ n) : PyData.depthAll ds ≤ n := by
  induction ds with
  | nil => simp [PyData.depthAll]
  | cons d ds ih =>
    rw [PyData.depthAll]
    have := h d List.mem_cons_self
    have := ih fun x hx => h x (List.mem_cons_of_mem _ hx)
    omega
theorem Pl.ok {n : Nat} {d : PyData} (h : Pl n d) : d.canLay0 = true ∧ d.depth ≤ n := by
  induction h with
  | none => exact ⟨rfl, by simp [PyData.depth]⟩
  | bool => exact ⟨rfl, by simp [PyData.depth]⟩
  | int => exact ⟨rfl, by simp [PyData.depth]⟩
  | str h => exact ⟨h, by simp [PyData.depth]⟩
  | list hs ih => exact ⟨all_lay fun d hd => (ih d hd).1, Nat.succ_le_succ (all_deep fun d hd => (ih d hd).2)⟩
  | tuple hs ih => exact ⟨all_lay fun d hd => (ih d hd).1, Nat.succ_le_succ (all_deep fun d hd => (ih d hd).2)⟩
theorem Pl.shaped {n : Nat} {d : PyData} (h : Pl n d) (hn : n ≤ 64) : SeqAt.shaped d = true := by
  have := h.ok
  rw [SeqAt.shaped, this.1, Bool.true_and, decide_eq_true (by omega)]
theorem all_eq {ds : List PyData} (h : ∀ d ∈ ds, PyData.eqv d d = true) : PyData.eqvAll ds ds = true := by
  induction ds with
  | nil => rfl
  | cons d ds ih =>
    rw [PyData.eqvAll, h d List.mem_cons_self, ih fun x hx => h x (List.mem_cons_of_mem _ hx)]
    rfl
theorem Pl.eq {n : Nat} {d : PyData} (h : Pl n d) : PyData.eqv d d = true := by
  induction h with
  | none => rfl
  | bool => simp [PyData.eqv]
  | int => simp [PyData.eqv]
  | str h => simp [PyData.eqv]
  | list hs ih => rw [PyData.eqv]; exact all_eq ih
  | tuple hs ih => rw [PyData.eqv]; exact all_eq ih
theorem Pl.ints {n : Nat} {r : List Int} : Pl (n + 1) (.list (r.map .int)) := .list fun d h => by
  obtain ⟨i, _, rfl⟩ := List.mem_map.mp h
  exact .int
theorem cutV_mem {xs : List V} {lo hi : Option Int} {v : V} (h : v ∈ cutV xs lo hi) : v ∈ xs := List.mem_of_mem_drop (List.mem_of_mem_take h)
theorem enumV_cons {k : Nat} {x : V} {xs : List V} : enumV k (x :: xs) = (.int k, x) :: enumV (k + 1) xs := by
  unfold enumV
  rw [List.zipIdx_cons, List.map_cons]

def Ints (r : List Int) : HO := .lst (r.map V.int)
def lenV : Option Int → V
  | none => .non
  | some k => .int k
def Ln (K : PySem.W.Frag) (F : Hp) (v : V) (l : Option Int) (r : List Int) : Prop := ∃ a b, v = .ref a ∧ SqT K F a [lenV l, .ref b] ∧ SqT K F b (r.map V.int)
theorem Ln.same {K : PySem.W.Frag} {F F' : Hp} {v : V} {l : Option Int} {r : List Int} (h : Ln K F v l r) (s : Same F F') : Ln K F' v l r := by
  obtain ⟨a, b, e, h1, h2⟩ := h
  exact ⟨a, b, e, Same.sqT s h1, Same.sqT s h2⟩
def room (l : Option Int) (n : Nat) : Bool := match l with
  | none => true
  | some k => decide ((n : Int) < k)
section
variable {K : PySem.W.Frag} {Γ : Gm} {F H : Hp} {Q : VK} {E : XK}
theorem c_roomy {v : V} {l : Option Int} {r : List Int} {b : Addr} {xs : List V} (h : Ln K H v l r) (hx : SqL K H b xs) (q : Q (.bl (room l xs.length)) H) : sp_L_roomy K Γ [v, .ref b] H Q E := by
  obtain ⟨a, c, rfl, h1, h2⟩ := h
  refine ⟨?_⟩
  unfold b_L_roomy
  walk_at "ex"
  refine ⟨_, lenV l, .inr h1, rfl, ?_⟩
  cases l with
  | none =>
    simp only [lenV, asBl, decide_true, if_true, Bool.false_eq_true, if_false]
    exact q
  | some k =>
    simp only [lenV, asBl, reduceCtorEq, decide_false, Bool.false_eq_true, if_false]
    refine ⟨_, .inl hx, _, _, .inr h1, rfl, ?_⟩
    exact q
theorem c_line (c k : Int) (hk : 0 ≤ k ∧ k ≤ 100) (s : Same F H) (q : ∀ F' H' v l r, Grow F H F' H' → Ln K F' v l r → r.length ≤ 3 → Q v H') : sp_L_line K Γ [.int c, .int k] H Q E := by
  have := sz
  refine ⟨?_⟩
  unfold b_L_line
  walk_at "ex"
  refine c_mixed _ _ (by omega) fun m hm0 hm1 => ?_
  walk_at "ex"
  refine ⟨by decide +kernel, fun p hp => ?_⟩
  have g0 : Grow F H F (upd H p (.lst [.int 1, .int 2, .int 3, .int 4, .non])) := Grow.drop s hp
  refine ⟨by decide, ?_⟩
  obtain ⟨v, hv⟩ := at_len (xs := [V.int 1, .int 2, .int 3, .int 4, .non]) (i := m % 5) (by omega) (by simp only [List.length_cons, List.length_nil]; omega)
  have hl : ∃ l, v = lenV l ∧ ∀ z : Int, l = some z → 1 ≤ z := by
    have := atI_mem hv
    simp only [List.mem_cons, List.not_mem_nil, or_false] at this
    rcases this with rfl | rfl | rfl | rfl | rfl
    · exact ⟨some 1, rfl, fun z h => by cases h; decide⟩
    · exact ⟨some 2, rfl, fun z h => by cases h; decide⟩
    · exact ⟨some 3, rfl, fun z h => by cases h; decide⟩
    · exact ⟨some 4, rfl, fun z h => by cases h; decide⟩
    · exact ⟨none, rfl, fun z h => (nomatch h)⟩
  obtain ⟨l, rfl, hz⟩ := hl
  refine ⟨_, _, .inl (SqL.of upd_same), hv, ?_⟩
  walk_at "ex"
  refine ⟨⟨by decide, by decide⟩, by decide, ?_⟩
  generalize upd H p (.lst [.int 1, .int 2, .int 3, .int 4, .non]) = H1 at g0
  refine if_join (fun σ H' => H' = H1 ∧ ∃ n : Int, (0 ≤ n ∧ n ≤ 3) ∧ σ = [some (.int c), some (.int k), some (.int m), some (lenV l), some (.int n), none]) ?_ ?_
  · walk_at "ex"
    cases l with
    | none =>
      simp only [lenV, decide_true, Bool.not_true, Bool.false_eq_true, if_false, ↓reduceIte]
      walk_at "ex"
      exact ⟨trivial, _, by omega, rfl⟩
    | some z =>
      simp only [lenV, reduceCtorEq, decide_false, Bool.not_false, ↓reduceIte]
      walk_at "ex"
      refine ⟨trivial, _, ?_, rfl⟩
      have := hz z rfl
      split <;> (constructor <;> omega)
  rintro σ H' ⟨rfl, n, hn, rfl⟩
  walk_at "ex"
  refine ⟨by omega, fun D hD => ?_⟩
  have hx : ∀ x ∈ rangeV 0 n, ∃ j : Int, x = .int j ∧ 0 ≤ j ∧ j < 3 := fun x hx => by
    obtain ⟨j, h1, h2, h3⟩ := range_mem hx
    exact ⟨j, h1, h2, by omega⟩
  have hle : ([] : List Int).length + (rangeV 0 n).length ≤ 3 := by
    unfold rangeV
    simp only [List.length_nil, List.length_map, List.length_range]
    omega
  have hs : Same H' (upd H' D (.lst [])) := Same.new hD
  have hd : upd H' D (.lst []) D = some (Ints []) := upd_same
  generalize rangeV 0 n = xs at hx hle ⊢
  generalize upd H' D (.lst []) = H1 at hs hd ⊢
  generalize ([] : List Int) = done at hle hd
  induction xs generalizing H1 done with
  | nil =>
    refine ⟨trivial, .inl ⟨_, SqL.of hd, fun p hp => ⟨show 2 ≤ sizeLine by omega, fun t ht => ?_⟩⟩⟩
    have g1 : Grow F H F H1 := g0.trans (Grow.of g0.fh hs)
    have g2 := g1.trans (Grow.new (o := .tup (done.map V.int)) g1.fh hp)
    have g3 := g2.trans (Grow.new (o := .tup [lenV l, .ref p]) g2.fh ht)
    refine q _ _ _ l done g3 ⟨t, p, rfl, .inl (.inl upd_same), .inl (.inl ?_)⟩ (by simpa using hle)
    rw [upd_ne (ne_of_none upd_same ht)]
    exact upd_same
  | cons x xs ih =>
    obtain ⟨j, rfl, hj0, hj1⟩ := hx _ List.mem_cons_self
    refine ⟨trivial, ?_⟩
    walk_at "ex"
    refine ⟨rfl, ?_⟩
    walk_at "ex"
    refine ⟨⟨by decide, by decide⟩, ?_⟩
    refine c_number _ _ (by omega) fun i hi => ?_
    rw [List.length_cons] at hle
    refine ⟨done.map V.int, hd, by rw [List.length_map]; omega, ?_⟩
    refine ih (fun y hy => hx y (List.mem_cons_of_mem _ hy)) _ (Same.up hs hD) (done ++ [i]) (by simp only [List.length_append, List.length_cons, List.length_nil]; omega) ?_
    rw [upd_same, Ints, List.map_append]
    rfl
/-- a yard at rest in F: the rows' addresses as -/
def Yd (K : PySem.W.Frag) (Γ : Gm) (F : Hp) (v : V) (ls : List (Option Int)) (ps : List Addr) : Prop := ∃ y dx A B, v = .ref y ∧ F y = some (.ins (Γ "Yard") dx [("lengths", .ref A), ("rows", .ref B)]) ∧ F A = some (.lst (ls.map lenV)) ∧ F B = some (.lst (ps.map V.ref))
theorem Yd.same {F F' : Hp} {v : V} {ls : List (Option Int)} {ps : List Addr} (h : Yd K Γ F v ls ps) (s : Same F F') : Yd K Γ F' v ls ps := by
  obtain ⟨y, dx, A, B, e, h1, h2, h3⟩ := h
  exact ⟨y, dx, A, B, e, s _ _ h1, s _ _ h2, s _ _ h3⟩
theorem at_map {α : Type} {f : α → V} {xs : List α} {i : Nat} {x : α} (h : xs[i]? = some x) : atI (xs.map f) (i : Int) = some (f x) := atNat (by rw [List.getElem?_map, h]; rfl)
theorem c_hand {v : V} {ls : List (Option Int)} {ps : List Addr} {i : Nat} {a : Addr} {r : List Int} {x : Int} (y : Yd K Γ H v ls ps) (hi : ps[i]? = some a) (ha : H a = some (Ints r)) (hr : r.length ≤ 1000) (q : Q .non (upd H a (Ints (r ++ [x])))) : sp_Yard_hand K Γ [v, .int i, .int x] H Q E := by
  have := sz
  obtain ⟨y, dx, A, B, rfl, h1, h2, h3⟩ := y
  refine ⟨?_⟩
  unfold b_Yard_hand
  walk_at "ex"
  refine ⟨_, dx, _, List.mem_cons_self, h1, .ref B, rfl, _, _, .inl (SqL.of h3), at_map hi, ?_⟩
  walk_at "ex"
  refine ⟨⟨_, SqL.of ha⟩, _, ha, by rw [List.length_map]; omega, ?_⟩
  have e : upd H a (Ints (r ++ [x])) = upd H a (.lst (r.map V.int ++ [.int x])) := by rw [Ints, List.map_append]; rfl
  rw [← e]
  exact q
theorem c_taken {v : V} {ls : List (Option Int)} {ps : List Addr} {i : Nat} {a : Addr} {r : List Int} {x : Int} (y : Yd K Γ H v ls ps) (hi : ps[i]? = some a) (ha : H a = some (Ints (x :: r))) (q : Q (.int x) (upd H a (Ints r))) : sp_Yard_taken K Γ [v, .int i] H Q E := by
  obtain ⟨y, dx, A, B, rfl, h1, h2, h3⟩ := y
  refine ⟨?_⟩
  unfold b_Yard_taken
  walk_at "ex"
  refine ⟨_, dx, _, List.mem_cons_self, h1, .ref B, rfl, _, _, .inl (SqL.of h3), at_map hi, ?_⟩
  walk_at "ex"
  exact ⟨⟨_, SqL.of ha⟩, trivial, _, _, ha, q⟩
theorem c_holds {v : V} {ls : List (Option Int)} {ps : List Addr} {i : Nat} {a : Addr} {r : List Int} (y : Yd K Γ H v ls ps) (hi : ps[i]? = some a) (ha : H a = some (Ints r)) (q : Q (.int r.length) H) : sp_Yard_holds K Γ [v, .int i] H Q E := by
  obtain ⟨y, dx, A, B, rfl, h1, h2, h3⟩ := y
  refine ⟨?_⟩
  unfold b_Yard_holds
  walk_at "ex"
  refine ⟨_, dx, _, List.mem_cons_self, h1, .ref B, rfl, _, _, .inl (SqL.of h3), at_map hi, ?_⟩
  walk_at "ex"
  refine ⟨_, .inl (SqL.of ha), ?_⟩
  rw [List.length_map]
  exact q
theorem c_room {v : V} {ls : List (Option Int)} {ps : List Addr} {i : Nat} {a : Addr} {l : Option Int} {r : List Int} (y : Yd K Γ H v ls ps) (hi : ps[i]? = some a) (hl : ls[i]? = some l) (ha : H a = some (Ints r)) (q : Q (.bl (room l r.length)) H) : sp_Yard_room K Γ [v, .int i] H Q E := by
  obtain ⟨y, dx, A, B, rfl, h1, h2, h3⟩ := y
  refine ⟨?_⟩
  unfold b_Yard_room
  walk_at "ex"
  refine ⟨_, dx, _, List.mem_cons_self, h1, .ref A, rfl, _, _, .inl (SqL.of h2), at_map hl, ?_⟩
  walk_at "ex"
  cases l with
  | none =>
    simp only [lenV, decide_true, if_true, Bool.false_eq_true, if_false, ↓reduceIte]
    exact q
  | some k =>
    simp only [lenV, reduceCtorEq, decide_false, Bool.false_eq_true, if_false]
    refine ⟨_, dx, _, List.mem_cons_self, h1, .ref B, rfl, _, _, .inl (SqL.of h3), at_map hi, ?_⟩
    walk_at "ex"
    refine ⟨_, .inl (SqL.of ha), ?_⟩
    rw [List.length_map]
    exact q
theorem c_first {v : V} {ls : List (Option Int)} {ps : List Addr} {i : Nat} {a : Addr} {r : List Int} (s : Same F H) (y : Yd K Γ H v ls ps) (hi : ps[i]? = some a) (ha : H a = some (Ints r)) (q : ∀ H', Grow F H F H' → Q (r.head?.elim .non V.int) H') : sp_Yard_first K Γ [v, .int i] H Q E := by
  have hy := y
  obtain ⟨y, dx, A, B, rfl, h1, h2, h3⟩ := y
  refine ⟨?_⟩
  unfold b_Yard_first
  walk_at "if"
  refine ⟨_, dx, _, List.mem_cons_self, h1, .ref B, rfl, _, _, .inl (SqL.of h3), at_map hi, ?_⟩
  walk_at "ex"
  refine ⟨by decide, fun p hp => ?_⟩
  have g := Grow.drop (o := .lst []) s hp
  have t : Same H (upd H p (.lst [])) := Same.new hp
  refine ⟨.list (r.map .int), .list [], .lst (SqL.of (t _ _ ha)) (DpAll.same t DpAll.ints), .lst (SqL.of upd_same) .nil, ?_, by decide, ?_⟩
  · exact (Pl.ints (n := 0)).shaped (by decide)
  cases r with
  | nil => exact q _ g
  | cons x r =>
    simp only [List.map_cons, PyData.eqv, PyData.eqvAll]
    refine ⟨_, dx, _, List.mem_cons_self, t _ _ h1, .ref B, rfl, _, _, .inl (SqL.of (t _ _ h3)), at_map hi, ?_⟩
    walk_at "ex"
    exact ⟨_, .int x, .inl (SqL.of (t _ _ ha)), at_map (i := 0) (xs := x :: r) rfl, q _ g⟩
/-- what the rows hold, as data -/
def rowsD (rs : List (List Int)) : PyData := .list (rs.map fun r => .list (r.map .int))
theorem rowsD_sh {rs : List (List Int)} {n : Nat} (h : rs.length ≤ 1000) (hr : ∀ r ∈ rs, r.length ≤ 1000) : Sh (n + 2) (rowsD rs) := .list (by simp; omega) fun d hd => by
  obtain ⟨r, h1, rfl⟩ := List.mem_map.mp hd
  refine .list (by have := hr r h1; simp; omega) fun d hd => ?_
  obtain ⟨i, _, rfl⟩ := List.mem_map.mp hd
  exact .int
theorem rowsD_pl {rs : List (List Int)} : Pl 2 (rowsD rs) := .list fun d hd => by
  obtain ⟨r, h1, rfl⟩ := List.mem_map.mp hd
  exact Pl.ints
theorem c_stands {v : V} {ls : List (Option Int)} {ps : List Addr} {rs : List (List Int)} (s : Same F H) (y : Yd K Γ H v ls ps) (hps : ps.length ≤ 1000) (hl : ps.length = rs.length) (hat : ∀ (i : Nat) (p : Addr), ps[i]? = some p → ∃ r, rs[i]? = some r ∧ H p = some (Ints r)) (q : ∀ F' H' D, Grow F H F' H' → Dp K F' (.ref D) (rowsD rs) → Q (.ref D) H') : sp_Yard_stands K Γ [v] H Q E := by
  have := sz
  obtain ⟨y, dx, A, B, rfl, h1, h2, h3⟩ := y
  refine ⟨?_⟩
  unfold b_Yard_stands
  walk_at "ex"
  refine ⟨_, dx, _, List.mem_cons_self, h1, .ref B, rfl, .inl ⟨_, SqL.of h3, fun D hD => ?_⟩⟩
  have g : Grow F H F (upd H D (.lst [])) := Grow.drop s hD
  have hd : upd H D (.lst []) D = some (.lst []) := upd_same
  have hf : F D = none := Same.free s hD
  have hdl : ([] : List V).length + ps.length ≤ 1000 := by simp; omega
  unfold rowsD at q
  rw [← List.nil_append (rs.map fun r => PyData.list (r.map .int))] at q
  obtain ⟨F0, g, hf, hda⟩ : ∃ F0, Grow F H F0 (upd H D (.lst [])) ∧ F0 D = none ∧ DpAll K F0 [] ([] : List PyData) := ⟨F, g, hf, .nil⟩
  generalize upd H D (.lst []) = H1 at g hd ⊢
  generalize ([] : List V) = acc at hd hda hdl
  generalize ([] : List PyData) = ds at hda q
  generalize hL : (fun H => SqL K H B (ps.map V.ref)) = L
  have hLk : ∀ F' H', Grow F H F' H' → L H' := fun F' H' g => by rw [← hL]; exact SqL.of (g.hh _ _ h3)
  clear hL h3 h2 h1
  induction ps generalizing rs acc ds F0 H1 with
  | nil =>
    have : rs = [] := List.length_eq_zero_iff.mp hl.symm
    subst this
    refine ⟨hLk _ _ g, ?_⟩
    refine q (upd F0 D (.lst acc)) H1 D (g.shut hf hD hd) ?_
    rw [List.map_nil, List.append_nil]
    exact .lst (SqL.of upd_same) (DpAll.same (Same.new hf) hda)
  | cons p ps ih =>
    obtain ⟨r, hr, hp⟩ := hat 0 p rfl
    cases rs with
    | nil => cases hl
    | cons r' rs =>
    cases hr
    refine ⟨hLk _ _ g, ?_⟩
    walk_at "ex"
    refine ⟨rfl, ?_⟩
    walk_at "ex"
    refine ⟨_, .inl (SqL.of (g.hh _ _ hp)), fun t ht => ?_⟩
    rw [List.length_cons] at hdl hps hl
    have hDt : D ≠ t := ne_of_none hd ht
    refine ⟨acc, by rw [upd_ne hDt]; exact hd, by omega, ?_⟩
    have g2 := g.trans (Grow.new (o := .lst (r.map V.int)) g.fh ht)
    have hf2 : upd F0 t (.lst (r.map V.int)) D = none := by rw [upd_ne hDt]; exact hf
    refine ih (by omega) (by simpa using hl) (fun i p h => hat (i + 1) p h) (upd F0 t (.lst (r.map V.int))) hf2 _ (g2.cell hf2 hD) (acc ++ [.ref t]) upd_same (by simp only [List.length_append, List.length_cons, List.length_nil]; omega) (ds ++ [.list (r.map .int)]) (DpAll.app (DpAll.same (Same.new (Same.free g.fh ht)) hda) (.cons (.lst (SqL.of upd_same) DpAll.ints) .nil)) ?_
    rw [List.append_assoc]
    exact q
end

section
variable {K : PySem.W.Frag} {Γ : Gm} {F H : Hp} {Q : VK} {E : XK}
/-- the lines at hand -/
def Lns (K : PySem.W.Frag) (F : Hp) (lvs : List V) (ls : List (Option Int)) (rs : List (List Int)) : Prop := lvs.length = ls.length ∧ lvs.length = rs.length ∧ ∀ (i : Nat) (v : V), lvs[i]? = some v → ∃ l r, ls[i]? = some l ∧ rs[i]? = some r ∧ Ln K F v l r
theorem Lns.same {F' : Hp} {lvs : List V} {ls : List (Option Int)} {rs : List (List Int)} (h : Lns K F lvs ls rs) (s : Same F F') : Lns K F' lvs ls rs := ⟨h.1, h.2.1, fun i v e => by
  obtain ⟨l, r, h1, h2, h3⟩ := h.2.2 i v e
  exact ⟨l, r, h1, h2, h3.same s⟩⟩
theorem Lns.cons {v : V} {lvs : List V} {ls : List (Option Int)} {rs : List (List Int)} (h : Lns K F (v :: lvs) ls rs) : ∃ l ls' r rs', ls = l :: ls' ∧ rs = r :: rs' ∧ Ln K F v l r ∧ Lns K F lvs ls' rs' := by
  obtain ⟨h1, h2, h3⟩ := h
  cases ls with
  | nil => cases h1
  | cons l ls =>
  cases rs with
  | nil => cases h2
  | cons r rs =>
  obtain ⟨l', r', e1, e2, z⟩ := h3 0 v rfl
  cases e1; cases e2
  exact ⟨_, _, _, _, rfl, rfl, z, by simpa using h1, by simpa using h2, fun i v h => h3 (i + 1) v h⟩
theorem Lns.nil {ls : List (Option Int)} {rs : List (List Int)} (h : Lns K F [] ls rs) : ls = [] ∧ rs = [] := ⟨List.length_eq_zero_iff.mp h.1.symm, List.length_eq_zero_iff.mp h.2.1.symm⟩
theorem lc_len {L : Hp → Prop} {A : Addr} {H0 : Hp} {o1 o2 : Option V} (hL : ∀ H', Same H0 H' → L H') (hA : H0 A = none) (hF : F A = none) : ∀ (lvs : List V) (ls : List (Option Int)) (rs : List (List Int)) (done : List (Option Int)) (H1 : Hp), Lns K F lvs ls rs → Grow F H0 F H1 → H1 A = some (.lst (done.map lenV)) → done.length + lvs.length ≤ 1000 →
    (∀ H2, Grow F H0 F H2 → H2 A = some (.lst ((done ++ ls).map lenV)) → Q (.ref A) H2) → walkC L (gNm 2) tYes (eBin (uIx K) (eVar 2) (eLit (.int 0))) [2] [o1, o2, none] A Q lvs H1 := by
  have := sz
  intro lvs
  induction lvs with
  | nil =>
    intro ls rs done H1 h g hd hl q
    obtain ⟨rfl, rfl⟩ := h.nil
    refine ⟨hL _ g.hh, q _ g ?_⟩
    rw [List.append_nil]
    exact hd
  | cons v lvs ih =>
    intro ls rs done H1 h g hd hl q
    obtain ⟨l, ls, r, rs, rfl, rfl, hv, h4⟩ := h.cons
    refine ⟨hL _ g.hh, ?_⟩
    walk_at "ex"
    refine ⟨rfl, ?_⟩
    obtain ⟨a, c, rfl, h1, h2⟩ := hv
    walk_at "ex"
    rw [List.length_cons] at hl
    refine ⟨_, lenV l, .inr (Same.sqT g.fh h1), rfl, _, hd, by rw [List.length_map]; omega, ?_⟩
    refine ih ls rs (done ++ [l]) _ h4 (g.cell hF hA) ?_ (by simp only [List.length_append, List.length_cons, List.length_nil]; omega) ?_
    · rw [upd_same, List.map_append]
      rfl
    · rw [List.append_assoc]
      exact q
theorem lc_rows {L : Hp → Prop} {A : Addr} {H0 : Hp} {i : Nat} {σ : L2.St} {te : TE} (hL : ∀ H', Same H0 H' → L H') (hA : H0 A = none) (hF : F A = none) (hw : ∀ v, wipe ((wipe σ [i]).set i (some v)) [i] = wipe σ [i])
    (hte : ∀ v l r H Q, Ln K H v l r → (∀ p, H p = none → Q (.ref p) (upd H p (Ints r))) → te ((wipe σ [i]).set i (some v)) H Q) : ∀ (lvs : List V) (ls : List (Option Int)) (rs : List (List Int)) (ps : List Addr) (os : List HO) (H1 : Hp), Lns K F lvs ls rs → Grow F H0 F H1 → Nw H0 H1 ps os → A ∉ ps → H1 A = some (.lst (ps.map V.ref)) → ps.length + lvs.length ≤ 1000 →
    (∀ H2 ps', Grow F H0 F H2 → Nw H0 H2 ps' (os ++ rs.map Ints) → A ∉ ps' → H2 A = some (.lst (ps'.map V.ref)) → Q (.ref A) H2) → walkC L (gNm i) tYes te [i] σ A Q lvs H1 := by
  have := sz
  intro lvs
  induction lvs with
  | nil =>
    intro ls rs ps os H1 h g n hn hd hl q
    obtain ⟨rfl, rfl⟩ := h.nil
    refine ⟨hL _ g.hh, q _ ps g ?_ hn hd⟩
    rw [List.map_nil, List.append_nil]
    exact n
  | cons v lvs ih =>
    intro ls rs ps os H1 h g n hn hd hl q
    obtain ⟨l, ls, r, rs, rfl, rfl, hv, h4⟩ := h.cons
    refine ⟨hL _ g.hh, ?_⟩
    walk_at "ex"
    refine ⟨hw v, ?_⟩
    walk_at "ex"
    refine hte _ _ _ _ _ (hv.same g.fh) fun p hp => ?_
    rw [List.length_cons] at hl
    have hpA : A ≠ p := ne_of_none hd hp
    refine ⟨_, by rw [upd_ne hpA]; exact hd, by rw [List.length_map]; omega, ?_⟩
    have n2 := n.push (o := Ints r) g.hh hp
    have hn2 : A ∉ ps ++ [p] := by simp [hn, hpA]
    refine ih ls rs (ps ++ [p]) (os ++ [Ints r]) _ h4 (Grow.cell (Grow.cell g (Same.free g.fh hp) (Same.free g.hh hp)) hF hA) (n2.wr hn2) hn2 ?_ (by simp only [List.length_append, List.length_cons, List.length_nil]; omega) ?_
    · rw [upd_same, List.map_append]
      rfl
    · rw [List.append_assoc]
      exact q
theorem c_init {x dx b : Addr} {lvs : List V} {ls : List (Option Int)} {rs : List (List Int)} (s : Same F H) (hx : H x = none) (hdx : H dx = none) (hne : dx ≠ x) (hb : H b = some (.lst lvs)) (hl : lvs.length ≤ 1000) (hL : Lns K F lvs ls rs)
    (q : ∀ F' H' ps, Grow F H F' H' → Nw H H' ps (rs.map Ints) → (∀ p ∈ ps, F' p = none) → Yd K Γ F' (.ref x) ls ps → Q .non H') :
    sp_Yard___init__ K Γ [.ref x, .ref b] (upd (upd H dx (.own x)) x (.ins (Γ "Yard") dx [])) Q E := by
  have := sz
  refine ⟨?_⟩
  unfold b_Yard___init__
  walk_at "ex"
  have t1 : Same H (upd H dx (.own x)) := Same.new hdx
  have hx1 : upd H dx (.own x) x = none := by rw [upd_ne hne.symm]; exact hx
  have g0 : Grow F H F (upd (upd H dx (.own x)) x (.ins (Γ "Yard") dx [])) := Grow.of s (t1.trans (Same.new hx1))
  have cx : upd (upd H dx (.own x)) x (.ins (Γ "Yard") dx []) x = some (.ins (Γ "Yard") dx []) := upd_same
  generalize upd (upd H dx (.own x)) x (.ins (Γ "Yard") dx []) = H0 at g0 cx
  have fx : F x = none := Same.free s hx
  refine .inl ⟨lvs, SqL.of (g0.hh _ _ hb), fun A hA => ?_⟩
  refine lc_len (F := F) (H0 := H0) (fun H' t => SqL.of (t _ _ (g0.hh _ _ hb))) hA (Same.free g0.fh hA) lvs ls rs [] _ hL (Grow.drop g0.fh hA) upd_same (by simp; omega) fun H2 g1 hd => ?_
  refine ⟨_, dx, _, List.mem_cons_self, g1.hh _ _ cx, show (0 : Nat) < 1000 by decide, ?_⟩
  have hAx : A ≠ x := (ne_of_none cx hA).symm
  have k1 : Grow F H (upd F A (.lst (ls.map lenV))) H2 := (g0.trans g1).shut (Same.free g0.fh hA) (Same.free g0.hh hA) hd
  have fx1 : upd F A (.lst (ls.map lenV)) x = none := by rw [upd_ne hAx.symm]; exact fx
  have k2 := k1.cell (o := .ins (Γ "Yard") dx (putF "lengths" (.ref A) [])) fx1 hx
  have cx2 : upd H2 x (.ins (Γ "Yard") dx (putF "lengths" (.ref A) [])) x = some (.ins (Γ "Yard") dx (putF "lengths" (.ref A) [])) := upd_same
  have hA2 : upd F A (.lst (ls.map lenV)) A = some (.lst (ls.map lenV)) := upd_same
  generalize upd H2 x (.ins (Γ "Yard") dx (putF "lengths" (.ref A) [])) = H3 at k2 cx2
  have hL1 := hL.same k2.ff
  generalize upd F A (.lst (ls.map lenV)) = F1 at k2 hA2 fx1 hL1
  refine .inl ⟨lvs, SqL.of (k2.hh _ _ hb), fun B hB => ?_⟩
  refine lc_rows (F := F1) (H0 := H3) (fun H' t => SqL.of (t _ _ (k2.hh _ _ hb))) hB (Same.free k2.fh hB) (fun _ => rfl) ?_ lvs ls rs [] [] _ hL1 (Grow.drop k2.fh hB) Nw.nil (by simp) upd_same (by simp; omega) fun H4 ps g2 n hBp hd2 => ?_
  · intro v l r H Q hv q
    obtain ⟨a, c, rfl, h1, h2⟩ := hv
    walk_at "ex"
    exact ⟨_, .ref c, .inr h1, rfl, _, .inr h2, q⟩
  refine ⟨_, dx, _, List.mem_cons_self, g2.hh _ _ cx2, show (1 : Nat) < 1000 by decide, ?_⟩
  have hBx : B ≠ x := (ne_of_none cx2 hB).symm
  have k3 : Grow F H (upd F1 B (.lst (ps.map V.ref))) H4 := (k2.trans g2).shut (Same.free k2.fh hB) (Same.free k2.hh hB) hd2
  have fx2 : upd F1 B (.lst (ps.map V.ref)) x = none := by rw [upd_ne hBx.symm]; exact fx1
  have k4 := k3.cell (o := .ins (Γ "Yard") dx [("lengths", .ref A), ("rows", .ref B)]) fx2 hx
  have k5 := k4.shut fx2 hx upd_same
  have hxp : x ∉ ps := fun h => by
    have := n.fr x h
    rw [cx2] at this
    cases this
  have hAB : A ≠ B := ne_of_none (k2.fh _ _ hA2) hB
  have hfp : ∀ p ∈ ps, F1 p = none := fun p h => Same.free k2.fh (n.fr p h)
  refine q _ _ ps k5 ((n.wr hxp).back k2.hh) (fun p hp => ?_) ⟨x, dx, A, B, rfl, upd_same, ?_, ?_⟩
  · rw [upd_ne (fun e => hxp (by rw [← e]; exact hp)), upd_ne (fun e => hBp (by rw [← e]; exact hp))]
    exact hfp p hp
  · rw [upd_ne hAx, upd_ne hAB]
    exact hA2
  · rw [upd_ne hBx]
    exact upd_same
end

structure At (K : PySem.W.Frag) (Γ : Gm) (F H : Hp) (ad : Nat → List Addr) (R : Nat → List HO) (y : V) (lns rw' : Addr) (lvs : List V) (ls : List (Option Int)) (qa qb : Nat) (X : List (List Int)) (N : Nat) : Prop where
  own : Own F H ad R
  yd : Yd K Γ F y ls (ad qa)
  ln : ∃ X0, Lns K F lvs ls X0
  sl : SqL K F lns lvs
  sr : SqL K F rw' ((ad qb).map V.ref)
  ra : R qa = X.map Ints
  rb : R qb = X.map Ints
  ne : qa ≠ qb
  lx : X.length = ls.length
  le : X.length ≤ 6
  bd : ∀ r ∈ X, r.length ≤ N
  hN : N ≤ 900
section
variable {K : PySem.W.Frag} {Γ : Gm} {F H : Hp} {Q : VK} {E : XK} {ad : Nat → List Addr} {R : Nat → List HO} {y : V} {lns rw' : Addr} {lvs : List V} {ls : List (Option Int)} {qa qb : Nat} {X : List (List Int)} {N : Nat}
theorem At.grow {F' H' : Hp} (h : At K Γ F H ad R y lns rw' lvs ls qa qb X N) (g : Grow F H F' H') : At K Γ F' H' ad R y lns rw' lvs ls qa qb X N :=
  ⟨h.own.grow g, h.yd.same g.ff, h.ln.imp fun _ z => z.same g.ff, g.ff.seq h.sl, g.ff.seq h.sr, h.ra, h.rb, h.ne, h.lx, h.le, h.bd, h.hN⟩
theorem Own.row {q i : Nat} {r : List Int} (o : Own F H ad R) (hR : R q = X.map Ints) (hi : X[i]? = some r) : ∃ a, (ad q)[i]? = some a ∧ H a = some (Ints r) := by
  have hl := o.len q
  rw [hR, List.length_map] at hl
  have h1 := (List.getElem?_eq_some_iff.mp hi).1
  have h2 := List.getElem?_eq_getElem (show i < (ad q).length by omega)
  obtain ⟨u, e, c⟩ := o.c h2
  rw [hR, List.getElem?_map, hi] at e
  cases e
  exact ⟨_, h2, c.h⟩
theorem Own.lens {q : Nat} (o : Own F H ad R) (hR : R q = X.map Ints) : (ad q).length = X.length := by
  have hl := o.len q
  rw [hR, List.length_map] at hl
  exact hl
theorem Own.ats {q : Nat} (o : Own F H ad R) (hR : R q = X.map Ints) (i : Nat) (p : Addr) (h : (ad q)[i]? = some p) : ∃ r, X[i]? = some r ∧ H p = some (Ints r) := by
  obtain ⟨u, e, c⟩ := o.c h
  rw [hR, List.getElem?_map] at e
  cases z : X[i]? with
  | none => rw [z] at e; cases e
  | some r =>
    rw [z] at e
    cases e
    exact ⟨r, rfl, c.h⟩
theorem dp_rows : ∀ {ps : List Addr} {X : List (List Int)}, ps.length = X.length → (∀ (i : Nat) (p : Addr), ps[i]? = some p → ∃ r, X[i]? = some r ∧ H p = some (Ints r)) → DpAll K H (ps.map V.ref) (X.map fun r => PyData.list (r.map .int))
  | [], [], _, _ => .nil
  | p :: ps, r :: X, h, f => by
    obtain ⟨r', e, hp⟩ := f 0 p rfl
    cases e
    exact .cons (.lst (SqL.of hp) DpAll.ints) (dp_rows (by simpa using h) fun i p h => f (i + 1) p h)
theorem Own.dp {q : Nat} {b : Addr} (o : Own F H ad R) (hR : R q = X.map Ints) (hb : SqL K F b ((ad q).map V.ref)) : Dp K H (.ref b) (rowsD X) := .lst (o.s.seq hb) (dp_rows (o.lens hR) (o.ats hR))
theorem Yd.m {v : V} {ps : List Addr} {m : Str} {sp : Sp} {k : Sp → Prop} (y : Yd K Γ H v ls ps) (q : k sp) (h1 : (m == ("lengths" : Str)) = false := by decide +kernel) (h2 : (m == ("rows" : Str)) = false := by decide +kernel) : asRef v fun a => mthR Γ m a H [("Yard", sp)] k := by
  obtain ⟨y, dx, A, B, rfl, h, _⟩ := y
  refine ⟨_, List.mem_cons_self, dx, _, h, ?_, q⟩
  rw [List.lookup_cons, h1, List.lookup_cons, h2]
  rfl
/-- what is read at a line -/
theorem At.get {i : Nat} (h : At K Γ F H ad R y lns rw' lvs ls qa qb X N) (hi : i < ls.length) : ∃ v l r0 r a b, lvs[i]? = some v ∧ Ln K H v l r0 ∧ ls[i]? = some l ∧ X[i]? = some r ∧ (ad qa)[i]? = some a ∧ (ad qb)[i]? = some b ∧ H a = some (Ints r) ∧ H b = some (Ints r) ∧ a ≠ b ∧ r.length ≤ N := by
  obtain ⟨X0, hln⟩ := h.ln
  have e1 := List.getElem?_eq_getElem (show i < lvs.length by rw [hln.1]; exact hi)
  obtain ⟨l, r0, h1, h2, h3⟩ := hln.2.2 i _ e1
  have e2 := List.getElem?_eq_getElem (show i < X.length by rw [h.lx]; exact hi)
  obtain ⟨a, a1, a2⟩ := h.own.row h.ra e2
  obtain ⟨b, b1, b2⟩ := h.own.row h.rb e2
  refine ⟨_, l, r0, _, a, b, e1, h3.same h.own.s, h1, e2, a1, b1, a2, b2, ?_, h.bd _ (List.getElem_mem _)⟩
  rintro rfl
  exact h.ne (h.own.inj a1 b1).1
theorem c_looked (i : Nat) (way : Int) (h : At K Γ F H ad R y lns rw' lvs ls qa qb X N) (hi : i < ls.length) (hw : 0 ≤ way) (q : ∀ F' H', Grow F H F' H' → Q (.bl true) H') : sp_L_looked K Γ [y, .ref lns, .ref rw', .int i, .int way] H Q E := by
  have := sz
  refine ⟨?_⟩
  unfold b_L_looked
  walk_at "ex"
  refine ⟨by decide, ?_⟩
  have hx : ∀ x ∈ rangeV 0 4, ∃ j : Int, x = .int j ∧ 0 ≤ j := fun x hx => by
    obtain ⟨j, h1, h2, h3⟩ := range_mem hx
    exact ⟨j, h1, h2⟩
  generalize rangeV 0 4 = xs at hx ⊢
  have g : Grow F H F H := Grow.rfl' h.own.s
  generalize (none : Option V) = o1
  generalize o1 = o2
  generalize o2 = o3
  suffices ∀ (xs : List V) (o1 o2 o3 : Option V) (F' H' : Hp), (∀ x ∈ xs, ∃ j : Int, x = .int j ∧ 0 ≤ j) → Grow F H F' H' → walk (fun _ => True) (gNm 5) (l_L_looked_1 K Γ) { nx := sRet (eLit (.bl true)) { nx := fun _ H' => Q .non H', rt := Q }, rt := Q } xs [some y, some (.ref lns), some (.ref rw'), some (.int i), some (.int way), o1, o2, o3] H' from this _ _ _ _ _ _ hx g
  clear hx g xs o1 o2 o3
  intro xs
  induction xs with
  | nil =>
    intro o1 o2 o3 F' H' _ g
    exact ⟨trivial, q _ _ g⟩
  | cons x xs ih =>
    intro o1 o2 o3 F' H' hx g
    obtain ⟨j, rfl, hj⟩ := hx _ List.mem_cons_self
    have ih' := fun o1 o2 o3 F' H' => ih o1 o2 o3 F' H' fun z hz => hx z (List.mem_cons_of_mem _ hz)
    refine ⟨trivial, ?_⟩
    walk_at "ex"
    rw [el_L_looked_1]
    walk_at "ex"
    refine ⟨by decide, ?_⟩
    have hc : (way + j) % 4 = 0 ∨ (way + j) % 4 = 1 ∨ (way + j) % 4 = 2 ∨ (way + j) % 4 = 3 := by omega
    have h' := h.grow g
    obtain ⟨v, l, r0, r, a, b, e1, hv, e2, e3, e4, e5, ha, hb, hab, hr⟩ := h'.get hi
    have hN := h.hN
    have w := h'.yd.same h'.own.s
    have s1 : SqL K H' rw' _ := h'.own.s.seq h'.sr
    have s2 : SqL K H' lns _ := h'.own.s.seq h'.sl
    rcases hc with hc | hc | hc | hc <;> rw [hc]
    · walk_at "if"
      refine w.m (c_holds w e4 ha ?_)
      walk_at "ex"
      refine ⟨_, _, .inl s1, at_map e5, ?_⟩
      walk_at "ex"
      refine ⟨_, .inl (SqL.of hb), ?_⟩
      rw [List.length_map]
      refine c_alike 7 (.int r.length) _ _ _ _ _ .int (.int _) (.int _) ?_
      walk_at "ex"
      walk_at "if"
      walk_at "if"
      walk_at "if"
      exact ih' _ _ _ _ _ g
    · walk_at "if"
      walk_at "if"
      refine w.m (c_room w e4 e2 ha ?_)
      walk_at "ex"
      refine ⟨_, _, .inl s2, atNat e1, _, _, .inl s1, at_map e5, ?_⟩
      refine c_roomy hv (SqL.of hb) ?_
      rw [List.length_map]
      refine c_alike 7 (.bool (room l r.length)) _ _ _ _ _ .bool (.bl _) (.bl _) ?_
      walk_at "ex"
      walk_at "if"
      walk_at "if"
      exact ih' _ _ _ _ _ g
    · walk_at "if"
      walk_at "if"
      walk_at "if"
      refine ⟨_, _, .inl s1, at_map e5, ?_⟩
      walk_at "ex"
      refine ⟨_, .inl (SqL.of hb), ?_⟩
      rw [List.length_map]
      cases r with
      | nil =>
        walk_at "ex"
        walk_at "if"
        refine w.m (c_first h'.own.s w e4 ha fun H2 g2 => ?_)
        walk_at "ex"
        refine c_alike 7 .none _ _ _ _ _ .none .non .non ?_
        walk_at "ex"
        walk_at "if"
        exact ih' _ _ _ _ _ (g.trans g2)
      | cons c r =>
        have hpos : (0 : Int) < ((c :: r).length : Nat) := by simp only [List.length_cons]; omega
        simp only [hpos, ↓reduceIte]
        refine ⟨_, _, .inl s1, at_map e5, ?_⟩
        walk_at "ex"
        refine ⟨_, .int c, .inl (SqL.of hb), at_map (i := 0) (xs := c :: r) rfl, ?_⟩
        walk_at "ex"
        walk_at "if"
        refine w.m (c_first h'.own.s w e4 ha fun H2 g2 => ?_)
        walk_at "ex"
        refine c_alike 7 (.int c) _ _ _ _ _ .int (.int c) (.int c) ?_
        walk_at "ex"
        walk_at "if"
        exact ih' _ _ _ _ _ (g.trans g2)
    · walk_at "if"
      walk_at "if"
      walk_at "if"
      walk_at "if"
      have hle := h.le
      have hsh : Sh 7 (rowsD X) := rowsD_sh (by omega) fun r hr => by have := h.bd r hr; omega
      refine w.m (c_stands (rs := X) h'.own.s w (by have := h'.own.lens h.ra; omega) (h'.own.lens h.ra) (h'.own.ats h.ra) fun F2 H2 D g2 hD => ?_)
      walk_at "ex"
      refine c_alike 7 (rowsD X) _ _ _ _ _ hsh (Dp.same g2.fh hD) (Dp.same g2.hh (h'.own.dp h.rb h'.sr)) ?_
      walk_at "ex"
      exact ih' _ _ _ _ _ (g.trans g2)
end

section
variable {K : PySem.W.Frag} {Γ : Gm} {F H : Hp} {Q : VK} {E : XK} {ad : Nat → List Addr} {R : Nat → List HO} {y : V} {lns rw' : Addr} {lvs : List V} {ls : List (Option Int)} {qa qb : Nat} {X : List (List Int)} {N : Nat}
/-- one row of both exchanged -/
theorem At.put {i : Nat} {r : List Int} {a b : Addr} (h : At K Γ F H ad R y lns rw' lvs ls qa qb X N) (ha : (ad qa)[i]? = some a) (hb : (ad qb)[i]? = some b) (hr : r.length ≤ N + 1) (hN : N + 1 ≤ 900) {H' : Hp} (e : H' = upd (upd H a (Ints r)) b (Ints r) ∨ H' = upd (upd H b (Ints r)) a (Ints r)) :
    ∃ R', At K Γ F H' ad R' y lns rw' lvs ls qa qb (X.set i r) (N + 1) ∧ ∀ q, q ≠ qa → q ≠ qb → R' q = R q := by
  have hbd : ∀ z ∈ X.set i r, z.length ≤ N + 1 := fun z hz => by
    rcases List.mem_or_eq_of_mem_set hz with h1 | rfl
    · have := h.bd z h1; omega
    · exact hr
  have hm : (X.set i r).map Ints = (X.map Ints).set i (Ints r) := by rw [List.map_set]
  rcases e with rfl | rfl
  · have o1 := h.own.set (u := Ints r) ha
    have o2 := o1.set (u := Ints r) hb
    refine ⟨_, ⟨o2, h.yd, h.ln, h.sl, h.sr, ?_, ?_, h.ne, by rw [List.length_set]; exact h.lx, by rw [List.length_set]; exact h.le, hbd, hN⟩, fun q h1 h2 => ?_⟩
    · rw [put_ne h.ne, put_same, h.ra, hm]
    · rw [put_same, put_ne h.ne.symm, h.rb, hm]
    · rw [put_ne h2, put_ne h1]
  · have o1 := h.own.set (u := Ints r) hb
    have o2 := o1.set (u := Ints r) ha
    refine ⟨_, ⟨o2, h.yd, h.ln, h.sl, h.sr, ?_, ?_, h.ne, by rw [List.length_set]; exact h.lx, by rw [List.length_set]; exact h.le, hbd, hN⟩, fun q h1 h2 => ?_⟩
    · rw [put_same, put_ne h.ne, h.ra, hm]
    · rw [put_ne h.ne.symm, put_same, h.rb, hm]
    · rw [put_ne h1, put_ne h2]
theorem c_deed (i : Nat) (m c : Int) (h : At K Γ F H ad R y lns rw' lvs ls qa qb X N) (hi : i < ls.length) (hm : 0 ≤ m ∧ m ≤ 4294967296) (hN : N + 1 ≤ 900)
    (q : ∀ H' R' X', At K Γ F H' ad R' y lns rw' lvs ls qa qb X' (N + 1) → (∀ q, q ≠ qa → q ≠ qb → R' q = R q) → Q (.bl true) H') : sp_L_deed K Γ [y, .ref lns, .ref rw', .int i, .int m, .int c] H Q E := by
  have := sz
  obtain ⟨v, l, r0, r, a, b, e1, hv, e2, e3, e4, e5, ha, hb, hab, hr⟩ := h.get hi
  have w := h.yd.same h.own.s
  have s1 : SqL K H rw' _ := h.own.s.seq h.sr
  have s2 : SqL K H lns _ := h.own.s.seq h.sl
  refine ⟨?_⟩
  unfold b_L_deed
  walk_at "ex"
  refine ⟨_, _, .inl s2, atNat e1, _, _, .inl s1, at_map e5, ?_⟩
  refine c_roomy hv (SqL.of hb) ?_
  rw [List.length_map]
  walk_at "ex"
  walk_at "if"
  refine ⟨_, _, .inl s1, at_map e5, ?_⟩
  walk_at "ex"
  refine ⟨_, .inl (SqL.of hb), ?_⟩
  rw [List.length_map]
  walk_at "ex"
  split
  · rename_i hp
    obtain ⟨x, r', er⟩ := List.exists_cons_of_length_pos (show 0 < r.length by omega)
    refine ⟨by decide, ?_⟩
    split
    · rw [er] at ha hb
      refine w.m (c_taken w e4 ha ?_)
      have ow := h.own.set (u := Ints r') e4
      have hb' : upd H a (Ints r') b = some (Ints (x :: r')) := by rw [upd_ne hab.symm]; exact hb
      refine ⟨_, _, .inl (ow.s.seq h.sr), at_map e5, ?_⟩
      walk_at "ex"
      refine ⟨⟨_, SqL.of hb'⟩, trivial, _, _, hb', ?_⟩
      refine c_alike 7 (.int x) _ _ _ _ _ .int (.int x) (.int x) ?_
      obtain ⟨R', h1, h2⟩ := h.put e4 e5 (r := r') (by rw [er] at hr; simp at hr; omega) hN (.inl rfl)
      exact q _ _ _ h1 h2
    split
    · rw [er] at ha hb
      refine w.m (c_taken w e4 ha ?_)
      have ow := h.own.set (u := Ints r') e4
      have hb' : upd H a (Ints r') b = some (Ints (x :: r')) := by rw [upd_ne hab.symm]; exact hb
      refine ⟨_, _, .inl (ow.s.seq h.sr), at_map e5, ?_⟩
      walk_at "ex"
      refine ⟨⟨_, SqL.of hb'⟩, trivial, _, _, hb', ?_⟩
      refine c_alike 7 (.int x) _ _ _ _ _ .int (.int x) (.int x) ?_
      obtain ⟨R', h1, h2⟩ := h.put e4 e5 (r := r') (by rw [er] at hr; simp at hr; omega) hN (.inl rfl)
      exact q _ _ _ h1 h2
    refine ⟨⟨by decide, by decide⟩, by decide, c_number _ _ (by omega) fun x _ => ?_⟩
    refine ⟨_, _, .inl s1, at_map e5, ?_⟩
    walk_at "ex"
    refine ⟨⟨_, SqL.of hb⟩, _, hb, by rw [List.length_map]; omega, ?_⟩
    have e : upd H b (.lst (r.map V.int ++ [.int x])) = upd H b (Ints (r ++ [x])) := by rw [Ints, List.map_append]; rfl
    rw [e]
    have ow := h.own.set (u := Ints (r ++ [x])) e5
    refine (h.yd.same ow.s).m (c_hand (h.yd.same ow.s) e4 (by rw [upd_ne hab]; exact ha) (by omega) ?_)
    obtain ⟨R', h1, h2⟩ := h.put e4 e5 (r := r ++ [x]) (by simp; omega) hN (.inr rfl)
    exact q _ _ _ h1 h2
  · refine ⟨⟨by decide, by decide⟩, by decide, c_number _ _ (by omega) fun x _ => ?_⟩
    refine ⟨_, _, .inl s1, at_map e5, ?_⟩
    walk_at "ex"
    refine ⟨⟨_, SqL.of hb⟩, _, hb, by rw [List.length_map]; omega, ?_⟩
    have e : upd H b (.lst (r.map V.int ++ [.int x])) = upd H b (Ints (r ++ [x])) := by rw [Ints, List.map_append]; rfl
    rw [e]
    have ow := h.own.set (u := Ints (r ++ [x])) e5
    refine (h.yd.same ow.s).m (c_hand (h.yd.same ow.s) e4 (by rw [upd_ne hab]; exact ha) (by omega) ?_)
    obtain ⟨R', h1, h2⟩ := h.put e4 e5 (r := r ++ [x]) (by simp; omega) hN (.inr rfl)
    exact q _ _ _ h1 h2
end

section
variable {K : PySem.W.Frag} {Γ : Gm} {F H : Hp} {Q : VK} {E : XK}
theorem Lns.push {lvs : List V} {ls : List (Option Int)} {rs : List (List Int)} {v : V} {l : Option Int} {r : List Int} (h : Lns K F lvs ls rs) (hv : Ln K F v l r) : Lns K F (lvs ++ [v]) (ls ++ [l]) (rs ++ [r]) := ⟨by simp [h.1], by simp [h.2.1], fun i z hz => by
  by_cases c : i < lvs.length
  · rw [List.getElem?_append_left c] at hz
    obtain ⟨l', r', e1, e2, e3⟩ := h.2.2 i z hz
    refine ⟨l', r', ?_, ?_, e3⟩
    · rw [List.getElem?_append_left (by rw [← h.1]; exact c)]; exact e1
    · rw [List.getElem?_append_left (by rw [← h.2.1]; exact c)]; exact e2
  · have hi : i = lvs.length := by
      have := (List.getElem?_eq_some_iff.mp hz).1
      simp at this
      omega
    subst hi
    rw [List.getElem?_append_right (Nat.le_refl _), Nat.sub_self] at hz
    cases hz
    refine ⟨l, r, ?_, ?_, hv⟩
    · rw [h.1, List.getElem?_append_right (Nat.le_refl _), Nat.sub_self]; rfl
    · rw [h.2.1, List.getElem?_append_right (Nat.le_refl _), Nat.sub_self]; rfl⟩
theorem lc_lines {L : Hp → Prop} {A a : Addr} {ns : List Int} {H0 : Hp} {σ : L2.St} (hL : ∀ H', L H') (h0 : σ[0]? = some (some (.ref a))) (hlen : σ.length = 17) (hS : SqL K H0 a (ns.map V.int)) (hA : H0 A = none) :
    ∀ (xs : List V) (lvs : List V) (ls : List (Option Int)) (rs : List (List Int)) (F1 H1 : Hp), (∀ x ∈ xs, ∃ j : Int, x = .int j ∧ 0 ≤ j ∧ j ≤ 10) → Grow F H0 F1 H1 → F1 A = none → H1 A = some (.lst lvs) → Lns K F1 lvs ls rs → lvs.length + xs.length ≤ 1000 → (∀ r ∈ rs, r.length ≤ 3) →
    (∀ F2 H2 lvs' ls rs, Grow F H0 F2 H2 → F2 A = some (.lst lvs') → Lns K F2 lvs' ls rs → lvs'.length = lvs.length + xs.length → (∀ r ∈ rs, r.length ≤ 3) → Q (.ref A) H2) →
    walkC L (gNm 3) tYes (eCall (sp_L_line K Γ) E0 (aCons (eCall (sp_L_cell K Γ) E0 (aCons (eVar 0) (aCons (eLit (.int 1)) aNil))) (aCons (eVar 3) aNil))) [3] σ A Q xs H1 := by
  have := sz
  intro xs
  induction xs with
  | nil =>
    intro lvs ls rs F1 H1 _ g hF hd h hl h3 q
    exact ⟨hL _, q _ _ lvs ls rs (g.shut hF hA hd) upd_same (h.same (Same.new hF)) rfl h3⟩
  | cons x xs ih =>
    intro lvs ls rs F1 H1 hx g hF hd h hl h3 q
    obtain ⟨j, rfl, hj0, hj1⟩ := hx _ List.mem_cons_self
    match σ, hlen with
    | [s0, s1, s2, s3, s4, s5, s6, s7, s8, s9, s10, s11, s12, s13, s14, s15, s16], _ =>
    cases h0
    refine ⟨hL _, ?_⟩
    walk_at "ex"
    refine ⟨rfl, ?_⟩
    simp only [wipe, List.map, List.foldl]
    walk_at "ex"
    rw [List.length_cons] at hl
    refine c_cell 1 (by decide) (g.hh.seq hS) fun c => ?_
    refine c_line c j (by omega) g.fh fun F2 H2 v l r g2 hv hr => ?_
    have hF2 : F2 A = none := g2.apart A hF (by rw [hd]; simp)
    have hd2 := g2.hh _ _ hd
    refine ⟨lvs, hd2, by omega, ?_⟩
    refine ih (lvs ++ [v]) (ls ++ [l]) (rs ++ [r]) F2 _ (fun y hy => hx y (List.mem_cons_of_mem _ hy)) ((g.trans g2).cell hF2 hA) hF2 upd_same ((h.same g2.ff).push hv) (by simp only [List.length_append, List.length_cons, List.length_nil]; omega) (fun z hz => ?_) (fun F3 H3 lvs' ls' rs' a1 a2 a3 a4 a5 => q F3 H3 lvs' ls' rs' a1 a2 a3 (by rw [a4]; simp only [List.length_append, List.length_cons, List.length_nil]; omega) a5)
    rcases List.mem_append.mp hz with hz | hz
    · exact h3 z hz
    · rw [List.mem_singleton] at hz
      rw [hz]; exact hr
end

def fam {α : Type} (x0 x1 x2 x3 x4 x5 x6 x7 : List α) : Nat → List α
  | 0 => x0 | 1 => x1 | 2 => x2 | 3 => x3 | 4 => x4 | 5 => x5 | 6 => x6 | 7 => x7 | _ => []
section
variable {α : Type} {x0 x1 x2 x3 x4 x5 x6 x7 z : List α}
theorem fam0 : put (fam x0 x1 x2 x3 x4 x5 x6 x7) 0 z = fam z x1 x2 x3 x4 x5 x6 x7 := by funext q; rcases q with _ | _ | _ | _ | _ | _ | _ | _ | q <;> first | rfl | (unfold put; rw [if_neg (by omega)]; rfl)
theorem fam1 : put (fam x0 x1 x2 x3 x4 x5 x6 x7) 1 z = fam x0 z x2 x3 x4 x5 x6 x7 := by funext q; rcases q with _ | _ | _ | _ | _ | _ | _ | _ | q <;> first | rfl | (unfold put; rw [if_neg (by omega)]; rfl)
theorem fam2 : put (fam x0 x1 x2 x3 x4 x5 x6 x7) 2 z = fam x0 x1 z x3 x4 x5 x6 x7 := by funext q; rcases q with _ | _ | _ | _ | _ | _ | _ | _ | q <;> first | rfl | (unfold put; rw [if_neg (by omega)]; rfl)
theorem fam3 : put (fam x0 x1 x2 x3 x4 x5 x6 x7) 3 z = fam x0 x1 x2 z x4 x5 x6 x7 := by funext q; rcases q with _ | _ | _ | _ | _ | _ | _ | _ | q <;> first | rfl | (unfold put; rw [if_neg (by omega)]; rfl)
theorem fam4 : put (fam x0 x1 x2 x3 x4 x5 x6 x7) 4 z = fam x0 x1 x2 x3 z x5 x6 x7 := by funext q; rcases q with _ | _ | _ | _ | _ | _ | _ | _ | q <;> first | rfl | (unfold put; rw [if_neg (by omega)]; rfl)
theorem fam5 : put (fam x0 x1 x2 x3 x4 x5 x6 x7) 5 z = fam x0 x1 x2 x3 x4 z x6 x7 := by funext q; rcases q with _ | _ | _ | _ | _ | _ | _ | _ | q <;> first | rfl | (unfold put; rw [if_neg (by omega)]; rfl)
theorem fam6 : put (fam x0 x1 x2 x3 x4 x5 x6 x7) 6 z = fam x0 x1 x2 x3 x4 x5 z x7 := by funext q; rcases q with _ | _ | _ | _ | _ | _ | _ | _ | q <;> first | rfl | (unfold put; rw [if_neg (by omega)]; rfl)
theorem fam7 : put (fam x0 x1 x2 x3 x4 x5 x6 x7) 7 z = fam x0 x1 x2 x3 x4 x5 x6 z := by funext q; rcases q with _ | _ | _ | _ | _ | _ | _ | _ | q <;> first | rfl | (unfold put; rw [if_neg (by omega)]; rfl)
theorem famN : fam ([] : List α) [] [] [] [] [] [] [] = fun _ => [] := by funext q; rcases q with _ | _ | _ | _ | _ | _ | _ | _ | q <;> rfl
end
section
variable {F H : Hp} {ad : Nat → List Addr} {R : Nat → List HO}
theorem Own.one {q : Nat} {p : Addr} {o : HO} (w : Own F H ad R) (h : H p = none) (hq : ad q = []) : Own F (upd H p o) (put ad q [p]) (put R q [o]) :=
  w.add (Grow.drop w.s h) (Nw.nil.push (Same.refl _) h) (fun z hz => by
    have e : z = p := by simpa using hz
    rw [e]
    exact Same.free w.s h) hq
theorem Own.get1 {q : Nat} {p : Addr} {o : HO} (w : Own F H ad R) (h1 : ad q = [p]) (h2 : R q = [o]) : Cell F H p o := by
  obtain ⟨u, e, c⟩ := w.c (q := q) (i := 0) (a := p) (by rw [h1]; rfl)
  rw [h2] at e
  cases e
  exact c
theorem Own.set1 {q : Nat} {p : Addr} {o u : HO} (w : Own F H ad R) (h1 : ad q = [p]) (h2 : R q = [o]) : Own F (upd H p u) ad (put R q [u]) := by
  have z := w.set (q := q) (i := 0) (a := p) (u := u) (by rw [h1]; rfl)
  rw [h2] at z
  exact z
theorem Own.shut {q : Nat} {p : Addr} {o : HO} (w : Own F H ad R) (h1 : ad q = [p]) (h2 : R q = [o]) : Own (upd F p o) H (put ad q []) (put R q []) := by
  have c1 := w.get1 h1 h2
  have z : ∀ {q' i : Nat} {a : Addr}, (put ad q [] q')[i]? = some a → q' ≠ q ∧ (ad q')[i]? = some a := fun {q' i a} h => by
    by_cases e : q' = q
    · subst e; rw [put_same] at h; simp at h
    · rw [put_ne e] at h; exact ⟨e, h⟩
  refine ⟨(Cell.close w.s c1).2, fun {q' i a} h => ?_, fun q' => ?_, fun {q1 i1 q2 i2 a} a1 a2 => w.inj (z a1).2 (z a2).2⟩
  · obtain ⟨n, h⟩ := z h
    obtain ⟨v, e, c⟩ := w.c h
    refine ⟨v, by rw [put_ne n]; exact e, ?_, c.h⟩
    rw [upd_ne]
    · exact c.f
    · rintro rfl
      exact n (w.inj h (i' := 0) (by rw [h1]; rfl)).1
  · by_cases e : q' = q
    · subst e; rw [put_same, put_same]; rfl
    · rw [put_ne e, put_ne e]; exact w.len q'
end
structure Sx (K : PySem.W.Frag) (Γ : Gm) (F H : Hp) (ad : Nat → List Addr) (R : Nat → List HO) (lns : Addr) (lvs : List V) (ls : List (Option Int)) (y : V) (w : Addr) (qa qb : Nat) (X : List (List Int)) (y' : V) (w' : Addr) (qc qd : Nat) (X' : List (List Int))
    (t u : Addr) (ts us : List V) (dT dU : List PyData) (N : Nat) : Prop where
  a : At K Γ F H ad R y lns w lvs ls qa qb X N
  b : At K Γ F H ad R y' lns w' lvs ls qc qd X' N
  ne : (qa ≠ qc ∧ qa ≠ qd ∧ qb ≠ qc ∧ qb ≠ qd) ∧ (qa ≠ 4 ∧ qa ≠ 5 ∧ qb ≠ 4 ∧ qb ≠ 5) ∧ (qc ≠ 4 ∧ qc ≠ 5 ∧ qd ≠ 4 ∧ qd ≠ 5)
  ta : ad 4 = [t]
  ua : ad 5 = [u]
  tr : R 4 = [.lst ts]
  ur : R 5 = [.lst us]
  dt : DpAll K F ts dT
  du : DpAll K F us dU
  pT : ∀ d ∈ dT, Pl 2 d
  pU : ∀ d ∈ dU, Pl 2 d
  lT : dT.length ≤ N
  lU : dU.length ≤ N
section
variable {K : PySem.W.Frag} {Γ : Gm} {F H : Hp} {ad : Nat → List Addr} {R : Nat → List HO} {lns : Addr} {lvs : List V} {ls : List (Option Int)} {y : V} {w : Addr} {qa qb : Nat} {X : List (List Int)} {y' : V} {w' : Addr} {qc qd : Nat} {X' : List (List Int)}
    {t u : Addr} {ts us : List V} {dT dU : List PyData} {N : Nat}
theorem Sx.swap (h : Sx K Γ F H ad R lns lvs ls y w qa qb X y' w' qc qd X' t u ts us dT dU N) : Sx K Γ F H ad R lns lvs ls y' w' qc qd X' y w qa qb X t u ts us dT dU N := by
  obtain ⟨⟨n1, n2, n3, n4⟩, m1, m2⟩ := h.ne
  exact ⟨h.b, h.a, ⟨⟨n1.symm, n3.symm, n2.symm, n4.symm⟩, m2, m1⟩, h.ta, h.ua, h.tr, h.ur, h.dt, h.du, h.pT, h.pU, h.lT, h.lU⟩
theorem Sx.grow {F' H' : Hp} (h : Sx K Γ F H ad R lns lvs ls y w qa qb X y' w' qc qd X' t u ts us dT dU N) (g : Grow F H F' H') : Sx K Γ F' H' ad R lns lvs ls y w qa qb X y' w' qc qd X' t u ts us dT dU N :=
  ⟨h.a.grow g, h.b.grow g, h.ne, h.ta, h.ua, h.tr, h.ur, DpAll.same g.ff h.dt, DpAll.same g.ff h.du, h.pT, h.pU, h.lT, h.lU⟩
theorem Sx.deed {H' : Hp} {R' : Nat → List HO} {X2 : List (List Int)} (h : Sx K Γ F H ad R lns lvs ls y w qa qb X y' w' qc qd X' t u ts us dT dU N) (a : At K Γ F H' ad R' y lns w lvs ls qa qb X2 (N + 1)) (e : ∀ q, q ≠ qa → q ≠ qb → R' q = R q) :
    Sx K Γ F H' ad R' lns lvs ls y w qa qb X2 y' w' qc qd X' t u ts us dT dU (N + 1) := by
  obtain ⟨⟨n1, n2, n3, n4⟩, ⟨m1, m2, m3, m4⟩, m5⟩ := h.ne
  have hT := h.lT
  have hU := h.lU
  refine ⟨a, ⟨a.own, h.b.yd, h.b.ln, h.b.sl, h.b.sr, ?_, ?_, h.b.ne, h.b.lx, h.b.le, fun r hr => Nat.le_succ_of_le (h.b.bd r hr), a.hN⟩, h.ne, h.ta, h.ua, ?_, ?_, h.dt, h.du, h.pT, h.pU, by omega, by omega⟩
  · rw [e _ n1.symm n3.symm]; exact h.b.ra
  · rw [e _ n2.symm n4.symm]; exact h.b.rb
  · rw [e _ m1.symm m3.symm]; exact h.tr
  · rw [e _ m2.symm m4.symm]; exact h.ur
theorem At.re {H' : Hp} {R' : Nat → List HO} (h : At K Γ F H ad R y lns w lvs ls qa qb X N) (o : Own F H' ad R') (e1 : R' qa = R qa) (e2 : R' qb = R qb) : At K Γ F H' ad R' y lns w lvs ls qa qb X N :=
  ⟨o, h.yd, h.ln, h.sl, h.sr, e1.trans h.ra, e2.trans h.rb, h.ne, h.lx, h.le, h.bd, h.hN⟩
theorem Sx.tell {x : V} {d : PyData} (h : Sx K Γ F H ad R lns lvs ls y w qa qb X y' w' qc qd X' t u ts us dT dU N) (hx : Dp K F x d) (hp : Pl 2 d) (hl : dT.length + 1 ≤ N) :
    ∃ R', Sx K Γ F (upd H t (.lst (ts ++ [x]))) ad R' lns lvs ls y w qa qb X y' w' qc qd X' t u (ts ++ [x]) us (dT ++ [d]) dU N := by
  obtain ⟨⟨n1, n2, n3, n4⟩, ⟨m1, m2, m3, m4⟩, m5, m6, m7, m8⟩ := h.ne
  have o := h.a.own.set1 (u := .lst (ts ++ [x])) h.ta h.tr
  refine ⟨_, h.a.re o (put_ne m1) (put_ne m3), h.b.re o (put_ne m5) (put_ne m7), h.ne, h.ta, h.ua, put_same, (put_ne (by decide)).trans h.ur, DpAll.app h.dt (.cons hx .nil), h.du, fun z hz => ?_, h.pU, by simpa using hl, h.lU⟩
  rcases List.mem_append.mp hz with hz | hz
  · exact h.pT z hz
  · rw [List.mem_singleton] at hz; rw [hz]; exact hp
theorem Sx.keep {x : V} {d : PyData} (h : Sx K Γ F H ad R lns lvs ls y w qa qb X y' w' qc qd X' t u ts us dT dU N) (hx : Dp K F x d) (hp : Pl 2 d) (hl : dU.length + 1 ≤ N) :
    ∃ R', Sx K Γ F (upd H u (.lst (us ++ [x]))) ad R' lns lvs ls y w qa qb X y' w' qc qd X' t u ts (us ++ [x]) dT (dU ++ [d]) N := by
  obtain ⟨⟨n1, n2, n3, n4⟩, ⟨m1, m2, m3, m4⟩, m5, m6, m7, m8⟩ := h.ne
  have o := h.a.own.set1 (u := .lst (us ++ [x])) h.ua h.ur
  refine ⟨_, h.a.re o (put_ne m2) (put_ne m4), h.b.re o (put_ne m6) (put_ne m8), h.ne, h.ta, h.ua, (put_ne (by decide)).trans h.tr, put_same, h.dt, DpAll.app h.du (.cons hx .nil), h.pT, fun z hz => ?_, h.lT, by simpa using hl⟩
  rcases List.mem_append.mp hz with hz | hz
  · exact h.pU z hz
  · rw [List.mem_singleton] at hz; rw [hz]; exact hp
end

section
variable {K : PySem.W.Frag} {Γ : Gm} {Q : VK} {E : XK} {lns : Addr} {lvs : List V} {ls : List (Option Int)} {y y' : V} {w w' t u : Addr}
def Inv (K : PySem.W.Frag) (Γ : Gm) (lns : Addr) (lvs : List V) (ls : List (Option Int)) (y : V) (w : Addr) (y' : V) (w' t u : Addr) (F H : Hp) (N : Nat) : Prop :=
  ∃ ad R X X' ts us ds, Sx K Γ F H ad R lns lvs ls y w 0 2 X y' w' 1 3 X' t u ts us ds ds N
theorem c_copy {F H : Hp} {ps : List Addr} {rs : List (List Int)} {L : Hp → Prop} {D : Addr} {σ : L2.St} (s : Same F H) (hL : ∀ H', Same H H' → L H') (hps : ps.length ≤ 1000) (hl : ps.length = rs.length) (hat : ∀ (i : Nat) (p : Addr), ps[i]? = some p → ∃ r, rs[i]? = some r ∧ H p = some (Ints r)) (hD : H D = none) (hw : ∀ v, ((wipe σ [15]).set 15 (some v))[15]? = some (some v) ∧ wipe ((wipe σ [15]).set 15 (some v)) [15] = wipe σ [15])
    (q : ∀ F' H', Grow F H F' H' → Dp K F' (.ref D) (rowsD rs) → Q (.ref D) H') : walkC L (gNm 15) tYes (eBlt (uList K) (aCons (eVar 15) aNil)) [15] σ D Q (ps.map V.ref) (upd H D (.lst [])) := by
  have := sz
  have g : Grow F H F (upd H D (.lst [])) := Grow.drop s hD
  have hd : upd H D (.lst []) D = some (.lst []) := upd_same
  have hf : F D = none := Same.free s hD
  have hdl : ([] : List V).length + ps.length ≤ 1000 := by simp; omega
  unfold rowsD at q
  rw [← List.nil_append (rs.map fun r => PyData.list (r.map .int))] at q
  obtain ⟨F0, g, hf, hda⟩ : ∃ F0, Grow F H F0 (upd H D (.lst [])) ∧ F0 D = none ∧ DpAll K F0 [] ([] : List PyData) := ⟨F, g, hf, .nil⟩
  generalize upd H D (.lst []) = H1 at g hd ⊢
  generalize ([] : List V) = acc at hd hda hdl
  generalize ([] : List PyData) = ds at hda q
  induction ps generalizing rs acc ds F0 H1 with
  | nil =>
    have : rs = [] := List.length_eq_zero_iff.mp hl.symm
    subst this
    refine ⟨hL _ g.hh, ?_⟩
    refine q (upd F0 D (.lst acc)) H1 (g.shut hf hD hd) ?_
    rw [List.map_nil, List.append_nil]
    exact .lst (SqL.of upd_same) (DpAll.same (Same.new hf) hda)
  | cons p ps ih =>
    obtain ⟨r, hr, hp⟩ := hat 0 p rfl
    cases rs with
    | nil => cases hl
    | cons r' rs =>
    cases hr
    refine ⟨hL _ g.hh, ?_⟩
    walk_at "ex"
    refine ⟨(hw _).2, ?_⟩
    walk_at "ex"
    rw [(hw _).1]
    walk_at "ex"
    refine ⟨_, .inl (SqL.of (g.hh _ _ hp)), fun t ht => ?_⟩
    rw [List.length_cons] at hdl hps hl
    have hDt : D ≠ t := ne_of_none hd ht
    refine ⟨acc, by rw [upd_ne hDt]; exact hd, by omega, ?_⟩
    have g2 := g.trans (Grow.new (o := .lst (r.map V.int)) g.fh ht)
    have hf2 : upd F0 t (.lst (r.map V.int)) D = none := by rw [upd_ne hDt]; exact hf
    refine ih (by omega) (by simpa using hl) (fun i p h => hat (i + 1) p h) (upd F0 t (.lst (r.map V.int))) hf2 _ (g2.cell hf2 hD) (acc ++ [.ref t]) upd_same (by simp only [List.length_append, List.length_cons, List.length_nil]; omega) (ds ++ [.list (r.map .int)]) (DpAll.app (DpAll.same (Same.new (Same.free g.fh ht)) hda) (.cons (.lst (SqL.of upd_same) DpAll.ints) .nil)) ?_
    rw [List.append_assoc]
    exact q
/-- one turn of the law's loop -/
theorem turn {F H : Hp} {N : Nat} {D0 : Ends} {o0 : V} {b yl rl : Addr} {k c : Int} {o11 o12 o13 o14 o15 o16 : Option V} {n : Int} (hv : Inv K Γ lns lvs ls y w y' w' t u F H N) (hn : n = ls.length) (hn1 : 1 ≤ n) (hk : 0 ≤ k ∧ k ≤ 1000) (hN : N + 2 ≤ 900) (hy : F yl = some (.lst [y, y'])) (hr : F rl = some (.lst [.ref w, .ref w']))
    (q : ∀ F' H' o11 o12 o13 o14 o15 o16, Inv K Γ lns lvs ls y w y' w' t u F' H' (N + 1) → Same F F' → D0.nx [some o0, some (.int n), some (.ref lns), some (.int k), some (.ref b), some (.ref yl), some (.ref rl), none, some (.ref t), some (.ref u), some (.int c), o11, o12, o13, o14, o15, o16] H') :
    l_law_2 K Γ D0 [some o0, some (.int n), some (.ref lns), some (.int k), some (.ref b), some (.ref yl), some (.ref rl), none, some (.ref t), some (.ref u), some (.int c), o11, o12, o13, o14, o15, o16] H := by
  have := sz
  rw [el_law_2]
  walk_at "ex"
  refine c_mixed _ _ (by omega) fun m hm0 hm1 => ?_
  walk_at "ex"
  refine ⟨by decide, ⟨by decide, by decide⟩, by omega, ?_⟩
  have s0 : Same F H := by obtain ⟨ad, R, X, X', ts, us, ds, h⟩ := hv; exact h.a.own.s
  obtain ⟨z, z', v, v', qa, qb, qc, qd, ad, R, X, X', ts, us, ds, h, e1, e2, e3, e4, back⟩ : ∃ z z' v v' qa qb qc qd ad R X X' ts us ds, Sx K Γ F H ad R lns lvs ls z v qa qb X z' v' qc qd X' t u ts us ds ds N ∧
      atI [y, y'] (m % 2) = some z ∧ atI [y, y'] (1 - m % 2) = some z' ∧ atI [V.ref w, .ref w'] (m % 2) = some (.ref v) ∧ atI [V.ref w, .ref w'] (1 - m % 2) = some (.ref v') ∧
      ∀ F' H' ad R X X' ts us ds, Sx K Γ F' H' ad R lns lvs ls z v qa qb X z' v' qc qd X' t u ts us ds ds (N + 1) → Inv K Γ lns lvs ls y w y' w' t u F' H' (N + 1) := by
    obtain ⟨ad, R, X, X', ts, us, ds, h⟩ := hv
    rcases (show m % 2 = 0 ∨ m % 2 = 1 by omega) with e | e <;> rw [e]
    · exact ⟨y, y', w, w', 0, 2, 1, 3, ad, R, X, X', ts, us, ds, h, rfl, rfl, rfl, rfl, fun F' H' ad R X X' ts us ds g => ⟨ad, R, X, X', ts, us, ds, g⟩⟩
    · exact ⟨y', y, w', w, 1, 3, 0, 2, ad, R, X', X, ts, us, ds, h.swap, rfl, rfl, rfl, rfl, fun F' H' ad R X X' ts us ds g => ⟨ad, R, X', X, ts, us, ds, g.swap⟩⟩
  walk_at "if"
  refine ⟨_, _, .inl (SqL.of (s0 _ _ hy)), e1, _, _, .inl (SqL.of (s0 _ _ hr)), e3, ?_⟩
  have hp : 0 < n := by omega
  have i1 := Int.emod_nonneg (m / 2) (show n ≠ 0 by omega)
  have i2 := Int.emod_lt_of_pos (m / 2) hp
  have j1 := Int.emod_nonneg (m / 5000) (show n ≠ 0 by omega)
  have j2 := Int.emod_lt_of_pos (m / 5000) hp
  obtain ⟨i, hi⟩ := Int.eq_ofNat_of_zero_le i1
  obtain ⟨j, hj⟩ := Int.eq_ofNat_of_zero_le j1
  rw [hi] at i2 ⊢
  rw [hj] at j2
  refine ⟨⟨by decide, by decide⟩, c_deed i _ _ h.a (by omega) (by omega) (by omega) fun H1 R1 X1 h1 k1 => ?_⟩
  have hT := h.lT
  have hU := h.lU
  have h := h.deed h1 k1
  have hH := h.a.own.s
  walk_at "ex"
  refine ⟨⟨by decide, by decide⟩, by omega, ?_⟩
  rw [hj]
  walk_at "if"
  refine ⟨_, _, .inl (SqL.of (hH _ _ hy)), e1, _, _, .inl (SqL.of (hH _ _ hr)), e3, ?_⟩
  refine ⟨⟨by decide, by decide⟩, c_looked i _ h.a (by omega) (by omega) fun F2 H2 g2 => ?_⟩
  have h := h.grow g2
  have hH := h.a.own.s
  have hy2 := g2.ff _ _ hy
  have hr2 := g2.ff _ _ hr
  walk_at "ex"
  walk_at "if"
  refine ⟨_, _, .inl (SqL.of (hH _ _ hy2)), e2, _, _, .inl (SqL.of (hH _ _ hr2)), e4, ?_⟩
  refine ⟨⟨by decide, by decide⟩, c_looked j _ h.b (by omega) (by omega) fun F3 H3 g3 => ?_⟩
  have h := h.grow g3
  have hH := h.a.own.s
  have hy3 := g3.ff _ _ hy2
  have hr3 := g3.ff _ _ hr2
  walk_at "ex"
  walk_at "if"
  have fin : ∀ F' H' ad R X X' ts us ds, Sx K Γ F' H' ad R lns lvs ls z v qa qb X z' v' qc qd X' t u ts us ds ds (N + 1) → Same F F' → D0.nx [some o0, some (.int n), some (.ref lns), some (.int k), some (.ref b), some (.ref yl), some (.ref rl), none, some (.ref t), some (.ref u), some (.int c), some (.int m), some (.int (m % 2)), some (.int i), some (.int j), o15, o16] H' :=
    fun F' H' ad R X X' ts us ds h1 h2 => q F' H' _ _ _ _ _ _ (back _ _ _ _ _ _ _ _ _ h1) h2
  split
  · have ct := h.a.own.get1 h.ta h.tr
    refine ⟨⟨_, SqL.of ct.h⟩, _, _, .inl (SqL.of (hH _ _ hy3)), e1, ?_⟩
    have hle := h.a.le
    have yd := h.a.yd.same hH
    refine yd.m (c_stands (rs := X1) hH yd (by have := h.a.own.lens h.a.ra; omega) (h.a.own.lens h.a.ra) (h.a.own.ats h.a.ra) fun F4 H4 D g4 hD => ?_)
    walk_at "ex"
    have h := h.grow g4
    have ct := h.a.own.get1 h.ta h.tr
    have lt := DpAll.len h.dt
    refine ⟨_, ct.h, by omega, ?_⟩
    obtain ⟨R5, h⟩ := h.tell hD rowsD_pl (by omega)
    have hH := h.a.own.s
    have hr4 := g4.ff _ _ hr3
    have hy4 := g4.ff _ _ hy3
    generalize upd H4 t (.lst _) = H5 at h hH ⊢
    have cu := h.a.own.get1 h.ua h.ur
    refine ⟨⟨_, SqL.of cu.h⟩, _, _, .inl (SqL.of (hH _ _ hr4)), e3, ?_⟩
    walk_at "ex"
    refine .inl ⟨_, hH.seq h.a.sr, fun D hD => ?_⟩
    refine c_copy (rs := X1) hH (fun H' g => g.seq (hH.seq h.a.sr)) (by have := h.a.own.lens h.a.rb; omega) (h.a.own.lens h.a.rb) (h.a.own.ats h.a.rb) hD (fun _ => ⟨rfl, rfl⟩) fun F6 H6 g6 hD6 => ?_
    have h := h.grow g6
    have cu := h.a.own.get1 h.ua h.ur
    have lu := DpAll.len h.du
    refine ⟨_, cu.h, by omega, ?_⟩
    obtain ⟨R7, h⟩ := h.keep hD6 rowsD_pl (by omega)
    exact fin _ _ _ _ _ _ _ _ _ h (((g2.ff.trans g3.ff).trans g4.ff).trans g6.ff)
  · exact fin _ _ _ _ _ _ _ _ _ h (g2.ff.trans g3.ff)
theorem loop {sl yl rl b : Addr} {xs0 : List V} {D0 : Ends} {o0 : V} {n : Int} (hn : n = ls.length) (hn1 : 1 ≤ n) : ∀ (zs : List V) (k : Nat) (F H : Hp) (o3 o10 o11 o12 o13 o14 o15 o16 : Option V), Inv K Γ lns lvs ls y w y' w' t u F H (3 + k) → F sl = some (.lst xs0) → F yl = some (.lst [y, y']) → F rl = some (.lst [.ref w, .ref w']) → k + zs.length ≤ 100 → (∀ z ∈ zs, ∃ c : Int, z = .int c) →
    (∀ F' H' k o3 o10 o11 o12 o13 o14 o15 o16, Inv K Γ lns lvs ls y w y' w' t u F' H' (3 + k) → k ≤ 100 → Same F F' → D0.nx [some o0, some (.int n), some (.ref lns), o3, some (.ref b), some (.ref yl), some (.ref rl), none, some (.ref t), some (.ref u), o10, o11, o12, o13, o14, o15, o16] H') →
    walkP (fun H => SqL K H sl xs0) (gPr K 3 10) (l_law_2 K Γ) D0 (enumV k zs) [some o0, some (.int n), some (.ref lns), o3, some (.ref b), some (.ref yl), some (.ref rl), none, some (.ref t), some (.ref u), o10, o11, o12, o13, o14, o15, o16] H := by
  intro zs
  induction zs with
  | nil =>
    intro k F H o3 o10 o11 o12 o13 o14 o15 o16 hv h1 h2 h3 hk _ q
    have s0 : Same F H := by obtain ⟨ad, R, X, X', ts, us, ds, h⟩ := hv; exact h.a.own.s
    exact ⟨SqL.of (s0 _ _ h1), q _ _ k _ _ _ _ _ _ _ _ hv (by simpa using hk) (Same.refl _)⟩
  | cons z zs ih =>
    intro k F H o3 o10 o11 o12 o13 o14 o15 o16 hv h1 h2 h3 hk hz q
    have s0 : Same F H := by obtain ⟨ad, R, X, X', ts, us, ds, h⟩ := hv; exact h.a.own.s
    obtain ⟨c, rfl⟩ := hz _ List.mem_cons_self
    rw [enumV_cons]
    refine ⟨SqL.of (s0 _ _ h1), fun T hT => ?_⟩
    walk_at "ex"
    refine ⟨.int k, .int c, .inl (.inl upd_same), ?_⟩
    walk_at "ex"
    have g := Grow.drop (o := .tup [.int k, .int c]) s0 hT
    have hv : Inv K Γ lns lvs ls y w y' w' t u F (upd H T (.tup [.int k, .int c])) (3 + k) := by
      obtain ⟨ad, R, X, X', ts, us, ds, h⟩ := hv
      exact ⟨ad, R, X, X', ts, us, ds, h.grow g⟩
    rw [List.length_cons] at hk
    refine turn hv hn hn1 (by omega) (by omega) h2 h3 fun F' H' o11 o12 o13 o14 o15 o16 hv' hs => ?_
    exact ih (k + 1) F' H' _ _ _ _ _ _ _ _ hv' (hs _ _ h1) (hs _ _ h2) (hs _ _ h3) (by omega) (fun z h => hz z (List.mem_cons_of_mem _ h)) fun F2 H2 k2 o3 o10 o11 o12 o13 o14 o15 o16 hv2 hk2 hs2 => q F2 H2 k2 _ _ _ _ _ _ _ _ hv2 hk2 (hs.trans hs2)
end

section
variable {K : PySem.W.Frag} {Γ : Gm} {F H : Hp} {Q : VK} {E : XK}
theorem Yd.mr {y0 : Addr} {ls : List (Option Int)} {ps : List Addr} {m : Str} {sp : Sp} {k : Sp → Prop} (y : Yd K Γ H (.ref y0) ls ps) (q : k sp) (h1 : (m == ("lengths" : Str)) = false := by decide +kernel) (h2 : (m == ("rows" : Str)) = false := by decide +kernel) : mthR Γ m y0 H [("Yard", sp)] k := Yd.m y q h1 h2
theorem main {K : PySem.W.Frag} (Γ : Gm) {H : Hp} {a : Addr} {ns : List Int} (hl : ns.length ≤ 63) (hb : ∀ z ∈ ns, Builtin.Int.intBits z ≤ 1048576) (hS : SqL K H a (ns.map V.int)) : sp_law K Γ [.ref a] H (fun v _ => v = .bl true) fun _ _ _ => False := by
  have := sz
  refine ⟨?_⟩
  unfold b_law
  walk_at "ex"
  refine c_cell 0 (by decide) hS fun c0 => ?_
  walk_at "ex"
  refine c_mixed _ _ (by decide) fun m0 hm0 hm1 => ?_
  walk_at "ex"
  refine ⟨by decide, ⟨by omega, by omega⟩, fun A hA => ?_⟩
  obtain ⟨n, hn⟩ := Int.eq_ofNat_of_zero_le (show 0 ≤ 1 + m0 % 6 by omega)
  rw [hn]
  have hn1 : 1 ≤ n ∧ n ≤ 6 := by omega
  clear hn hm0 hm1
  have hxs : (rangeV 0 (n : Int)).length = n := by simp [rangeV]
  refine lc_lines (F := fun _ => none) (fun _ => trivial) rfl rfl hS hA _ [] [] [] (fun _ => none) _ (fun x hx => by
    obtain ⟨j, h1, h2, h3⟩ := range_mem hx
    exact ⟨j, h1, h2, by omega⟩) (Grow.of (fun b o e => nomatch e) (Same.new hA)) rfl upd_same ⟨rfl, rfl, fun i v h => by simp at h⟩ (by rw [hxs]; simp; omega) (by simp) fun F1 H1 lvs ls rs g1 hA1 hL hlv hr3 => ?_
  rw [hxs, List.length_nil, Nat.zero_add] at hlv
  walk_at "ex"
  refine ⟨lvs, .inl (SqL.of (g1.fh _ _ hA1)), fun b hb1 => ?_⟩
  walk_at "ex"
  -- the yards
  have o0 := (Own.zero g1.fh).one (q := 6) (o := .lst lvs) hb1 rfl
  rw [← famN, ← famN, fam6, fam6] at o0
  intro x0 dx0 hx0 hdx0 hne0
  refine c_init o0.s hx0 hdx0 hne0 (o0.get1 (q := 6) rfl rfl).h (by omega) hL fun F2 H2 ps0 g2 n2 f2 yd0 => ⟨rfl, ?_⟩
  have o1 := o0.add (q := 0) g2 n2 f2 rfl
  rw [fam0, fam0] at o1
  have hL2 := hL.same g2.ff
  intro x1 dx1 hx1 hdx1 hne1
  refine c_init o1.s hx1 hdx1 hne1 (o1.get1 (q := 6) rfl rfl).h (by omega) hL2 fun F3 H3 ps1 g3 n3 f3 yd1 => ⟨rfl, show 2 ≤ sizeLine by omega, fun yl hyl => ?_⟩
  have o2 := o1.add (q := 1) g3 n3 f3 rfl
  rw [fam1, fam1] at o2
  have g4 := Grow.new (o := .lst [V.ref x0, .ref x1]) o2.s hyl
  have o3 := o2.grow g4
  have hyF : upd F3 yl (.lst [V.ref x0, .ref x1]) yl = some (.lst [V.ref x0, .ref x1]) := upd_same
  have hL4 := (hL2.same g3.ff).same g4.ff
  have yd0 := (yd0.same g3.ff).same g4.ff
  have yd1 := yd1.same g4.ff
  have hA4 := g4.ff _ _ (g3.ff _ _ (g2.ff _ _ hA1))
  have k0 := g1.hh.trans (Same.new (o := .lst lvs) hb1)
  have S4 := ((k0.trans g2.hh).trans g3.hh).trans g4.hh
  have nb : H b = none := Same.free g1.hh hb1
  generalize upd H3 yl (.lst [V.ref x0, .ref x1]) = H4 at o3 S4 ⊢
  generalize upd F3 yl (.lst [V.ref x0, .ref x1]) = F4 at o3 hyF hL4 yd0 yd1 hA4
  clear g4 o2 o1 o0 g3 g2 n2 n3 f2 f3
  refine ⟨show 1 ≤ sizeLine by omega, fun p1 hp1 => ⟨show 2 ≤ sizeLine by omega, fun p2 hp2 => ?_⟩⟩
  have g5 := Grow.drop (o := .tup [V.int 5]) o3.s hp1
  have g6 := Grow.drop (o := .tup [V.int 1, .ref p1]) g5.fh hp2
  have o4 := (o3.grow g5).grow g6
  have S5 := (S4.trans g5.hh).trans g6.hh
  generalize upd (upd H4 p1 (.tup [V.int 5])) p2 (.tup [V.int 1, .ref p1]) = H5 at o4 S5 ⊢
  have hj : ∃ j, ixN lvs.length 0 = some j := by
    obtain ⟨v, hv⟩ := at_len (xs := lvs) (i := 0) (by decide) (by omega)
    unfold atI at hv
    cases e : ixN lvs.length 0 with
    | none => rw [e] at hv; cases hv
    | some j => exact ⟨j, rfl⟩
  obtain ⟨j, hj⟩ := hj
  refine ⟨lvs, j, (o4.get1 (q := 6) rfl rfl).h, hj, ⟨_, SqL.of upd_same⟩, show 2 ≤ sizeLine by omega, fun p3 hp3 => ⟨show 2 ≤ sizeLine by omega, fun p4 hp4 => ?_⟩⟩
  have o5 := o4.set1 (q := 6) (u := .lst (lvs.set j (.ref p2))) rfl rfl
  rw [fam6] at o5
  have S6 := Same.up (o := .lst (lvs.set j (.ref p2))) S5 nb
  generalize upd H5 b (.lst (lvs.set j (.ref p2))) = H6 at o5 S6 hp3 hp4 ⊢
  have g7 := Grow.drop (o := .tup [V.int 6, .int 7]) o5.s hp3
  have g8 := Grow.drop (o := .tup [V.int 2, .ref p3]) g7.fh hp4
  have o6 := (o5.grow g7).grow g8
  have S7 := (S6.trans g7.hh).trans g8.hh
  refine ⟨_, (o6.get1 (q := 6) rfl rfl).h, by rw [List.length_set]; omega, ⟨by decide, by decide⟩, fun D hD => ?_⟩
  have o7 := o6.set1 (q := 6) (u := .lst (lvs.set j (.ref p2) ++ [.ref p4])) rfl rfl
  rw [fam6] at o7
  have S8 := Same.up (o := .lst (lvs.set j (.ref p2) ++ [.ref p4])) S7 nb
  generalize upd (upd (upd H6 p3 (.tup [V.int 6, .int 7])) p4 (.tup [V.int 2, .ref p3])) b (.lst (lvs.set j (.ref p2) ++ [.ref p4])) = H7 at o7 S8 hD ⊢
  generalize lvs.set j (.ref p2) ++ [.ref p4] = bs at o7
  clear o6 o5 o4 o3 g5 g6 g7 g8 S4 S5 S6 S7
  -- the law's own rows
  have nD : H D = none := Same.free S8 hD
  have o8 := o7.one (q := 7) (o := .lst []) hD rfl
  rw [fam7, fam7] at o8
  have S9 := S8.trans (Same.new (o := .lst []) hD)
  generalize upd H7 D (.lst []) = H8 at o8 S9 ⊢
  show walkC _ _ _ _ _ _ _ _ [.int 0, .int 1] _
  refine ⟨trivial, ?_⟩
  walk_at "ex"
  refine ⟨rfl, ?_⟩
  walk_at "ex"
  simp only [wipe, List.map, List.foldl]
  walk_at "ex"
  have hte : ∀ (σ : L2.St) (_ : σ.length = 17) v l r H Q, Ln K H v l r → (∀ p, H p = none → Q (.ref p) (upd H p (Ints r))) → (eBlt (uList K) (aCons (eBin (uIx K) (eVar 7) (eLit (V.int 1))) aNil)) ((wipe σ [7]).set 7 (some v)) H Q := by
    intro σ hσ v l r H Q hv q
    match σ, hσ with
    | [s0, s1, s2, s3, s4, s5, s6, s7, s8, s9, s10, s11, s12, s13, s14, s15, s16], _ =>
    obtain ⟨a, c, rfl, h1, h2⟩ := hv
    simp only [wipe, List.map, List.foldl]
    walk_at "ex"
    exact ⟨_, .ref c, .inr h1, rfl, _, .inr h2, q⟩
  refine .inl ⟨lvs, SqL.of (o8.s _ _ hA4), fun D2 hD2 => ?_⟩
  refine lc_rows (F := F4) (H0 := H8) (fun H' t => SqL.of (t _ _ (o8.s _ _ hA4))) hD2 (Same.free o8.s hD2) (fun _ => rfl) (hte _ rfl) lvs ls rs [] [] _ hL4 (Grow.drop o8.s hD2) Nw.nil (by simp) upd_same (by simp; omega) fun H9 pr0 g9 n9 hDp hd9 => ?_
  have f9 : ∀ p ∈ pr0, upd F4 D2 (.lst (pr0.map V.ref)) p = none := fun p hp => by
    rw [upd_ne (fun e => hDp (by rw [← e]; exact hp))]
    exact Same.free o8.s (n9.fr p hp)
  have g9 := g9.shut (Same.free o8.s hD2) hD2 hd9
  have o9 := o8.add (q := 2) g9 n9 f9 rfl
  rw [fam2, fam2, List.nil_append] at o9
  have S10 := S9.trans g9.hh
  have hw0 : upd F4 D2 (.lst (pr0.map V.ref)) D2 = some (.lst (pr0.map V.ref)) := upd_same
  have hL5 := hL4.same g9.ff
  have yd0 := yd0.same g9.ff
  have yd1 := yd1.same g9.ff
  have hA5 := g9.ff _ _ hA4
  have hy5 := g9.ff _ _ hyF
  generalize upd F4 D2 (.lst (pr0.map V.ref)) = F5 at o9 hw0 hL5 yd0 yd1 hA5 hy5
  refine ⟨_, (o9.get1 (q := 7) rfl rfl).h, by simp; omega, ?_⟩
  have o10 := o9.set1 (q := 7) (u := .lst ([] ++ [V.ref D2])) rfl rfl
  rw [fam7] at o10
  have S10 := Same.up (o := .lst ([] ++ [V.ref D2])) S10 nD
  generalize upd H9 D (.lst ([] ++ [V.ref D2])) = H10 at o10 S10 ⊢
  refine ⟨trivial, ?_⟩
  walk_at "ex"
  refine ⟨rfl, ?_⟩
  simp only [wipe, List.map, List.foldl]
  walk_at "ex"
  refine .inl ⟨lvs, SqL.of (o10.s _ _ hA5), fun D3 hD3 => ?_⟩
  refine lc_rows (F := F5) (H0 := H10) (fun H' t => SqL.of (t _ _ (o10.s _ _ hA5))) hD3 (Same.free o10.s hD3) (fun _ => rfl) (hte _ rfl) lvs ls rs [] [] _ hL5 (Grow.drop o10.s hD3) Nw.nil (by simp) upd_same (by simp; omega) fun H11 pr1 g11 n11 hDp1 hd11 => ?_
  have f11 : ∀ p ∈ pr1, upd F5 D3 (.lst (pr1.map V.ref)) p = none := fun p hp => by
    rw [upd_ne (fun e => hDp1 (by rw [← e]; exact hp))]
    exact Same.free o10.s (n11.fr p hp)
  have g11 := g11.shut (Same.free o10.s hD3) hD3 hd11
  have o11 := o10.add (q := 3) g11 n11 f11 rfl
  rw [fam3, fam3, List.nil_append] at o11
  have S11 := S10.trans g11.hh
  have hw1 : upd F5 D3 (.lst (pr1.map V.ref)) D3 = some (.lst (pr1.map V.ref)) := upd_same
  have hL6 := hL5.same g11.ff
  have yd0 := yd0.same g11.ff
  have yd1 := yd1.same g11.ff
  have hA6 := g11.ff _ _ hA5
  have hy6 := g11.ff _ _ hy5
  have hw0 := g11.ff _ _ hw0
  generalize upd F5 D3 (.lst (pr1.map V.ref)) = F6 at o11 hw0 hw1 hL6 yd0 yd1 hA6 hy6
  refine ⟨_, (o11.get1 (q := 7) rfl rfl).h, by simp; omega, ?_⟩
  have o12 := o11.set1 (q := 7) (u := .lst ([] ++ [V.ref D2] ++ [V.ref D3])) rfl rfl
  rw [fam7] at o12
  have S12 := Same.up (o := .lst ([] ++ [V.ref D2] ++ [V.ref D3])) S11 nD
  generalize upd H11 D (.lst ([] ++ [V.ref D2] ++ [V.ref D3])) = H12 at o12 S12 ⊢
  have sF : Same F6 (upd F6 D (.lst [V.ref D2, .ref D3])) := Same.new ((o12.get1 (q := 7) rfl rfl).f)
  have o13 := o12.shut (q := 7) rfl rfl
  rw [fam7, fam7] at o13
  have hr7 : upd F6 D (.lst [V.ref D2, .ref D3]) D = some (.lst [V.ref D2, .ref D3]) := upd_same
  have hL7 := hL6.same sF
  have yd0 := yd0.same sF
  have yd1 := yd1.same sF
  have hA7 := sF _ _ hA6
  have hy7 := sF _ _ hy6
  have hw0 := sF _ _ hw0
  have hw1 := sF _ _ hw1
  change Own (upd F6 D (.lst [V.ref D2, .ref D3])) _ _ _ at o13
  generalize upd F6 D (.lst [V.ref D2, .ref D3]) = F7 at o13 hr7 hL7 yd0 yd1 hA7 hy7 hw0 hw1
  clear o12 o11 o10 o9 o8 o7 n9 n11 f9 f11 g9 g11 S8 S9 hte
  refine ⟨trivial, show 0 ≤ sizeLine by omega, fun t ht => ⟨show 0 ≤ sizeLine by omega, fun u hu => ?_⟩⟩
  have o14 := o13.one (q := 4) (o := .lst []) ht rfl
  have S14 := S12.trans (Same.new (o := .lst []) ht)
  have o15 := o14.one (q := 5) (o := .lst []) hu rfl
  have S15 := S14.trans (Same.new (o := .lst []) hu)
  rw [fam4, fam4, fam5, fam5] at o15
  generalize upd (upd H12 t (.lst [])) u (.lst []) = H15 at o15 S15 ⊢
  refine ⟨_, S15.seq hS, fun sl hsl => ?_⟩
  have g16 := Grow.new (o := .lst (cutV (ns.map V.int) (some 2) (some 302))) o15.s hsl
  have o16 := o15.grow g16
  have hs16 : upd F7 sl (.lst (cutV (ns.map V.int) (some 2) (some 302))) sl = some (.lst (cutV (ns.map V.int) (some 2) (some 302))) := upd_same
  have hL8 := hL7.same g16.ff
  have yd0 := yd0.same g16.ff
  have yd1 := yd1.same g16.ff
  have hA8 := g16.ff _ _ hA7
  have hy8 := g16.ff _ _ hy7
  have hr8 := g16.ff _ _ hr7
  have hw0 := g16.ff _ _ hw0
  have hw1 := g16.ff _ _ hw1
  generalize upd F7 sl (.lst (cutV (ns.map V.int) (some 2) (some 302))) = F8 at o16 hs16 hL8 yd0 yd1 hA8 hy8 hr8 hw0 hw1
  have hzl : (cutV (ns.map V.int) (some 2) (some 302)).length ≤ 63 := by
    have := cutV_length (ns.map V.int) (some 2) (some 302)
    rw [List.length_map] at this
    omega
  have hzm : ∀ z ∈ cutV (ns.map V.int) (some 2) (some 302), ∃ c : Int, z = .int c := fun z hz => by
    obtain ⟨c, _, rfl⟩ := List.mem_map.mp (cutV_mem hz)
    exact ⟨c, rfl⟩
  generalize upd H15 sl (.lst (cutV (ns.map V.int) (some 2) (some 302))) = H16 at o16 ⊢
  generalize cutV (ns.map V.int) (some 2) (some 302) = zs at hs16 hzl hzm ⊢
  walk_at "ex"
  refine ⟨zs, SqL.of (o16.s _ _ hs16), ?_⟩
  have hll : lvs.length = ls.length := hL8.1
  have hrl : rs.length = ls.length := hL8.2.1.symm.trans hL8.1
  have at0 : At K Γ F8 H16 _ _ (.ref x0) A D2 lvs ls 0 2 rs 3 := ⟨o16, yd0, ⟨rs, hL8⟩, SqL.of hA8, SqL.of hw0, rfl, rfl, by decide, hrl, by omega, hr3, by decide⟩
  have at1 : At K Γ F8 H16 _ _ (.ref x1) A D3 lvs ls 1 3 rs 3 := ⟨o16, yd1, ⟨rs, hL8⟩, SqL.of hA8, SqL.of hw1, rfl, rfl, by decide, hrl, by omega, hr3, by decide⟩
  have hv : Inv K Γ A lvs ls (.ref x0) D2 (.ref x1) D3 t u F8 H16 (3 + 0) := ⟨_, _, rs, rs, [], [], [], at0, at1, by decide, rfl, rfl, rfl, rfl, .nil, .nil, by simp, by simp, by simp, by simp⟩
  refine loop (by omega) (by omega) zs 0 F8 H16 _ _ _ _ _ _ _ _ hv hs16 hy8 hr8 (by omega) hzm fun F9 H17 k o3 o10 o11 o12 o13 o14 o15 o16 hv9 hk9 hs9 => ?_
  have hy9 := hs9 _ _ hy8
  have hr9 := hs9 _ _ hr8
  clear hv at0 at1 hzm hs16
  obtain ⟨ad, R, X, X', ts, us, ds, h⟩ := hv9
  have hH := h.a.own.s
  walk_at "ex"
  refine .inl ⟨_, _, SqL.of (hH _ _ hy9), SqL.of (hH _ _ hr9), ?_⟩
  simp only [List.zip_cons_cons, List.zip_nil_right]
  refine ⟨⟨SqL.of (hH _ _ hy9), SqL.of (hH _ _ hr9)⟩, fun T hT => ?_⟩
  walk_at "ex"
  refine ⟨.ref x0, .ref D2, .inl (.inl upd_same), ?_⟩
  walk_at "ex"
  have g17 := Grow.drop (o := .tup [V.ref x0, .ref D2]) hH hT
  have h := h.grow g17
  have hH := h.a.own.s
  generalize upd H17 T (.tup [V.ref x0, .ref D2]) = H18 at h hH ⊢
  rw [el_law_1]
  walk_at "if"
  have hle := h.a.le
  have hle' := h.b.le
  have hsh : Sh 7 (rowsD X) := rowsD_sh (by omega) fun r hr => by have := h.a.bd r hr; omega
  have hsh' : Sh 7 (rowsD X') := rowsD_sh (by omega) fun r hr => by have := h.b.bd r hr; omega
  have w0 := h.a.yd.same hH
  refine w0.mr (c_stands (rs := X) hH w0 (by have := h.a.own.lens h.a.ra; omega) (h.a.own.lens h.a.ra) (h.a.own.ats h.a.ra) fun F10 H19 P1 g18 hP1 => ?_)
  walk_at "ex"
  refine c_alike 7 (rowsD X) _ _ _ _ _ hsh (Dp.same g18.fh hP1) (Dp.same g18.hh (h.a.own.dp h.a.rb h.a.sr)) ?_
  walk_at "ex"
  have h := h.grow g18
  have hH := h.a.own.s
  have hy9 := g18.ff _ _ hy9
  have hr9 := g18.ff _ _ hr9
  refine ⟨⟨SqL.of (hH _ _ hy9), SqL.of (hH _ _ hr9)⟩, fun T hT => ?_⟩
  walk_at "ex"
  refine ⟨.ref x1, .ref D3, .inl (.inl upd_same), ?_⟩
  walk_at "ex"
  have g19 := Grow.drop (o := .tup [V.ref x1, .ref D3]) hH hT
  have h := h.grow g19
  have hH := h.a.own.s
  generalize upd H19 T (.tup [V.ref x1, .ref D3]) = H20 at h hH ⊢
  rw [el_law_1]
  walk_at "if"
  have w1 := h.b.yd.same hH
  refine w1.mr (c_stands (rs := X') hH w1 (by have := h.b.own.lens h.b.ra; omega) (h.b.own.lens h.b.ra) (h.b.own.ats h.b.ra) fun F11 H21 P2 g20 hP2 => ?_)
  walk_at "ex"
  refine c_alike 7 (rowsD X') _ _ _ _ _ hsh' (Dp.same g20.fh hP2) (Dp.same g20.hh (h.b.own.dp h.b.rb h.b.sr)) ?_
  walk_at "ex"
  have h := h.grow g20
  have hH := h.a.own.s
  have hy9 := g20.ff _ _ (hy9)
  have hr9 := g20.ff _ _ (hr9)
  refine ⟨⟨SqL.of (hH _ _ hy9), SqL.of (hH _ _ hr9)⟩, ?_⟩
  walk_at "ex"
  have ct := h.a.own.get1 h.ta h.tr
  have cu := h.a.own.get1 h.ua h.ur
  have hp : Pl 3 (.list ds) := .list h.pT
  refine ⟨.list ds, .list ds, .lst (SqL.of ct.h) (DpAll.same hH h.dt), .lst (SqL.of cu.h) (DpAll.same hH h.du), hp.shaped (by decide), hp.shaped (by decide), ?_⟩
  rw [hp.eq]
end

theorem all_mk {P : Program} {w : World} {K : PySem.W.Frag} {h : Heap} {mg : Str → Option Value} {fa : Addr} (X : K.In h) (G : h.Ns mainGlobals mg) (hfa : mg "law" = some (.ref fa))
    {f0 f1 f2 f3 f4 f5 f6 f7 f8 f9 f10 f11 f12 f13 f14 f15 c_Yard : Addr} {od0 an0 od1 an1 od2 an2 od3 an3 od4 an4 od5 an5 od6 an6 od7 an7 od8 an8 od9 an9 od10 an10 od11 an11 od12 an12 od13 an13 od14 an14 od15 an15 : Option Addr} {sl0 sl1 sl2 sl3 sl4 sl5 sl6 sl7 sl8 sl9 sl10 sl11 sl12 sl13 sl14 sl15 : Array (Option Value)} {oc0 kV0 dc0 pm0 cd0 ct0 oc1 kV1 dc1 pm1 cd1 ct1 oc2 kV2 dc2 pm2 cd2 ct2 oc3 kV3 dc3 pm3 cd3 ct3 oc4 kV4 dc4 pm4 cd4 ct4 oc5 kV5 dc5 pm5 cd5 ct5 oc6 kV6 dc6 pm6 cd6 ct6 oc7 kV7 dc7 pm7 cd7 ct7 oc8 kV8 dc8 pm8 cd8 ct8 oc9 kV9 dc9 pm9 cd9 ct9 oc10 kV10 dc10 pm10 cd10 ct10 oc11 kV11 dc11 pm11 cd11 ct11 oc12 kV12 dc12 pm12 cd12 ct12 oc13 kV13 dc13 pm13 cd13 ct13 oc14 kV14 dc14 pm14 cd14 ct14 oc15 kV15 dc15 pm15 cd15 ct15 : Value}
    (aC_Yard : PySem.W.nsIn K mainGlobals "Yard" = some (some (.ref c_Yard)))
    (a0 : PySem.W.nsIn K mainGlobals "_law_mixed" = some (some (.ref f0)))
    (l0 : K.lookup f0 = some ⟨oc0, od0, .func (PySem.W.fnOf "_law_mixed" "_law_mixed" (defArgs s_L_mixed) (defBody s_L_mixed) (defScope s_L_mixed) .none kV0 dc0 pm0 an0 cd0 ct0), sl0⟩)
    (c0 : PySem.W.codeIn K cd0 "_law_mixed" = true)
    (k0 : PySem.W.keepIn K (.ref f0) = true)
    (a1 : PySem.W.nsIn K mainGlobals "_law_number" = some (some (.ref f1)))
    (l1 : K.lookup f1 = some ⟨oc1, od1, .func (PySem.W.fnOf "_law_number" "_law_number" (defArgs s_L_number) (defBody s_L_number) (defScope s_L_number) .none kV1 dc1 pm1 an1 cd1 ct1), sl1⟩)
    (c1 : PySem.W.codeIn K cd1 "_law_number" = true)
    (k1 : PySem.W.keepIn K (.ref f1) = true)
    (a2 : PySem.W.nsIn K mainGlobals "_law_line" = some (some (.ref f2)))
    (l2 : K.lookup f2 = some ⟨oc2, od2, .func (PySem.W.fnOf "_law_line" "_law_line" (defArgs s_L_line) (defBody s_L_line) (defScope s_L_line) .none kV2 dc2 pm2 an2 cd2 ct2), sl2⟩)
    (c2 : PySem.W.codeIn K cd2 "_law_line" = true)
    (k2 : PySem.W.keepIn K (.ref f2) = true)
    (a3 : PySem.W.findIn K (.ref c_Yard) "__init__" = some (some (.ref f3)))
    (l3 : K.lookup f3 = some ⟨oc3, od3, .func (PySem.W.fnOf "__init__" "Yard.__init__" (defArgs s_Yard___init__) (defBody s_Yard___init__) (defScope s_Yard___init__) .none kV3 dc3 pm3 an3 cd3 ct3), sl3⟩)
    (c3 : PySem.W.codeIn K cd3 "Yard.__init__" = true)
    (k3 : PySem.W.keepIn K (.ref f3) = true)
    (i3 : PySem.W.isFn K (.ref f3) = true)
    (a4 : PySem.W.nsIn K mainGlobals "_law_cell" = some (some (.ref f4)))
    (l4 : K.lookup f4 = some ⟨oc4, od4, .func (PySem.W.fnOf "_law_cell" "_law_cell" (defArgs s_L_cell) (defBody s_L_cell) (defScope s_L_cell) .none kV4 dc4 pm4 an4 cd4 ct4), sl4⟩)
    (c4 : PySem.W.codeIn K cd4 "_law_cell" = true)
    (k4 : PySem.W.keepIn K (.ref f4) = true)
    (a5 : PySem.W.nsIn K mainGlobals "_law_roomy" = some (some (.ref f5)))
    (l5 : K.lookup f5 = some ⟨oc5, od5, .func (PySem.W.fnOf "_law_roomy" "_law_roomy" (defArgs s_L_roomy) (defBody s_L_roomy) (defScope s_L_roomy) .none kV5 dc5 pm5 an5 cd5 ct5), sl5⟩)
    (c5 : PySem.W.codeIn K cd5 "_law_roomy" = true)
    (k5 : PySem.W.keepIn K (.ref f5) = true)
    (a6 : PySem.W.nsIn K mainGlobals "_law_alike" = some (some (.ref f6)))
    (l6 : K.lookup f6 = some ⟨oc6, od6, .func (PySem.W.fnOf "_law_alike" "_law_alike" (defArgs s_L_alike) (defBody s_L_alike) (defScope s_L_alike) .none kV6 dc6 pm6 an6 cd6 ct6), sl6⟩)
    (c6 : PySem.W.codeIn K cd6 "_law_alike" = true)
    (k6 : PySem.W.keepIn K (.ref f6) = true)
    (a7 : PySem.W.findIn K (.ref c_Yard) "hand" = some (some (.ref f7)))
    (l7 : K.lookup f7 = some ⟨oc7, od7, .func (PySem.W.fnOf "hand" "Yard.hand" (defArgs s_Yard_hand) (defBody s_Yard_hand) (defScope s_Yard_hand) .none kV7 dc7 pm7 an7 cd7 ct7), sl7⟩)
    (c7 : PySem.W.codeIn K cd7 "Yard.hand" = true)
    (k7 : PySem.W.keepIn K (.ref f7) = true)
    (i7 : PySem.W.isFn K (.ref f7) = true)
    (a8 : PySem.W.findIn K (.ref c_Yard) "taken" = some (some (.ref f8)))
    (l8 : K.lookup f8 = some ⟨oc8, od8, .func (PySem.W.fnOf "taken" "Yard.taken" (defArgs s_Yard_taken) (defBody s_Yard_taken) (defScope s_Yard_taken) .none kV8 dc8 pm8 an8 cd8 ct8), sl8⟩)
    (c8 : PySem.W.codeIn K cd8 "Yard.taken" = true)
    (k8 : PySem.W.keepIn K (.ref f8) = true)
    (i8 : PySem.W.isFn K (.ref f8) = true)
    (a9 : PySem.W.nsIn K mainGlobals "_law_deed" = some (some (.ref f9)))
    (l9 : K.lookup f9 = some ⟨oc9, od9, .func (PySem.W.fnOf "_law_deed" "_law_deed" (defArgs s_L_deed) (defBody s_L_deed) (defScope s_L_deed) .none kV9 dc9 pm9 an9 cd9 ct9), sl9⟩)
    (c9 : PySem.W.codeIn K cd9 "_law_deed" = true)
    (k9 : PySem.W.keepIn K (.ref f9) = true)
    (a10 : PySem.W.findIn K (.ref c_Yard) "holds" = some (some (.ref f10)))
    (l10 : K.lookup f10 = some ⟨oc10, od10, .func (PySem.W.fnOf "holds" "Yard.holds" (defArgs s_Yard_holds) (defBody s_Yard_holds) (defScope s_Yard_holds) .none kV10 dc10 pm10 an10 cd10 ct10), sl10⟩)
    (c10 : PySem.W.codeIn K cd10 "Yard.holds" = true)
    (k10 : PySem.W.keepIn K (.ref f10) = true)
    (i10 : PySem.W.isFn K (.ref f10) = true)
    (a11 : PySem.W.findIn K (.ref c_Yard) "room" = some (some (.ref f11)))
    (l11 : K.lookup f11 = some ⟨oc11, od11, .func (PySem.W.fnOf "room" "Yard.room" (defArgs s_Yard_room) (defBody s_Yard_room) (defScope s_Yard_room) .none kV11 dc11 pm11 an11 cd11 ct11), sl11⟩)
    (c11 : PySem.W.codeIn K cd11 "Yard.room" = true)
    (k11 : PySem.W.keepIn K (.ref f11) = true)
    (i11 : PySem.W.isFn K (.ref f11) = true)
    (a12 : PySem.W.findIn K (.ref c_Yard) "first" = some (some (.ref f12)))
    (l12 : K.lookup f12 = some ⟨oc12, od12, .func (PySem.W.fnOf "first" "Yard.first" (defArgs s_Yard_first) (defBody s_Yard_first) (defScope s_Yard_first) .none kV12 dc12 pm12 an12 cd12 ct12), sl12⟩)
    (c12 : PySem.W.codeIn K cd12 "Yard.first" = true)
    (k12 : PySem.W.keepIn K (.ref f12) = true)
    (i12 : PySem.W.isFn K (.ref f12) = true)
    (a13 : PySem.W.findIn K (.ref c_Yard) "stands" = some (some (.ref f13)))
    (l13 : K.lookup f13 = some ⟨oc13, od13, .func (PySem.W.fnOf "stands" "Yard.stands" (defArgs s_Yard_stands) (defBody s_Yard_stands) (defScope s_Yard_stands) .none kV13 dc13 pm13 an13 cd13 ct13), sl13⟩)
    (c13 : PySem.W.codeIn K cd13 "Yard.stands" = true)
    (k13 : PySem.W.keepIn K (.ref f13) = true)
    (i13 : PySem.W.isFn K (.ref f13) = true)
    (a14 : PySem.W.nsIn K mainGlobals "_law_looked" = some (some (.ref f14)))
    (l14 : K.lookup f14 = some ⟨oc14, od14, .func (PySem.W.fnOf "_law_looked" "_law_looked" (defArgs s_L_looked) (defBody s_L_looked) (defScope s_L_looked) .none kV14 dc14 pm14 an14 cd14 ct14), sl14⟩)
    (c14 : PySem.W.codeIn K cd14 "_law_looked" = true)
    (k14 : PySem.W.keepIn K (.ref f14) = true)
    (a15 : PySem.W.nsIn K mainGlobals "law" = some (some (.ref f15)))
    (l15 : K.lookup f15 = some ⟨oc15, od15, .func (PySem.W.fnOf "law" "law" (defArgs s_law) (defBody s_law) (defScope s_law) .none kV15 dc15 pm15 an15 cd15 ct15), sl15⟩)
    (c15 : PySem.W.codeIn K cd15 "law" = true)
    (k15 : PySem.W.keepIn K (.ref f15) = true)
    (pg_Yard : PySem.W.plainGet K c_Yard Str.empty = true)
    (hd_Yard : PySem.W.hasDictIn K c_Yard = true)
    (po_Yard : PySem.W.plainOver K c_Yard = true)
    (sa_Yard : PySem.W.findIn K (.ref c_Yard) "__setattr__" = some (some (.builtin "object.__setattr__")))
    (mk_Yard : PySem.W.makesIn K c_Yard = true)
    (kc_Yard : PySem.W.keepIn K (.ref c_Yard) = true)
    (n_Yard_lengths : PySem.W.findIn K (.ref c_Yard) "lengths" = some none)
    (n_Yard_rows : PySem.W.findIn K (.ref c_Yard) "rows" = some none)
    (z_bool : PySem.W.nsIn K mainGlobals "bool" = some none)
    (z_enumerate : PySem.W.nsIn K mainGlobals "enumerate" = some none)
    (z_int : PySem.W.nsIn K mainGlobals "int" = some none)
    (z_isinstance : PySem.W.nsIn K mainGlobals "isinstance" = some none)
    (z_len : PySem.W.nsIn K mainGlobals "len" = some none)
    (z_list : PySem.W.nsIn K mainGlobals "list" = some none)
    (z_min : PySem.W.nsIn K mainGlobals "min" = some none)
    (z_range : PySem.W.nsIn K mainGlobals "range" = some none)
    (z_str : PySem.W.nsIn K mainGlobals "str" = some none)
    (z_tuple : PySem.W.nsIn K mainGlobals "tuple" = some none)
    (z_zip : PySem.W.nsIn K mainGlobals "zip" = some none)
    : ∃ fd : FuncData, (∀ (s : Shared) (v : Value), BindsTo s fd ⟨[v], []⟩ [("_law_script", v)]) ∧ ∀ base : Heap, K.In base → base.Ns mainGlobals mg → FnOk P w K mg base CX0 10 fa fd ["_law_script"] (spL K) := by
  have e := hfa.symm.trans (PySem.W.mg_of X G a15)
  cases e
  let Γ : Gm := gam [("Yard", c_Yard)]
  have eG_Yard : Γ "Yard" = c_Yard := rfl
  have Cl_Yard : Cls K (Γ "Yard") := ⟨pg_Yard, hd_Yard, po_Yard, sa_Yard⟩
  have mC_Yard : mg "Yard" = some (.ref (Γ "Yard")) := PySem.W.mg_of X G aC_Yard
  have m_bool := PySem.W.mg_none_of X G z_bool
  have m_enumerate := PySem.W.mg_none_of X G z_enumerate
  have m_int := PySem.W.mg_none_of X G z_int
  have m_isinstance := PySem.W.mg_none_of X G z_isinstance
  have m_len := PySem.W.mg_none_of X G z_len
  have m_list := PySem.W.mg_none_of X G z_list
  have m_min := PySem.W.mg_none_of X G z_min
  have m_range := PySem.W.mg_none_of X G z_range
  have m_str := PySem.W.mg_none_of X G z_str
  have m_tuple := PySem.W.mg_none_of X G z_tuple
  have m_zip := PySem.W.mg_none_of X G z_zip
  have W_lengths : Flds K Γ ["Yard"] "lengths" := (Flds.cons Cl_Yard n_Yard_lengths Flds.nil)
  have W_rows : Flds K Γ ["Yard"] "rows" := (Flds.cons Cl_Yard n_Yard_rows Flds.nil)
  have U_L_mixed := fun_mk (st := s_L_mixed) l0 c0 k0
  have U_L_number := fun_mk (st := s_L_number) l1 c1 k1
  have U_L_line := fun_mk (st := s_L_line) l2 c2 k2
  have U_Yard___init__ := fun_mk (st := s_Yard___init__) l3 c3 k3
  have U_L_cell := fun_mk (st := s_L_cell) l4 c4 k4
  have U_L_roomy := fun_mk (st := s_L_roomy) l5 c5 k5
  have U_L_alike := fun_mk (st := s_L_alike) l6 c6 k6
  have U_Yard_hand := fun_mk (st := s_Yard_hand) l7 c7 k7
  have U_Yard_taken := fun_mk (st := s_Yard_taken) l8 c8 k8
  have U_L_deed := fun_mk (st := s_L_deed) l9 c9 k9
  have U_Yard_holds := fun_mk (st := s_Yard_holds) l10 c10 k10
  have U_Yard_room := fun_mk (st := s_Yard_room) l11 c11 k11
  have U_Yard_first := fun_mk (st := s_Yard_first) l12 c12 k12
  have U_Yard_stands := fun_mk (st := s_Yard_stands) l13 c13 k13
  have U_L_looked := fun_mk (st := s_L_looked) l14 c14 k14
  have U_law := fun_mk (st := s_law) l15 c15 k15
  refine ⟨PySem.W.fnOf "law" "law" (defArgs s_law) (defBody s_law) (defScope s_law) .none kV15 dc15 pm15 an15 cd15 ct15, fun s v => .of_eq rfl, fun base _ _ => ?_⟩
  have O_L_mixed := okf_L_mixed (P := P) (w := w) (K := K) (mg := mg) (base := base) (Γ := Γ) U_L_mixed 
  have F_L_mixed : Fn P w K mg base CX0 _ "_law_mixed" _ _ := ⟨_, _, PySem.W.mg_of X G a0, k0, bd_L_mixed U_L_mixed, O_L_mixed⟩
  have O_L_number := okf_L_number (P := P) (w := w) (K := K) (mg := mg) (base := base) (Γ := Γ) U_L_number 
  have F_L_number : Fn P w K mg base CX0 _ "_law_number" _ _ := ⟨_, _, PySem.W.mg_of X G a1, k1, bd_L_number U_L_number, O_L_number⟩
  have O_L_line := okf_L_line (P := P) (w := w) (K := K) (mg := mg) (base := base) (Γ := Γ) U_L_line F_L_mixed F_L_number m_min m_range m_tuple
  have F_L_line : Fn P w K mg base CX0 _ "_law_line" _ _ := ⟨_, _, PySem.W.mg_of X G a2, k2, bd_L_line U_L_line, O_L_line⟩
  have O_Yard___init__ := okf_Yard___init__ (P := P) (w := w) (K := K) (mg := mg) (base := base) (Γ := Γ) U_Yard___init__ m_list W_lengths W_rows
  have I_Yard : Mi P w K mg base Γ CX0 _ "Yard" _ := ⟨_, _, _, ⟨mk_Yard, a3, i3, kc_Yard⟩, mC_Yard, bd_Yard___init__ U_Yard___init__, O_Yard___init__⟩
  have O_L_cell := okf_L_cell (P := P) (w := w) (K := K) (mg := mg) (base := base) (Γ := Γ) U_L_cell m_len
  have F_L_cell : Fn P w K mg base CX0 _ "_law_cell" _ _ := ⟨_, _, PySem.W.mg_of X G a4, k4, bd_L_cell U_L_cell, O_L_cell⟩
  have O_L_roomy := okf_L_roomy (P := P) (w := w) (K := K) (mg := mg) (base := base) (Γ := Γ) U_L_roomy m_len
  have F_L_roomy : Fn P w K mg base CX0 _ "_law_roomy" _ _ := ⟨_, _, PySem.W.mg_of X G a5, k5, bd_L_roomy U_L_roomy, O_L_roomy⟩
  have R_L_alike : ∀ n, FnOk P w K mg base CX0 (0 + n) f6 (PySem.W.fnOf "_law_alike" "_law_alike" (defArgs s_L_alike) (defBody s_L_alike) (defScope s_L_alike) .none kV6 dc6 pm6 an6 cd6 ct6) ["_law_found", "_law_due"] (sp_L_alike K Γ n) := by
    intro n
    induction n with
    | zero => exact fn_no
    | succ n ih =>
      have h0 := ih
      have F_L_alike : Fn P w K mg base CX0 _ "_law_alike" _ _ := ⟨_, _, PySem.W.mg_of X G a6, k6, bd_L_alike U_L_alike, h0⟩
      exact okf_L_alike (P := P) (w := w) (K := K) (mg := mg) (base := base) (Γ := Γ) U_L_alike m_bool m_int m_isinstance m_len m_list m_range m_str m_tuple F_L_alike
  have O_L_alike := R_L_alike 8
  have F_L_alike : Fn P w K mg base CX0 _ "_law_alike" _ _ := ⟨_, _, PySem.W.mg_of X G a6, k6, bd_L_alike U_L_alike, O_L_alike⟩
  have O_Yard_hand := okf_Yard_hand (P := P) (w := w) (K := K) (mg := mg) (base := base) (Γ := Γ) U_Yard_hand W_rows
  have M_Yard_hand : Mn P w K mg base Γ CX0 _ "Yard" "hand" _ := ⟨_, _, _, Cl_Yard, ⟨a7, i7, k7⟩, bd_Yard_hand U_Yard_hand, O_Yard_hand⟩
  have O_Yard_taken := okf_Yard_taken (P := P) (w := w) (K := K) (mg := mg) (base := base) (Γ := Γ) U_Yard_taken W_rows
  have M_Yard_taken : Mn P w K mg base Γ CX0 _ "Yard" "taken" _ := ⟨_, _, _, Cl_Yard, ⟨a8, i8, k8⟩, bd_Yard_taken U_Yard_taken, O_Yard_taken⟩
  have O_L_deed := okf_L_deed (P := P) (w := w) (K := K) (mg := mg) (base := base) (Γ := Γ) U_L_deed F_L_alike F_L_number F_L_roomy M_Yard_hand M_Yard_taken m_len
  have F_L_deed : Fn P w K mg base CX0 _ "_law_deed" _ _ := ⟨_, _, PySem.W.mg_of X G a9, k9, bd_L_deed U_L_deed, O_L_deed⟩
  have O_Yard_holds := okf_Yard_holds (P := P) (w := w) (K := K) (mg := mg) (base := base) (Γ := Γ) U_Yard_holds m_len W_rows
  have M_Yard_holds : Mn P w K mg base Γ CX0 _ "Yard" "holds" _ := ⟨_, _, _, Cl_Yard, ⟨a10, i10, k10⟩, bd_Yard_holds U_Yard_holds, O_Yard_holds⟩
  have O_Yard_room := okf_Yard_room (P := P) (w := w) (K := K) (mg := mg) (base := base) (Γ := Γ) U_Yard_room m_len W_lengths W_rows
  have M_Yard_room : Mn P w K mg base Γ CX0 _ "Yard" "room" _ := ⟨_, _, _, Cl_Yard, ⟨a11, i11, k11⟩, bd_Yard_room U_Yard_room, O_Yard_room⟩
  have O_Yard_first := okf_Yard_first (P := P) (w := w) (K := K) (mg := mg) (base := base) (Γ := Γ) U_Yard_first W_rows
  have M_Yard_first : Mn P w K mg base Γ CX0 _ "Yard" "first" _ := ⟨_, _, _, Cl_Yard, ⟨a12, i12, k12⟩, bd_Yard_first U_Yard_first, O_Yard_first⟩
  have O_Yard_stands := okf_Yard_stands (P := P) (w := w) (K := K) (mg := mg) (base := base) (Γ := Γ) U_Yard_stands m_list W_rows
  have M_Yard_stands : Mn P w K mg base Γ CX0 _ "Yard" "stands" _ := ⟨_, _, _, Cl_Yard, ⟨a13, i13, k13⟩, bd_Yard_stands U_Yard_stands, O_Yard_stands⟩
  have O_L_looked := okf_L_looked (P := P) (w := w) (K := K) (mg := mg) (base := base) (Γ := Γ) U_L_looked F_L_alike F_L_roomy M_Yard_first M_Yard_holds M_Yard_room M_Yard_stands m_len m_range
  have F_L_looked : Fn P w K mg base CX0 _ "_law_looked" _ _ := ⟨_, _, PySem.W.mg_of X G a14, k14, bd_L_looked U_L_looked, O_L_looked⟩
  exact (okf_law (P := P) (w := w) (K := K) (mg := mg) (base := base) (Γ := Γ) U_law F_L_alike F_L_cell F_L_deed F_L_line F_L_looked F_L_mixed I_Yard M_Yard_stands m_enumerate m_list m_range m_zip).imp fun vs H Q E h => h Γ

end Hf

open PySem PySem.W PyProof.Rows in
set_option maxRecDepth 100000 in
set_option maxHeartbeats 0 in
theorem PySem.Challenge.cw_handflow_k42_yard_holds : PySem.Challenge.rw_handflow_k42_yard.Holds := by
  w_on; o_law; k_head; (case hw => w_witness2)
  k_fill
  refine Hf.walkB (l := PySem.Challenge.rw_handflow_k42_yard) (k := 10) (fun _ => L2.CX0) Hf.spL "_law_script" rfl rfl ⟨rfl, by decide, by decide⟩ (fun w h Y => PySem.W.kIn_of Y) ?F (fun K H a ns hl hb _ hS => fun Γ => Hf.main Γ hl hb hS) fun _ _ _ _ _ z => z
  case F =>
    intro w mg fa h KX G hmg
    have hmg1 : mg "law" = some (.ref fa) := hmg
    clear hmg
    refine' Hf.all_mk KX G hmg1 ?aC_Yard ?a0 ?l0 ?c0 ?k0 ?a1 ?l1 ?c1 ?k1 ?a2 ?l2 ?c2 ?k2 ?a3 ?l3 ?c3 ?k3 ?i3 ?a4 ?l4 ?c4 ?k4 ?a5 ?l5 ?c5 ?k5 ?a6 ?l6 ?c6 ?k6 ?a7 ?l7 ?c7 ?k7 ?i7 ?a8 ?l8 ?c8 ?k8 ?i8 ?a9 ?l9 ?c9 ?k9 ?a10 ?l10 ?c10 ?k10 ?i10 ?a11 ?l11 ?c11 ?k11 ?i11 ?a12 ?l12 ?c12 ?k12 ?i12 ?a13 ?l13 ?c13 ?k13 ?i13 ?a14 ?l14 ?c14 ?k14 ?a15 ?l15 ?c15 ?k15 ?pg_Yard ?hd_Yard ?po_Yard ?sa_Yard ?mk_Yard ?kc_Yard ?n_Yard_lengths ?n_Yard_rows ?z_bool ?z_enumerate ?z_int ?z_isinstance ?z_len ?z_list ?z_min ?z_range ?z_str ?z_tuple ?z_zip
    (case aC_Yard => k_is)
    (case a0 => k_is)
    (case l0 => k_is)
    (case c0 => k_is)
    (case k0 => k_is)
    (case a1 => k_is)
    (case l1 => k_is)
    (case c1 => k_is)
    (case k1 => k_is)
    (case a2 => k_is)
    (case l2 => k_is)
    (case c2 => k_is)
    (case k2 => k_is)
    (case a3 => k_is)
    (case l3 => k_is)
    (case c3 => k_is)
    (case k3 => k_is)
    (case i3 => k_is)
    (case a4 => k_is)
    (case l4 => k_is)
    (case c4 => k_is)
    (case k4 => k_is)
    (case a5 => k_is)
    (case l5 => k_is)
    (case c5 => k_is)
    (case k5 => k_is)
    (case a6 => k_is)
    (case l6 => k_is)
    (case c6 => k_is)
    (case k6 => k_is)
    (case a7 => k_is)
    (case l7 => k_is)
    (case c7 => k_is)
    (case k7 => k_is)
    (case i7 => k_is)
    (case a8 => k_is)
    (case l8 => k_is)
    (case c8 => k_is)
    (case k8 => k_is)
    (case i8 => k_is)
    (case a9 => k_is)
    (case l9 => k_is)
    (case c9 => k_is)
    (case k9 => k_is)
    (case a10 => k_is)
    (case l10 => k_is)
    (case c10 => k_is)
    (case k10 => k_is)
    (case i10 => k_is)
    (case a11 => k_is)
    (case l11 => k_is)
    (case c11 => k_is)
    (case k11 => k_is)
    (case i11 => k_is)
    (case a12 => k_is)
    (case l12 => k_is)
    (case c12 => k_is)
    (case k12 => k_is)
    (case i12 => k_is)
    (case a13 => k_is)
    (case l13 => k_is)
    (case c13 => k_is)
    (case k13 => k_is)
    (case i13 => k_is)
    (case a14 => k_is)
    (case l14 => k_is)
    (case c14 => k_is)
    (case k14 => k_is)
    (case a15 => k_is)
    (case l15 => k_is)
    (case c15 => k_is)
    (case k15 => k_is)
    (case pg_Yard => k_is)
    (case hd_Yard => k_is)
    (case po_Yard => k_is)
    (case sa_Yard => k_is)
    (case mk_Yard => k_is)
    (case kc_Yard => k_is)
    (case n_Yard_lengths => k_is)
    (case n_Yard_rows => k_is)
    (case z_bool => k_is)
    (case z_enumerate => k_is)
    (case z_int => k_is)
    (case z_isinstance => k_is)
    (case z_len => k_is)
    (case z_list => k_is)
    (case z_min => k_is)
    (case z_range => k_is)
    (case z_str => k_is)
    (case z_tuple => k_is)
    (case z_zip => k_is)
#print axioms PySem.Challenge.cw_handflow_k42_yard_holds
