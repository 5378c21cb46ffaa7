import PyProof.Rows.All
import Wide.All
import OpenK.AllK
import Wide.FinOn
import HandS.ForMost
import HandS.ForExc
import HandS.EndBits
import HandS.Wide
import HandS.IsInst
import HandS.RaiseMore
import HandS.Conv
import HandS.Zip
import KE.IntTextLaws
import HandS.Rev
import PySem.Challenge.RW_handflow_k41_wants
set_option Elab.async false
set_option linter.all false
set_option maxRecDepth 100000
set_option maxHeartbeats 4000000
namespace Hf
open PySem PySem.Spec L2 PyProof.Rows
section
variable {X : Cx} {e a b c : Expr} {pos : Pos} {ta tb tc : TE}
theorem pe_w {t t' : TE} (h : PE X e t) (w : ∀ σ H Q, t' σ H Q → t σ H Q) : PE X e t' := ⟨fun pins s σ H Q I q => h.run pins s σ H Q I (w _ _ _ q)⟩
theorem pt_w {t t' : TT} (h : PT X e t) (w : ∀ σ H Q, t' σ H Q → t σ H Q) : PT X e t' := ⟨fun pins s σ H Q I q => h.run pins s σ H Q I (w _ _ _ q)⟩
theorem ps_w {st : Stmt} {t t' : TS} (h : PS X st t) (w : ∀ D σ H, t' D σ H → t D σ H) : PS X st t' := ⟨fun pins s σ H D I q => h.run pins s σ H D I (w _ _ _ q)⟩
theorem op_w {f : Value → Value → Sem Value} {r r' : R2} (h : OpR X f r) (w : ∀ x y H Q, r' x y H Q → r x y H Q) : OpR X f r' := fun pins s σ H x y v u Q I rx ry q => h pins s σ H x y v u Q I rx ry (w _ _ _ _ q)

/-! names, constants -/
def eVar (i : Nat) (σ : L2.St) (H : Hp) (Q : VK) : Prop := match σ[i]? with
  | some (some v) => Q v H
  | _ => False
theorem dVar (i : Nat) {x : Str} (hN : X.N[i]? = some x := by rfl) (hv : Vis X.env.scope x := by first | exact Or.inl rfl | exact Or.inr (Or.inl rfl) | exact Or.inr (Or.inr rfl))
    (hd : (x == ("__debug__" : Str)) = false := by decide) (hcd : (x == ("__classdict__" : Str)) = false := by decide) : PE X (.Name x pos) (eVar i) :=
  pe_w (pe_var hN hv hd hcd) fun σ H Q q => by
    unfold eVar at q
    split at q
    · exact ⟨_, by assumption, q⟩
    · exact q.elim
def eLit (v : V) (_ : L2.St) (H : Hp) (Q : VK) : Prop := Q v H
theorem dInt {i : Int} {j} : PE X (.Constant (.int i) j pos) (eLit (.int i)) := pe_int
theorem dBl {i : Bool} {j} : PE X (.Constant (.bool i) j pos) (eLit (.bl i)) := pe_bl
theorem dNon {j} : PE X (.Constant .none j pos) (eLit .non) := pe_non
theorem dStr {x : Str} {j} : PE X (.Constant (.str x) j pos) (eLit (.str x)) := pe_str
/-! operators -/
def eBin (r : R2) (ta tb : TE) (σ : L2.St) (H : Hp) (Q : VK) : Prop := ta σ H fun x H1 => tb σ H1 fun y H2 => r x y H2 Q
def eUn (r : V → Hp → VK → Prop) (ta : TE) (σ : L2.St) (H : Hp) (Q : VK) : Prop := ta σ H fun x H1 => r x H1 Q
theorem dBin {op : Operator} {r : R2} (ho : OpR X (binaryOp op) r) (ha : PE X a ta) (hb : PE X b tb) : PE X (.BinOp a op b pos) (eBin r ta tb) := pe_op ho ha hb
theorem dUn {op : UnaryOp} {r : V → Hp → VK → Prop} (ho : UnR X (unaryOp op) r) (ha : PE X a ta) : PE X (.UnaryOp op a pos) (eUn r ta) := pe_un ho ha

/-- two ints, what is asked of them, the answer -/
def uII (C : Int → Int → Prop) (g : Int → Int → V) (x y : V) (H : Hp) (Q : VK) : Prop := match x, y with
  | .int i, .int j => C i j ∧ Q (g i j) H
  | _, _ => False
def uI2 (g : Int → Int → V) (x y : V) (H : Hp) (Q : VK) : Prop := match x, y with
  | .int i, .int j => Q (g i j) H
  | _, _ => False
theorem uII_of {f : Value → Value → Sem Value} {C : Int → Int → Prop} {g : Int → Int → V} (h : OpR X f (rI C g)) : OpR X f (uII C g) := op_w h fun x y H Q q => by
  unfold uII at q
  split at q
  · exact ⟨_, _, rfl, rfl, q⟩
  · exact q.elim
theorem uI2_of {f : Value → Value → Sem Value} {g : Int → Int → V} (h : OpR X f (rI0 g)) : OpR X f (uI2 g) := op_w h fun x y H Q q => by
  unfold uI2 at q
  split at q
  · exact ⟨_, _, rfl, rfl, q⟩
  · exact q.elim
/-- lists are joined, or tuples -/
def catR (K : PySem.W.Frag) (a b : Addr) (H : Hp) (Q : VK) : Prop :=
  (∃ xs ys, SqL K H a xs ∧ SqL K H b ys ∧ xs.length + ys.length ≤ sizeLine ∧ ∀ p, H p = none → Q (.ref p) (upd H p (.lst (xs ++ ys)))) ∨
  (∃ xs ys, SqT K H a xs ∧ SqT K H b ys ∧ xs ≠ [] ∧ xs.length + ys.length ≤ sizeLine ∧ (ys = [] → Q (.ref a) H) ∧ (ys ≠ [] → ∀ p, H p = none → Q (.ref p) (upd H p (.tup (xs ++ ys)))))
def uAdd (K : PySem.W.Frag) (x y : V) (H : Hp) (Q : VK) : Prop := match x, y with
  | .int i, .int j => Q (.int (i + j)) H
  | .str i, .str j => i.length + j.length ≤ sizeLine ∧ Q (.str (i ++ j)) H
  | .ref i, .ref j => catR K i j H Q
  | _, _ => False

theorem cat_seq : ∀ {pins : List (Addr × Obj)} {s : Shared} {σ : L2.St} {H : Hp} {i j : Addr} {Q : VK}, Inv X pins σ H s → catR X.K i j H Q → wpAny (model X.prog X.w) X.A (binaryOp .Add (.ref i) (.ref j)) (EP X pins σ Q) X.xe s := by
  intro pins s σ H i j Q I h
  rcases h with ⟨xs, ys, h1, h2, hz, q⟩ | ⟨xs, ys, h1, h2, n1, hz, q1, q2⟩
  · obtain ⟨i1, r1, ⟨⟨cls, dd, data, sl⟩, n, ho, hc, _, hd⟩, _⟩ := I.list h1
    obtain ⟨i2, r2, ⟨⟨cls2, dd2, data2, sl2⟩, m, ho2, hc2, _, hd2⟩, _⟩ := I.list h2
    simp only at hc hd hc2 hd2
    subst hc hd hc2 hd2
    have l1 := r1.length
    have l2 := r2.length
    have ee : i1.toArray ++ i2.toArray = (i1 ++ i2).toArray := by simp
    refine concat_meets ⟨_, ho, rfl⟩ ⟨_, ho2, rfl⟩ noFill_list_add seq_list_add PySem.F.slot_list_add PySem.F.entry_list_add (PySem.F.args_list_add_2 _ _) (list_addW i j i1.toArray i2.toArray n m dd dd2 sl sl2 (by rw [List.size_toArray, List.size_toArray]; omega)) ⟨ho, ho2, ?_⟩
    rw [ee]
    exact ⟨.ref _, _, I.lnew (t' := s.toks) (r1.append r2) (by rw [List.length_append]; omega), rfl, q _ I.fresh⟩
  · exact op_catT pins s σ H (.ref i) (.ref j) (.ref i) (.ref j) Q I rfl rfl ⟨i, j, xs, ys, rfl, rfl, h1, h2, n1, hz, q1, q2⟩
theorem oAdd : OpR X (binaryOp .Add) (uAdd X.K) := by
  intro pins s σ H x y v u Q I rx ry h
  unfold uAdd at h
  split at h
  · exact op_add pins s σ H _ _ v u Q I rx ry ⟨_, _, rfl, rfl, h⟩
  · exact op_add_str pins s σ H _ _ v u Q I rx ry ⟨_, _, rfl, rfl, h⟩
  · cases rx
    cases ry
    exact cat_seq I h
  · exact h.elim
theorem oSub : OpR X (binaryOp .Sub) (uI2 fun i j => .int (i - j)) := uI2_of op_sub
/-- ints, or a text some times over -/
def repS (z : Str) (k : Int) : Str := ⟨(List.replicate k.toNat z.cps.toList).flatten.toArray⟩
def uMul (x y : V) (H : Hp) (Q : VK) : Prop := match x, y with
  | .int i, .int j => IntMulOk i j ∧ Q (.int (i * j)) H
  | .str z, .int k => k ≤ 1000000 ∧ -1000000 ≤ k ∧ z.length ≤ 16 ∧ Q (.str (repS z k)) H
  | _, _ => False
theorem rep_cps (cs : Array Nat) : ∀ (m : Nat), (List.replicate m cs).foldl (· ++ ·) #[] = (List.replicate m cs.toList).flatten.toArray := by
  intro m
  have gen : ∀ (m : Nat) (acc : Array Nat), (List.replicate m cs).foldl (· ++ ·) acc = acc ++ (List.replicate m cs.toList).flatten.toArray := by
    intro m
    induction m with
    | zero => intro acc; simp
    | succ m ih =>
      intro acc
      rw [List.replicate_succ, List.foldl_cons, ih, List.replicate_succ, List.flatten_cons]
      simp [Array.append_assoc, ← List.append_toArray]
  rw [gen]
  simp
theorem oMul : OpR X (binaryOp .Mult) uMul := by
  intro pins s σ H x y v u Q I rx ry h
  unfold uMul at h
  split at h
  · obtain ⟨t, rfl⟩ := rx
    obtain ⟨t', rfl⟩ := ry
    exact mul_int ⟨.int _, H, I.tok _, ⟨_, rfl⟩, h.2⟩ h.1
  · rename_i z k
    obtain ⟨h1, h2, hz, q⟩ := h
    obtain ⟨t, rfl⟩ := rx
    obtain ⟨t', rfl⟩ := ry
    have hsz : sizeLine = 16777216 := sizeLine_eq
    refine PySem.P.mul_str ?_ ?_ ?_ ?_
    · rw [decide_eq_false (by omega), decide_eq_false (by omega)]; rfl
    · intro a b
      have : (16 : Int) ≤ (2 ^ 63 - 1) / k := by
        rw [Int.le_ediv_iff_mul_le (by omega)]
        omega
      omega
    · intro a b
      unfold Builtin.Str.tooLong
      have e : z.length * k.toNat ≤ 16 * 1000000 := Nat.mul_le_mul hz (by omega)
      have e2 : ¬ sizeLine < z.length * k.toNat := by omega
      simp [e2]
    · split
      · have e : repS z k = Str.empty := by
          have : k.toNat = 0 := by omega
          unfold repS
          rw [this]
          rfl
        rw [e] at q
        exact ⟨by decide, ⟨.str _, H, I.tok _, ⟨_, rfl⟩, q⟩⟩
      · split
        · rename_i a b
          have e : repS z k = z := by
            unfold repS
            rw [Bool.or_eq_true, beq_iff_eq, beq_iff_eq] at b
            rcases b with b | b
            · have : k.toNat = 1 := by omega
              rw [this]
              simp
            · have : z.cps = #[] := Array.eq_empty_of_size_eq_zero b
              cases z
              simp only at this
              subst this
              simp
          rw [e] at q
          exact ⟨.str _, H, I, ⟨_, rfl⟩, q⟩
        · refine ⟨?_, ⟨.str _, H, I.tok _, ⟨_, rfl⟩, ?_⟩⟩
          · rw [rep_cps]
            show (_ : Nat) ≤ _
            have e : z.length * k.toNat ≤ 16 * 1000000 := Nat.mul_le_mul hz (by omega)
            simp [Str.length] at e ⊢
            rw [Nat.mul_comm]
            omega
          · rw [rep_cps]
            exact q
  · exact h.elim
theorem oDiv : OpR X (binaryOp .FloorDiv) (uII CDivW fun i j => .int (i / j)) := uII_of op_fdivW
theorem oMod : OpR X (binaryOp .Mod) (uII (fun _ j => 0 < j) fun i j => .int (i % j)) := uII_of op_mod
theorem oPow : OpR X (binaryOp .Pow) (uII CPow fun i j => .int (i ^ j.toNat)) := uII_of op_pow
theorem oAnd : OpR X (binaryOp .BitAnd) (uI2 fun i j => .int (Builtin.bitAnd i j)) := uI2_of op_and
theorem oOr : OpR X (binaryOp .BitOr) (uI2 fun i j => .int (Builtin.bitOr i j)) := uI2_of op_or
theorem oXor : OpR X (binaryOp .BitXor) (uI2 fun i j => .int (Builtin.bitXor i j)) := uI2_of op_xor
def uNeg (x : V) (H : Hp) (Q : VK) : Prop := match x with
  | .int i => Q (.int (-i)) H
  | _ => False
theorem oNeg : UnR X (unaryOp .USub) uNeg := fun pins s σ H x v Q I rx h => by
  unfold uNeg at h
  split at h
  · exact un_neg pins s σ H _ v Q I rx ⟨_, rfl, h⟩
  · exact h.elim
/-! comparisons -/
theorem oLt : OpR X (compareOp .Lt) (uI2 fun i j => .bl (decide (i < j))) := uI2_of op_lt
theorem oLe : OpR X (compareOp .LtE) (uI2 fun i j => .bl (decide (i ≤ j))) := uI2_of op_le
theorem oGt : OpR X (compareOp .Gt) (uI2 fun i j => .bl (decide (j < i))) := uI2_of op_gt
theorem oGe : OpR X (compareOp .GtE) (uI2 fun i j => .bl (decide (j ≤ i))) := uI2_of op_ge
/-- data of any depth is compared by what it tells -/
def eqD (K : PySem.W.Frag) (x y : V) (H : Hp) (k : Bool → Prop) : Prop := ∃ d e, Dp K H x d ∧ Dp K H y e ∧ SeqAt.shaped d = true ∧ SeqAt.shaped e = true ∧ k (PyData.eqv d e)
def uEq (K : PySem.W.Frag) (x y : V) (H : Hp) (Q : VK) : Prop := match x, y with
  | .int i, .int j => Q (.bl (decide (i = j))) H
  | .str i, .str j => Q (.bl (decide (i = j))) H
  | .bl i, .bl j => Q (.bl (decide (i = j))) H
  | .ref a, y => eqD K (.ref a) y H fun b => Q (.bl (b)) H
  | x, .ref b => eqD K x (.ref b) H fun b => Q (.bl (b)) H
  | x, y => scal x y = true ∧ Q (.bl (decide (x = y))) H
def uNe (K : PySem.W.Frag) (x y : V) (H : Hp) (Q : VK) : Prop := match x, y with
  | .int i, .int j => Q (.bl (!decide (i = j))) H
  | .str i, .str j => Q (.bl (!decide (i = j))) H
  | .bl i, .bl j => Q (.bl (!decide (i = j))) H
  | .ref a, y => eqD K (.ref a) y H fun b => Q (.bl (!b)) H
  | x, .ref b => eqD K x (.ref b) H fun b => Q (.bl (!b)) H
  | x, y => scal x y = true ∧ Q (.bl (!decide (x = y))) H
theorem oEq (hu : X.A.units + 64 < cLine) : OpR X (compareOp .Eq) (uEq X.K) := by
  intro pins s σ H x y v u Q I rx ry h
  unfold uEq at h
  split at h
  · exact op_eq pins s σ H _ _ v u Q I rx ry ⟨rfl, by simpa using h⟩
  · exact op_eq pins s σ H _ _ v u Q I rx ry ⟨rfl, by simpa using h⟩
  · exact op_eq pins s σ H _ _ v u Q I rx ry ⟨rfl, by simpa using h⟩
  · exact op_eqD hu pins s σ H _ _ v u Q I rx ry h
  · exact op_eqD hu pins s σ H _ _ v u Q I rx ry h
  · exact op_eq pins s σ H _ _ v u Q I rx ry h
theorem oNe (hu : X.A.units + 64 < cLine) : OpR X (compareOp .NotEq) (uNe X.K) := by
  intro pins s σ H x y v u Q I rx ry h
  unfold uNe at h
  split at h
  · exact op_ne pins s σ H _ _ v u Q I rx ry ⟨rfl, by simpa using h⟩
  · exact op_ne pins s σ H _ _ v u Q I rx ry ⟨rfl, by simpa using h⟩
  · exact op_ne pins s σ H _ _ v u Q I rx ry ⟨rfl, by simpa using h⟩
  · exact op_neD hu pins s σ H _ _ v u Q I rx ry h
  · exact op_neD hu pins s σ H _ _ v u Q I rx ry h
  · exact op_ne pins s σ H _ _ v u Q I rx ry h
/-- in a list or a tuple of flat things; a sign in a text -/
def inSq (K : PySem.W.Frag) (x : V) (p : Addr) (H : Hp) (k : Bool → Prop) : Prop := ∃ xs, (SqL K H p xs ∨ SqT K H p xs) ∧ flatV x = true ∧ xs.all flatV = true ∧ k (inV x xs)
def inTx (w z : Str) : Bool := !(Builtin.Str.occurrences z w 0 z.length 1).isEmpty
def uIn (K : PySem.W.Frag) (neg : Bool) (x y : V) (H : Hp) (Q : VK) : Prop := match x, y with
  | .str w, .str z => Q (.bl (if neg then !inTx w z else inTx w z)) H
  | x, .ref p => inSq K x p H fun b => Q (.bl (if neg then !b else b)) H
  | _, _ => False
theorem oIn : OpR X (compareOp .In) (uIn X.K false) := by
  intro pins s σ H x y v u Q I rx ry h
  unfold uIn at h
  split at h
  · exact op_in_str pins s σ H _ _ v u Q I rx ry ⟨_, _, rfl, rfl, h⟩
  · obtain ⟨xs, h1, h2, h3, q⟩ := h
    exact op_in_seq pins s σ H _ _ v u Q I rx ry ⟨_, xs, rfl, h1, h2, h3, q⟩
  · exact h.elim
theorem oNotIn : OpR X (compareOp .NotIn) (uIn X.K true) := by
  intro pins s σ H x y v u Q I rx ry h
  unfold uIn at h
  split at h
  · exact op_notIn_str pins s σ H _ _ v u Q I rx ry ⟨_, _, rfl, rfl, h⟩
  · obtain ⟨xs, h1, h2, h3, q⟩ := h
    exact op_notIn_seq pins s σ H _ _ v u Q I rx ry ⟨_, xs, rfl, h1, h2, h3, q⟩
  · exact h.elim
theorem inTx_one (c : Nat) (z : Str) : inTx ⟨#[c]⟩ z = decide (c ∈ z.cps.toList) := PySem.StrLaws.found_one z c
def uIs (neg : Bool) (x y : V) (H : Hp) (Q : VK) : Prop := match y with
  | .non => Q (.bl (if neg then !decide (x = .non) else decide (x = .non))) H
  | _ => False
theorem oIs : OpR X (compareOp .Is) (uIs false) := op_w op_isN fun x y H Q q => by
  unfold uIs at q
  split at q
  · exact ⟨rfl, q⟩
  · exact q.elim
theorem oIsNot : OpR X (compareOp .IsNot) (uIs true) := op_w op_notN fun x y H Q q => by
  unfold uIs at q
  split at q
  · exact ⟨rfl, q⟩
  · exact q.elim
theorem dCmp {op : CmpOp} {r : R2} (ho : OpR X (compareOp op) r) (ha : PE X a ta) (hb : PE X b tb) (hm : behindInMarks op b = false := by first | rfl | exact nomark _) : PE X (.Compare a [op] [b] pos) (eBin r ta tb) := pe_cmpR ho ha hb hm
/-! tests -/
/-- by what a value is -/
def asBl (x : V) (k : Bool → Prop) : Prop := match x with
  | .bl b => k b
  | _ => False
def asInt (x : V) (k : Int → Prop) : Prop := match x with
  | .int i => k i
  | _ => False
def tru (x : V) (H : Hp) (Q : Bool → Hp → Prop) : Prop := match x with
  | .bl k => Q k H
  | .int i => Q (i != 0) H
  | _ => False
theorem asBl_of {x : V} {k : Bool → Prop} (h : asBl x k) : ∃ b, x = .bl b ∧ k b := by
  unfold asBl at h
  split at h
  · exact ⟨_, rfl, h⟩
  · exact h.elim
theorem asInt_of {x : V} {k : Int → Prop} (h : asInt x k) : ∃ b, x = .int b ∧ k b := by
  unfold asInt at h
  split at h
  · exact ⟨_, rfl, h⟩
  · exact h.elim
def tTst (t : TE) (σ : L2.St) (H : Hp) (Q : Bool → Hp → Prop) : Prop := t σ H fun x H1 => tru x H1 Q
theorem tru_of {pins : List (Addr × Obj)} {s : Shared} {σ : L2.St} {H : Hp} {Q : Bool → Hp → Prop} {x : V} {v : Value} (I : Inv X pins σ H s) (r : RelV x v)
    (q : tru x H Q) : wpAny (model X.prog X.w) X.A (truthy v) (TP X pins σ Q) X.xe s := by
  refine tru_ok pins s σ H x v Q I r ?_
  unfold tru at q
  split at q
  · exact ⟨_, rfl, q⟩
  · exact ⟨_, rfl, q⟩
  · exact q.elim
/-- any expression by its truth -/
theorem qVal (ha : PE X a ta) (he : ∀ whole, isTrue a X.env whole = (do let v ← whole; standAt a.pos; holding [v] (truthy v)) := by intro _; rfl) : PT X a (tTst ta) :=
  ⟨fun pins s σ H _ I h => isTrue_plain (thn (ha.run pins s σ H _ I h) fun _ _ ⟨_, _, I1, r1, q1⟩ => tru_of I1 r1 q1) (he _)⟩
theorem qCmp {op : CmpOp} {r : R2} (ho : OpR X (compareOp op) r) (ha : PE X a ta) (hb : PE X b tb) (hm : behindInMarks op b = false := by first | rfl | exact nomark _) : PT X (.Compare a [op] [b] pos) (tTst (eBin r ta tb)) :=
  ⟨fun pins s σ H _ I h => wpAny_isTrue_Compare1 (thn (ha.run pins s σ H _ I h) fun v s1 ⟨x, H1, I1, r1, q1⟩ => thn (hb.run pins s1 σ H1 _ I1 q1) fun u s2 ⟨y, H2, I2, r2, q2⟩ =>
    thn (ho pins s2 σ H2 x y v u _ I2 r1 r2 q2) fun _ _ ⟨_, _, I3, r3, q3⟩ => tru_of I3 r3 q3) hm⟩
/-- a op1 b op2 c -/
def eChain (r r' : R2) (ta tb tc : TE) (σ : L2.St) (H : Hp) (Q : VK) : Prop := ta σ H fun x H1 => tb σ H1 fun y H2 => r x y H2 fun z H3 => asBl z fun k => if k = true then tc σ H3 fun w' H4 => r' y w' H4 Q else Q (.bl false) H3
theorem dChain {op op' : CmpOp} {r r' : R2} (ho : OpR X (compareOp op) r) (ho' : OpR X (compareOp op') r') (ha : PE X a ta) (hb : PE X b tb) (hc : PE X c tc)
    (hm : lastMarks [op, op'] [b, c] = false := by with_unfolding_all rfl) : PE X (.Compare a [op, op'] [b, c] pos) (eChain r r' ta tb tc) := by
  refine ⟨fun pins s σ H Q I h => ?_⟩
  refine Compare_chain (thn (ha.run pins s σ H _ I h) fun v s1 ⟨x, H1, I1, r1, q1⟩ => chain_link (thn (hb.run pins s1 σ H1 _ I1 q1) fun u s2 ⟨y, H2, I2, r2, q2⟩ =>
    thn (ho pins s2 σ H2 x y v u _ I2 r1 r2 q2) fun d s3 ⟨z, H3, I3, r3, q3⟩ => ?_)) hm
  obtain ⟨k, rfl, q3⟩ := asBl_of q3
  · cases r3
    refine wpAny_truthy_bool ?_
    cases k with
    | false => exact ite_ff ⟨.bl false, H3, I3, rfl, q3⟩
    | true => exact ite_tt (chain_last (thn (hc.run pins s3 σ H3 _ I3 q3) fun w' s4 ⟨z', H4, I4, r4, q4⟩ => ho' pins s4 σ H4 y z' u w' Q I4 r2 r4 q4))
theorem qChain {op op' : CmpOp} {r r' : R2} (ho : OpR X (compareOp op) r) (ho' : OpR X (compareOp op') r') (ha : PE X a ta) (hb : PE X b tb) (hc : PE X c tc)
    (hm : lastMarks [op, op'] [b, c] = false := by with_unfolding_all rfl) : PT X (.Compare a [op, op'] [b, c] pos) (tTst (eChain r r' ta tb tc)) := by
  refine ⟨fun pins s σ H Q I h => ?_⟩
  refine isTrue_chain (thn (ha.run pins s σ H _ I h) fun v s1 ⟨x, H1, I1, r1, q1⟩ => test_link (thn (hb.run pins s1 σ H1 _ I1 q1) fun u s2 ⟨y, H2, I2, r2, q2⟩ =>
    thn (ho pins s2 σ H2 x y v u _ I2 r1 r2 q2) fun d s3 ⟨z, H3, I3, r3, q3⟩ => ?_)) hm
  obtain ⟨k, rfl, q3⟩ := asBl_of q3
  · cases r3
    refine wpAny_truthy_bool ?_
    cases k with
    | false => exact ite_ff ⟨H3, I3, q3⟩
    | true => exact ite_tt (test_last (thn (hc.run pins s3 σ H3 _ I3 q3) fun w' s4 ⟨z', H4, I4, r4, q4⟩ => thn (ho' pins s4 σ H4 y z' u w' _ I4 r2 r4 q4) fun _ _ ⟨_, _, I5, r5, q5⟩ => tru_of I5 r5 q5))
variable {rest : List Expr} {tA tB' : TT}
def tAnd (t u : TT) (σ : L2.St) (H : Hp) (Q : Bool → Hp → Prop) : Prop := t σ H fun c H1 => if c = true then u σ H1 Q else Q false H1
def tOr (t u : TT) (σ : L2.St) (H : Hp) (Q : Bool → Hp → Prop) : Prop := t σ H fun c H1 => if c = true then Q true H1 else u σ H1 Q
def tNot (t : TT) (σ : L2.St) (H : Hp) (Q : Bool → Hp → Prop) : Prop := t σ H fun c H1 => Q (!c) H1
theorem qAnd1 (ha : PT X a tA) : PW X (.BoolOp .And [a] pos) tA := pw_and1 ha
theorem qOr1 (ha : PT X a tA) : PW X (.BoolOp .Or [a] pos) tA := pw_or1 ha
theorem qAnd (ha : PT X a tA) (hb : PW X (.BoolOp .And (b :: rest) pos) tB') : PW X (.BoolOp .And (a :: b :: rest) pos) (tAnd tA tB') := pw_and ha hb
theorem qOr (ha : PT X a tA) (hb : PW X (.BoolOp .Or (b :: rest) pos) tB') : PW X (.BoolOp .Or (a :: b :: rest) pos) (tOr tA tB') := pw_or ha hb
theorem qNot (ha : PT X a tA) : PT X (.UnaryOp .Not a pos) (tNot tA) := pt_not ha
/-! and, or, not as values -/
def eAnd (ta tb : TE) (σ : L2.St) (H : Hp) (Q : VK) : Prop := ta σ H fun x H1 => asBl x fun c => if c = true then tb σ H1 Q else Q (.bl false) H1
def eOr (ta tb : TE) (σ : L2.St) (H : Hp) (Q : VK) : Prop := ta σ H fun x H1 => asBl x fun c => if c = true then Q (.bl true) H1 else tb σ H1 Q
def eNot (ta : TE) (σ : L2.St) (H : Hp) (Q : VK) : Prop := ta σ H fun x H1 => asBl x fun c => Q (.bl (!c)) H1
theorem dOne {op} {t : TE} (h : PE X a t) : PE X (.BoolOp op [a] pos) t := pe_one h
theorem dAnd (ha : PE X a ta) (hb : PE X (.BoolOp .And (b :: rest) pos) tb) : PE X (.BoolOp .And (a :: b :: rest) pos) (eAnd ta tb) := by
  refine ⟨fun pins s σ H Q I h => BoolOp_and (thn (ha.run pins s σ H _ I h) fun v s1 ⟨x, H1, I1, r1, q1⟩ => ?_)⟩
  obtain ⟨c, rfl, q1⟩ := asBl_of q1
  · cases r1
    refine wpAny_truthy_bool ?_
    cases c with
    | true => exact hb.run pins s1 σ H1 Q I1 q1
    | false => exact ⟨.bl false, H1, I1, rfl, q1⟩
theorem dOr (ha : PE X a ta) (hb : PE X (.BoolOp .Or (b :: rest) pos) tb) : PE X (.BoolOp .Or (a :: b :: rest) pos) (eOr ta tb) := by
  refine ⟨fun pins s σ H Q I h => BoolOp_or (thn (ha.run pins s σ H _ I h) fun v s1 ⟨x, H1, I1, r1, q1⟩ => ?_)⟩
  obtain ⟨c, rfl, q1⟩ := asBl_of q1
  · cases r1
    refine wpAny_truthy_bool ?_
    cases c with
    | false => exact hb.run pins s1 σ H1 Q I1 q1
    | true => exact ⟨.bl true, H1, I1, rfl, q1⟩
theorem dNot (ha : PE X a ta) : PE X (.UnaryOp .Not a pos) (eNot ta) := by
  refine ⟨fun pins s σ H Q I h => UnaryOp_ (thn (ha.run pins s σ H _ I h) fun v s1 ⟨x, H1, I1, r1, q1⟩ => ?_)⟩
  obtain ⟨c, rfl, q1⟩ := asBl_of q1
  · cases r1
    exact not_of (wpAny_truthy_bool ⟨.bl (!c), H1, I1, rfl, q1⟩)
def eIf (t : TT) (ta tb : TE) (σ : L2.St) (H : Hp) (Q : VK) : Prop := t σ H fun c H1 => if c = true then ta σ H1 Q else tb σ H1 Q
theorem dIf (hc : PT X c tA) (ha : PE X a ta) (hb : PE X b tb) : PE X (.IfExp c a b pos) (eIf tA ta tb) := pe_ifExp hc ha hb
/-! arguments, displays, subscripts, calls -/
variable {es : List Expr} {tes : TA} {te : TE}
def aNil (_ : L2.St) (H : Hp) (Q : List V → Hp → Prop) : Prop := Q [] H
def aCons (ta : TE) (tr : TA) (σ : L2.St) (H : Hp) (Q : List V → Hp → Prop) : Prop := ta σ H fun x H1 => tr σ H1 fun xs H2 => Q (x :: xs) H2
theorem kNil : PA X [] aNil := pa_nil
theorem kCons (ha : PE X e te) (hr : PA X es tes) (hs : starEach (e :: es) X.env = (false, eval e X.env) :: starEach es X.env := by rfl) : PA X (e :: es) (aCons te tes) := pa_cons ha hr hs
def eTup (t : TA) (σ : L2.St) (H : Hp) (Q : VK) : Prop := t σ H fun xs H1 => xs.length ≤ sizeLine ∧ ∀ p, H1 p = none → Q (.ref p) (upd H1 p (.tup xs))
def eLst (t : TA) (σ : L2.St) (H : Hp) (Q : VK) : Prop := t σ H fun xs H1 => xs.length ≤ sizeLine ∧ ∀ p, H1 p = none → Q (.ref p) (upd H1 p (.lst xs))
theorem dTup {x1} (h : PA X es tes) : PE X (.Tuple es x1 pos) (eTup tes) := pe_tup h
theorem dLst (h : PA X es tes) : PE X (.List es pos) (eLst tes) := pe_lst h
/-- a place in a list or a tuple; a sign of a text -/
def ixR (K : PySem.W.Frag) (x : Addr) (i : Int) (H : Hp) (Q : VK) : Prop := ∃ xs v, (SqL K H x xs ∨ SqT K H x xs) ∧ atI xs i = some v ∧ Q v H
def ixS (z : Str) (i : Int) (H : Hp) (Q : VK) : Prop := z.length ≤ sizeLine ∧ ∃ c, atI z.cps.toList i = some c ∧ Q (.str ⟨#[c]⟩) H
def uIx (K : PySem.W.Frag) (x y : V) (H : Hp) (Q : VK) : Prop := match x, y with
  | .ref p, .int i => ixR K p i H Q
  | .str z, .int i => ixS z i H Q
  | _, _ => False
theorem oIx : IxR X (uIx X.K) := by
  intro value slice pins s σ H x y v u Q I rx ry h hs
  unfold uIx at h
  split at h
  · obtain ⟨xs, w, h1 | h1, h2, q⟩ := h
    · exact ix_list value slice pins s σ H _ _ v u Q I rx ry ⟨_, xs, _, w, rfl, rfl, h1, h2, q⟩ hs
    · exact ix_tup value slice pins s σ H _ _ v u Q I rx ry ⟨_, xs, _, w, rfl, rfl, h1, h2, q⟩ hs
  · obtain ⟨hz, k, h1, q⟩ := h
    exact ix_str value slice pins s σ H _ _ v u Q I rx ry ⟨_, _, k, rfl, rfl, hz, h1, q⟩ hs
  · exact h.elim
theorem dIx (ha : PE X a ta) (hb : PE X b tb) (hs : PlainIx b := by exact fun _ _ => rfl) : PE X (.Subscript a b pos) (eBin (uIx X.K) ta tb) := pe_ix oIx ha hb hs
variable {lo hi : Option Expr} {tl th : TO} {p2 : Pos}
def oNone (_ : L2.St) (H : Hp) (Q : Option Int → Hp → Prop) : Prop := Q none H
def oPart (t : TE) (σ : L2.St) (H : Hp) (Q : Option Int → Hp → Prop) : Prop := t σ H fun x H1 => asInt x fun i => Q (some i) H1
theorem gNone : PO X none oNone := po_none
theorem gSome (h : PE X a ta) : PO X (some a) (oPart ta) := by
  refine ⟨fun pins s σ H Q I q => ?_⟩
  rw [evalPart_some]
  refine thn (h.run pins s σ H _ I q) fun u s1 ⟨x, H1, I1, r1, q1⟩ => ?_
  obtain ⟨i, rfl, q1⟩ := asInt_of q1
  obtain ⟨t, rfl⟩ := r1
  exact ⟨some i, H1, I1, .int i t, q1⟩
/-- a part of a list, of a text, of a tuple -/
def cutR (K : PySem.W.Frag) (a : Addr) (lo hi : Option Int) (H : Hp) (Q : VK) : Prop := ∃ xs, SqL K H a xs ∧ ∀ p, H p = none → Q (.ref p) (upd H p (.lst (cutV xs lo hi)))
def uSl (K : PySem.W.Frag) (x : V) (lo hi : Option Int) (H : Hp) (Q : VK) : Prop := match x with
  | .ref a => cutR K a lo hi H Q
  | .str z => z.length ≤ sizeLine ∧ Q (.str (cutS z lo hi)) H
  | _ => False
theorem oSl : SlR X (uSl X.K) := by
  intro pins s σ H x v vl vu lo hi sl Q I rx hs pl pu h
  unfold uSl at h
  split at h
  · obtain ⟨xs, h1, q⟩ := h
    exact sl_list pins s σ H _ v vl vu lo hi sl Q I rx hs pl pu ⟨_, xs, rfl, h1, q⟩
  · exact sl_str pins s σ H _ v vl vu lo hi sl Q I rx hs pl pu ⟨_, rfl, h.1, h.2⟩
  · exact h.elim
def eSl (r : V → Option Int → Option Int → Hp → VK → Prop) (te : TE) (tl th : TO) (σ : L2.St) (H : Hp) (Q : VK) : Prop := te σ H fun x H1 => tl σ H1 fun l H2 => th σ H2 fun u H3 => r x l u H3 Q
theorem dSl (he : PE X e te) (hl : PO X lo tl) (hu : PO X hi th) : PE X (.Subscript e (.Slice lo hi none p2) pos) (eSl (uSl X.K) te tl th) := pe_slice oSl he hl hu
/-! calls -/
def eCall (sp : Sp) (E : XK) (t : TA) (σ : L2.St) (H : Hp) (Q : VK) : Prop := t σ H fun vs H1 => sp vs H1 Q E
variable {CX : CXT} {k : Nat} {f C : Addr} {fd : FuncData} {ps : List Str} {sp : Sp} {E : XK} {x : Str} {p : Pos}
theorem dCall (F : FnOk X.prog X.w X.K X.mg X.base CX k f fd ps sp) (hr : Room k X.A) (hg : Gl X x) (hm : X.mg x = some (.ref f)) (hk : PySem.W.keepIn X.K (.ref f) = true) (hb : Binds X.K fd ps []) (hx : Passes CX X E)
    (ha : PA X (e :: es) tes) (hdb : (x == ("__debug__" : Str)) = false := by decide) (he : starEach (e :: es) X.env = (false, eval e X.env) :: starEach es X.env := by rfl) (hpl : (backTo pos (starEach es X.env)).any (·.1) = false := by rfl) :
    PE X (.Call (.Name x p) (e :: es) [] pos) (eCall sp E tes) := by
  refine pe_w (pe_call F hr hg hm hk hb .nil hx ha hdb he hpl) fun σ H Q q => ?_
  unfold tCall
  simp only [List.append_nil]
  exact q
theorem dCall0 (F : FnOk X.prog X.w X.K X.mg X.base CX k f fd ps sp) (hr : Room k X.A) (hg : Gl X x) (hm : X.mg x = some (.ref f)) (hk : PySem.W.keepIn X.K (.ref f) = true) (hb : Binds X.K fd ps []) (hx : Passes CX X E)
    (hdb : (x == ("__debug__" : Str)) = false := by decide) : PE X (.Call (.Name x p) [] [] pos) (eCall sp E aNil) := pe_call0 F hr hg hm hk hb .nil hx hdb
def eBlt (r : List V → Hp → VK → Prop) (t : TA) (σ : L2.St) (H : Hp) (Q : VK) : Prop := t σ H fun vs H1 => r vs H1 Q
theorem dBlt {id : String} {r : List V → Hp → VK → Prop} (hc : CallR X (.builtin id) r) (hg : Gl X x) (hm : X.mg x = none) (hv : bootBuiltins x = some (.builtin id)) (ha : PA X (e :: es) tes) (hn : x ≠ "__name__" := by decide) (hdb : (x == ("__debug__" : Str)) = false := by decide)
    (he : starEach (e :: es) X.env = (false, eval e X.env) :: starEach es X.env := by rfl) (hpl : (backTo pos (starEach es X.env)).any (·.1) = false := by rfl) : PE X (.Call (.Name x p) (e :: es) [] pos) (eBlt r tes) := pe_callB hc hg hm hv ha hn hdb he hpl
theorem dBty {id : String} {r : List V → Hp → VK → Prop} (hc : CallR X (.type id) r) (hg : Gl X x) (hm : X.mg x = none) (hv : bootBuiltins x = some (.type id)) (ha : PA X (e :: es) tes) (hn : x ≠ "__name__" := by decide) (hdb : (x == ("__debug__" : Str)) = false := by decide)
    (he : starEach (e :: es) X.env = (false, eval e X.env) :: starEach es X.env := by rfl) (hpl : (backTo pos (starEach es X.env)).any (·.1) = false := by rfl) : PE X (.Call (.Name x p) (e :: es) [] pos) (eBlt r tes) := pe_callTy hc hg hm hv ha hn hdb he hpl
/-- len -/
def lenR (K : PySem.W.Frag) (a : Addr) (H : Hp) (k : Int → Prop) : Prop := (∃ xs, (SqL K H a xs ∨ SqT K H a xs) ∧ k xs.length)
def uLen (K : PySem.W.Frag) (vs : List V) (H : Hp) (Q : VK) : Prop := match vs with
  | [.str z] => z.length ≤ sizeLine ∧ Q (.int z.length) H
  | [.ref a] => lenR K a H fun n => Q (.int n) H
  | _ => False
theorem bLen : CallR X (.builtin "len") (uLen X.K) := by
  intro pins s σ H xs us Q I r h
  unfold uLen at h
  split at h
  · exact call_len_str pins s σ H _ us Q I r ⟨_, rfl, h.1, h.2⟩
  · obtain ⟨ys, h1, q⟩ := h
    exact call_len_seq pins s σ H _ us Q I r ⟨_, ys, rfl, h1, q⟩
  · exact h.elim
/-- int, str, list, tuple, max, min, isinstance -/
def uInt (vs : List V) (H : Hp) (Q : VK) : Prop := match vs with
  | [.int i] => Q (.int i) H
  | [.bl b] => Q (.int (if b then 1 else 0)) H
  | [.str z] => ∃ n, PySem.intText? z = some n ∧ z.length ≤ 640 ∧ Q (.int n) H
  | _ => False
theorem bInt : CallR X (.type "int") uInt := by
  intro pins s σ H xs us Q I r h
  unfold uInt at h
  split at h
  · exact call_int1 pins s σ H _ us Q I r (.inl ⟨_, rfl, h⟩)
  · exact call_int1 pins s σ H _ us Q I r (.inr ⟨_, rfl, h⟩)
  · obtain ⟨n, h1, h2, q⟩ := h
    exact call_int_str pins s σ H _ us Q I r ⟨_, n, rfl, h1, h2, q⟩
  · exact h.elim
def uStr (vs : List V) (H : Hp) (Q : VK) : Prop := match vs with
  | [.int i] => i.natAbs.log2 < 1920 ∧ Q (.str (toString i)) H
  | [.str z] => Q (.str z) H
  | _ => False
def uMax (vs : List V) (H : Hp) (Q : VK) : Prop := match vs with
  | [.int i, .int j] => Q (.int (if j > i then j else i)) H
  | _ => False
def uMin (vs : List V) (H : Hp) (Q : VK) : Prop := match vs with
  | [.int i, .int j] => Q (.int (if j < i then j else i)) H
  | _ => False
theorem bMax (hc : X.calm = true) : CallR X (.builtin "max") uMax := by
  intro pins s σ H xs us Q I r h
  unfold uMax at h
  split at h
  · exact call_max2 hc pins s σ H _ us Q I r ⟨_, _, rfl, h⟩
  · exact h.elim
theorem bMin (hc : X.calm = true) : CallR X (.builtin "min") uMin := by
  intro pins s σ H xs us Q I r h
  unfold uMin at h
  split at h
  · exact call_min2 hc pins s σ H _ us Q I r ⟨_, _, rfl, h⟩
  · exact h.elim
def uList (K : PySem.W.Frag) (vs : List V) (H : Hp) (Q : VK) : Prop := match vs with
  | [.ref a] => ∃ xs, (SqL K H a xs ∨ SqT K H a xs) ∧ ∀ p, H p = none → Q (.ref p) (upd H p (.lst xs))
  | _ => False
theorem bList : CallR X (.type "list") (uList X.K) := by
  intro pins s σ H xs us Q I r h
  unfold uList at h
  split at h
  · obtain ⟨ys, h1, q⟩ := h
    exact call_list_of pins s σ H _ us Q I r ⟨_, ys, rfl, h1, q⟩
  · exact h.elim
/-- the types of the values of data -/
def tyN (K : PySem.W.Frag) (x : V) (H : Hp) (k : String → Prop) : Prop := match x with
  | .non => k "NoneType"
  | .bl _ => k "bool"
  | .int _ => k "int"
  | .str _ => k "str"
  | .ref a => ((∃ xs, SqL K H a xs) ∧ k "list") ∨ ((∃ xs, SqT K H a xs) ∧ k "tuple") ∨ ((∃ kvs, H a = some (.dK kvs)) ∧ k "dict")
  | _ => False
theorem tyN_of {K : PySem.W.Frag} {x : V} {H : Hp} {k : String → Prop} (h : tyN K x H k) : ∃ n, TyX K H x (.type n) ∧ k n := by
  unfold tyN at h
  split at h
  · exact ⟨_, .base .non, h⟩
  · exact ⟨_, .base (.bl _), h⟩
  · exact ⟨_, .base (.int _), h⟩
  · exact ⟨_, .base (.str _), h⟩
  · rcases h with ⟨⟨xs, h1⟩, q⟩ | ⟨⟨xs, h1⟩, q⟩ | ⟨⟨xs, h1⟩, q⟩
    · refine ⟨_, ?_, q⟩
      rcases h1 with (h1 | ⟨o, h1⟩) | ⟨o, its, n, h1, h2, _⟩
      · exact .base (.lst h1)
      · exact .base (.frz h1)
      · exact .kList h1 h2
    · refine ⟨_, ?_, q⟩
      rcases h1 with (h1 | ⟨o, h1⟩) | ⟨o, its, n, h1, h2, _⟩
      · exact .base (.tup h1)
      · exact .fTuple h1
      · exact .kTuple h1 h2
    · exact ⟨_, .base (.dK h1), q⟩
  · exact h.elim
/-- isinstance(x, T), T a built-in type -/
def uIsi (K : PySem.W.Frag) (vs : List V) (H : Hp) (Q : VK) : Prop := match vs with
  | [x, .ty t] => tyN K x H fun n => ∃ b, kitB n t = some b ∧ Q (.bl b) H
  | _ => False
theorem bIsi : CallR X (.builtin "isinstance") (uIsi X.K) := by
  intro pins s σ H xs us Q I r h
  unfold uIsi at h
  split at h
  · obtain ⟨n, h1, b, h2, q⟩ := tyN_of h
    exact call_isi pins s σ H _ us Q I r ⟨_, _, _, _, b, rfl, .ty _, h1, kit_ty h2, q⟩
  · exact h.elim
theorem dTy {n : String} (hg : Gl X x) (hm : X.mg x = none) (hv : bootBuiltins x = some (.type n)) (hn : x ≠ "__name__" := by decide) (hd : (x == ("__debug__" : Str)) = false := by decide) : PE X (.Name x p) (eLit (.ty n)) := pe_bltn hg hm hv rfl hn hd
theorem dGl {v : V} {u : Value} (hg : Gl X x) (hm : X.mg x = some u) (r : RelV v u) (hd : (x == ("__debug__" : Str)) = false := by decide) : PE X (.Name x p) (eLit v) := pe_glob hg hm r hd
/-- a method of a built-in type -/
def eMb0 (K : PySem.W.Frag) (T : String) (r : V → List V → Hp → VK → Prop) (to : TE) (σ : L2.St) (H : Hp) (Q : VK) : Prop := to σ H fun x H1 => tyV K T x H1 ∧ r x [] H1 Q
def eMb (K : PySem.W.Frag) (T : String) (r : V → List V → Hp → VK → Prop) (to : TE) (t : TA) (σ : L2.St) (H : Hp) (Q : VK) : Prop := to σ H fun x H1 => tyV K T x H1 ∧ t σ H1 fun xs H2 => r x xs H2 Q
variable {o : Expr} {to : TE} {name : Str} {apos cpos : Pos} {T id : String} {r : V → List V → Hp → VK → Prop}
theorem dMb0 (pa : PlainAttrs T) (slot : Slot T name id) (hty : typeOf (.builtin id) = pure (.type "method_descriptor")) (hm : MtR X id r) (ho : PE X o to)
    (hbase : attributeBase o name X.env (eval o X.env) = eval o X.env := by rfl) (hline : (apos.endLine == cpos.line) = true := by rfl) : PE X (.Call (.Attribute o name apos) [] [] cpos) (eMb0 X.K T r to) := pe_bm0 pa slot hty hm ho hbase hline
theorem dMb (pa : PlainAttrs T) (slot : Slot T name id) (hty : typeOf (.builtin id) = pure (.type "method_descriptor")) (hm : MtR X id r) (ho : PE X o to) (ha : PA X (e :: es) tes)
    (hbase : attributeBase o name X.env (eval o X.env) = eval o X.env := by rfl)
    (hfew : ((backTo cpos (starEach (e :: es) X.env)).all (fun x => !x.1) && (backToKw cpos (keywordEach [] X.env)).all (fun x => x.1.isSome) && decide ((e :: es).length + ([] : List Keyword).length + (if ([] : List Keyword).isEmpty then 0 else 1) < 30)) = true := by rfl)
    (hline : (apos.endLine == cpos.line) = true := by rfl) (hs : starEach (e :: es) X.env = (false, eval e X.env) :: starEach es X.env := by rfl) (hplain : (backTo cpos (starEach es X.env)).any (·.1) = false := by rfl) :
    PE X (.Call (.Attribute o name apos) (e :: es) [] cpos) (eMb X.K T r to tes) := pe_bm pa slot hty hm ho ha hbase hfew hline hs hplain
/-! statements -/
variable {st : Stmt} {sts : List Stmt} {t u : TS} {g : TG}
def sSeq (t u : TS) (D : Ends) (σ : L2.St) (H : Hp) : Prop := t { D with nx := u D } σ H
def sSet (i : Nat) (te : TE) (D : Ends) (σ : L2.St) (H : Hp) : Prop := te σ H fun v H1 => D.nx (σ.set i (some v)) H1
def sExp (te : TE) (D : Ends) (σ : L2.St) (H : Hp) : Prop := te σ H fun _ H1 => D.nx σ H1
def sRet (te : TE) (D : Ends) (σ : L2.St) (H : Hp) : Prop := te σ H D.rt
def sRetN (D : Ends) (_ : L2.St) (H : Hp) : Prop := D.rt .non H
/-- P: what both ways reach -/
def sIf (c : TT) (t u : TS) (D : Ends) (σ : L2.St) (H : Hp) : Prop := ∃ P : L2.St → Hp → Prop, (∀ σ' H', P σ' H' → D.nx σ' H') ∧ c σ H fun b H1 => if b = true then t { D with nx := P } σ H1 else u { D with nx := P } σ H1
theorem ps_hat {st : Stmt} {t : TS} (h : PS X st t) : PS X st (fun D σ H => ∃ P : L2.St → Hp → Prop, (∀ σ' H', P σ' H' → D.nx σ' H') ∧ t { D with nx := P } σ H) :=
  ⟨fun pins s σ H D I ⟨P, w, q⟩ => thn (h.run pins s σ H _ I q) fun f s' z => by
    cases f with
    | next => obtain ⟨σ', H', I', q'⟩ := z; exact ⟨σ', H', I', w _ _ q'⟩
    | brk => exact z
    | cont => exact z
    | ret u => exact z⟩
theorem if_split {c : TT} {t u : TS} {D : Ends} {σ : L2.St} {H : Hp} (h : c σ H fun b H1 => if b = true then t D σ H1 else u D σ H1) : sIf c t u D σ H := ⟨D.nx, fun _ _ q => q, h⟩
theorem if_join {c : TT} {t u : TS} {D : Ends} {σ : L2.St} {H : Hp} (P : L2.St → Hp → Prop) (h : c σ H fun b H1 => if b = true then t { D with nx := P } σ H1 else u { D with nx := P } σ H1) (w : ∀ σ' H', P σ' H' → D.nx σ' H') : sIf c t u D σ H := ⟨P, w, h⟩
def sNil (D : Ends) (σ : L2.St) (H : Hp) : Prop := D.nx σ H
def sBrk (D : Ends) (σ : L2.St) (H : Hp) : Prop := D.bk σ H
def sCnt (D : Ends) (σ : L2.St) (H : Hp) : Prop := D.ct σ H
theorem zCons (h : PS X st t) (hs : PSs X sts u) : PSs X (st :: sts) (sSeq t u) := pss_cons h hs
theorem zOne (h : PS X st t) : PSs X [st] t := pss_one h
theorem zNil : PSs X [] sNil := pss_nil
theorem zSet {i : Nat} {px : Pos} {v : Expr} (nd : X.N.Nodup) (hN : X.N[i]? = some x) (hv : Loc X.env.scope x) (he : PE X v te) (hs : swapsWith v (some (.Name x px)) pos.line X.env = pure false := by rfl) (hf : X.fn x = true ∨ X.env.scope.names.lookup x = some .local := by first | exact .inl rfl | exact .inr rfl | assumption) : PS X (.Assign [.Name x px] v pos) (sSet i te) := ps_set nd hN hv he hs hf
theorem zExp (he : PE X e te) (hs : swapsWith e none pos.line X.env = pure false := by rfl) : PS X (.Expr e pos) (sExp te) := ps_expr he hs
theorem zRet (he : PE X e te) : PS X (.Return (some e) pos) (sRet te) := ps_ret he
theorem zRetN : PS X (.Return none pos) sRetN := ps_retN
theorem zIf {q : List Stmt} (hc : PT X c tA) (h1 : PSs X sts t) (h2 : PSs X q u) : PS X (.If c sts q pos) (sIf tA t u) := ps_hat (ps_if hc h1 h2)
theorem zBrk : PS X (.Break pos) sBrk := ps_break
theorem zCnt : PS X (.Continue pos) sCnt := ps_continue
theorem zPass : PS X (.Pass pos) sNil := ps_pass
/-! loops -/
def whileN (c : TT) (tb : TS) (D : Ends) : Nat → L2.St → Hp → Prop
  | 0, _, _ => False
  | n + 1, σ, H => c σ H fun b H1 => if b = true then tb { D with nx := whileN c tb D n, ct := whileN c tb D n, bk := D.nx } σ H1 else D.nx σ H1
def sWhile (c : TT) (tb : TS) (D : Ends) (σ : L2.St) (H : Hp) : Prop := ∃ n, whileN c tb D n σ H

/-- what follows may be weakened -/
def hat (t : TE) : TE := fun σ H Q => ∃ Q0 : VK, (∀ v H', Q0 v H' → Q v H') ∧ t σ H Q0
def hatT (t : TT) : TT := fun σ H Q => ∃ Q0 : Bool → Hp → Prop, (∀ v H', Q0 v H' → Q v H') ∧ t σ H Q0
def hatA (t : TA) : TA := fun σ H Q => ∃ Q0 : List V → Hp → Prop, (∀ v H', Q0 v H' → Q v H') ∧ t σ H Q0
theorem pe_hat {t : TE} (h : PE X e t) : PE X e (hat t) := ⟨fun pins s σ H Q I ⟨Q0, w, q⟩ => thn (h.run pins s σ H Q0 I q) fun _ _ ⟨v, H', I', r, q'⟩ => ⟨v, H', I', r, w _ _ q'⟩⟩
theorem pt_hat {t : TT} (h : PT X e t) : PT X e (hatT t) := ⟨fun pins s σ H Q I ⟨Q0, w, q⟩ => thn (h.run pins s σ H Q0 I q) fun _ _ ⟨H', I', q'⟩ => ⟨H', I', w _ _ q'⟩⟩
theorem pa_hat {t : TA} (h : PA X es t) : PA X es (hatA t) := ⟨fun pos pins s σ H Q I ⟨Q0, w, q⟩ => thn (h.run pos pins s σ H Q0 I q) fun _ _ ⟨v, H', I', r, q'⟩ => ⟨v, H', I', r, w _ _ q'⟩⟩
theorem zWhile (hp : PassesOwn (model X.prog X.w) X.A X.env X.xe) (hc : PT X c tA) (hb : PSs X sts t) : PS X (.While c sts [] pos) (sWhile tA t) :=
  ps_w (ps_while hp (pt_hat hc) hb) fun D σ H ⟨n, h⟩ => by
    refine ⟨fun m σ H => whileN tA t D m σ H, ⟨n, h⟩, fun m σ H h => ?_⟩
    cases m with
    | zero => exact h.elim
    | succ m =>
      refine ⟨_, fun b H1 q => ?_, h⟩
      cases b with
      | true => exact ⟨whileN tA t D m, fun σ' H' z => ⟨m, Nat.lt_succ_self m, z⟩, q⟩
      | false => exact q
/-- targets -/
def gNm (i : Nat) (v : V) (σ : L2.St) (H : Hp) (Q : L2.St → Hp → Prop) : Prop := Q (σ.set i (some v)) H
def asRef (x : V) (k : Addr → Prop) : Prop := match x with
  | .ref a => k a
  | _ => False
theorem asRef_of {x : V} {k : Addr → Prop} (h : asRef x k) : ∃ b, x = .ref b ∧ k b := by
  unfold asRef at h
  split at h
  · exact ⟨_, rfl, h⟩
  · exact h.elim
def asTx (x : V) (k : Str → Prop) : Prop := match x with
  | .str a => k a
  | _ => False
theorem asTx_of {x : V} {k : Str → Prop} (h : asTx x k) : ∃ b, x = .str b ∧ k b := by
  unfold asTx at h
  split at h
  · exact ⟨_, rfl, h⟩
  · exact h.elim
def gPr (K : PySem.W.Frag) (i j : Nat) (v : V) (σ : L2.St) (H : Hp) (Q : L2.St → Hp → Prop) : Prop := asRef v fun a => ∃ x y, SqT K H a [x, y] ∧ Q ((σ.set i (some x)).set j (some y)) H
theorem tgNm {i : Nat} {px : Pos} (nd : X.N.Nodup) (hN : X.N[i]? = some x) (hv : Loc X.env.scope x) (hf : X.fn x = true ∨ X.env.scope.names.lookup x = some .local := by first | exact .inl rfl | exact .inr rfl | assumption) : PG X (.Name x px) (gNm i) := pg_name nd hN hv hf
theorem tgPr {i j : Nat} {px py : Pos} {y : Str} {kk : Nat} (nd : X.N.Nodup) (hN : X.N[i]? = some x) (hv : Loc X.env.scope x) (hN' : X.N[j]? = some y) (hv' : Loc X.env.scope y) (hc : X.calm = true := by rfl)
    (hf : X.fn x = true ∨ X.env.scope.names.lookup x = some .local := by first | exact .inl rfl | exact .inr rfl | assumption) (hf' : X.fn y = true ∨ X.env.scope.names.lookup y = some .local := by first | exact .inl rfl | exact .inr rfl | assumption) :
    PG X (.Tuple [.Name x px, .Name y py] kk pos) (gPr X.K i j) := by
  refine ⟨fun pins s σ H v u Q I r h => (pg_tup hc (pgs_cons (pg_name nd hN hv hf) (pgs_cons (pg_name nd hN' hv' hf') pgs_nil))).run pins s σ H v u Q I r ?_⟩
  obtain ⟨a, rfl, z, w, h1, q⟩ := asRef_of h
  exact ⟨a, _, rfl, h1, rfl, z, [w], rfl, w, [], rfl, rfl, q⟩
/-! for: the turns one by one; L: what stands through the loop (the list) -/
def walk (L : Hp → Prop) (g : TG) (tb : TS) (D : Ends) : List V → L2.St → Hp → Prop
  | [], σ, H => L H ∧ D.nx σ H
  | x :: r, σ, H => L H ∧ g x σ H fun σ2 H2 => tb { D with nx := walk L g tb D r, ct := walk L g tb D r, bk := D.nx } σ2 H2
/-- .. the items in new pairs -/
def walkP (L : Hp → Prop) (g : TG) (tb : TS) (D : Ends) : List (V × V) → L2.St → Hp → Prop
  | [], σ, H => L H ∧ D.nx σ H
  | x :: r, σ, H => L H ∧ ∀ T, H T = none → g (.ref T) σ (upd H T (.tup [x.1, x.2])) fun σ2 H2 => tb { D with nx := walkP L g tb D r, ct := walkP L g tb D r, bk := D.nx } σ2 H2
def rangeV (lo hi : Int) : List V := (List.range (hi - lo).toNat).map fun (i : Nat) => .int (lo + i)
def enumV (k : Nat) (xs : List V) : List (V × V) := (xs.zipIdx k).map fun p => (.int (p.2 : Nat), p.1)
theorem walk_drop {L : Hp → Prop} {g : TG} {tb : TS} {D : Ends} {xs : List V} {i : Nat} {x : V} (h : xs[i]? = some x) : xs.drop i = x :: xs.drop (i + 1) := by
  obtain ⟨h1, h2⟩ := List.getElem?_eq_some_iff.mp h
  rw [← h2]
  exact List.drop_eq_getElem_cons h1
/-- the loop's word by the turns -/
theorem walk_it {L : Hp → Prop} {J : It} {g : TG} {tb : TS} {D : Ends} {xs : List V} {σ : L2.St} {H : Hp} (hstop : ∀ i H, L H → xs.length ≤ i → J.stop i H) (hgo : ∀ i x H, L H → xs[i]? = some x → J.go i H ∧ ∀ y H', J.yld i H y H' → H' = H ∧ y = x)
    (h : walk L g tb D xs σ H) : ∃ W : Nat → Nat → L2.St → Hp → Prop, (∃ m, W 0 m σ H) ∧ ∀ i m σ H, W i m σ H →
  (J.stop i H ∧ D.nx σ H) ∨ (J.go i H ∧ ∃ N : L2.St → Hp → Prop, (∀ σ' H', N σ' H' → ∃ m', m' < m ∧ W (i + 1) m' σ' H') ∧ ∀ x H', J.yld i H x H' → g x σ H' fun σ2 H2 => tb { D with nx := N, ct := N, bk := D.nx } σ2 H2) := by
  refine ⟨fun i m σ H => m = xs.length - i ∧ i ≤ xs.length ∧ walk L g tb D (xs.drop i) σ H, ⟨xs.length, by simp, Nat.zero_le _, h⟩, ?_⟩
  rintro i m σ H ⟨rfl, hi, p⟩
  by_cases hlt : i < xs.length
  · have e := List.getElem?_eq_getElem hlt
    rw [walk_drop (L := L) (g := g) (tb := tb) (D := D) e] at p
    obtain ⟨l, p⟩ := p
    obtain ⟨h1, h2⟩ := hgo i _ H l e
    refine .inr ⟨h1, walk L g tb D (xs.drop (i + 1)), fun σ' H' z => ⟨xs.length - (i + 1), by omega, rfl, hlt, z⟩, fun y H' q => ?_⟩
    obtain ⟨rfl, rfl⟩ := h2 y H' q
    exact p
  · have e : i = xs.length := by omega
    subst e
    rw [List.drop_length] at p
    exact .inl ⟨hstop _ _ p.1 (Nat.le_refl _), p.2⟩
theorem walk_itP {L : Hp → Prop} {J : It} {g : TG} {tb : TS} {D : Ends} {xs : List (V × V)} {σ : L2.St} {H : Hp} (hstop : ∀ i H, L H → xs.length ≤ i → J.stop i H)
    (hgo : ∀ i x H, L H → xs[i]? = some x → J.go i H ∧ ∀ y H', J.yld i H y H' → ∃ T, y = .ref T ∧ H T = none ∧ H' = upd H T (.tup [x.1, x.2]))
    (h : walkP L g tb D xs σ H) : ∃ W : Nat → Nat → L2.St → Hp → Prop, (∃ m, W 0 m σ H) ∧ ∀ i m σ H, W i m σ H →
  (J.stop i H ∧ D.nx σ H) ∨ (J.go i H ∧ ∃ N : L2.St → Hp → Prop, (∀ σ' H', N σ' H' → ∃ m', m' < m ∧ W (i + 1) m' σ' H') ∧ ∀ x H', J.yld i H x H' → g x σ H' fun σ2 H2 => tb { D with nx := N, ct := N, bk := D.nx } σ2 H2) := by
  refine ⟨fun i m σ H => m = xs.length - i ∧ i ≤ xs.length ∧ walkP L g tb D (xs.drop i) σ H, ⟨xs.length, by simp, Nat.zero_le _, h⟩, ?_⟩
  rintro i m σ H ⟨rfl, hi, p⟩
  by_cases hlt : i < xs.length
  · have e := List.getElem?_eq_getElem hlt
    rw [List.drop_eq_getElem_cons hlt] at p
    obtain ⟨l, p⟩ := p
    obtain ⟨h1, h2⟩ := hgo i _ H l e
    refine .inr ⟨h1, walkP L g tb D (xs.drop (i + 1)), fun σ' H' z => ⟨xs.length - (i + 1), by omega, rfl, hlt, z⟩, fun y H' q => ?_⟩
    obtain ⟨T, rfl, n, rfl⟩ := h2 y H' q
    exact p T n
  · have e : i = xs.length := by omega
    subst e
    rw [List.drop_length] at p
    exact .inl ⟨hstop _ _ p.1 (Nat.le_refl _), p.2⟩
/-- a list or a tuple, walked -/
def iSq (K : PySem.W.Frag) (tl : TE) : TI := fun σ H R => tl σ H fun x H1 => ∃ a, x = .ref a ∧ ((∃ xs, SqL K H1 a xs ∧ R (Itl K a) H1) ∨ (∃ xs, SqT K H1 a xs ∧ R (Itt K a) H1))
theorem pi_seq {tg l : Expr} {tl : TE} (hl : PE X l tl) : PI X tg l (iSq X.K tl) := by
  refine ⟨fun pins s σ H R I h => thn (hl.run pins s σ H _ I h) fun v s1 ⟨x, H1, I1, r1, a, ex, q⟩ => ?_⟩
  subst ex
  cases r1
  have fp : ∀ b ∈ [s1.heap.objs.size], FpOk X pins H1 b := fun b hb => by
    have z : b = s1.heap.objs.size := by simpa using hb
    subst z
    exact I1.fpOk (Nat.le_refl _) (I1.hok.fresh (Nat.le_refl _))
  rcases q with ⟨xs, hq, q⟩ | ⟨xs, hq, q⟩
  · obtain ⟨its, rv, p, hz⟩ := I1.list hq
    exact wpAny_pyIter_list p.isList ⟨s1.heap.objs.size, [s1.heap.objs.size], _, _, H1, rfl, I1.kept (t' := s1.toks) fun b o z => Heap.get?_push_of_some _ z, turn_list a _, ⟨_, Heap.get?_push_size _ rfl, rfl, rfl⟩, fp, q⟩
  · obtain ⟨its, rv, p, hz⟩ := I1.tuple hq
    exact wpAny_pyIter_tuple (show s1.heap.IsTuple a its.toArray from p) ⟨s1.heap.objs.size, [s1.heap.objs.size], _, _, H1, rfl, I1.kept (t' := s1.toks) fun b o z => Heap.get?_push_of_some _ z, turn_tuple a _, ⟨_, Heap.get?_push_size _ rfl, rfl, rfl⟩, fp, q⟩
theorem range_at {lo hi : Int} {i : Nat} {x : V} (h : (rangeV lo hi)[i]? = some x) : i < (hi - lo).toNat ∧ x = .int (lo + i) := by
  unfold rangeV at h
  rw [List.getElem?_map] at h
  by_cases z : i < (hi - lo).toNat
  · rw [List.getElem?_range z] at h
    exact ⟨z, (Option.some.inj h).symm⟩
  · rw [List.getElem?_eq_none (by simpa using z)] at h
    cases h
theorem walk_range {D : Ends} {lo hi : Int} {σ : L2.St} {H : Hp} {n : Nat} (hn : n = (hi - lo).toNat) (q : walk (fun _ => True) g t D (rangeV lo hi) σ H) : ∃ W : Nat → Nat → L2.St → Hp → Prop, (∃ m, W 0 m σ H) ∧ ∀ i m σ H, W i m σ H →
  ((Itr lo n).stop i H ∧ D.nx σ H) ∨ ((Itr lo n).go i H ∧ ∃ N : L2.St → Hp → Prop, (∀ σ' H', N σ' H' → ∃ m', m' < m ∧ W (i + 1) m' σ' H') ∧ ∀ x H', (Itr lo n).yld i H x H' → g x σ H' fun σ2 H2 => t { D with nx := N, ct := N, bk := D.nx } σ2 H2) := by
  subst hn
  refine walk_it (fun i H l hi => ?_) (fun i x H l e => ?_) q
  · unfold rangeV at hi
    rw [List.length_map, List.length_range] at hi
    exact hi
  · obtain ⟨h1, h2⟩ := range_at e
    exact ⟨h1, fun y H' ⟨z, w⟩ => ⟨z, w.trans h2.symm⟩⟩
def sForR1 (ta : TE) (g : TG) (tb : TS) (D : Ends) (σ : L2.St) (H : Hp) : Prop := ta σ H fun v H1 => asInt v fun j => (-(2 ^ 62) ≤ j ∧ j < 2 ^ 62) ∧ walk (fun _ => True) g tb D (rangeV 0 j) σ H1
def sForR2 (ta tb : TE) (g : TG) (ts : TS) (D : Ends) (σ : L2.St) (H : Hp) : Prop := ta σ H fun v H1 => tb σ H1 fun u H2 => asInt v fun i => asInt u fun j =>
  (-(2 ^ 62) ≤ i ∧ i < 2 ^ 62 ∧ -(2 ^ 62) ≤ j ∧ j < 2 ^ 62) ∧ walk (fun _ => True) g ts D (rangeV i j) σ H2
/-! what is walked: L, what stands through the walk; the items -/
abbrev SRC := L2.St → Hp → ((Hp → Prop) → List V → Hp → Prop) → Prop
abbrev SRP := L2.St → Hp → ((Hp → Prop) → List (V × V) → Hp → Prop) → Prop
def Fits (J : It) (L : Hp → Prop) (xs : List V) : Prop := (∀ i H, L H → xs.length ≤ i → J.stop i H) ∧ ∀ i x H, L H → xs[i]? = some x → J.go i H ∧ ∀ y H', J.yld i H y H' → H' = H ∧ y = x
def FitsP (J : It) (L : Hp → Prop) (xs : List (V × V)) : Prop := (∀ i H, L H → xs.length ≤ i → J.stop i H) ∧
  ∀ i x H, L H → xs[i]? = some x → J.go i H ∧ ∀ y H', J.yld i H y H' → ∃ T, y = .ref T ∧ H T = none ∧ H' = upd H T (.tup [x.1, x.2])
def PSrc (X : Cx) (tg iter : Expr) (src : SRC) : Prop := ∃ wi, PI X tg iter wi ∧ ∀ σ H R (R' : It → Hp → Prop), src σ H R → (∀ L xs J H1, Fits J L xs → R L xs H1 → R' J H1) → wi σ H R'
def PSrp (X : Cx) (tg iter : Expr) (src : SRP) : Prop := ∃ wi, PI X tg iter wi ∧ ∀ σ H R (R' : It → Hp → Prop), src σ H R → (∀ L xs J H1, FitsP J L xs → R L xs H1 → R' J H1) → wi σ H R'
def cSq (K : PySem.W.Frag) (te : TE) (σ : L2.St) (H : Hp) (R : (Hp → Prop) → List V → Hp → Prop) : Prop := te σ H fun v H1 => asRef v fun a =>
  (∃ xs, SqL K H1 a xs ∧ R (fun H => SqL K H a xs) xs H1) ∨ (∃ xs, SqT K H1 a xs ∧ R (fun H => SqT K H a xs) xs H1)
def cTx (te : TE) (σ : L2.St) (H : Hp) (R : (Hp → Prop) → List V → Hp → Prop) : Prop := te σ H fun v H1 => asTx v fun z => R (fun _ => True) (z.cps.toList.map fun c => .str ⟨#[c]⟩) H1
def cR1 (te : TE) (σ : L2.St) (H : Hp) (R : (Hp → Prop) → List V → Hp → Prop) : Prop := te σ H fun v H1 => asInt v fun j => (-(2 ^ 62) ≤ j ∧ j < 2 ^ 62) ∧ R (fun _ => True) (rangeV 0 j) H1
def cR2 (ta tb : TE) (σ : L2.St) (H : Hp) (R : (Hp → Prop) → List V → Hp → Prop) : Prop := ta σ H fun v H1 => tb σ H1 fun u H2 => asInt v fun i => asInt u fun j =>
  (-(2 ^ 62) ≤ i ∧ i < 2 ^ 62 ∧ -(2 ^ 62) ≤ j ∧ j < 2 ^ 62) ∧ R (fun _ => True) (rangeV i j) H2
def cRv (K : PySem.W.Frag) (te : TE) (σ : L2.St) (H : Hp) (R : (Hp → Prop) → List V → Hp → Prop) : Prop := te σ H fun v H1 => asRef v fun a => ∃ xs, SqL K H1 a xs ∧ R (fun H => SqL K H a xs) xs.reverse H1
def cEn (K : PySem.W.Frag) (te : TE) (σ : L2.St) (H : Hp) (R : (Hp → Prop) → List (V × V) → Hp → Prop) : Prop := te σ H fun v H1 => asRef v fun a => ∃ xs, SqL K H1 a xs ∧ R (fun H => SqL K H a xs) (enumV 0 xs) H1
def cZp (K : PySem.W.Frag) (ta tb : TE) (σ : L2.St) (H : Hp) (R : (Hp → Prop) → List (V × V) → Hp → Prop) : Prop := ta σ H fun v H1 => tb σ H1 fun u H2 => asRef v fun a => asRef u fun b =>
  (∃ xs ys, SqL K H2 a xs ∧ SqL K H2 b ys ∧ R (fun H => SqL K H a xs ∧ SqL K H b ys) (xs.zip ys) H2) ∨ (∃ xs ys, SqT K H2 a xs ∧ SqT K H2 b ys ∧ R (fun H => SqT K H a xs ∧ SqT K H b ys) (xs.zip ys) H2)
variable {tg iter : Expr}
theorem kSq (hi : PE X iter te) : PSrc X tg iter (cSq X.K te) := by
  refine ⟨_, pi_seq (pe_hat hi), fun σ H R R' h w => ⟨_, fun v H1 q => ?_, h⟩⟩
  obtain ⟨a, rfl, q⟩ := asRef_of q
  refine ⟨a, rfl, q.imp (fun ⟨xs, h1, q⟩ => ⟨xs, h1, w _ xs _ _ ⟨fun i H l hi => ⟨xs, l, hi⟩, fun i x H l e => ⟨⟨xs, x, l, e⟩, fun y H' ⟨z, w⟩ => ⟨z, Option.some.inj ((w xs l).symm.trans e)⟩⟩⟩ q⟩)
    fun ⟨xs, h1, q⟩ => ⟨xs, h1, w _ xs _ _ ⟨fun i H l hi => ⟨xs, l, hi⟩, fun i x H l e => ⟨⟨xs, x, l, e⟩, fun y H' ⟨z, w⟩ => ⟨z, Option.some.inj ((w xs l).symm.trans e)⟩⟩⟩ q⟩⟩
theorem kTx (hi : PE X iter te) : PSrc X tg iter (cTx te) := by
  refine ⟨_, pi_str (pe_hat hi), fun σ H R R' h w => ⟨_, fun v H1 q => ?_, h⟩⟩
  obtain ⟨z, rfl, q⟩ := asTx_of q
  refine ⟨z, rfl, w _ _ _ _ ⟨fun i H l hi => ?_, fun i x H l e => ?_⟩ q⟩
  · have : z.cps.size ≤ i := by simpa using hi
    exact this
  · rw [List.getElem?_map] at e
    cases e1 : z.cps.toList[i]? with
    | none => rw [e1] at e; cases e
    | some c =>
      rw [e1] at e
      have e2 : z.cps[i]? = some c := by rw [← e1]; simp
      refine ⟨(Array.getElem?_eq_some_iff.mp e2).1, fun y H' ⟨z1, c', z2, z3⟩ => ⟨z1, ?_⟩⟩
      rw [e2] at z2
      cases z2
      rw [z3]
      exact Option.some.inj e
theorem fits_range {lo hi : Int} {n : Nat} (hn : n = (hi - lo).toNat) : Fits (Itr lo n) (fun _ => True) (rangeV lo hi) := by
  subst hn
  refine ⟨fun i H l hi => ?_, fun i x H l e => ?_⟩
  · unfold rangeV at hi
    rw [List.length_map, List.length_range] at hi
    exact hi
  · obtain ⟨h1, h2⟩ := range_at e
    exact ⟨h1, fun y H' ⟨z, w⟩ => ⟨z, w.trans h2.symm⟩⟩
theorem kR1 {a : Expr} {p : Pos} (hgl : Gl X "range") (hm : X.mg "range" = none) (hi : PE X a te) (hs0 : starEach [a] X.env = [(false, eval a X.env)] := by rfl) : PSrc X tg (.Call (.Name "range" p) [a] [] cpos) (cR1 te) := by
  refine ⟨_, pi_range1 hgl hm (kCons (pe_hat hi) kNil hs0) hs0, fun σ H R R' h w => ⟨_, fun v H1 q => ?_, h⟩⟩
  obtain ⟨j, rfl, ⟨q1, q2⟩, q⟩ := asInt_of q
  exact ⟨j, rfl, q1, q2, w _ _ _ _ (fits_range (by simp)) q⟩
theorem kR2 {a b : Expr} {p : Pos} {ta tb : TE} (hgl : Gl X "range") (hm : X.mg "range" = none) (hi : PE X a ta) (hj : PE X b tb) (hs0 : starEach [a, b] X.env = [(false, eval a X.env), (false, eval b X.env)] := by rfl) (hs1 : starEach [b] X.env = [(false, eval b X.env)] := by rfl) :
    PSrc X tg (.Call (.Name "range" p) [a, b] [] cpos) (cR2 ta tb) := by
  refine ⟨_, pi_range2 hgl hm (kCons (pe_hat hi) (kCons (pe_hat hj) kNil hs1) (by rw [hs0, hs1])) hs0 hs1, fun σ H R R' h w => ⟨_, fun v H1 q => ⟨_, fun u H2 z => ?_, q⟩, h⟩⟩
  obtain ⟨i, e1, z1⟩ := asInt_of z
  obtain ⟨j, e2, q1, z2⟩ := asInt_of z1
  exact ⟨i, j, by rw [e1, e2], q1, w _ _ _ _ (fits_range rfl) z2⟩
theorem kRv {a : Expr} {p : Pos} (hgl : Gl X "reversed") (hm : X.mg "reversed" = none) (hi : PE X a te) (hs0 : starEach [a] X.env = [(false, eval a X.env)] := by rfl) : PSrc X tg (.Call (.Name "reversed" p) [a] [] cpos) (cRv X.K te) := by
  refine ⟨_, pi_reversed hgl hm (kCons (pe_hat hi) kNil hs0) hs0, fun σ H R R' h w => ⟨_, fun v H1 q => ?_, h⟩⟩
  obtain ⟨a, rfl, xs, h1, q⟩ := asRef_of q
  refine ⟨a, xs, rfl, h1, w _ _ _ _ ⟨fun i H l hi => ?_, fun i x H l e => ?_⟩ q⟩
  · rw [List.length_reverse] at hi
    exact hi
  · have hi : i < xs.length := by
      have := (List.getElem?_eq_some_iff.mp e).1
      rwa [List.length_reverse] at this
    rw [List.getElem?_reverse hi] at e
    exact ⟨⟨hi, xs, x, l, e⟩, fun y H' ⟨z, w⟩ => ⟨z, Option.some.inj ((w xs l).symm.trans e)⟩⟩
theorem enum_at {k i : Nat} {xs : List V} {x : V × V} (h : (enumV k xs)[i]? = some x) : ∃ y, xs[i]? = some y ∧ x = (.int ((k + i : Nat) : Int), y) := by
  unfold enumV at h
  rw [List.getElem?_map, List.getElem?_zipIdx] at h
  cases e : xs[i]? with
  | none => rw [e] at h; cases h
  | some y =>
    rw [e] at h
    exact ⟨y, rfl, (Option.some.inj h).symm⟩
theorem kEn {a : Expr} {elts : List Expr} {kk : Nat} {p tpos : Pos} (hgl : Gl X "enumerate") (hm : X.mg "enumerate" = none) (hi : PE X a te) (hs0 : starEach [a] X.env = [(false, eval a X.env)] := by rfl) :
    PSrp X (.Tuple elts kk tpos) (.Call (.Name "enumerate" p) [a] [] cpos) (cEn X.K te) := by
  refine ⟨_, pi_enum hgl hm (kCons (pe_hat hi) kNil hs0) hs0, fun σ H R R' h w => ⟨_, fun v H1 q => ?_, h⟩⟩
  obtain ⟨a, rfl, xs, h1, q⟩ := asRef_of q
  refine ⟨a, xs, rfl, h1, w _ _ _ _ ⟨fun i H l hi => ⟨xs, l, ?_⟩, fun i x H l e => ?_⟩ q⟩
  · unfold enumV at hi
    simpa using hi
  · obtain ⟨y, h2, rfl⟩ := enum_at e
    refine ⟨⟨xs, y, l, h2⟩, fun z H' yy => ?_⟩
    obtain ⟨T, y', e1, e2, e3, e4⟩ := yy
    have e5 : y' = y := Option.some.inj ((e4 xs l).symm.trans h2)
    subst e5
    exact ⟨T, e1, e2, by rw [e3]; simp⟩
theorem zip_at {α β : Type} {xs : List α} {ys : List β} {i : Nat} {x : α × β} (h : (xs.zip ys)[i]? = some x) : xs[i]? = some x.1 ∧ ys[i]? = some x.2 := by
  rw [List.getElem?_zip_eq_some] at h
  exact h
theorem kZp {a b : Expr} {elts : List Expr} {kk : Nat} {p tpos : Pos} {ta tb : TE} (hgl : Gl X "zip") (hm : X.mg "zip" = none) (hi : PE X a ta) (hj : PE X b tb) (hs0 : starEach [a, b] X.env = (false, eval a X.env) :: starEach [b] X.env := by rfl)
    (hs1 : starEach [b] X.env = [(false, eval b X.env)] := by rfl) (hpl : (backTo cpos (starEach [b] X.env)).any (·.1) = false := by rfl) :
    PSrp X (.Tuple elts kk tpos) (.Call (.Name "zip" p) [a, b] [] cpos) (cZp X.K ta tb) := by
  refine ⟨_, RZ.pi_zipA hgl hm (kCons (pe_hat hi) (kCons (pe_hat hj) kNil hs1) hs0) hs0 hpl, fun σ H R R' h w => ⟨_, fun v H1 q => ⟨_, fun u H2 z => ?_, q⟩, h⟩⟩
  obtain ⟨a, e1, z1⟩ := asRef_of z
  obtain ⟨b, e2, z2⟩ := asRef_of z1
  have hl : ∀ (xs ys : List V) (i : Nat), (xs.zip ys).length ≤ i → xs.length ≤ i ∨ ys.length ≤ i := fun xs ys i h => by
    rw [List.length_zip] at h
    omega
  rcases z2 with ⟨xs, ys, h1, h2, q⟩ | ⟨xs, ys, h1, h2, q⟩
  · refine ⟨a, b, xs, ys, by rw [e1, e2], .inl ⟨h1, h2, w _ _ _ _ ⟨fun i H l hi => ⟨xs, ys, l.1, l.2, hl _ _ _ hi⟩, fun i x H l e => ?_⟩ q⟩⟩
    obtain ⟨g1, g2⟩ := zip_at e
    refine ⟨⟨xs, ys, _, _, l.1, l.2, g1, g2⟩, fun z H' yy => ?_⟩
    obtain ⟨T, x', y', f1, f2, f3, f4, f5⟩ := yy
    have e5 : x' = x.1 := Option.some.inj ((f4 xs l.1).symm.trans g1)
    have e6 : y' = x.2 := Option.some.inj ((f5 ys l.2).symm.trans g2)
    subst e5 e6
    exact ⟨T, f1, f2, f3⟩
  · refine ⟨a, b, xs, ys, by rw [e1, e2], .inr ⟨h1, h2, w _ _ _ _ ⟨fun i H l hi => ⟨xs, ys, l.1, l.2, hl _ _ _ hi⟩, fun i x H l e => ?_⟩ q⟩⟩
    obtain ⟨g1, g2⟩ := zip_at e
    refine ⟨⟨xs, ys, _, _, l.1, l.2, g1, g2⟩, fun z H' yy => ?_⟩
    obtain ⟨T, x', y', f1, f2, f3, f4, f5⟩ := yy
    have e5 : x' = x.1 := Option.some.inj ((f4 xs l.1).symm.trans g1)
    have e6 : y' = x.2 := Option.some.inj ((f5 ys l.2).symm.trans g2)
    subst e5 e6
    exact ⟨T, f1, f2, f3⟩
/-! for, a comprehension, over any of them -/
def sFor (src : SRC) (g : TG) (tb : TS) (D : Ends) (σ : L2.St) (H : Hp) : Prop := src σ H fun L xs H1 => walk L g tb D xs σ H1
def sForP (src : SRP) (g : TG) (tb : TS) (D : Ends) (σ : L2.St) (H : Hp) : Prop := src σ H fun L xs H1 => walkP L g tb D xs σ H1
theorem zFor {src : SRC} (hp : PassesOwn (model X.prog X.w) X.A X.env X.xe) (hc : X.calm = true) (hi : PSrc X tg iter src) (hg : PG X tg g) (hb : PSs X sts t) (hs : ∀ x, foldedSetIterable iter X.env x = pure x := by intro _; rfl) :
    PS X (.For tg iter sts [] pos) (sFor src g t) := by
  obtain ⟨wi, h1, h2⟩ := hi
  exact ps_w (ps_for hp hc h1 hg hb hs) fun D σ H h => h2 σ H _ _ h fun L xs J H1 f q => walk_it f.1 f.2 q
theorem zForP {src : SRP} (hp : PassesOwn (model X.prog X.w) X.A X.env X.xe) (hc : X.calm = true) (hi : PSrp X tg iter src) (hg : PG X tg g) (hb : PSs X sts t) (hs : ∀ x, foldedSetIterable iter X.env x = pure x := by intro _; rfl) :
    PS X (.For tg iter sts [] pos) (sForP src g t) := by
  obtain ⟨wi, h1, h2⟩ := hi
  exact ps_w (ps_for hp hc h1 hg hb hs) fun D σ H h => h2 σ H _ _ h fun L xs J H1 f q => walk_itP f.1 f.2 q
/-- D: the new list -/
def walkC (L : Hp → Prop) (g : TG) (tt : TT) (te : TE) (vs : List Nat) (σ : L2.St) (D : Addr) (Q : VK) : List V → Hp → Prop
  | [], H => L H ∧ Q (.ref D) H
  | x :: r, H => L H ∧ g x (wipe σ vs) H fun σ2 H2 => wipe σ2 vs = wipe σ vs ∧ tt σ2 H2 fun b H3 =>
    if b = true then te σ2 H3 fun y H4 => ∃ acc, H4 D = some (.lst acc) ∧ acc.length < sizeLine ∧ walkC L g tt te vs σ D Q r (upd H4 D (.lst (acc ++ [y]))) else walkC L g tt te vs σ D Q r H3
def walkCP (L : Hp → Prop) (g : TG) (tt : TT) (te : TE) (vs : List Nat) (σ : L2.St) (D : Addr) (Q : VK) : List (V × V) → Hp → Prop
  | [], H => L H ∧ Q (.ref D) H
  | x :: r, H => L H ∧ ∀ T, H T = none → g (.ref T) (wipe σ vs) (upd H T (.tup [x.1, x.2])) fun σ2 H2 => wipe σ2 vs = wipe σ vs ∧ tt σ2 H2 fun b H3 =>
    if b = true then te σ2 H3 fun y H4 => ∃ acc, H4 D = some (.lst acc) ∧ acc.length < sizeLine ∧ walkCP L g tt te vs σ D Q r (upd H4 D (.lst (acc ++ [y]))) else walkCP L g tt te vs σ D Q r H3
def eLc (src : SRC) (g : TG) (tt : TT) (te : TE) (vs : List Nat) (σ : L2.St) (H : Hp) (Q : VK) : Prop := src σ H fun L xs H1 => ∀ D, H1 D = none → walkC L g tt te vs σ D Q xs (upd H1 D (.lst []))
def eLcP (src : SRP) (g : TG) (tt : TT) (te : TE) (vs : List Nat) (σ : L2.St) (H : Hp) (Q : VK) : Prop := src σ H fun L xs H1 => ∀ D, H1 D = none → walkCP L g tt te vs σ D Q xs (upd H1 D (.lst []))
theorem lc_it {L : Hp → Prop} {J : It} {g : TG} {tt : TT} {te : TE} {vs : List Nat} {σ : L2.St} {D : Addr} {Q : VK} {xs : List V} {H : Hp} (f : Fits J L xs) (h : walkC L g tt te vs σ D Q xs H) :
    ∃ W : Nat → Nat → Hp → Prop, (∃ m, W 0 m H) ∧ ∀ i m H, W i m H →
  (J.stop i H ∧ Q (.ref D) H) ∨ (J.go i H ∧ ∃ Nx : Hp → Prop, (∀ H', Nx H' → ∃ m', m' < m ∧ W (i + 1) m' H') ∧ ∀ x H', J.yld i H x H' → g x (wipe σ vs) H' fun σ2 H2 => wipe σ2 vs = wipe σ vs ∧ tt σ2 H2 fun b H3 =>
    if b = true then te σ2 H3 fun y H4 => ∃ acc, H4 D = some (.lst acc) ∧ acc.length < sizeLine ∧ Nx (upd H4 D (.lst (acc ++ [y]))) else Nx H3) := by
  refine ⟨fun i m H => m = xs.length - i ∧ i ≤ xs.length ∧ walkC L g tt te vs σ D Q (xs.drop i) H, ⟨xs.length, by simp, Nat.zero_le _, h⟩, ?_⟩
  rintro i m H ⟨rfl, hi, p⟩
  by_cases hlt : i < xs.length
  · have e := List.getElem?_eq_getElem hlt
    rw [List.drop_eq_getElem_cons hlt] at p
    obtain ⟨l, p⟩ := p
    obtain ⟨h1, h2⟩ := f.2 i _ H l e
    refine .inr ⟨h1, walkC L g tt te vs σ D Q (xs.drop (i + 1)), fun H' z => ⟨xs.length - (i + 1), by omega, rfl, hlt, z⟩, fun y H' q => ?_⟩
    obtain ⟨rfl, rfl⟩ := h2 y H' q
    exact p
  · have e : i = xs.length := by omega
    subst e
    rw [List.drop_length] at p
    exact .inl ⟨f.1 _ _ p.1 (Nat.le_refl _), p.2⟩
theorem lc_itP {L : Hp → Prop} {J : It} {g : TG} {tt : TT} {te : TE} {vs : List Nat} {σ : L2.St} {D : Addr} {Q : VK} {xs : List (V × V)} {H : Hp} (f : FitsP J L xs) (h : walkCP L g tt te vs σ D Q xs H) :
    ∃ W : Nat → Nat → Hp → Prop, (∃ m, W 0 m H) ∧ ∀ i m H, W i m H →
  (J.stop i H ∧ Q (.ref D) H) ∨ (J.go i H ∧ ∃ Nx : Hp → Prop, (∀ H', Nx H' → ∃ m', m' < m ∧ W (i + 1) m' H') ∧ ∀ x H', J.yld i H x H' → g x (wipe σ vs) H' fun σ2 H2 => wipe σ2 vs = wipe σ vs ∧ tt σ2 H2 fun b H3 =>
    if b = true then te σ2 H3 fun y H4 => ∃ acc, H4 D = some (.lst acc) ∧ acc.length < sizeLine ∧ Nx (upd H4 D (.lst (acc ++ [y]))) else Nx H3) := by
  refine ⟨fun i m H => m = xs.length - i ∧ i ≤ xs.length ∧ walkCP L g tt te vs σ D Q (xs.drop i) H, ⟨xs.length, by simp, Nat.zero_le _, h⟩, ?_⟩
  rintro i m H ⟨rfl, hi, p⟩
  by_cases hlt : i < xs.length
  · have e := List.getElem?_eq_getElem hlt
    rw [List.drop_eq_getElem_cons hlt] at p
    obtain ⟨l, p⟩ := p
    obtain ⟨h1, h2⟩ := f.2 i _ H l e
    refine .inr ⟨h1, walkCP L g tt te vs σ D Q (xs.drop (i + 1)), fun H' z => ⟨xs.length - (i + 1), by omega, rfl, hlt, z⟩, fun y H' q => ?_⟩
    obtain ⟨T, rfl, n, rfl⟩ := h2 y H' q
    exact p T n
  · have e : i = xs.length := by omega
    subst e
    rw [List.drop_length] at p
    exact .inl ⟨f.1 _ _ p.1 (Nat.le_refl _), p.2⟩
section
variable {elt : Expr} {ifs : List Expr} {scope : Scope} {own : List (Str × Nat)} {tt : TT} {src : SRC} {srp : SRP}
abbrev BlkG (X : Cx) (scope : Scope) (tg : Expr) (g : TG) : Prop := ∀ (s : Shared) (H : Hp) (C : Addr) (cl : List (Str × Addr)) (fp : List Addr), PG (X.blk s H scope (compEnvC scope cl C X.env) fp) tg g
abbrev BlkT (X : Cx) (scope : Scope) (ifs : List Expr) (tt : TT) : Prop := ∀ (s : Shared) (H : Hp) (C : Addr) (cl : List (Str × Addr)) (fp : List Addr), PTs (X.blk s H scope (compEnvC scope cl C X.env) fp) ifs tt
abbrev BlkE (X : Cx) (scope : Scope) (elt : Expr) (te : TE) : Prop := ∀ (s : Shared) (H : Hp) (C : Addr) (cl : List (Str × Addr)) (fp : List Addr), PE (X.blk s H scope (compEnvC scope cl C X.env) fp) elt te
theorem dLc (hc : X.calm = true) (hN : X.N.Nodup) (hi : PSrc X tg iter src) (ok : BlkOk X.N X.env.scope scope own) (hg : BlkG X scope tg g) (ht : BlkT X scope ifs tt) (he : BlkE X scope elt te) (hs : ∀ x, foldedSetIterable iter X.env x = pure x := by intro _; rfl) :
    PE X (.ListComp elt [⟨tg, iter, ifs, 0⟩] scope pos) (eLc src g tt te (own.map (·.2))) := by
  obtain ⟨wi, h1, h2⟩ := hi
  exact pe_w (pe_lc hc hN h1 ok hg ht he hs) fun σ H Q h => h2 σ H _ _ h fun L xs J H1 f q D n => lc_it f (q D n)
theorem dLcP (hc : X.calm = true) (hN : X.N.Nodup) (hi : PSrp X tg iter srp) (ok : BlkOk X.N X.env.scope scope own) (hg : BlkG X scope tg g) (ht : BlkT X scope ifs tt) (he : BlkE X scope elt te) (hs : ∀ x, foldedSetIterable iter X.env x = pure x := by intro _; rfl) :
    PE X (.ListComp elt [⟨tg, iter, ifs, 0⟩] scope pos) (eLcP srp g tt te (own.map (·.2))) := by
  obtain ⟨wi, h1, h2⟩ := hi
  exact pe_w (pe_lc hc hN h1 ok hg ht he hs) fun σ H Q h => h2 σ H _ _ h fun L xs J H1 f q D n => lc_itP f (q D n)
theorem zSetLc {i : Nat} {y : Str} {py spos : Pos} (hc : X.calm = true) (hN : X.N.Nodup) (hy : X.N[i]? = some y) (hyl : X.env.scope.names.lookup y = some .local) (hsw : swapsWith (.ListComp elt [⟨tg, iter, ifs, 0⟩] scope pos) (some (.Name y py)) spos.line X.env = pure true)
    (hi : PSrc X tg iter src) (ok : BlkOk X.N X.env.scope scope own) (hg : BlkG X scope tg g) (ht : BlkT X scope ifs tt) (he : BlkE X scope elt te) (hs : ∀ x, foldedSetIterable iter X.env x = pure x := by intro _; rfl) :
    PS X (.Assign [.Name y py] (.ListComp elt [⟨tg, iter, ifs, 0⟩] scope pos) spos) (sSet i (eLc src g tt te (own.map (·.2)))) := by
  obtain ⟨wi, h1, h2⟩ := hi
  exact ps_w (ps_setLc hc hN hy hyl hsw h1 ok hg ht he hs) fun D σ H h => h2 σ H _ _ h fun L xs J H1 f q D n => lc_it f (q D n)
theorem zSetLcP {i : Nat} {y : Str} {py spos : Pos} (hc : X.calm = true) (hN : X.N.Nodup) (hy : X.N[i]? = some y) (hyl : X.env.scope.names.lookup y = some .local) (hsw : swapsWith (.ListComp elt [⟨tg, iter, ifs, 0⟩] scope pos) (some (.Name y py)) spos.line X.env = pure true)
    (hi : PSrp X tg iter srp) (ok : BlkOk X.N X.env.scope scope own) (hg : BlkG X scope tg g) (ht : BlkT X scope ifs tt) (he : BlkE X scope elt te) (hs : ∀ x, foldedSetIterable iter X.env x = pure x := by intro _; rfl) :
    PS X (.Assign [.Name y py] (.ListComp elt [⟨tg, iter, ifs, 0⟩] scope pos) spos) (sSet i (eLcP srp g tt te (own.map (·.2)))) := by
  obtain ⟨wi, h1, h2⟩ := hi
  exact ps_w (ps_setLc hc hN hy hyl hsw h1 ok hg ht he hs) fun D σ H h => h2 σ H _ _ h fun L xs J H1 f q D n => lc_itP f (q D n)
end
def tYes (_ : L2.St) (H : Hp) (Q : Bool → Hp → Prop) : Prop := Q true H
theorem iNo : PTs X [] tYes := pts_nil
theorem iOne (h : PT X c tA) : PTs X [c] tA := pts_one h
/-! more statements -/
def sAsg (te : TE) (g : TG) (D : Ends) (σ : L2.St) (H : Hp) : Prop := te σ H fun v H1 => g v σ H1 D.nx
theorem zAsg (he : PE X e te) (hg : PG X tg g) (hs : swapsWithSole [tg] e pos.line X.env = pure false := by rfl) (hw : swappedStores [tg] e X.env = pure none := by rfl) (h1 : (assignEach [tg] X.env).map (·.2) = [assign tg X.env] := by rfl) : PS X (.Assign [tg] e pos) (sAsg te g) := ps_asg he hg hs hw h1
def gTr (K : PySem.W.Frag) (i j k : Nat) (v : V) (σ : L2.St) (H : Hp) (Q : L2.St → Hp → Prop) : Prop := asRef v fun a => ∃ x y z, SqT K H a [x, y, z] ∧ Q (((σ.set i (some x)).set j (some y)).set k (some z)) H
theorem tgTr {i j k : Nat} {px py pz : Pos} {y z : Str} {kk : Nat} (nd : X.N.Nodup) (hN : X.N[i]? = some x) (hv : Loc X.env.scope x) (hN' : X.N[j]? = some y) (hv' : Loc X.env.scope y) (hN2 : X.N[k]? = some z) (hv2 : Loc X.env.scope z) (hc : X.calm = true := by rfl)
    (hf : X.fn x = true ∨ X.env.scope.names.lookup x = some .local := by first | exact .inl rfl | exact .inr rfl | assumption) (hf' : X.fn y = true ∨ X.env.scope.names.lookup y = some .local := by first | exact .inl rfl | exact .inr rfl | assumption) (hf2 : X.fn z = true ∨ X.env.scope.names.lookup z = some .local := by first | exact .inl rfl | exact .inr rfl | assumption) :
    PG X (.Tuple [.Name x px, .Name y py, .Name z pz] kk pos) (gTr X.K i j k) := by
  refine ⟨fun pins s σ H v u Q I r h => (pg_tup hc (pgs_cons (pg_name nd hN hv hf) (pgs_cons (pg_name nd hN' hv' hf') (pgs_cons (pg_name nd hN2 hv2 hf2) pgs_nil)))).run pins s σ H v u Q I r ?_⟩
  obtain ⟨a, rfl, w1, w2, w3, h1, q⟩ := asRef_of h
  exact ⟨a, _, rfl, h1, rfl, w1, _, rfl, w2, _, rfl, w3, [], rfl, rfl, q⟩
def setR (a : Addr) (k : Int) (v : V) (H : Hp) (Q : Hp → Prop) : Prop := ∃ xs j, H a = some (.lst xs) ∧ ixN xs.length k = some j ∧ Q (upd H a (.lst (xs.set j v)))
def sSub (to ti tv : TE) (D : Ends) (σ : L2.St) (H : Hp) : Prop := tv σ H fun v H1 => to σ H1 fun o H2 => ti σ H2 fun i H3 => asRef o fun a => asInt i fun k => setR a k v H3 fun H4 => D.nx σ H4
theorem zSub {o i v : Expr} {to ti tv : TE} {spos : Pos} (ho : PE X o to) (hi : PE X i ti) (hv : PE X v tv) (hs : swapsWithSole [.Subscript o i spos] v pos.line X.env = pure false := by rfl) (hw : swappedStores [.Subscript o i spos] v X.env = pure none := by rfl)
    (h1 : (assignEach [.Subscript o i spos] X.env).map (·.2) = [assign (.Subscript o i spos) X.env] := by rfl)
    (ha : ∀ v, assign (.Subscript o i spos) X.env v = (do let ov ← holding [v] (eval o X.env); let iv ← holding [v, ov] (eval i X.env); standAt spos; holding [v, ov, iv] (setItem ov iv v); release [v, ov, iv] []) := by intro _; rfl) :
    PS X (.Assign [.Subscript o i spos] v pos) (sSub to ti tv) :=
  ps_w (ps_asg (pe_hat hv) (pg_sub (pe_hat ho) (pe_hat hi) set_list ha) hs hw h1) fun D σ H h => ⟨_, fun x H1 q => ⟨_, fun o H2 q => ⟨_, fun i H3 z => by
    obtain ⟨a, rfl, z⟩ := asRef_of z
    obtain ⟨k, rfl, xs, j, h1, h2, z⟩ := asInt_of z
    exact ⟨a, xs, k, j, rfl, rfl, h1, h2, z⟩, q⟩, q⟩, h⟩
def sNever (_ : Ends) (_ : L2.St) (_ : Hp) : Prop := False
theorem zNever {st : Stmt} : PS X st sNever := ⟨fun _ _ _ _ _ _ h => h.elim⟩
def sAug (i : Nat) (r : R2) (te : TE) (D : Ends) (σ : L2.St) (H : Hp) : Prop := eVar i σ H fun x _ => te σ H fun y H1 => r x y H1 fun z H2 => D.nx (σ.set i (some z)) H2
theorem zAug {i : Nat} {px : Pos} {op : Operator} {r : R2} (nd : X.N.Nodup) (hN : X.N[i]? = some x) (hv : Loc X.env.scope x) (he : PE X e te) (ho : OpR X (inplaceOp op) r) (hf : X.fn x = true ∨ X.env.scope.names.lookup x = some .local := by first | exact .inl rfl | exact .inr rfl | assumption) : PS X (.AugAssign (.Name x px) op e pos) (sAug i r te) := by
  have hin : PIp X op fun v y H Q => ∃ Q0 : VK, (∀ z H', Q0 z H' → Q z H') ∧ r v y H Q0 := fun pins s σ H x y u v Q I rx ry ⟨Q0, w, q⟩ => thn (ho pins s σ H x y u v Q0 I rx ry q) fun _ _ ⟨z, H', I', r', q'⟩ => ⟨z, H', I', r', w _ _ q'⟩
  exact ps_w (ps_aug nd hN hv (pe_hat he) hin hf) fun D σ H h => by
    unfold sAug eVar at h
    split at h
    · exact ⟨_, by assumption, _, fun y H1 q => ⟨_, fun z H2 q => q, q⟩, h⟩
    · exact h.elim
theorem ioAddI : OpR X (inplaceOp .Add) (uI2 fun i j => .int (i + j)) := uI2_of iop_add
theorem ioSub : OpR X (inplaceOp .Sub) (uI2 fun i j => .int (i - j)) := uI2_of iop_sub
def vRef' (vs : List V) (k : Addr → Prop) : Prop := match vs with
  | [.ref y] => k y
  | _ => False
def uTuple (K : PySem.W.Frag) (vs : List V) (H : Hp) (Q : VK) : Prop := vRef' vs fun a => (∃ xs, SqL K H a xs ∧ ∀ p, H p = none → Q (.ref p) (upd H p (.tup xs))) ∨ (∃ xs, SqT K H a xs ∧ Q (.ref a) H)
theorem bTuple : CallR X (.type "tuple") (uTuple X.K) := by
  intro pins s σ H xs us Q I r h
  unfold uTuple vRef' at h
  split at h
  · rcases h with ⟨ys, h1, q⟩ | ⟨ys, h1, q⟩
    · exact call_tuple_of pins s σ H _ us Q I r ⟨_, ys, rfl, .inl ⟨h1, q⟩⟩
    · exact call_tuple_of pins s σ H _ us Q I r ⟨_, ys, rfl, .inr ⟨h1, q⟩⟩
  · exact h.elim
/-! methods of texts and of lists -/
def eMs (r : Str → List V → Hp → VK → Prop) (to : TE) (t : TA) (σ : L2.St) (H : Hp) (Q : VK) : Prop := to σ H fun x H1 => asTx x fun z => t σ H1 fun vs H2 => r z vs H2 Q
def eMl (K : PySem.W.Frag) (r : Addr → List V → Hp → VK → Prop) (to : TE) (t : TA) (σ : L2.St) (H : Hp) (Q : VK) : Prop := to σ H fun x H1 => asRef x fun a => (∃ xs, SqL K H1 a xs) ∧ t σ H1 fun vs H2 => r a vs H2 Q
def MsR (X : Cx) (id : String) (r : Str → List V → Hp → VK → Prop) : Prop := MtR X id fun x vs H Q => ∃ z, x = .str z ∧ r z vs H Q
def MlR (X : Cx) (id : String) (r : Addr → List V → Hp → VK → Prop) : Prop := MtR X id fun x vs H Q => ∃ z, x = .ref z ∧ r z vs H Q
section
variable {rs : Str → List V → Hp → VK → Prop} {rl : Addr → List V → Hp → VK → Prop}
theorem dMs0 (slot : Slot "str" name id) (hty : typeOf (.builtin id) = pure (.type "method_descriptor")) (hm : MsR X id rs) (ho : PE X o to)
    (hbase : attributeBase o name X.env (eval o X.env) = eval o X.env := by rfl) (hline : (apos.endLine == cpos.line) = true := by rfl) : PE X (.Call (.Attribute o name apos) [] [] cpos) (eMs rs to aNil) :=
  pe_w (dMb0 PySem.F.plainAttrs_str slot hty hm (pe_hat ho) hbase hline) fun σ H Q q => ⟨_, fun v H1 z => by
    obtain ⟨s, rfl, z⟩ := asTx_of z
    exact ⟨rfl, s, rfl, z⟩, q⟩
theorem dMs (slot : Slot "str" name id) (hty : typeOf (.builtin id) = pure (.type "method_descriptor")) (hm : MsR X id rs) (ho : PE X o to) (ha : PA X (e :: es) tes)
    (hbase : attributeBase o name X.env (eval o X.env) = eval o X.env := by rfl)
    (hfew : ((backTo cpos (starEach (e :: es) X.env)).all (fun x => !x.1) && (backToKw cpos (keywordEach [] X.env)).all (fun x => x.1.isSome) && decide ((e :: es).length + ([] : List Keyword).length + (if ([] : List Keyword).isEmpty then 0 else 1) < 30)) = true := by rfl)
    (hline : (apos.endLine == cpos.line) = true := by rfl) (hs : starEach (e :: es) X.env = (false, eval e X.env) :: starEach es X.env := by rfl) (hplain : (backTo cpos (starEach es X.env)).any (·.1) = false := by rfl) :
    PE X (.Call (.Attribute o name apos) (e :: es) [] cpos) (eMs rs to tes) :=
  pe_w (dMb PySem.F.plainAttrs_str slot hty hm (pe_hat ho) (pa_hat ha) hbase hfew hline hs hplain) fun σ H Q q => ⟨_, fun v H1 z => by
    obtain ⟨s, rfl, z⟩ := asTx_of z
    exact ⟨rfl, _, fun vs H2 z => ⟨s, rfl, z⟩, z⟩, q⟩
theorem dMl0 (slot : Slot "list" name id) (hty : typeOf (.builtin id) = pure (.type "method_descriptor")) (hm : MlR X id rl) (ho : PE X o to)
    (hbase : attributeBase o name X.env (eval o X.env) = eval o X.env := by rfl) (hline : (apos.endLine == cpos.line) = true := by rfl) : PE X (.Call (.Attribute o name apos) [] [] cpos) (eMl X.K rl to aNil) :=
  pe_w (dMb0 PySem.F.plainAttrs_list slot hty hm (pe_hat ho) hbase hline) fun σ H Q q => ⟨_, fun v H1 z => by
    obtain ⟨s, rfl, h, z⟩ := asRef_of z
    exact ⟨.inl ⟨rfl, h⟩, s, rfl, z⟩, q⟩
theorem dMl (slot : Slot "list" name id) (hty : typeOf (.builtin id) = pure (.type "method_descriptor")) (hm : MlR X id rl) (ho : PE X o to) (ha : PA X (e :: es) tes)
    (hbase : attributeBase o name X.env (eval o X.env) = eval o X.env := by rfl)
    (hfew : ((backTo cpos (starEach (e :: es) X.env)).all (fun x => !x.1) && (backToKw cpos (keywordEach [] X.env)).all (fun x => x.1.isSome) && decide ((e :: es).length + ([] : List Keyword).length + (if ([] : List Keyword).isEmpty then 0 else 1) < 30)) = true := by rfl)
    (hline : (apos.endLine == cpos.line) = true := by rfl) (hs : starEach (e :: es) X.env = (false, eval e X.env) :: starEach es X.env := by rfl) (hplain : (backTo cpos (starEach es X.env)).any (·.1) = false := by rfl) :
    PE X (.Call (.Attribute o name apos) (e :: es) [] cpos) (eMl X.K rl to tes) :=
  pe_w (dMb PySem.F.plainAttrs_list slot hty hm (pe_hat ho) (pa_hat ha) hbase hfew hline hs hplain) fun σ H Q q => ⟨_, fun v H1 z => by
    obtain ⟨s, rfl, h, z⟩ := asRef_of z
    exact ⟨.inl ⟨rfl, h⟩, _, fun vs H2 z => ⟨s, rfl, z⟩, z⟩, q⟩
end
/-- one text as the argument -/
def vTx (vs : List V) (k : Str → Prop) : Prop := match vs with
  | [.str b] => k b
  | _ => False
def vNo (vs : List V) (k : Prop) : Prop := match vs with
  | [] => k
  | _ => False
def vOne (vs : List V) (k : V → Prop) : Prop := match vs with
  | [y] => k y
  | _ => False
def vInt (vs : List V) (k : Int → Prop) : Prop := match vs with
  | [.int y] => k y
  | _ => False
def vRef (vs : List V) (k : Addr → Prop) : Prop := match vs with
  | [.ref y] => k y
  | _ => False
theorem vTx_of {vs : List V} {k : Str → Prop} (h : vTx vs k) : ∃ b, vs = [.str b] ∧ k b := by
  unfold vTx at h
  split at h
  · exact ⟨_, rfl, h⟩
  · exact h.elim
theorem vNo_of {vs : List V} {k : Prop} (h : vNo vs k) : vs = [] ∧ k := by
  unfold vNo at h
  split at h
  · exact ⟨rfl, h⟩
  · exact h.elim
theorem vOne_of {vs : List V} {k : V → Prop} (h : vOne vs k) : ∃ b, vs = [b] ∧ k b := by
  unfold vOne at h
  split at h
  · exact ⟨_, rfl, h⟩
  · exact h.elim
theorem vInt_of {vs : List V} {k : Int → Prop} (h : vInt vs k) : ∃ b, vs = [.int b] ∧ k b := by
  unfold vInt at h
  split at h
  · exact ⟨_, rfl, h⟩
  · exact h.elim
theorem vRef_of {vs : List V} {k : Addr → Prop} (h : vRef vs k) : ∃ b, vs = [.ref b] ∧ k b := by
  unfold vRef at h
  split at h
  · exact ⟨_, rfl, h⟩
  · exact h.elim
def uFind (z : Str) (vs : List V) (H : Hp) (Q : VK) : Prop := vTx vs fun b => Q (.int (Txt.find z b)) H
def uStarts (z : Str) (vs : List V) (H : Hp) (Q : VK) : Prop := vTx vs fun b => Q (.bl (Txt.startswith z b)) H
def uSplit (z : Str) (vs : List V) (H : Hp) (Q : VK) : Prop := vTx vs fun b => (b.length == 0) = false ∧ z.length + 2 ≤ sizeLine ∧ ∀ p, H p = none → Q (.ref p) (upd H p (.lst ((Txt.split z b).map V.str)))
def uRstrip (z : Str) (vs : List V) (H : Hp) (Q : VK) : Prop := vNo vs (z.length ≤ sizeLine ∧ Q (.str (Txt.rstrip z)) H)
def uIsdigit (z : Str) (vs : List V) (H : Hp) (Q : VK) : Prop := vNo vs (Q (.bl (Txt.isdigit z)) H)
def uAppend (l : Addr) (vs : List V) (H : Hp) (Q : VK) : Prop := vOne vs fun y => ∃ xs, H l = some (.lst xs) ∧ xs.length < sizeLine ∧ Q .non (upd H l (.lst (xs ++ [y])))
def uPop (l : Addr) (vs : List V) (H : Hp) (Q : VK) : Prop := vNo vs (∃ xs y, H l = some (.lst (xs ++ [y])) ∧ Q y (upd H l (.lst xs)))
def uPop0 (l : Addr) (vs : List V) (H : Hp) (Q : VK) : Prop := vInt vs fun i => i = 0 ∧ ∃ xs y, H l = some (.lst (y :: xs)) ∧ Q y (upd H l (.lst xs))
def uExtend (l : Addr) (vs : List V) (H : Hp) (Q : VK) : Prop := vRef vs fun b => ∃ xs zs, H l = some (.lst xs) ∧ H b = some (.lst zs) ∧ xs.length + zs.length ≤ sizeLine ∧ Q .non (upd H l (.lst (xs ++ zs)))
theorem mFind : MsR X "str.find" uFind := fun pins s σ H x vs v us Q I rx rs ⟨z, e, q⟩ => by
  subst e
  obtain ⟨b, rfl, q⟩ := vTx_of q
  exact mt_find pins s σ H _ _ v us Q I rx rs ⟨z, b, rfl, rfl, q⟩
theorem mStarts : MsR X "str.startswith" uStarts := fun pins s σ H x vs v us Q I rx rs ⟨z, e, q⟩ => by
  subst e
  obtain ⟨b, rfl, q⟩ := vTx_of q
  exact mt_startswith pins s σ H _ _ v us Q I rx rs ⟨z, b, rfl, rfl, q⟩
theorem mSplit : MsR X "str.split" uSplit := fun pins s σ H x vs v us Q I rx rs ⟨z, e, q⟩ => by
  subst e
  obtain ⟨b, rfl, h1, h2, q⟩ := vTx_of q
  exact mt_split pins s σ H _ _ v us Q I rx rs ⟨z, b, rfl, rfl, h1, h2, q⟩
theorem mRstrip : MsR X "str.rstrip" uRstrip := fun pins s σ H x vs v us Q I rx rs ⟨z, e, q⟩ => by
  subst e
  obtain ⟨rfl, h1, q⟩ := vNo_of q
  exact mt_rstrip pins s σ H _ _ v us Q I rx rs ⟨z, rfl, rfl, h1, q⟩
theorem mIsdigit : MsR X "str.isdigit" uIsdigit := fun pins s σ H x vs v us Q I rx rs ⟨z, e, q⟩ => by
  subst e
  obtain ⟨rfl, q⟩ := vNo_of q
  exact mt_isdigit pins s σ H _ _ v us Q I rx rs ⟨z, rfl, rfl, trivial, q⟩
theorem mAppend : MlR X "list.append" uAppend := fun pins s σ H x vs v us Q I rx rs ⟨z, e, q⟩ => by
  subst e
  obtain ⟨y, rfl, xs, h1, h2, q⟩ := vOne_of q
  exact mt_append pins s σ H _ _ v us Q I rx rs ⟨z, xs, y, rfl, rfl, h1, h2, q⟩
theorem mPop : MlR X "list.pop" uPop := fun pins s σ H x vs v us Q I rx rs ⟨z, e, q⟩ => by
  subst e
  obtain ⟨rfl, xs, y, h1, q⟩ := vNo_of q
  exact mt_pop pins s σ H _ _ v us Q I rx rs ⟨z, _, y, rfl, rfl, h1, by simp, by rw [List.dropLast_concat]; exact q⟩
theorem mPop0 : MlR X "list.pop" uPop0 := fun pins s σ H x vs v us Q I rx rs ⟨z, e, q⟩ => by
  subst e
  obtain ⟨i, rfl, rfl, xs, y, h1, q⟩ := vInt_of q
  exact mt_popAt pins s σ H _ _ v us Q I rx rs ⟨z, _, 0, 0, y, rfl, rfl, h1, by decide, by decide, by simp [seqIndex?], rfl, q⟩
theorem mExtend : MlR X "list.extend" uExtend := fun pins s σ H x vs v us Q I rx rs ⟨z, e, q⟩ => by
  subst e
  obtain ⟨y, rfl, xs, zs, h1, h2, h3, q⟩ := vRef_of q
  exact mt_extend pins s σ H _ _ v us Q I rx rs ⟨z, y, xs, zs, rfl, rfl, h1, h2, h3, q⟩
theorem bStr : CallR X (.type "str") uStr := by
  intro pins s σ H xs us Q I r h
  unfold uStr at h
  split at h
  · exact call_str_int pins s σ H _ us Q I r ⟨_, rfl, h.1, h.2⟩
  · exact SkE.call_str_str pins s σ H _ us Q I r ⟨_, rfl, h⟩
  · exact h.elim

/-! the defs of a text -/
abbrev rSub : R2 := uI2 fun i j => .int (i - j)
abbrev rDiv : R2 := uII CDivW fun i j => .int (i / j)
abbrev rMod : R2 := uII (fun _ j => 0 < j) fun i j => .int (i % j)
abbrev rPow : R2 := uII CPow fun i j => .int (i ^ j.toNat)
abbrev rAnd : R2 := uI2 fun i j => .int (Builtin.bitAnd i j)
abbrev rOr : R2 := uI2 fun i j => .int (Builtin.bitOr i j)
abbrev rXor : R2 := uI2 fun i j => .int (Builtin.bitXor i j)
abbrev rLt : R2 := uI2 fun i j => .bl (decide (i < j))
abbrev rLe : R2 := uI2 fun i j => .bl (decide (i ≤ j))
abbrev rGt : R2 := uI2 fun i j => .bl (decide (j < i))
abbrev rGe : R2 := uI2 fun i j => .bl (decide (j ≤ i))
/-- a def stands -/
def Df (K : PySem.W.Frag) (mg : Str → Option Value) (x : Str) (st : Stmt) : Prop := ∃ f fd, L2.Fun K x x st f fd ∧ mg x = some (.ref f)
/-- a def keeps its promise -/
def Fn (P : Program) (w : World) (K : PySem.W.Frag) (mg : Str → Option Value) (base : Heap) (CX : CXT) (k : Nat) (x : Str) (ps : List Str) (sp : Sp) : Prop :=
  ∃ f fd, mg x = some (.ref f) ∧ PySem.W.keepIn K (.ref f) = true ∧ Binds K fd ps [] ∧ FnOk P w K mg base CX k f fd ps sp
/-- a constant of the module -/
def Cn (mg : Str → Option Value) (x : Str) (v : V) : Prop := ∃ u, mg x = some u ∧ RelV v u
theorem dFn (F : Fn X.prog X.w X.K X.mg X.base CX k x ps sp) (hr : Room k X.A) (hg : Gl X x) (hx : Passes CX X E)
    (ha : PA X (e :: es) tes) (hdb : (x == ("__debug__" : Str)) = false := by decide) (he : starEach (e :: es) X.env = (false, eval e X.env) :: starEach es X.env := by rfl) (hpl : (backTo pos (starEach es X.env)).any (·.1) = false := by rfl) :
    PE X (.Call (.Name x p) (e :: es) [] pos) (eCall sp E tes) := by
  obtain ⟨f, fd, g1, g2, g3, g4⟩ := F
  exact dCall g4 hr hg g1 g2 g3 hx ha hdb he hpl
theorem dFn0 (F : Fn X.prog X.w X.K X.mg X.base CX k x ps sp) (hr : Room k X.A) (hg : Gl X x) (hx : Passes CX X E)
    (hdb : (x == ("__debug__" : Str)) = false := by decide) : PE X (.Call (.Name x p) [] [] pos) (eCall sp E aNil) := by
  obtain ⟨f, fd, g1, g2, g3, g4⟩ := F
  exact dCall0 g4 hr hg g1 g2 g3 hx hdb
theorem dCn {v : V} (hg : Gl X x) (C : Cn X.mg x v) (hd : (x == ("__debug__" : Str)) = false := by decide) : PE X (.Name x p) (eLit v) := by
  obtain ⟨u, h1, h2⟩ := C
  exact dGl hg h1 h2 hd
end
/-! classes: Γ tells where the class of a name stands -/
section
open PySem PySem.Spec L2 PyProof.Rows
abbrev Gm := Str → Addr
def insR (Γ : Gm) (cs : List Str) (a : Addr) (H : Hp) (k : Str → Addr → List (Str × V) → Prop) : Prop := ∃ c dx fs, c ∈ cs ∧ H a = some (.ins (Γ c) dx fs) ∧ k c dx fs
/-- what is to be known of the classes that have a field -/
def Flds (K : PySem.W.Frag) (Γ : Gm) (cs : List Str) (f : Str) : Prop := ∀ c ∈ cs, Cls K (Γ c) ∧ NoAttr K (Γ c) f
theorem Flds.nil {K : PySem.W.Frag} {Γ : Gm} {f : Str} : Flds K Γ [] f := fun _ h => nomatch h
theorem Flds.cons {K : PySem.W.Frag} {Γ : Gm} {c f : Str} {cs : List Str} (h1 : Cls K (Γ c)) (h2 : NoAttr K (Γ c) f) (h : Flds K Γ cs f) : Flds K Γ (c :: cs) f := fun x hx => by
  rcases List.mem_cons.mp hx with rfl | hx
  · exact ⟨h1, h2⟩
  · exact h x hx
variable {X : Cx} {e o value : Expr} {es : List Expr} {pos pos' tpos apos : Pos} {ta tv te to : TE} {tes : TA} {f m x : Str} {Γ : Gm} {cs : List Str} {p : Pos}
def eFld (Γ : Gm) (cs : List Str) (f : Str) (ta : TE) (σ : L2.St) (H : Hp) (Q : VK) : Prop := ta σ H fun x H1 => asRef x fun a => insR Γ cs a H1 fun _ _ fs => ∃ v, fs.lookup f = some v ∧ Q v H1
theorem dFld (hk : Flds X.K Γ cs f) (he : PE X e ta) (hb : attributeBase e f X.env (eval e X.env) = eval e X.env := by rfl) : PE X (.Attribute e f pos) (eFld Γ cs f ta) :=
  pe_w (pe_fld (pe_hat he) hb) fun σ H Q h => ⟨_, fun y H1 q => by
    obtain ⟨a, rfl, c, dx, fs, hc, h1, v, h2, q⟩ := asRef_of q
    exact ⟨a, _, dx, fs, v, rfl, h1, (hk c hc).1, (hk c hc).2, h2, q⟩, h⟩
def sFld (Γ : Gm) (cs : List Str) (f : Str) (ta tv : TE) (D : Ends) (σ : L2.St) (H : Hp) : Prop := tv σ H fun y H1 => ta σ H1 fun x H2 => asRef x fun a => insR Γ cs a H2 fun c dx fs => fs.length < 1000 ∧ D.nx σ (upd H2 a (.ins (Γ c) dx (putF f y fs)))
theorem zFld (hk : Flds X.K Γ cs f) (ha : PE X o ta) (hv : PE X value tv) (hs : swapsWith value (some (.Attribute o f pos')) pos.line X.env = pure false := by rfl) : PS X (.Assign [.Attribute o f pos'] value pos) (sFld Γ cs f ta tv) :=
  ps_w (ps_fld (pe_hat ha) (pe_hat hv) hs) fun D σ H h => ⟨_, fun y H1 q => ⟨_, fun x H2 q => by
    obtain ⟨a, rfl, c, dx, fs, hc, h1, h2, q⟩ := asRef_of q
    exact ⟨a, _, dx, fs, rfl, h1, (hk c hc).1, (hk c hc).2, h2, q⟩, q⟩, h⟩
/-- o.f op= e -/
def sFldAug (Γ : Gm) (cs : List Str) (f : Str) (r : R2) (ta tv : TE) (D : Ends) (σ : L2.St) (H : Hp) : Prop := ta σ H fun x H1 => asRef x fun a => insR Γ cs a H1 fun c _ fs => ∃ v, fs.lookup f = some v ∧
  tv σ H1 fun y H2 => r v y H2 fun z H3 => ∃ dx' fs', H3 a = some (.ins (Γ c) dx' fs') ∧ fs'.length < 1000 ∧ D.nx σ (upd H3 a (.ins (Γ c) dx' (putF f z fs')))
theorem zFldAug {op : Operator} {r : R2} (hk : Flds X.K Γ cs f) (ha : PE X o ta) (hv : PE X value tv) (hop : OpR X (inplaceOp op) r) : PS X (.AugAssign (.Attribute o f tpos) op value pos) (sFldAug Γ cs f r ta tv) := by
  have hin : InOp X op fun v y H Q => ∃ Q0 : VK, (∀ z H', Q0 z H' → Q z H') ∧ r v y H Q0 := fun pins s σ H x y u v Q I rx ry ⟨Q0, w, q⟩ => thn (hop pins s σ H x y u v Q0 I rx ry q) fun _ _ ⟨z, H', I', r', q'⟩ => ⟨z, H', I', r', w _ _ q'⟩
  exact ps_w (ps_fldaug (pe_hat ha) (pe_hat hv) hin) fun D σ H h => ⟨_, fun x H1 q => by
    obtain ⟨a, rfl, c, dx, fs, hc, h1, v, h2, q⟩ := asRef_of q
    exact ⟨a, _, dx, fs, v, rfl, h1, (hk c hc).1, (hk c hc).2, h2, _, fun y H2 q => ⟨_, fun z H3 q => q, q⟩, q⟩, h⟩
/-- methods by the class of the instance -/
def MOk (X : Cx) (Γ : Gm) (CX : CXT) (k : Nat) (m : Str) (cs : List (Str × Sp)) : Prop := ∀ c ∈ cs, ∃ g fd ps, Cls X.K (Γ c.1) ∧ Meth X.K (Γ c.1) m g ∧ Binds X.K fd ps [] ∧ FnOk X.prog X.w X.K X.mg X.base CX k g fd ps c.2
/-- a class's method keeps its promise -/
def Mn (P : Program) (w : World) (K : PySem.W.Frag) (mg : Str → Option Value) (base : Heap) (Γ : Gm) (CX : CXT) (k : Nat) (c m : Str) (sp : Sp) : Prop := ∃ g fd ps, Cls K (Γ c) ∧ Meth K (Γ c) m g ∧ Binds K fd ps [] ∧ FnOk P w K mg base CX k g fd ps sp
theorem MOk.nil {CX : CXT} {k : Nat} : MOk X Γ CX k m [] := fun _ h => nomatch h
theorem MOk.cons {CX : CXT} {j k : Nat} {c : Str} {sp : Sp} {cs : List (Str × Sp)} (F : Mn X.prog X.w X.K X.mg X.base Γ CX j c m sp) (hj : j ≤ k) (h : MOk X Γ CX k m cs) : MOk X Γ CX k m ((c, sp) :: cs) := fun x hx => by
  rcases List.mem_cons.mp hx with rfl | hx
  · obtain ⟨g, fd, ps, h1, h2, h3, h4⟩ := F
    exact ⟨g, fd, ps, h1, h2, h3, h4.mono hj⟩
  · exact h x hx
def mthR (Γ : Gm) (m : Str) (a : Addr) (H : Hp) (cs : List (Str × Sp)) (k : Sp → Prop) : Prop := ∃ c ∈ cs, ∃ dx fs, H a = some (.ins (Γ c.1) dx fs) ∧ fs.lookup m = none ∧ k c.2
def eMth (Γ : Gm) (m : Str) (cs : List (Str × Sp)) (E : XK) (ta : TE) (t : TA) (σ : L2.St) (H : Hp) (Q : VK) : Prop := ta σ H fun x H1 => asRef x fun a => mthR Γ m a H1 cs fun sp => t σ H1 fun vs H2 => sp (x :: vs) H2 Q E
theorem dMth {CX : CXT} {k : Nat} {ms : List (Str × Sp)} {E : XK} {pl : Sem Bool} (F : MOk X Γ CX k m ms) (hr : Room k X.A) (hx : Passes CX X E) (he : PE X o ta) (ha : PA X (e :: es) tes)
    (hst : starEach (e :: es) X.env = (false, eval e X.env) :: starEach es X.env := by rfl) (hpl : (backTo pos (starEach es X.env)).any (·.1) = false := by rfl)
    (ht : eval (.Call (.Attribute o m apos) (e :: es) [] pos) X.env = (do let ov ← eval o X.env; standAt apos.atName; let (f, first) ← holding [ov] (getMethod ov m pl); callWith pos f first (backTo pos (starEach (e :: es) X.env)) (backToKw pos (keywordEach [] X.env))) := by rfl) :
    PE X (.Call (.Attribute o m apos) (e :: es) [] pos) (eMth Γ m ms E ta tes) := by
  refine ⟨fun pins s σ H Q I h => PySem.W.methodCall_KW (pl := pl) (thn (he.run pins s σ H _ I h) fun u s1 ⟨x, H1, I1, rx, q⟩ => ?_) ht⟩
  obtain ⟨a, ex, c, hc, dx, fs, ea, l, q⟩ := asRef_of q
  subst ex
  obtain rfl : u = Value.ref a := rx
  obtain ⟨g, fd, ps, h1, h2, h3, h4⟩ := F c hc
  refine getmeth_ok I1 ea h1 h2 l ?_
  exact PySem.W.callWith_K (first := [.ref a]) (h₀ := X.base) I.ok.mod.kin h2.kp (thn (ha.run pos pins s1 σ H1 _ I1 q) fun us s2 ⟨vs, H2, I2, r, q2⟩ => ⟨I2.kIn, run_fn (us := .ref a :: us) (vs := .ref a :: vs) (dvs := []) h4 hr h3 .nil hx I2 (.cons rfl r) (by rw [List.append_nil]; exact q2)⟩) hst hpl
theorem dMth0 {CX : CXT} {k : Nat} {ms : List (Str × Sp)} {E : XK} {pl : Sem Bool} (F : MOk X Γ CX k m ms) (hr : Room k X.A) (hx : Passes CX X E) (he : PE X o ta)
    (ht : eval (.Call (.Attribute o m apos) [] [] pos) X.env = (do let ov ← eval o X.env; standAt apos.atName; let (f, first) ← holding [ov] (getMethod ov m pl); callWith pos f first (backTo pos (starEach [] X.env)) (backToKw pos (keywordEach [] X.env))) := by rfl) :
    PE X (.Call (.Attribute o m apos) [] [] pos) (eMth Γ m ms E ta aNil) := by
  refine ⟨fun pins s σ H Q I h => PySem.W.methodCall_KW (pl := pl) (thn (he.run pins s σ H _ I h) fun u s1 ⟨x, H1, I1, rx, q⟩ => ?_) ht⟩
  obtain ⟨a, ex, c, hc, dx, fs, ea, l, q⟩ := asRef_of q
  subst ex
  obtain rfl : u = Value.ref a := rx
  obtain ⟨g, fd, ps, h1, h2, h3, h4⟩ := F c hc
  refine getmeth_ok I1 ea h1 h2 l ?_
  exact PySem.W.callWith_K0 (first := [.ref a]) I1.kIn h2.kp (run_fn (us := [.ref a]) (vs := [.ref a]) (dvs := []) h4 hr h3 .nil hx I1 (.cons rfl .nil) q)
/-- C(..): made, then __init__ -/
def Mi (P : Program) (w : World) (K : PySem.W.Frag) (mg : Str → Option Value) (base : Heap) (Γ : Gm) (CX : CXT) (k : Nat) (c : Str) (sp : Sp) : Prop := ∃ g fd ps, Mk K (Γ c) g ∧ mg c = some (.ref (Γ c)) ∧ Binds K fd ps [] ∧ FnOk P w K mg base CX k g fd ps sp
def eNew (Γ : Gm) (c : Str) (sp : Sp) (E : XK) (t : TA) (σ : L2.St) (H : Hp) (Q : VK) : Prop := t σ H fun vs H1 => ∀ x dx, H1 x = none → H1 dx = none → dx ≠ x →
  sp (.ref x :: vs) (upd (upd H1 dx (.own x)) x (.ins (Γ c) dx [])) (fun v H2 => v = .non ∧ Q (.ref x) H2) E
theorem dNew {CX : CXT} {k : Nat} {sp : Sp} {E : XK} (F : Mi X.prog X.w X.K X.mg X.base Γ CX k x sp) (hr : Room (k + 1) X.A) (hg : Gl X x) (hx : Passes CX X E) (ha : PA X (e :: es) tes)
    (hdb : (x == ("__debug__" : Str)) = false := by decide) (he : starEach (e :: es) X.env = (false, eval e X.env) :: starEach es X.env := by rfl) (hpl : (backTo pos (starEach es X.env)).any (·.1) = false := by rfl) :
    PE X (.Call (.Name x p) (e :: es) [] pos) (eNew Γ x sp E tes) := by
  obtain ⟨g, fd, ps, h1, h2, h3, h4⟩ := F
  refine pe_w (pe_make h1 h4 hr hg h2 h3 .nil hx ha hdb he hpl) fun σ H Q q => ?_
  unfold tMake
  simp only [List.append_nil]
  exact q
theorem dNew0 {CX : CXT} {k : Nat} {sp : Sp} {E : XK} (F : Mi X.prog X.w X.K X.mg X.base Γ CX k x sp) (hr : Room (k + 1) X.A) (hg : Gl X x) (hx : Passes CX X E)
    (hdb : (x == ("__debug__" : Str)) = false := by decide) : PE X (.Call (.Name x p) [] [] pos) (eNew Γ x sp E aNil) := by
  obtain ⟨g, fd, ps, h1, h2, h3, h4⟩ := F
  exact pe_make0 h1 h4 hr hg h2 h3 .nil hx hdb
/-- C.m(self, ..): a def of a class, read off the class -/
def Mc (P : Program) (w : World) (K : PySem.W.Frag) (mg : Str → Option Value) (base : Heap) (Γ : Gm) (CX : CXT) (k : Nat) (c m : Str) (sp : Sp) : Prop := ∃ g fd ps mc, mg c = some (.ref (Γ c)) ∧ PySem.W.readsIn K (Γ c) mc = true ∧
  PySem.W.specialIn K (.ref (Γ c)) "__getattribute__" = some (some (.builtin "type.__getattribute__")) ∧ PySem.W.findCls K (.ref (Γ c)) mc m = some (.val (.ref g)) ∧ PySem.W.keepIn K (.ref g) = true ∧ Binds K fd ps [] ∧ FnOk P w K mg base CX k g fd ps sp
theorem dCls {CX : CXT} {k : Nat} {sp : Sp} {E : XK} {pl : Sem Bool} (F : Mc X.prog X.w X.K X.mg X.base Γ CX k x m sp) (hr : Room k X.A) (hg : Gl X x) (hx : Passes CX X E) (ha : PA X (e :: es) tes) (hdb : (x == ("__debug__" : Str)) = false := by decide)
    (hst : starEach (e :: es) X.env = (false, eval e X.env) :: starEach es X.env := by rfl) (hpl : (backTo pos (starEach es X.env)).any (·.1) = false := by rfl)
    (ht : eval (.Call (.Attribute (.Name x p) m apos) (e :: es) [] pos) X.env = (do let ov ← eval (.Name x p) X.env; standAt apos.atName; let (f, first) ← holding [ov] (getMethod ov m pl); callWith pos f first (backTo pos (starEach (e :: es) X.env)) (backToKw pos (keywordEach [] X.env))) := by rfl) :
    PE X (.Call (.Attribute (.Name x p) m apos) (e :: es) [] pos) (eCall sp E tes) := by
  obtain ⟨g, fd, ps, mc, h1, h2, h3, h4, h5, h6, h7⟩ := F
  refine ⟨fun pins s σ H Q I h => PySem.W.methodCall_KW (pl := pl) (ld_glob I hg h1 ?_ hdb) ht⟩
  refine PySem.W.method_cls I.kIn h3 (PySem.W.cls_value I.kIn h2 h4 rfl ?_)
  exact PySem.W.callWith_K (first := []) (h₀ := X.base) I.ok.mod.kin h5 (thn (ha.run pos pins _ σ H _ (I.tok _) h) fun us s2 ⟨vs, H2, I2, r, q2⟩ => ⟨I2.kIn, run_fn (us := us) (vs := vs) (dvs := []) h7 hr h6 .nil hx I2 r (by rw [List.append_nil]; exact q2)⟩) hst hpl
end
/-- a wall: what stands in it is not looked through -/
structure Bx (p : Prop) : Prop where
  run : p
def gam (l : List (Str × Addr)) : Gm := fun c => (l.lookup c).getD 0
theorem fn_no {P : Program} {w : World} {K : PySem.W.Frag} {mg : Str → Option Value} {base : Heap} {CX : CXT} {k : Nat} {f : Addr} {fd : FuncData} {ps : List Str} : FnOk P w K mg base CX k f fd ps (fun _ _ _ _ => False) := ⟨fun _ _ _ _ h => h.elim, fun _ _ _ _ _ _ _ _ _ _ _ _ _ h => h.elim⟩
/-! isinstance(x, C), C and the class of x own ones -/
section
open PySem PySem.Spec L2 PyProof.Rows
def Kit1 (K : PySem.W.Frag) (Γ : Gm) (d : Str) (c : Str × Bool) : Prop := Cls K (Γ c.1) ∧ PySem.W.findIn K (.ref (Γ c.1)) "__class__" = some (some (.builtin "object.__class__")) ∧ PySem.W.specialIn K (.builtin "object.__class__") "__get__" = some (some (.builtin "getset_descriptor.__get__")) ∧
  PySem.W.takesIn K (.builtin "object.__class__") = some true ∧ PySem.W.mroIn K (Γ c.1) (.type "object") = some true ∧ PySem.W.kitOne K (.ref (Γ c.1)) (.ref (Γ d)) = some c.2
def Kits (K : PySem.W.Frag) (mg : Str → Option Value) (Γ : Gm) (d : Str) (tab : List (Str × Bool)) : Prop := mg d = some (.ref (Γ d)) ∧ ∀ c ∈ tab, Kit1 K Γ d c
theorem Kits.nil {K : PySem.W.Frag} {mg : Str → Option Value} {Γ : Gm} {d : Str} (h : mg d = some (.ref (Γ d))) : Kits K mg Γ d [] := ⟨h, fun _ h => nomatch h⟩
theorem Kits.cons {K : PySem.W.Frag} {mg : Str → Option Value} {Γ : Gm} {c d : Str} {b : Bool} {tab : List (Str × Bool)} (h1 : Cls K (Γ c)) (h2 : PySem.W.findIn K (.ref (Γ c)) "__class__" = some (some (.builtin "object.__class__")))
    (h3 : PySem.W.specialIn K (.builtin "object.__class__") "__get__" = some (some (.builtin "getset_descriptor.__get__"))) (h4 : PySem.W.takesIn K (.builtin "object.__class__") = some true) (h5 : PySem.W.mroIn K (Γ c) (.type "object") = some true)
    (h6 : PySem.W.kitOne K (.ref (Γ c)) (.ref (Γ d)) = some b) (h : Kits K mg Γ d tab) : Kits K mg Γ d ((c, b) :: tab) := ⟨h.1, fun x hx => by
  rcases List.mem_cons.mp hx with rfl | hx
  · exact ⟨h1, h2, h3, h4, h5, h6⟩
  · exact h.2 x hx⟩
def eIsC (Γ : Gm) (tab : List (Str × Bool)) (ta : TE) (σ : L2.St) (H : Hp) (Q : VK) : Prop := ta σ H fun x H1 => asRef x fun a => ∃ c ∈ tab, ∃ dx fs, H1 a = some (.ins (Γ c.1) dx fs) ∧ Q (.bl c.2) H1
variable {X : Cx} {a : Expr} {ta : TE} {p p2 pos : Pos} {Γ : Gm} {d : Str} {tab : List (Str × Bool)}
theorem dIsC (kt : Kits X.K X.mg Γ d tab) (hg : Gl X "isinstance") (hm : X.mg "isinstance" = none) (hv : bootBuiltins "isinstance" = some (.builtin "isinstance")) (ha : PE X a ta) (hgd : Gl X d := by rfl)
    (he : starEach [a, .Name d p2] X.env = (false, eval a X.env) :: starEach [.Name d p2] X.env := by rfl) (he2 : starEach [.Name d p2] X.env = (false, eval (.Name d p2) X.env) :: starEach [] X.env := by rfl) (hpl : (backTo pos (starEach [.Name d p2] X.env)).any (·.1) = false := by rfl) (hdb : (d == ("__debug__" : Str)) = false := by decide) :
    PE X (.Call (.Name "isinstance" p) [a, .Name d p2] [] pos) (eIsC Γ tab ta) := by
  refine pe_w (dBlt call_isi hg hm hv (kCons (pe_hat ha) (kCons (dGl (v := .ref (Γ d)) hgd kt.1 rfl hdb) kNil he2) he) (by decide) (by decide) he hpl) fun σ H Q h => ?_
  refine ⟨_, fun x H1 q => ?_, h⟩
  obtain ⟨a, rfl, c, hc, dx, fs, h1, q⟩ := asRef_of q
  obtain ⟨g1, g2, g3, g4, g5, g6⟩ := kt.2 c hc
  exact ⟨_, _, _, _, c.2, rfl, .own _, .base (.ins h1 g1 g2 g3 g4 g5), g6, q⟩
end
/-- the end: what k_head leaves, from the law's promise -/
theorem walkB {l : PySem.W.OpenLaw} {k : Nat} {q : Program} {loose : List Str} {XP : (Str → Option Value) → Heap → Prop} {YP : World → Heap → Prop} {d : DefRec} {K : Params → PySem.W.Frag} (CX : World → CXT) (sp : PySem.W.Frag → Sp) (x : Str)
    (hn : l.most = some 63) (hdf : d.params.defaults = []) (hr : Room k callerA) (hY : ∀ (w : World) (h : Heap), YP w h → (K w.params).In h)
    (F : ∀ (w : World) (mg : Str → Option Value) (fa : Addr) (h : Heap), (K w.params).In h → h.Ns mainGlobals mg → mg d.name = some (.ref fa) →
      ∃ fd : FuncData, (∀ (s : Shared) (u : Value), BindsTo s fd ⟨[u], []⟩ [(x, u)]) ∧ ∀ base : Heap, (K w.params).In base → base.Ns mainGlobals mg → FnOk l.prog w (K w.params) mg base (CX w) k fa fd [x] (sp (K w.params)))
    (hsp : ∀ (K : PySem.W.Frag) (H : Hp) (a : Addr) (ns : List Int), ns.length ≤ 63 → (∀ z ∈ ns, Builtin.Int.intBits z ≤ 1048576) → Only H → SqL K H a (ns.map V.int) → sp K [.ref a] H (fun v _ => v = .bl true) fun _ _ _ => False)
    (hCX : ∀ (w : World) (H : Hp) (s : Shared) (e : Value) (s' : Shared), CX w [] H s (fun _ _ _ => False) e s' → False) :
    PySem.W.WalkO q loose XP YP l.row.toRowW d [] (fun f vs => PySem.call f vs) :=
  L2.walk_ofB (K := K) (CX := CX) (sp := fun w => sp (K w.params)) hn (by decide) hdf hr hY F (fun w H a ns h1 h2 h3 h4 => hsp (K w.params) H a ns h1 h2 h3 h4) hCX
end Hf
set_option Elab.async false
set_option linter.all false
set_option maxRecDepth 100000
set_option maxHeartbeats 4000000
namespace RT
open PySem PySem.Spec PyProof.Rows
section
variable {prog : Program} {w : World} {A : Around} {s : Shared} {R : Result → Shared → Prop} {E : Value → Shared → Prop}
/-- a list takes what a walk backwards over another list hands -/
theorem ext_rev {it l S : Addr} {items : Array Value} {c₀ : Nat} (hh : A.handled = none) (hit : s.heap.IsRevIter it l ((items.size : Int) - 1)) (hl : s.heap.IsList l items) (hne : l ≠ it) (hn : items.size ≤ sizeLine) (hSi : S ≠ it) (hSl : S ≠ l)
    (hS : s.heap.get? S = some { cls := .type "list", data := .seq #[] c₀ })
    (hR : ∀ h' tk acc' c', (∀ b o, b ≠ it → b ≠ S → s.heap.get? b = some o → h'.get? b = some o) → h'.get? S = some { cls := .type "list", dict := none, data := .seq acc' c', slots := #[] } →
      ItemsOf (fun i v => items[items.size - 1 - i]? = some v) acc' items.size → R (.ok (.ret .none)) { s with heap := h', toks := tk }) :
    wpAny (model prog w) A.in1 (Builtin.List.listExtendWith (.ref S) (.ref it) .none)
      (fun fin s' => match fin with | .done f => R (.ok f) s' | .again c' => c'.quiet = true ∧ codeAny (model prog w) A c' R s') (fun e s' => R (.error e) s') s := by
  have W := (Walks.listRev (prog := prog) (w := w) (A := A.in1) hh it l hne items).toS
  have hSf : S ∉ [it, l] := by simp only [List.mem_cons, List.not_mem_nil, or_false, not_or]; exact ⟨hSi, hSl⟩
  have hT : s.TypeIs (.ref it) "list_reverseiterator" := hit.typeIs
  have h1 : Builtin.List.listSameRef (.ref S) (.ref it) = false := by simp [Builtin.List.listSameRef, hSi]
  unfold Builtin.List.listExtendWith
  refine wpAny_bind (wpAny_typeOf hT ?_)
  rw [if_neg (by rw [h1]; decide)]
  refine wpAny_bind (wpAny_pyIter_revIter hit ?_)
  refine wpAny_bind (wpAny_holding ?_)
  unfold Builtin.List.listLengthHint
  refine wpAny_bind (wpAny_specialOf hT nolen_lri ?_)
  show wpAny _ A.in1 (specialOf (Value.ref it) (Str.ofString "__length_hint__") >>= _) _ _ _
  refine wpAny_bind (wpAny_specialOf hT hint_lri ?_)
  generalize hid : ("list_reverseiterator.__length_hint__" : String) = id0
  wp_delta
  rw [show splitId id0 = some ("list_reverseiterator", "__length_hint__") from by subst hid; decide +kernel]
  subst hid
  refine wpAny_bind (wpAny_isInstance (b := true) hT (by rw [isSubtype_type]; kernel_rfl) ?_)
  refine wpAny_pure ?_
  have e0 : ((items.size : Nat) : Int) - 1 - ((0 : Nat) : Int) = (items.size : Int) - 1 := by omega
  have key : ∀ (h : Heap) (c₁ tk : Nat), h.IsRevIter it l ((items.size : Int) - 1) → h.IsList l items → (∀ b o, b ≠ S → s.heap.get? b = some o → h.get? b = some o) → h.get? S = some { cls := .type "list", data := .seq #[] c₁ } →
      codeAny (model prog w) A (.builtin "list.extend.loop" ⟨[.ref S, .ref it, .none], []⟩) R { s with heap := h, toks := tk } := by
    intro h c₁ tk k1 k2 k3 k4
    refine codeAny_extend_loopS W hn _ hSf _ items.size 0 _ #[] c₁ rfl (Nat.zero_le _) ⟨Nat.zero_le _, by rw [e0]; exact k1, k2⟩ k4 (ItemsOf.nil _) fun s' acc' c' hm hS' hacc => ?_
    rw [Moved.eq_with hm]
    refine hR s'.heap s'.toks acc' c' (fun b o hb hb2 e => hm.heap b o (fun hmem => ?_) (k3 b o hb2 e)) hS' hacc
    rcases List.mem_cons.mp hmem with e' | hmem
    · exact hb2 e'
    · exact hb (List.mem_singleton.mp hmem)
  refine wpAny_ite_split (fun _ => ?_) (fun _ => ?_)
  · refine wpAny_bind (wpAny_rule ?_)
    refine wpAny_bind ?_
    show wpAny _ _ (updateSeq S (·.push .none) >>= fun _ => updateSeq S (·.pop)) _ _ _
    refine wpAny_bind (wpAny_updateSeq hS rfl ?_)
    have hS₂ := Heap.get?_update_self (Obj.mapSeq (·.push Value.none)) hS rfl
    refine wpAny_updateSeq (hz := by seq_fits) hS₂ rfl ?_
    have hS₃ := Heap.get?_update_self (Obj.mapSeq (·.pop)) hS₂ rfl
    have oth : ∀ b o, b ≠ S → s.heap.get? b = some o → ((s.heap.update S (Obj.mapSeq (·.push Value.none))).update S (Obj.mapSeq (·.pop))).get? b = some o :=
      fun b o hb e => (Heap.get?_update_other _ _ (Ne.symm hb)).trans ((Heap.get?_update_other _ _ (Ne.symm hb)).trans e)
    exact wpAny_pure ⟨plainId_quiet F.plain_extend_loop _, key _ _ _ (hit.at fun o e => oth _ o hSi.symm e) (hl.at fun o e => oth _ o hSl.symm e) oth hS₃⟩
  · exact wpAny_pure ⟨plainId_quiet F.plain_extend_loop _, key _ _ _ hit hl (fun b o _ e => e) hS⟩
theorem call_list_rev {it l : Addr} {items : Array Value} {Q : Value → Shared → Prop} (hh : A.handled = none) (hit : s.heap.IsRevIter it l ((items.size : Int) - 1)) (hl : s.heap.IsList l items) (hne : l ≠ it) (hn : items.size ≤ sizeLine)
    (hQ : ∀ h' tk acc c', (∀ b o, b ≠ it → s.heap.get? b = some o → h'.get? b = some o) → h'.get? s.heap.objs.size = some { cls := .type "list", dict := none, data := .seq acc c', slots := #[] } →
      ItemsOf (fun i v => items[items.size - 1 - i]? = some v) acc items.size → Q (.ref s.heap.objs.size) { s with heap := h', toks := tk }) :
    wpAny (model prog w) A (call (.type "list") [.ref it]) Q E s := by
  obtain ⟨oi, hoi, _⟩ := id hit
  obtain ⟨ol, hol, _⟩ := id hl
  have hSi : s.heap.objs.size ≠ it := Nat.ne_of_gt (Heap.lt_size hoi)
  have hSl : s.heap.objs.size ≠ l := Nat.ne_of_gt (Heap.lt_size hol)
  refine callType_codes (Q₁ := fun obj s₁ => obj = .ref s.heap.objs.size ∧ s₁ = { s with heap := s.heap.push { cls := .type "list", data := .seq #[] } }) F.called_list (F.typeCall_list_1 _) F.entry_list_init
    (code_list_new _ ⟨rfl, rfl⟩) fun obj s₁ h₁ => ?_
  obtain ⟨rfl, rfl⟩ := h₁
  have hS : (s.heap.push { cls := .type "list", data := .seq #[] }).get? s.heap.objs.size = some { cls := .type "list", data := .seq #[] } := Heap.get?_push_size _ rfl
  refine ⟨⟨_, hS, rfl⟩, F.args_list_init_2 _ _, ?_⟩
  show wpAny _ A.in1.in1 (do let old ← Builtin.List.listItems (.ref s.heap.objs.size); Builtin.List.listUpdate (.ref s.heap.objs.size) (fun _ => #[]); letGo old.toList.reverse; Builtin.List.listExtendWith (.ref s.heap.objs.size) (.ref it) .none) _ _ _
  refine wpAny_bind ?_
  unfold Builtin.List.listItems
  refine wpAny_bind (wpAny_seqItems hS rfl (wpAny_pure ?_))
  show wpAny _ _ (updateSeq s.heap.objs.size (fun _ => #[]) >>= fun _ => letGo (#[] : Array Value).toList.reverse >>= fun _ => Builtin.List.listExtendWith (.ref s.heap.objs.size) (.ref it) .none) _ _ _
  refine wpAny_bind (wpAny_updateSeq hS rfl ?_)
  have hS₂ := Heap.get?_update_self (Obj.mapSeq (fun _ => (#[] : Array Value))) hS rfl
  have oth : ∀ b o, s.heap.get? b = some o → ((s.heap.push { cls := .type "list", data := .seq #[] }).update s.heap.objs.size (Obj.mapSeq (fun _ => (#[] : Array Value)))).get? b = some o :=
    fun b o e => (Heap.get?_update_other _ _ (Nat.ne_of_gt (Heap.lt_size e))).trans (Heap.get?_push_of_some _ e)
  refine wpAny_bind (wpAny_letGo ?_)
  refine ext_rev (A := A.in1) hh (hit.at fun o e => oth _ o e) (hl.at fun o e => oth _ o e) hne hn hSi hSl hS₂ fun h' tk acc' c' hk hS' hacc => ?_
  exact ⟨rfl, hQ h' tk acc' c' (fun b o hb e => hk b o hb (Nat.ne_of_lt (Heap.lt_size e)) (oth b o e)) hS' hacc⟩
end
end RT
namespace Hf
open PySem PySem.Spec L2 PyProof.Rows
/-- list(reversed(a list)) -/
def eLstRev (K : PySem.W.Frag) (te : TE) (σ : L2.St) (H : Hp) (Q : VK) : Prop := te σ H fun v H1 => asRef v fun a => ∃ xs, SqL K H1 a xs ∧ ∀ p, H1 p = none → Q (.ref p) (upd H1 p (.lst xs.reverse))
section
variable {X : Cx}
theorem dLstRev {e : Expr} {te : TE} {p p2 pos pos2 : Pos} (hc : X.calm = true) (hg : Gl X "list") (hm : X.mg "list" = none) (hg2 : Gl X "reversed") (hm2 : X.mg "reversed" = none) (he : PE X e te)
    (hs : starEach [e] X.env = (false, eval e X.env) :: starEach [] X.env := by rfl)
    (hs2 : starEach [.Call (.Name "reversed" p2) [e] [] pos2] X.env = (false, eval (.Call (.Name "reversed" p2) [e] [] pos2) X.env) :: starEach [] X.env := by rfl) :
    PE X (.Call (.Name "list" p) [.Call (.Name "reversed" p2) [e] [] pos2] [] pos) (eLstRev X.K te) := by
  refine ⟨fun pins s σ H Q I h => ?_⟩
  refine Call_ (ld_blt I hg hm boot_list (PyProof.Rows.callWith_type1 (args_cons (Call_ (ld_blt I hg2 hm2 PyProof.Rows.boot_reversed (PyProof.Rows.callWith_type1 (args_cons (thn (he.run pins s σ H _ I h) fun u s1 ⟨v, H1, I1, r1, q1⟩ => args_nil ?_) hs) hs rfl))) hs2) hs2 rfl))
  obtain ⟨a, rfl⟩ : ∃ a, v = .ref a := by cases v <;> first | exact q1.elim | exact ⟨_, rfl⟩
  obtain ⟨xs, hq, q⟩ := q1
  obtain rfl : u = Value.ref a := r1
  obtain ⟨its, rv, p', hz⟩ := I1.list hq
  refine call_reversed_list p'.isList (args_nil ?_)
  have k0 : ∀ b o, s1.heap.get? b = some o → (s1.heap.push (revObj a ((its.toArray.size : Int) - 1))).get? b = some o := fun b o e => Heap.get?_push_of_some _ e
  have hl := p'.isList
  obtain ⟨ol, hol, _⟩ := id hl
  have hne : a ≠ s1.heap.objs.size := Nat.ne_of_lt (Heap.lt_size hol)
  have hn : its.toArray.size ≤ sizeLine := by rw [List.size_toArray, ← rv.length]; exact hz
  have sz' : s1.heap.objs.size ≤ (s1.heap.push (revObj a ((its.toArray.size : Int) - 1))).objs.size := Nat.le_of_lt (Heap.lt_size (Heap.get?_push_size s1.heap (o := revObj a ((its.toArray.size : Int) - 1)) rfl))
  refine RT.call_list_rev (s := { s1 with heap := s1.heap.push (revObj a ((its.toArray.size : Int) - 1)) }) (I1.ok.hd hc) ⟨_, Heap.get?_push_size _ rfl, rfl, rfl⟩ (hl.push _) hne hn fun h' tk acc c' hk e' hi => ?_
  refine ⟨.ref (s1.heap.push (revObj a ((its.toArray.size : Int) - 1))).objs.size, _, I1.laid (fun b o e => hk b o (Nat.ne_of_lt (Heap.lt_size e)) (k0 b o e)) sz' (show ObjOk X.prog X.w _ _ _ (.lst xs.reverse) from ⟨by rw [List.length_reverse]; exact hz, acc.toList, c', RT.vals_rev rv hi, ?_⟩), rfl, q _ (I1.hok.fresh sz')⟩
  rw [Array.toArray_toList]
  exact e'
end
end Hf
set_option Elab.async false
set_option linter.all false
set_option maxRecDepth 100000
set_option maxHeartbeats 4000000
namespace Hf
open PySem PySem.Spec L2 PyProof.Rows
/-- a value, and all that stood stands -/
def Pv (H : Hp) (Q : VK) (v : V) : Prop := ∀ H', Same H H' → Q v H'
theorem Pv.here {H : Hp} {Q : VK} {v : V} (h : Pv H Q v) : Q v H := h H (Same.refl H)
theorem Pv.to {H H1 : Hp} {Q : VK} {v : V} (h : Pv H Q v) (e : Same H H1) : Pv H1 Q v := fun H' z => h H' (e.trans z)
theorem Same.new {H : Hp} {p : Addr} {o : HO} (h : H p = none) : Same H (upd H p o) := fun b x e => by
  rw [upd_ne (ne_of_none e h)]
  exact e
/-! texts by their codes -/
def S (l : List Nat) : Str := ⟨l.toArray⟩
theorem S_cps (l : List Nat) : (S l).cps.toList = l := rfl
theorem S_len (l : List Nat) : (S l).length = l.length := rfl
theorem S_app (a b : List Nat) : S a ++ S b = S (a ++ b) := by
  show (⟨a.toArray ++ b.toArray⟩ : Str) = _
  rw [List.append_toArray]
  rfl
theorem S_of (z : Str) : z = S z.cps.toList := rfl
theorem S_inj {a b : List Nat} (h : S a = S b) : a = b := congrArg (fun z => z.cps.toList) h
theorem S_eq {a b : List Nat} : (S a = S b) = (a = b) := propext ⟨S_inj, fun h => h ▸ rfl⟩
theorem sz : sizeLine = 16777216 := sizeLine_eq
theorem app_len (a b : Str) : (a ++ b).length = a.length + b.length := by
  show (a.cps ++ b.cps).size = _
  exact Array.size_append
/-! sizes of numbers -/
theorem bits_le {i : Int} : Builtin.Int.intBits i ≤ i.natAbs.log2 + 1 := by
  unfold Builtin.Int.intBits
  split <;> omega
theorem mulOk {i j : Int} {a b : Nat} (h1 : Builtin.Int.intBits i ≤ a) (h2 : Builtin.Int.intBits j ≤ b) (h : a + b ≤ 100000000 := by decide) : IntMulOk i j := by
  have e : bitsLine = 134217728 := by decide
  unfold IntMulOk
  intro z
  rw [Bool.and_eq_true] at z
  have z2 := z.2
  unfold Builtin.Int.intTooBig at z2
  have z3 := of_decide_eq_true z2
  rw [e] at z3
  omega
theorem bitsOf {i : Int} {a : Nat} (h : i.natAbs < 2 ^ a) : Builtin.Int.intBits i ≤ a + 1 := by
  refine Nat.le_trans bits_le ?_
  by_cases z : i.natAbs = 0
  · rw [z]
    have : Nat.log2 0 = 0 := by decide
    omega
  · have := (Nat.log2_lt z).mpr h
    omega

/-! the readings at values -/
section
variable {K : PySem.W.Frag} {H : Hp} {Q : VK} {i j : Int} {z w : Str} {a b : Addr} {k l : Bool} {x y : V} {C : Int → Int → Prop} {g : Int → Int → V} {neg : Bool} {lo hi : Option Int} {n : String}
theorem eb1 {f : Bool → Prop} : asBl (.bl k) f = f k := rfl
theorem eb2 {f : Int → Prop} : asInt (.int i) f = f i := rfl
theorem eb3 {f : Addr → Prop} : asRef (.ref a) f = f a := rfl
theorem eb4 {f : Bool → Hp → Prop} : tru (.bl k) H f = f k H := rfl
theorem eb5 {f : Bool → Hp → Prop} : tru (.int i) H f = f (i != 0) H := rfl
theorem eb6 {f : Str → Prop} : asTx (.str z) f = f z := rfl
theorem eb12 {f : Addr → Prop} : vRef' [.ref a] f = f a := rfl
theorem eb7 {f : Str → Prop} : vTx [.str z] f = f z := rfl
theorem eb8 {f : Prop} : vNo [] f = f := rfl
theorem eb9 {f : V → Prop} : vOne [x] f = f x := rfl
theorem eb10 {f : Int → Prop} : vInt [.int i] f = f i := rfl
theorem eb11 {f : Addr → Prop} : vRef [.ref a] f = f a := rfl
theorem eo1 : uAdd K (.int i) (.int j) H Q = Q (.int (i + j)) H := rfl
theorem eo2 : uAdd K (.str z) (.str w) H Q = (z.length + w.length ≤ sizeLine ∧ Q (.str (z ++ w)) H) := rfl
theorem eo3 : uAdd K (.ref a) (.ref b) H Q = catR K a b H Q := rfl
theorem eo4 : uMul (.int i) (.int j) H Q = (IntMulOk i j ∧ Q (.int (i * j)) H) := rfl
theorem eo5 : uMul (.str z) (.int j) H Q = (j ≤ 1000000 ∧ -1000000 ≤ j ∧ z.length ≤ 16 ∧ Q (.str (repS z j)) H) := rfl
theorem eo6 : uII C g (.int i) (.int j) H Q = (C i j ∧ Q (g i j) H) := rfl
theorem eo7 : uI2 g (.int i) (.int j) H Q = Q (g i j) H := rfl
theorem eo8 : uNeg (.int i) H Q = Q (.int (-i)) H := rfl
theorem ec1 : uEq K (.int i) (.int j) H Q = Q (.bl (decide (i = j))) H := rfl
theorem ec2 : uEq K (.str z) (.str w) H Q = Q (.bl (decide (z = w))) H := rfl
theorem ec3 : uEq K (.bl k) (.bl l) H Q = Q (.bl (decide (k = l))) H := rfl
theorem ec4 : uEq K (.ref a) y H Q = eqD K (.ref a) y H fun b => Q (.bl b) H := by cases y <;> rfl
theorem ec5 : uNe K (.int i) (.int j) H Q = Q (.bl (!decide (i = j))) H := rfl
theorem ec6 : uNe K (.str z) (.str w) H Q = Q (.bl (!decide (z = w))) H := rfl
theorem ec7 : uNe K (.bl k) (.bl l) H Q = Q (.bl (!decide (k = l))) H := rfl
theorem ec8 : uNe K (.ref a) y H Q = eqD K (.ref a) y H fun b => Q (.bl (!b)) H := by cases y <;> rfl
theorem ec9 : uIn K neg (.str w) (.str z) H Q = Q (.bl (if neg then !inTx w z else inTx w z)) H := rfl
theorem ec10 : uIn K neg x (.ref a) H Q = inSq K x a H fun b => Q (.bl (if neg then !b else b)) H := by cases x <;> rfl
theorem ec11 : uIs neg x .non H Q = Q (.bl (if neg then !decide (x = .non) else decide (x = .non))) H := rfl
theorem ex1 : uIx K (.ref a) (.int i) H Q = ixR K a i H Q := rfl
theorem ex2 : uIx K (.str z) (.int i) H Q = ixS z i H Q := rfl
theorem ex3 : uSl K (.ref a) lo hi H Q = cutR K a lo hi H Q := rfl
theorem ex4 : uSl K (.str z) lo hi H Q = (z.length ≤ sizeLine ∧ Q (.str (cutS z lo hi)) H) := rfl
theorem el1 : uLen K [.str z] H Q = (z.length ≤ sizeLine ∧ Q (.int z.length) H) := rfl
theorem el2 : uLen K [.ref a] H Q = lenR K a H fun n => Q (.int n) H := rfl
theorem el3 : uInt [.int i] H Q = Q (.int i) H := rfl
theorem el4 : uInt [.bl k] H Q = Q (.int (if k then 1 else 0)) H := rfl
theorem el5 : uInt [.str z] H Q = ∃ n, PySem.intText? z = some n ∧ z.length ≤ 640 ∧ Q (.int n) H := rfl
theorem el6 : uStr [.int i] H Q = (i.natAbs.log2 < 1920 ∧ Q (.str (toString i)) H) := rfl
theorem el7 : uStr [.str z] H Q = Q (.str z) H := rfl
theorem el8 : uMax [.int i, .int j] H Q = Q (.int (if j > i then j else i)) H := rfl
theorem el9 : uMin [.int i, .int j] H Q = Q (.int (if j < i then j else i)) H := rfl
theorem el10 : uList K [.ref a] H Q = ∃ xs, (SqL K H a xs ∨ SqT K H a xs) ∧ ∀ p, H p = none → Q (.ref p) (upd H p (.lst xs)) := rfl
theorem et1 : uIsi K [x, .ty n] H Q = tyN K x H fun m => ∃ b, kitB m n = some b ∧ Q (.bl b) H := rfl
theorem et2 {f : String → Prop} : tyN K .non H f = f "NoneType" := rfl
theorem et3 {f : String → Prop} : tyN K (.bl k) H f = f "bool" := rfl
theorem et4 {f : String → Prop} : tyN K (.int i) H f = f "int" := rfl
theorem et5 {f : String → Prop} : tyN K (.str z) H f = f "str" := rfl
theorem et6 {f : String → Prop} : tyN K (.ref a) H f = (((∃ xs, SqL K H a xs) ∧ f "list") ∨ ((∃ xs, SqT K H a xs) ∧ f "tuple") ∨ ((∃ kvs, H a = some (.dK kvs)) ∧ f "dict")) := rfl
end
theorem at_len {α : Type} {xs : List α} {i : Int} (h0 : 0 ≤ i) (h1 : i < xs.length) : ∃ v, atI xs i = some v := by
  obtain ⟨k, rfl⟩ := Int.eq_ofNat_of_zero_le h0
  have h2 : k < xs.length := by omega
  exact ⟨xs[k], atI_nat (List.getElem?_eq_getElem h2)⟩
theorem atI_mem {α : Type} {xs : List α} {i : Int} {v : α} (h : atI xs i = some v) : v ∈ xs := by
  unfold atI at h
  cases e : ixN xs.length i with
  | none => rw [e] at h; cases h
  | some j => rw [e] at h; exact List.mem_of_getElem? h
theorem cutS_le (z : Str) (lo hi : Option Int) : (cutS z lo hi).length ≤ z.length := cutS_length z lo hi
theorem repS_len {z : Str} {k : Int} : (repS z k).length = k.toNat * z.length := by
  show ((List.replicate k.toNat z.cps.toList).flatten.toArray).size = _
  simp [Str.length]
/-- the law's cells mixed -/
theorem bits_nn {z : Int} {n : Nat} (h0 : 0 ≤ z) (h : z < n) (hn : n ≤ 2 ^ 64) : Builtin.Int.intBits z ≤ 65 := bitsOf (a := 64) (by omega)
/-! what stands: F, the part of the heap that is not written any more -/
theorem Same.up {F H : Hp} {a : Addr} {o : HO} (s : Same F H) (n : F a = none) : Same F (upd H a o) := fun b x e => by
  rw [upd_ne (ne_of_none e n)]
  exact s _ _ e
theorem Same.both {F H : Hp} {a : Addr} {o : HO} (s : Same F H) : Same (upd F a o) (upd H a o) := fun b x e => by
  by_cases h : b = a
  · subst h
    rw [upd_same] at e ⊢
    exact e
  · rw [upd_ne h] at e ⊢
    exact s _ _ e
theorem Same.sqT {K : PySem.W.Frag} {H H' : Hp} {a : Addr} {xs : List V} (e : Same H H') (h : SqT K H a xs) : SqT K H' a xs := by
  rcases h with (h | ⟨o, h⟩) | h
  · exact .inl (.inl (e _ _ h))
  · exact .inl (.inr ⟨o, e _ _ h⟩)
  · exact .inr h
mutual
theorem Dp.same {K : PySem.W.Frag} {H H' : Hp} (e : Same H H') : ∀ {d : PyData} {v : V}, Dp K H v d → Dp K H' v d
  | .none, _, h => by cases h; exact .non
  | .bool b, _, h => by cases h; exact .bl b
  | .int i, _, h => by cases h; exact .int i
  | .str x, _, h => by cases h; exact .str x
  | .list ds, _, h => by cases h with | lst hs ha => exact .lst (e.seq hs) (DpAll.same e ha)
  | .tuple ds, _, h => by cases h with | tup hs ha => exact .tup (Same.sqT e hs) (DpAll.same e ha)
  | .dict _, _, h => by cases h
theorem DpAll.same {K : PySem.W.Frag} {H H' : Hp} (e : Same H H') : ∀ {ds : List PyData} {vs : List V}, DpAll K H vs ds → DpAll K H' vs ds
  | [], _, h => by cases h; exact .nil
  | d :: ds, _, h => by cases h with | cons h1 h2 => exact .cons (Dp.same e h1) (DpAll.same e h2)
end
theorem DpAll.len {K : PySem.W.Frag} {H : Hp} : ∀ {ds : List PyData} {vs : List V}, DpAll K H vs ds → vs.length = ds.length
  | [], _, h => by cases h; rfl
  | d :: ds, _, h => by cases h with | cons h1 h2 => simp [DpAll.len h2]
theorem DpAll.at {K : PySem.W.Frag} {H : Hp} : ∀ {ds : List PyData} {vs : List V} {i : Nat} {v : V}, DpAll K H vs ds → vs[i]? = some v → ∃ d, ds[i]? = some d ∧ Dp K H v d
  | [], _, _, _, h, e => by cases h; simp at e
  | d :: ds, _, 0, v, h, e => by cases h with | cons h1 h2 => simp at e; subst e; exact ⟨d, rfl, h1⟩
  | d :: ds, _, i + 1, v, h, e => by cases h with | cons h1 h2 => exact DpAll.at (i := i) h2 (by simpa using e)
theorem DpAll.at' {K : PySem.W.Frag} {H : Hp} {ds : List PyData} {vs : List V} {i : Nat} {d : PyData} (h : DpAll K H vs ds) (e : ds[i]? = some d) : ∃ v, vs[i]? = some v ∧ Dp K H v d := by
  have hi := (List.getElem?_eq_some_iff.mp e).1
  rw [← DpAll.len h] at hi
  obtain ⟨d', e', h'⟩ := DpAll.at h (List.getElem?_eq_getElem hi)
  rw [e] at e'
  cases e'
  exact ⟨_, List.getElem?_eq_getElem hi, h'⟩
theorem DpAll.app {K : PySem.W.Frag} {H : Hp} : ∀ {ds es : List PyData} {vs ws : List V}, DpAll K H vs ds → DpAll K H ws es → DpAll K H (vs ++ ws) (ds ++ es)
  | [], _, _, _, h, g => by cases h; exact g
  | d :: ds, _, _, _, h, g => by cases h with | cons h1 h2 => exact .cons h1 (DpAll.app h2 g)
theorem DpAll.ints {K : PySem.W.Frag} {H : Hp} : ∀ {ns : List Int}, DpAll K H (ns.map V.int) (ns.map PyData.int)
  | [] => .nil
  | n :: ns => .cons (.int n) DpAll.ints
theorem DpAll.strs {K : PySem.W.Frag} {H : Hp} : ∀ {ns : List Str}, DpAll K H (ns.map V.str) (ns.map PyData.str)
  | [] => .nil
  | n :: ns => .cons (.str n) DpAll.strs
/-- behind a call: F' the frozen part then -/
structure Grow (F H F' H' : Hp) : Prop where
  ff : Same F F'
  fh : Same F' H'
  hh : Same H H'
  apart : ∀ b, F b = none → H b ≠ none → F' b = none
theorem Grow.rfl' {F H : Hp} (h : Same F H) : Grow F H F H := ⟨Same.refl _, h, Same.refl _, fun _ h _ => h⟩
theorem Grow.trans {F H F1 H1 F2 H2 : Hp} (a : Grow F H F1 H1) (b : Grow F1 H1 F2 H2) : Grow F H F2 H2 := ⟨a.ff.trans b.ff, b.fh, a.hh.trans b.hh, fun x h1 h2 => b.apart x (a.apart x h1 h2) fun z => by
  cases e : H x with
  | none => exact h2 e
  | some o => rw [a.hh _ _ e] at z; cases z⟩
/-- something new that is not written any more -/
theorem Grow.new {F H : Hp} {p : Addr} {o : HO} (s : Same F H) (h : H p = none) : Grow F H (upd F p o) (upd H p o) := ⟨Same.new (Same.free s h), Same.both s, Same.new h, fun b h1 h2 => by
  rw [upd_ne (fun z => h2 (by rw [z]; exact h))]
  exact h1⟩
/-- something new that is thrown away -/
theorem Grow.drop {F H : Hp} {p : Addr} {o : HO} (s : Same F H) (h : H p = none) : Grow F H F (upd H p o) := ⟨Same.refl _, Same.up s (Same.free s h), Same.new h, fun _ h _ => h⟩
/-- a cell of one's own -/
structure Cell (F H : Hp) (a : Addr) (o : HO) : Prop where
  f : F a = none
  h : H a = some o
theorem Cell.grow {F H F' H' : Hp} {a : Addr} {o : HO} (c : Cell F H a o) (g : Grow F H F' H') : Cell F' H' a o := ⟨g.apart a c.f (by rw [c.h]; simp), g.hh _ _ c.h⟩
theorem Cell.set {F H : Hp} {a : Addr} {o u : HO} (c : Cell F H a o) : Cell F (upd H a u) a u := ⟨c.f, upd_same⟩
theorem Cell.other {F H : Hp} {a b : Addr} {o u : HO} (c : Cell F H a o) (h : a ≠ b) : Cell F (upd H b u) a o := ⟨c.f, by rw [upd_ne h]; exact c.h⟩
theorem Cell.new {F H : Hp} {p : Addr} {o : HO} (s : Same F H) (h : H p = none) : Cell F (upd H p o) p o := ⟨Same.free s h, upd_same⟩
/-- .. is given away: from now on it stands -/
theorem Cell.close {F H : Hp} {a : Addr} {o : HO} (s : Same F H) (c : Cell F H a o) : Same F (upd F a o) ∧ Same (upd F a o) H := ⟨Same.new c.f, fun b x e => by
  by_cases h : b = a
  · subst h
    rw [upd_same] at e
    cases e
    exact c.h
  · rw [upd_ne h] at e
    exact s _ _ e⟩
theorem SqL.f {K : PySem.W.Frag} {F H : Hp} {a : Addr} {xs : List V} (s : Same F H) (h : SqL K F a xs) : SqL K H a xs := s.seq h
/-! depth of data -/
inductive Sh : Nat → PyData → Prop
  | none {n : Nat} : Sh n .none
  | bool {n : Nat} {b : Bool} : Sh n (.bool b)
  | int {n : Nat} {i : Int} : Sh n (.int i)
  | str {n : Nat} {x : Str} : Sh n (.str x)
  | list {n : Nat} {ds : List PyData} (h : ds.length ≤ 16777216) (hs : ∀ d ∈ ds, Sh n d) : Sh (n + 1) (.list ds)
  | tuple {n : Nat} {ds : List PyData} (h : ds.length ≤ 16777216) (hs : ∀ d ∈ ds, Sh n d) : Sh (n + 1) (.tuple ds)
theorem atNat {α : Type} {xs : List α} {i : Nat} {v : α} (h : xs[i]? = some v) : atI xs (i : Int) = some v := atI_nat h
/-- the turns of a range -/
theorem range_mem {lo hi : Int} {x : V} (h : x ∈ rangeV lo hi) : ∃ k : Int, x = .int k ∧ lo ≤ k ∧ k < hi := by
  unfold rangeV at h
  obtain ⟨i, hi, rfl⟩ := List.mem_map.mp h
  have := List.mem_range.mp hi
  exact ⟨_, rfl, by omega, by omega⟩
theorem kit_of {a b : String} {r : Bool} {p : Bool → Prop} (h : kitB a b = some r) : (∃ x, kitB a b = some x ∧ p x) = p r := propext ⟨fun ⟨x, e, q⟩ => by rw [h] at e; cases e; exact q, fun q => ⟨r, h, q⟩⟩
theorem kt1 {p : Bool → Prop} : (∃ x, kitB "NoneType" "bool" = some x ∧ p x) = p false := kit_of (by decide +kernel)
theorem kt2 {p : Bool → Prop} : (∃ x, kitB "NoneType" "int" = some x ∧ p x) = p false := kit_of (by decide +kernel)
theorem kt3 {p : Bool → Prop} : (∃ x, kitB "NoneType" "str" = some x ∧ p x) = p false := kit_of (by decide +kernel)
theorem kt4 {p : Bool → Prop} : (∃ x, kitB "NoneType" "list" = some x ∧ p x) = p false := kit_of (by decide +kernel)
theorem kt5 {p : Bool → Prop} : (∃ x, kitB "NoneType" "tuple" = some x ∧ p x) = p false := kit_of (by decide +kernel)
theorem kt6 {p : Bool → Prop} : (∃ x, kitB "NoneType" "dict" = some x ∧ p x) = p false := kit_of (by decide +kernel)
theorem kt7 {p : Bool → Prop} : (∃ x, kitB "bool" "bool" = some x ∧ p x) = p true := kit_of (by decide +kernel)
theorem kt8 {p : Bool → Prop} : (∃ x, kitB "bool" "int" = some x ∧ p x) = p true := kit_of (by decide +kernel)
theorem kt9 {p : Bool → Prop} : (∃ x, kitB "bool" "str" = some x ∧ p x) = p false := kit_of (by decide +kernel)
theorem kt10 {p : Bool → Prop} : (∃ x, kitB "bool" "list" = some x ∧ p x) = p false := kit_of (by decide +kernel)
theorem kt11 {p : Bool → Prop} : (∃ x, kitB "bool" "tuple" = some x ∧ p x) = p false := kit_of (by decide +kernel)
theorem kt12 {p : Bool → Prop} : (∃ x, kitB "bool" "dict" = some x ∧ p x) = p false := kit_of (by decide +kernel)
theorem kt13 {p : Bool → Prop} : (∃ x, kitB "int" "bool" = some x ∧ p x) = p false := kit_of (by decide +kernel)
theorem kt14 {p : Bool → Prop} : (∃ x, kitB "int" "int" = some x ∧ p x) = p true := kit_of (by decide +kernel)
theorem kt15 {p : Bool → Prop} : (∃ x, kitB "int" "str" = some x ∧ p x) = p false := kit_of (by decide +kernel)
theorem kt16 {p : Bool → Prop} : (∃ x, kitB "int" "list" = some x ∧ p x) = p false := kit_of (by decide +kernel)
theorem kt17 {p : Bool → Prop} : (∃ x, kitB "int" "tuple" = some x ∧ p x) = p false := kit_of (by decide +kernel)
theorem kt18 {p : Bool → Prop} : (∃ x, kitB "int" "dict" = some x ∧ p x) = p false := kit_of (by decide +kernel)
theorem kt19 {p : Bool → Prop} : (∃ x, kitB "str" "bool" = some x ∧ p x) = p false := kit_of (by decide +kernel)
theorem kt20 {p : Bool → Prop} : (∃ x, kitB "str" "int" = some x ∧ p x) = p false := kit_of (by decide +kernel)
theorem kt21 {p : Bool → Prop} : (∃ x, kitB "str" "str" = some x ∧ p x) = p true := kit_of (by decide +kernel)
theorem kt22 {p : Bool → Prop} : (∃ x, kitB "str" "list" = some x ∧ p x) = p false := kit_of (by decide +kernel)
theorem kt23 {p : Bool → Prop} : (∃ x, kitB "str" "tuple" = some x ∧ p x) = p false := kit_of (by decide +kernel)
theorem kt24 {p : Bool → Prop} : (∃ x, kitB "str" "dict" = some x ∧ p x) = p false := kit_of (by decide +kernel)
theorem kt25 {p : Bool → Prop} : (∃ x, kitB "list" "bool" = some x ∧ p x) = p false := kit_of (by decide +kernel)
theorem kt26 {p : Bool → Prop} : (∃ x, kitB "list" "int" = some x ∧ p x) = p false := kit_of (by decide +kernel)
theorem kt27 {p : Bool → Prop} : (∃ x, kitB "list" "str" = some x ∧ p x) = p false := kit_of (by decide +kernel)
theorem kt28 {p : Bool → Prop} : (∃ x, kitB "list" "list" = some x ∧ p x) = p true := kit_of (by decide +kernel)
theorem kt29 {p : Bool → Prop} : (∃ x, kitB "list" "tuple" = some x ∧ p x) = p false := kit_of (by decide +kernel)
theorem kt30 {p : Bool → Prop} : (∃ x, kitB "list" "dict" = some x ∧ p x) = p false := kit_of (by decide +kernel)
theorem kt31 {p : Bool → Prop} : (∃ x, kitB "tuple" "bool" = some x ∧ p x) = p false := kit_of (by decide +kernel)
theorem kt32 {p : Bool → Prop} : (∃ x, kitB "tuple" "int" = some x ∧ p x) = p false := kit_of (by decide +kernel)
theorem kt33 {p : Bool → Prop} : (∃ x, kitB "tuple" "str" = some x ∧ p x) = p false := kit_of (by decide +kernel)
theorem kt34 {p : Bool → Prop} : (∃ x, kitB "tuple" "list" = some x ∧ p x) = p false := kit_of (by decide +kernel)
theorem kt35 {p : Bool → Prop} : (∃ x, kitB "tuple" "tuple" = some x ∧ p x) = p true := kit_of (by decide +kernel)
theorem kt36 {p : Bool → Prop} : (∃ x, kitB "tuple" "dict" = some x ∧ p x) = p false := kit_of (by decide +kernel)
theorem kt37 {p : Bool → Prop} : (∃ x, kitB "dict" "bool" = some x ∧ p x) = p false := kit_of (by decide +kernel)
theorem kt38 {p : Bool → Prop} : (∃ x, kitB "dict" "int" = some x ∧ p x) = p false := kit_of (by decide +kernel)
theorem kt39 {p : Bool → Prop} : (∃ x, kitB "dict" "str" = some x ∧ p x) = p false := kit_of (by decide +kernel)
theorem kt40 {p : Bool → Prop} : (∃ x, kitB "dict" "list" = some x ∧ p x) = p false := kit_of (by decide +kernel)
theorem kt41 {p : Bool → Prop} : (∃ x, kitB "dict" "tuple" = some x ∧ p x) = p false := kit_of (by decide +kernel)
theorem kt42 {p : Bool → Prop} : (∃ x, kitB "dict" "dict" = some x ∧ p x) = p true := kit_of (by decide +kernel)
end Hf
set_option Elab.async false
set_option linter.all false
set_option maxRecDepth 100000
set_option maxHeartbeats 4000000
namespace Hf
open PySem PySem.Spec L2 PyProof.Rows
local macro_rules | `(tactic| walk_at "ex") => `(tactic| try simp only [sSeq, sSet, sExp, sRet, sRetN, sNil, sBrk, sCnt, eBin, eUn, eVar, eLit, eAnd, eOr, eNot, eChain, eIf, eTup, eLst, eSl, eCall, eBlt, aNil, aCons, oNone, oPart,
  tTst, tAnd, tOr, tNot, gNm, gPr, sFor, sForP, cSq, cTx, cR1, cR2, cRv, cEn, cZp, eLc, eLcP, tYes, eb6, eb7, eb12, sAsg, gTr, sSub, sNever, sAug, uTuple, eIsC, eFld, sFld, sFldAug, eMth, eNew, eb8, eb9, eb10, eb11, eMs, eMl, uFind, uStarts, uSplit, uRstrip, uIsdigit, uAppend, uPop, uPop0, uExtend, eb1, eb2, eb3, eb4, eb5, eo1, eo2, eo3, eo4, eo5, eo6, eo7, eo8, ec1, ec2, ec3, ec4, ec5, ec6, ec7, ec8, ec9, ec10, ec11, ex1, ex2, ex3, ex4, el1, el2, el3, el4, el5, el6, el7, el8, el9, el10, kt1, kt2, kt3, kt4, kt5, kt6, kt7, kt8, kt9, kt10, kt11, kt12, kt13, kt14, kt15, kt16, kt17, kt18, kt19, kt20, kt21, kt22, kt23, kt24, kt25, kt26, kt27, kt28, kt29, kt30, kt31, kt32, kt33, kt34, kt35, kt36, kt37, kt38, kt39, kt40, kt41, kt42, et1, et2, et3, et4, et5, et6,
  List.getElem?_cons_zero, List.getElem?_cons_succ, List.set, decide_eq_true_eq, Bool.not_eq_true', decide_eq_false_iff_not, Bool.not_not, ↓reduceIte, Bool.false_eq_true, Bool.not_true, Bool.not_false, Bool.true_eq_false, reduceCtorEq])
local macro_rules | `(tactic| walk_at "side") => `(tactic| first | decide | omega | exact ⟨by decide, by decide⟩ | decide +kernel | (simp only [List.length_cons, List.length_nil, List.length_map, List.length_append]; first | decide | omega))
local macro_rules | `(tactic| walk_at "sd") => `(tactic| repeat (refine And.intro (by walk_at "side") ?_))
local macro_rules | `(tactic| walk_at "if") => `(tactic| (refine if_split ?_; walk_at "ex"))
def topS (i : Nat) : Stmt := PySem.Challenge.pw_handflow_k41_wants.main.body.getD i (.Pass ⟨0, 0, 0, 0⟩)
section
variable {P : Program} {w : World} {K : PySem.W.Frag} {mg : Str → Option Value} {base : Heap} {Γ : Gm}
abbrev s_L_mixed : Stmt := topS 10
theorem sc_L_mixed : FnScope ["_law_cell", "_law_k", "_law_m"] ["_law_cell", "_law_k"] (defScope s_L_mixed) := ⟨rfl, rfl, rfl, by decide +kernel, rfl, by decide +kernel, by decide +kernel⟩
def b_L_mixed (K : PySem.W.Frag) (Γ : Gm) : TS :=
  (sSeq (sSet 2 (eBin (rMod) (eBin (uAdd K) (eBin (uMul) (eBin (rMod) (eVar 0) (eLit (.int 2147483647))) (eLit (.int 48271))) (eBin (uMul) (eBin (uAdd K) (eBin (uAdd K) (eBin (uMul) (eVar 1) (eVar 1)) (eBin (uMul) (eLit (.int 3)) (eVar 1))) (eLit (.int 7))) (eLit (.int 69621)))) (eLit (.int 2147483647))))
  (sRet (eBin (rMod) (eBin (uMul) (eVar 2) (eVar 2)) (eLit (.int 2147483647)))))
structure sp_L_mixed (K : PySem.W.Frag) (Γ : Gm) (vs : List V) (H : Hp) (Q : VK) (E : XK) : Prop where
  run : match vs with
  | [a0, a1] => b_L_mixed K Γ { nx := fun _ H' => Q .non H', rt := Q } [some a0, some a1, none] H
  | _ => False
theorem okf_L_mixed {f : Addr} {fd : FuncData} (F : L2.Fun K "_law_mixed" "_law_mixed" s_L_mixed f fd)  : FnOk P w K mg base CX0 (0 + 1) f fd ["_law_cell", "_law_k"] (sp_L_mixed K Γ) := by
  have nd := sc_L_mixed.nd
  refine F.ok (k := 0) sc_L_mixed (fun vs H Q E h => ?_) (fun cdv A outer s H vs Q E hr h => ⟨b_L_mixed K Γ, ?_, ?_⟩)
  · have h := h.run; split at h; exact rfl; exact h.elim
  · have hu64 := hr.units
    have hu1 := hu_of hr
    exact (zCons (zSet (i := 2) nd rfl (by first | exact .inl rfl | exact .inr rfl) (dBin oMod (dBin oAdd (dBin oMul (dBin oMod (dVar 0) dInt) dInt) (dBin oMul (dBin oAdd (dBin oAdd (dBin oMul (dVar 1) (dVar 1)) (dBin oMul dInt (dVar 1))) dInt) dInt)) dInt))
  (zOne (zRet (dBin oMod (dBin oMul (dVar 2) (dVar 2)) dInt))))
  · have h := h.run; split at h; exact h; exact h.elim
theorem bd_L_mixed {f : Addr} {fd : FuncData} (F : L2.Fun K "_law_mixed" "_law_mixed" s_L_mixed f fd) : Binds K fd ["_law_cell", "_law_k"] [] := F.binds (fun _ _ _ _ _ _ us hl => match us, hl with | [_, _], _ => rfl)
abbrev s_L_lines : Stmt := topS 12
theorem sc_L_lines : FnScope ["_law_m", "_law_many", "_law_span", "_law_start", "_law_step", "_law_row_here", "_law_k"] ["_law_m", "_law_many", "_law_span"] (defScope s_L_lines) := ⟨rfl, rfl, rfl, by decide +kernel, rfl, by decide +kernel, by decide +kernel⟩
def b_L_lines (K : PySem.W.Frag) (Γ : Gm) : TS :=
  (sSeq (sSet 3 (eBin (rMod) (eBin (rDiv) (eVar 0) (eLit (.int 5))) (eVar 2)))
  (sSeq (sSet 4 (eBin (uAdd K) (eLit (.int 1)) (eBin (rMod) (eVar 0) (eBin (uAdd K) (eBin (rDiv) (eVar 2) (eLit (.int 200))) (eLit (.int 2))))))
  (sSeq (sSet 5 (eLc (cR1 (eVar 1)) (gNm 6) tYes (eBin (uAdd K) (eVar 3) (eBin (uMul) (eVar 4) (eVar 6))) [6]))
  (sSeq (sIf (tTst (eBin (uEq K) (eBin (rMod) (eBin (rDiv) (eVar 0) (eLit (.int 9001))) (eLit (.int 2))) (eLit (.int 0)))) (sSet 5 (eLstRev K (eVar 5))) sNil)
  (sRet (eVar 5))))))
structure sp_L_lines (K : PySem.W.Frag) (Γ : Gm) (vs : List V) (H : Hp) (Q : VK) (E : XK) : Prop where
  run : match vs with
  | [a0, a1, a2] => b_L_lines K Γ { nx := fun _ H' => Q .non H', rt := Q } [some a0, some a1, some a2, none, none, none, none] H
  | _ => False
theorem okf_L_lines {f : Addr} {fd : FuncData} (F : L2.Fun K "_law_lines" "_law_lines" s_L_lines f fd) (m_list : mg "list" = none) (m_range : mg "range" = none) (m_reversed : mg "reversed" = none) : FnOk P w K mg base CX0 (0 + 1) f fd ["_law_m", "_law_many", "_law_span"] (sp_L_lines K Γ) := by
  have nd := sc_L_lines.nd
  refine F.ok (k := 0) sc_L_lines (fun vs H Q E h => ?_) (fun cdv A outer s H vs Q E hr h => ⟨b_L_lines K Γ, ?_, ?_⟩)
  · have h := h.run; split at h; exact rfl; exact h.elim
  · have hu64 := hr.units
    have hu1 := hu_of hr
    exact (zCons (zSet (i := 3) nd rfl (by first | exact .inl rfl | exact .inr rfl) (dBin oMod (dBin oDiv (dVar 0) dInt) (dVar 2)))
  (zCons (zSet (i := 4) nd rfl (by first | exact .inl rfl | exact .inr rfl) (dBin oAdd dInt (dBin oMod (dVar 0) (dBin oAdd (dBin oDiv (dVar 2) dInt) dInt))))
  (zCons (zSetLc (i := 5) (own := [("_law_k", 6)]) rfl nd rfl rfl (sw_true rfl rfl rfl (by decide +kernel)) (kR1 rfl m_range (dVar 1)) (blkOk_by (by first | (show blkC ["_law_m", "_law_many", "_law_span", "_law_start", "_law_step", "_law_row_here", "_law_k"] (defScope s_L_lines) _ _ = true; decide +kernel) | rfl)) (fun _ _ _ _ _ => (tgNm (i := 6) nd rfl (by first | exact .inl rfl | exact .inr rfl))) (fun _ _ _ _ _ => iNo) (fun _ _ _ _ _ => (dBin oAdd (dVar 3) (dBin oMul (dVar 4) (dVar 6)))))
  (zCons (zIf (qCmp (oEq hu64) (dBin oMod (dBin oDiv (dVar 0) dInt) dInt) dInt) (zOne (zSet (i := 5) nd rfl (by first | exact .inl rfl | exact .inr rfl) (dLstRev rfl rfl m_list rfl m_reversed (dVar 5)))) zNil)
  (zOne (zRet (dVar 5)))))))
  · have h := h.run; split at h; exact h; exact h.elim
theorem bd_L_lines {f : Addr} {fd : FuncData} (F : L2.Fun K "_law_lines" "_law_lines" s_L_lines f fd) : Binds K fd ["_law_m", "_law_many", "_law_span"] [] := F.binds (fun _ _ _ _ _ _ us hl => match us, hl with | [_, _, _], _ => rfl)
abbrev s_L_number : Stmt := topS 11
theorem sc_L_number : FnScope ["_law_cell", "_law_way", "_law_c"] ["_law_cell", "_law_way"] (defScope s_L_number) := ⟨rfl, rfl, rfl, by decide +kernel, rfl, by decide +kernel, by decide +kernel⟩
def b_L_number (K : PySem.W.Frag) (Γ : Gm) : TS :=
  (sSeq (sSet 2 (eBin (rMod) (eVar 0) (eBin (rPow) (eLit (.int 10)) (eLit (.int 60)))))
  (sSeq (sIf (tTst (eBin (uEq K) (eBin (rMod) (eVar 1) (eLit (.int 5))) (eLit (.int 0)))) (sRet (eBin (rMod) (eVar 2) (eLit (.int 3)))) sNil)
  (sSeq (sIf (tTst (eBin (uEq K) (eBin (rMod) (eVar 1) (eLit (.int 5))) (eLit (.int 1)))) (sRet (eBin (rSub) (eBin (rSub) (eBin (rPow) (eLit (.int 10)) (eLit (.int 30))) (eLit (.int 1))) (eBin (rMod) (eVar 2) (eLit (.int 3))))) sNil)
  (sSeq (sIf (tTst (eBin (uEq K) (eBin (rMod) (eVar 1) (eLit (.int 5))) (eLit (.int 2)))) (sRet (eBin (rMod) (eVar 2) (eBin (rPow) (eLit (.int 10)) (eLit (.int 30))))) sNil)
  (sRet (eBin (rMod) (eBin (uMul) (eBin (uMul) (eBin (uAdd K) (eVar 2) (eLit (.int 1))) (eBin (uAdd K) (eBin (uMul) (eVar 1) (eVar 1)) (eLit (.int 11)))) (eLit (.int 618970019642690137449562111))) (eBin (rPow) (eLit (.int 10)) (eLit (.int 30)))))))))
structure sp_L_number (K : PySem.W.Frag) (Γ : Gm) (vs : List V) (H : Hp) (Q : VK) (E : XK) : Prop where
  run : match vs with
  | [a0, a1] => b_L_number K Γ { nx := fun _ H' => Q .non H', rt := Q } [some a0, some a1, none] H
  | _ => False
theorem okf_L_number {f : Addr} {fd : FuncData} (F : L2.Fun K "_law_number" "_law_number" s_L_number f fd)  : FnOk P w K mg base CX0 (0 + 1) f fd ["_law_cell", "_law_way"] (sp_L_number K Γ) := by
  have nd := sc_L_number.nd
  refine F.ok (k := 0) sc_L_number (fun vs H Q E h => ?_) (fun cdv A outer s H vs Q E hr h => ⟨b_L_number K Γ, ?_, ?_⟩)
  · have h := h.run; split at h; exact rfl; exact h.elim
  · have hu64 := hr.units
    have hu1 := hu_of hr
    exact (zCons (zSet (i := 2) nd rfl (by first | exact .inl rfl | exact .inr rfl) (dBin oMod (dVar 0) (dBin oPow dInt dInt)))
  (zCons (zIf (qCmp (oEq hu64) (dBin oMod (dVar 1) dInt) dInt) (zOne (zRet (dBin oMod (dVar 2) dInt))) zNil)
  (zCons (zIf (qCmp (oEq hu64) (dBin oMod (dVar 1) dInt) dInt) (zOne (zRet (dBin oSub (dBin oSub (dBin oPow dInt dInt) dInt) (dBin oMod (dVar 2) dInt)))) zNil)
  (zCons (zIf (qCmp (oEq hu64) (dBin oMod (dVar 1) dInt) dInt) (zOne (zRet (dBin oMod (dVar 2) (dBin oPow dInt dInt)))) zNil)
  (zOne (zRet (dBin oMod (dBin oMul (dBin oMul (dBin oAdd (dVar 2) dInt) (dBin oAdd (dBin oMul (dVar 1) (dVar 1)) dInt)) dInt) (dBin oPow dInt dInt))))))))
  · have h := h.run; split at h; exact h; exact h.elim
theorem bd_L_number {f : Addr} {fd : FuncData} (F : L2.Fun K "_law_number" "_law_number" s_L_number f fd) : Binds K fd ["_law_cell", "_law_way"] [] := F.binds (fun _ _ _ _ _ _ us hl => match us, hl with | [_, _], _ => rfl)
abbrev s_L_side : Stmt := topS 13
theorem sc_L_side : FnScope ["_law_way", "_law_width", "_law_cell"] ["_law_way", "_law_width", "_law_cell"] (defScope s_L_side) := ⟨rfl, rfl, rfl, by decide +kernel, rfl, by decide +kernel, by decide +kernel⟩
def b_L_side (K : PySem.W.Frag) (Γ : Gm) : TS :=
  (sSeq (sIf (tTst (eBin (uEq K) (eBin (rMod) (eVar 0) (eLit (.int 3))) (eLit (.int 0)))) (sRet (eTup (aCons (eLit (.str "is")) (aCons (eCall (sp_L_number K Γ) E0 (aCons (eVar 2) (aCons (eBin (rDiv) (eVar 0) (eLit (.int 3))) aNil))) aNil)))) sNil)
  (sRet (eTup (aCons (eLit (.str "in")) (aCons (eBin (rMod) (eBin (rDiv) (eVar 0) (eLit (.int 3))) (eVar 1)) aNil)))))
structure sp_L_side (K : PySem.W.Frag) (Γ : Gm) (vs : List V) (H : Hp) (Q : VK) (E : XK) : Prop where
  run : match vs with
  | [a0, a1, a2] => b_L_side K Γ { nx := fun _ H' => Q .non H', rt := Q } [some a0, some a1, some a2] H
  | _ => False
theorem okf_L_side {f : Addr} {fd : FuncData} (F : L2.Fun K "_law_side" "_law_side" s_L_side f fd) (F_L_number : Fn P w K mg base CX0 (1) "_law_number" ["_law_cell", "_law_way"] (sp_L_number K Γ)) : FnOk P w K mg base CX0 (1 + 1) f fd ["_law_way", "_law_width", "_law_cell"] (sp_L_side K Γ) := by
  have nd := sc_L_side.nd
  refine F.ok (k := 1) sc_L_side (fun vs H Q E h => ?_) (fun cdv A outer s H vs Q E hr h => ⟨b_L_side K Γ, ?_, ?_⟩)
  · have h := h.run; split at h; exact rfl; exact h.elim
  · have hu64 := hr.units
    have hu1 := hu_of hr
    exact (zCons (zIf (qCmp (oEq hu64) (dBin oMod (dVar 0) dInt) dInt) (zOne (zRet (dTup (kCons dStr (kCons (dFn F_L_number (hr.mono (by omega)) rfl pass0 (kCons (dVar 2) (kCons (dBin oDiv (dVar 0) dInt) kNil))) kNil))))) zNil)
  (zOne (zRet (dTup (kCons dStr (kCons (dBin oMod (dBin oDiv (dVar 0) dInt) (dVar 1)) kNil))))))
  · have h := h.run; split at h; exact h; exact h.elim
theorem bd_L_side {f : Addr} {fd : FuncData} (F : L2.Fun K "_law_side" "_law_side" s_L_side f fd) : Binds K fd ["_law_way", "_law_width", "_law_cell"] [] := F.binds (fun _ _ _ _ _ _ us hl => match us, hl with | [_, _, _], _ => rfl)
abbrev s_L_row : Stmt := topS 14
theorem sc_L_row : FnScope ["_law_cell", "_law_k", "_law_span", "_law_m", "_law_n", "_law_w", "_law_outs", "_law_at", "_law_route", "_law_j", "_law_left", "_law_right"] ["_law_cell", "_law_k", "_law_span"] (defScope s_L_row) := ⟨rfl, rfl, rfl, by decide +kernel, rfl, by decide +kernel, by decide +kernel⟩
def b_L_row (K : PySem.W.Frag) (Γ : Gm) : TS :=
  (sSeq (sSet 3 (eCall (sp_L_mixed K Γ) E0 (aCons (eVar 0) (aCons (eVar 1) aNil))))
  (sSeq (sSet 4 (eCall (sp_L_mixed K Γ) E0 (aCons (eVar 0) (aCons (eBin (uAdd K) (eVar 1) (eLit (.int 70))) aNil))))
  (sSeq (sSet 5 (eBin (uAdd K) (eLit (.int 1)) (eBin (rMod) (eBin (rDiv) (eVar 3) (eLit (.int 4))) (eLit (.int 5)))))
  (sSeq (sIf (tTst (eBin (uEq K) (eBin (rMod) (eVar 3) (eLit (.int 4))) (eLit (.int 0)))) (sSeq (sSet 6 (eBin (rMod) (eBin (rDiv) (eVar 3) (eLit (.int 20))) (eLit (.int 6))))
  (sSeq (sSet 7 (eCall (sp_L_lines K Γ) E0 (aCons (eVar 4) (aCons (eBin (uAdd K) (eVar 5) (eVar 6)) (aCons (eVar 2) aNil)))))
  (sSeq (sSet 8 (eBlt (uTuple K) (aCons (eLc (cR1 (eVar 6)) (gNm 9) tYes (eBin (rMod) (eCall (sp_L_mixed K Γ) E0 (aCons (eVar 0) (aCons (eBin (uAdd K) (eBin (uAdd K) (eVar 1) (eLit (.int 100))) (eVar 9)) aNil))) (eVar 5)) [9]) aNil)))
  (sRet (eTup (aCons (eLit (.str "pass")) (aCons (eBlt (uTuple K) (aCons (eSl (uSl K) (eVar 7) oNone (oPart (eVar 5))) aNil)) (aCons (eBlt (uTuple K) (aCons (eSl (uSl K) (eVar 7) (oPart (eVar 5)) oNone) aNil)) (aCons (eVar 8) aNil))))))))) sNil)
  (sSeq (sIf (tTst (eBin (uEq K) (eBin (rMod) (eVar 3) (eLit (.int 4))) (eLit (.int 1)))) (sSeq (sSet 7 (eCall (sp_L_lines K Γ) E0 (aCons (eVar 4) (aCons (eBin (uAdd K) (eVar 5) (eLit (.int 1))) (aCons (eVar 2) aNil)))))
  (sSeq (sSet 10 (eCall (sp_L_side K Γ) E0 (aCons (eBin (rMod) (eBin (rDiv) (eVar 3) (eLit (.int 20))) (eLit (.int 1009))) (aCons (eVar 5) (aCons (eVar 0) aNil)))))
  (sSeq (sSet 11 (eCall (sp_L_side K Γ) E0 (aCons (eBin (rMod) (eBin (rDiv) (eVar 3) (eLit (.int 2017))) (eLit (.int 997))) (aCons (eVar 5) (aCons (eVar 0) aNil)))))
  (sRet (eTup (aCons (eLit (.str "work")) (aCons (eBlt (uTuple K) (aCons (eSl (uSl K) (eVar 7) oNone (oPart (eVar 5))) aNil)) (aCons (eBin (uIx K) (eVar 7) (eVar 5)) (aCons (eBin (uIx K) (eLit (.str "+-*/<=&|^")) (eBin (rMod) (eVar 4) (eLit (.int 9)))) (aCons (eVar 10) (aCons (eVar 11) aNil))))))))))) sNil)
  (sSeq (sSet 7 (eCall (sp_L_lines K Γ) E0 (aCons (eVar 4) (aCons (eBin (uAdd K) (eBin (uMul) (eLit (.int 3)) (eVar 5)) (eLit (.int 1))) (aCons (eVar 2) aNil)))))
  (sSeq (sIf (tTst (eBin (uEq K) (eBin (rMod) (eVar 3) (eLit (.int 4))) (eLit (.int 2)))) (sRet (eTup (aCons (eLit (.str "choose")) (aCons (eBlt (uTuple K) (aCons (eSl (uSl K) (eVar 7) oNone (oPart (eVar 5))) aNil)) (aCons (eBin (rMod) (eBin (rDiv) (eVar 3) (eLit (.int 20))) (eVar 5)) (aCons (eBlt (uTuple K) (aCons (eSl (uSl K) (eVar 7) (oPart (eVar 5)) (oPart (eBin (uMul) (eLit (.int 2)) (eVar 5)))) aNil)) (aCons (eBlt (uTuple K) (aCons (eSl (uSl K) (eVar 7) (oPart (eBin (uMul) (eLit (.int 2)) (eVar 5))) (oPart (eBin (uMul) (eLit (.int 3)) (eVar 5)))) aNil)) (aCons (eBin (uIx K) (eVar 7) (eBin (uMul) (eLit (.int 3)) (eVar 5))) aNil)))))))) sNil)
  (sRet (eTup (aCons (eLit (.str "merge")) (aCons (eBin (uIx K) (eVar 7) (eBin (uMul) (eLit (.int 3)) (eVar 5))) (aCons (eBlt (uTuple K) (aCons (eSl (uSl K) (eVar 7) oNone (oPart (eVar 5))) aNil)) (aCons (eBlt (uTuple K) (aCons (eSl (uSl K) (eVar 7) (oPart (eVar 5)) (oPart (eBin (uMul) (eLit (.int 2)) (eVar 5)))) aNil)) (aCons (eBlt (uTuple K) (aCons (eSl (uSl K) (eVar 7) (oPart (eBin (uMul) (eLit (.int 2)) (eVar 5))) (oPart (eBin (uMul) (eLit (.int 3)) (eVar 5)))) aNil)) aNil))))))))))))))
structure sp_L_row (K : PySem.W.Frag) (Γ : Gm) (vs : List V) (H : Hp) (Q : VK) (E : XK) : Prop where
  run : match vs with
  | [a0, a1, a2] => b_L_row K Γ { nx := fun _ H' => Q .non H', rt := Q } [some a0, some a1, some a2, none, none, none, none, none, none, none, none, none] H
  | _ => False
theorem okf_L_row {f : Addr} {fd : FuncData} (F : L2.Fun K "_law_row" "_law_row" s_L_row f fd) (F_L_lines : Fn P w K mg base CX0 (1) "_law_lines" ["_law_m", "_law_many", "_law_span"] (sp_L_lines K Γ)) (F_L_mixed : Fn P w K mg base CX0 (1) "_law_mixed" ["_law_cell", "_law_k"] (sp_L_mixed K Γ)) (F_L_side : Fn P w K mg base CX0 (2) "_law_side" ["_law_way", "_law_width", "_law_cell"] (sp_L_side K Γ)) (m_range : mg "range" = none) (m_tuple : mg "tuple" = none) : FnOk P w K mg base CX0 (2 + 1) f fd ["_law_cell", "_law_k", "_law_span"] (sp_L_row K Γ) := by
  have nd := sc_L_row.nd
  refine F.ok (k := 2) sc_L_row (fun vs H Q E h => ?_) (fun cdv A outer s H vs Q E hr h => ⟨b_L_row K Γ, ?_, ?_⟩)
  · have h := h.run; split at h; exact rfl; exact h.elim
  · have hu64 := hr.units
    have hu1 := hu_of hr
    exact (zCons (zSet (i := 3) nd rfl (by first | exact .inl rfl | exact .inr rfl) (dFn F_L_mixed (hr.mono (by omega)) rfl pass0 (kCons (dVar 0) (kCons (dVar 1) kNil))))
  (zCons (zSet (i := 4) nd rfl (by first | exact .inl rfl | exact .inr rfl) (dFn F_L_mixed (hr.mono (by omega)) rfl pass0 (kCons (dVar 0) (kCons (dBin oAdd (dVar 1) dInt) kNil))))
  (zCons (zSet (i := 5) nd rfl (by first | exact .inl rfl | exact .inr rfl) (dBin oAdd dInt (dBin oMod (dBin oDiv (dVar 3) dInt) dInt)))
  (zCons (zIf (qCmp (oEq hu64) (dBin oMod (dVar 3) dInt) dInt) (zCons (zSet (i := 6) nd rfl (by first | exact .inl rfl | exact .inr rfl) (dBin oMod (dBin oDiv (dVar 3) dInt) dInt))
  (zCons (zSet (i := 7) nd rfl (by first | exact .inl rfl | exact .inr rfl) (dFn F_L_lines (hr.mono (by omega)) rfl pass0 (kCons (dVar 4) (kCons (dBin oAdd (dVar 5) (dVar 6)) (kCons (dVar 2) kNil)))))
  (zCons (zSet (i := 8) nd rfl (by first | exact .inl rfl | exact .inr rfl) (dBty bTuple rfl m_tuple (by decide +kernel) (kCons (dLc (own := [("_law_j", 9)]) rfl nd (kR1 rfl m_range (dVar 6)) (blkOk_by (by first | (show blkC ["_law_cell", "_law_k", "_law_span", "_law_m", "_law_n", "_law_w", "_law_outs", "_law_at", "_law_route", "_law_j", "_law_left", "_law_right"] (defScope s_L_row) _ _ = true; decide +kernel) | rfl)) (fun _ _ _ _ _ => (tgNm (i := 9) nd rfl (by first | exact .inl rfl | exact .inr rfl))) (fun _ _ _ _ _ => iNo) (fun _ _ _ _ _ => (dBin oMod (dFn F_L_mixed (hr.mono (by omega)) rfl pass0 (kCons (dVar 0) (kCons (dBin oAdd (dBin oAdd (dVar 1) dInt) (dVar 9)) kNil))) (dVar 5)))) kNil)))
  (zOne (zRet (dTup (kCons dStr (kCons (dBty bTuple rfl m_tuple (by decide +kernel) (kCons (dSl (dVar 7) gNone (gSome (dVar 5))) kNil)) (kCons (dBty bTuple rfl m_tuple (by decide +kernel) (kCons (dSl (dVar 7) (gSome (dVar 5)) gNone) kNil)) (kCons (dVar 8) kNil)))))))))) zNil)
  (zCons (zIf (qCmp (oEq hu64) (dBin oMod (dVar 3) dInt) dInt) (zCons (zSet (i := 7) nd rfl (by first | exact .inl rfl | exact .inr rfl) (dFn F_L_lines (hr.mono (by omega)) rfl pass0 (kCons (dVar 4) (kCons (dBin oAdd (dVar 5) dInt) (kCons (dVar 2) kNil)))))
  (zCons (zSet (i := 10) nd rfl (by first | exact .inl rfl | exact .inr rfl) (dFn F_L_side (hr.mono (by omega)) rfl pass0 (kCons (dBin oMod (dBin oDiv (dVar 3) dInt) dInt) (kCons (dVar 5) (kCons (dVar 0) kNil)))))
  (zCons (zSet (i := 11) nd rfl (by first | exact .inl rfl | exact .inr rfl) (dFn F_L_side (hr.mono (by omega)) rfl pass0 (kCons (dBin oMod (dBin oDiv (dVar 3) dInt) dInt) (kCons (dVar 5) (kCons (dVar 0) kNil)))))
  (zOne (zRet (dTup (kCons dStr (kCons (dBty bTuple rfl m_tuple (by decide +kernel) (kCons (dSl (dVar 7) gNone (gSome (dVar 5))) kNil)) (kCons (dIx (dVar 7) (dVar 5)) (kCons (dIx dStr (dBin oMod (dVar 4) dInt)) (kCons (dVar 10) (kCons (dVar 11) kNil)))))))))))) zNil)
  (zCons (zSet (i := 7) nd rfl (by first | exact .inl rfl | exact .inr rfl) (dFn F_L_lines (hr.mono (by omega)) rfl pass0 (kCons (dVar 4) (kCons (dBin oAdd (dBin oMul dInt (dVar 5)) dInt) (kCons (dVar 2) kNil)))))
  (zCons (zIf (qCmp (oEq hu64) (dBin oMod (dVar 3) dInt) dInt) (zOne (zRet (dTup (kCons dStr (kCons (dBty bTuple rfl m_tuple (by decide +kernel) (kCons (dSl (dVar 7) gNone (gSome (dVar 5))) kNil)) (kCons (dBin oMod (dBin oDiv (dVar 3) dInt) (dVar 5)) (kCons (dBty bTuple rfl m_tuple (by decide +kernel) (kCons (dSl (dVar 7) (gSome (dVar 5)) (gSome (dBin oMul dInt (dVar 5)))) kNil)) (kCons (dBty bTuple rfl m_tuple (by decide +kernel) (kCons (dSl (dVar 7) (gSome (dBin oMul dInt (dVar 5))) (gSome (dBin oMul dInt (dVar 5)))) kNil)) (kCons (dIx (dVar 7) (dBin oMul dInt (dVar 5))) kNil))))))))) zNil)
  (zOne (zRet (dTup (kCons dStr (kCons (dIx (dVar 7) (dBin oMul dInt (dVar 5))) (kCons (dBty bTuple rfl m_tuple (by decide +kernel) (kCons (dSl (dVar 7) gNone (gSome (dVar 5))) kNil)) (kCons (dBty bTuple rfl m_tuple (by decide +kernel) (kCons (dSl (dVar 7) (gSome (dVar 5)) (gSome (dBin oMul dInt (dVar 5)))) kNil)) (kCons (dBty bTuple rfl m_tuple (by decide +kernel) (kCons (dSl (dVar 7) (gSome (dBin oMul dInt (dVar 5))) (gSome (dBin oMul dInt (dVar 5)))) kNil)) kNil)))))))))))))))
  · have h := h.run; split at h; exact h; exact h.elim
theorem bd_L_row {f : Addr} {fd : FuncData} (F : L2.Fun K "_law_row" "_law_row" s_L_row f fd) : Binds K fd ["_law_cell", "_law_k", "_law_span"] [] := F.binds (fun _ _ _ _ _ _ us hl => match us, hl with | [_, _, _], _ => rfl)
abbrev s_Yard___init__ : Stmt := inClass (topS 2) 0
theorem sc_Yard___init__ : FnScope ["self", "lines", "line"] ["self", "lines"] (defScope s_Yard___init__) := ⟨rfl, rfl, rfl, by decide +kernel, rfl, by decide +kernel, by decide +kernel⟩
def b_Yard___init__ (K : PySem.W.Frag) (Γ : Gm) : TS :=
  (sSeq (sFld Γ ["Yard"] "lengths" (eVar 0) (eLc (cSq K (eVar 1)) (gNm 2) tYes (eBin (uIx K) (eVar 2) (eLit (.int 0))) [2]))
  (sFld Γ ["Yard"] "rows" (eVar 0) (eLc (cSq K (eVar 1)) (gNm 2) tYes (eBlt (uList K) (aCons (eBin (uIx K) (eVar 2) (eLit (.int 1))) aNil)) [2])))
structure sp_Yard___init__ (K : PySem.W.Frag) (Γ : Gm) (vs : List V) (H : Hp) (Q : VK) (E : XK) : Prop where
  run : match vs with
  | [a0, a1] => b_Yard___init__ K Γ { nx := fun _ H' => Q .non H', rt := Q } [some a0, some a1, none] H
  | _ => False
theorem okf_Yard___init__ {f : Addr} {fd : FuncData} (F : L2.Fun K "__init__" "Yard.__init__" s_Yard___init__ f fd) (m_list : mg "list" = none) (W_lengths : Flds K Γ ["Yard"] "lengths") (W_rows : Flds K Γ ["Yard"] "rows") : FnOk P w K mg base CX0 (0 + 1) f fd ["self", "lines"] (sp_Yard___init__ K Γ) := by
  have nd := sc_Yard___init__.nd
  refine F.ok (k := 0) sc_Yard___init__ (fun vs H Q E h => ?_) (fun cdv A outer s H vs Q E hr h => ⟨b_Yard___init__ K Γ, ?_, ?_⟩)
  · have h := h.run; split at h; exact rfl; exact h.elim
  · have hu64 := hr.units
    have hu1 := hu_of hr
    exact (zCons (zFld W_lengths (dVar 0) (dLc (own := [("line", 2)]) rfl nd (kSq (dVar 1)) (blkOk_by (by first | (show blkC ["self", "lines", "line"] (defScope s_Yard___init__) _ _ = true; decide +kernel) | rfl)) (fun _ _ _ _ _ => (tgNm (i := 2) nd rfl (by first | exact .inl rfl | exact .inr rfl))) (fun _ _ _ _ _ => iNo) (fun _ _ _ _ _ => (dIx (dVar 2) dInt))))
  (zOne (zFld W_rows (dVar 0) (dLc (own := [("line", 2)]) rfl nd (kSq (dVar 1)) (blkOk_by (by first | (show blkC ["self", "lines", "line"] (defScope s_Yard___init__) _ _ = true; decide +kernel) | rfl)) (fun _ _ _ _ _ => (tgNm (i := 2) nd rfl (by first | exact .inl rfl | exact .inr rfl))) (fun _ _ _ _ _ => iNo) (fun _ _ _ _ _ => (dBty bList rfl m_list (by decide +kernel) (kCons (dIx (dVar 2) dInt) kNil)))))))
  · have h := h.run; split at h; exact h; exact h.elim
theorem bd_Yard___init__ {f : Addr} {fd : FuncData} (F : L2.Fun K "__init__" "Yard.__init__" s_Yard___init__ f fd) : Binds K fd ["self", "lines"] [] := F.binds (fun _ _ _ _ _ _ us hl => match us, hl with | [_, _], _ => rfl)
abbrev s_Part___init__ : Stmt := inClass (topS 3) 0
theorem sc_Part___init__ : FnScope ["self", "ins"] ["self", "ins"] (defScope s_Part___init__) := ⟨rfl, rfl, rfl, by decide +kernel, rfl, by decide +kernel, by decide +kernel⟩
def b_Part___init__ (K : PySem.W.Frag) (Γ : Gm) : TS :=
  (sFld Γ ["Part", "Pass", "Work", "Choose", "Merge"] "ins" (eVar 0) (eVar 1))
structure sp_Part___init__ (K : PySem.W.Frag) (Γ : Gm) (vs : List V) (H : Hp) (Q : VK) (E : XK) : Prop where
  run : match vs with
  | [a0, a1] => b_Part___init__ K Γ { nx := fun _ H' => Q .non H', rt := Q } [some a0, some a1] H
  | _ => False
theorem okf_Part___init__ {f : Addr} {fd : FuncData} (F : L2.Fun K "__init__" "Part.__init__" s_Part___init__ f fd) (W_ins : Flds K Γ ["Part", "Pass", "Work", "Choose", "Merge"] "ins") : FnOk P w K mg base CX0 (0 + 1) f fd ["self", "ins"] (sp_Part___init__ K Γ) := by
  have nd := sc_Part___init__.nd
  refine F.ok (k := 0) sc_Part___init__ (fun vs H Q E h => ?_) (fun cdv A outer s H vs Q E hr h => ⟨b_Part___init__ K Γ, ?_, ?_⟩)
  · have h := h.run; split at h; exact rfl; exact h.elim
  · have hu64 := hr.units
    have hu1 := hu_of hr
    exact (zOne (zFld W_ins (dVar 0) (dVar 1)))
  · have h := h.run; split at h; exact h; exact h.elim
theorem bd_Part___init__ {f : Addr} {fd : FuncData} (F : L2.Fun K "__init__" "Part.__init__" s_Part___init__ f fd) : Binds K fd ["self", "ins"] [] := F.binds (fun _ _ _ _ _ _ us hl => match us, hl with | [_, _], _ => rfl)
abbrev s_Merge___init__ : Stmt := inClass (topS 7) 0
theorem sc_Merge___init__ : FnScope ["self", "told", "ones", "noughts", "outs"] ["self", "told", "ones", "noughts", "outs"] (defScope s_Merge___init__) := ⟨rfl, rfl, rfl, by decide +kernel, rfl, by decide +kernel, by decide +kernel⟩
def b_Merge___init__ (K : PySem.W.Frag) (Γ : Gm) : TS :=
  (sSeq (sExp (eCall (sp_Part___init__ K Γ) E0 (aCons (eVar 0) (aCons (eBin (uAdd K) (eBin (uAdd K) (eTup (aCons (eVar 1) aNil)) (eVar 2)) (eVar 3)) aNil))))
  (sSeq (sFld Γ ["Choose", "Merge"] "told" (eVar 0) (eVar 1))
  (sSeq (sFld Γ ["Choose", "Merge"] "ones" (eVar 0) (eVar 2))
  (sSeq (sFld Γ ["Choose", "Merge"] "noughts" (eVar 0) (eVar 3))
  (sFld Γ ["Pass", "Merge"] "outs" (eVar 0) (eVar 4))))))
structure sp_Merge___init__ (K : PySem.W.Frag) (Γ : Gm) (vs : List V) (H : Hp) (Q : VK) (E : XK) : Prop where
  run : match vs with
  | [a0, a1, a2, a3, a4] => b_Merge___init__ K Γ { nx := fun _ H' => Q .non H', rt := Q } [some a0, some a1, some a2, some a3, some a4] H
  | _ => False
theorem okf_Merge___init__ {f : Addr} {fd : FuncData} (F : L2.Fun K "__init__" "Merge.__init__" s_Merge___init__ f fd) (K_Part___init__ : Mc P w K mg base Γ CX0 (1) "Part" "__init__" (sp_Part___init__ K Γ)) (W_noughts : Flds K Γ ["Choose", "Merge"] "noughts") (W_ones : Flds K Γ ["Choose", "Merge"] "ones") (W_outs : Flds K Γ ["Pass", "Merge"] "outs") (W_told : Flds K Γ ["Choose", "Merge"] "told") : FnOk P w K mg base CX0 (2 + 1) f fd ["self", "told", "ones", "noughts", "outs"] (sp_Merge___init__ K Γ) := by
  have nd := sc_Merge___init__.nd
  refine F.ok (k := 2) sc_Merge___init__ (fun vs H Q E h => ?_) (fun cdv A outer s H vs Q E hr h => ⟨b_Merge___init__ K Γ, ?_, ?_⟩)
  · have h := h.run; split at h; exact rfl; exact h.elim
  · have hu64 := hr.units
    have hu1 := hu_of hr
    exact (zCons (zExp (dCls K_Part___init__ (hr.mono (by omega)) rfl pass0 (kCons (dVar 0) (kCons (dBin oAdd (dBin oAdd (dTup (kCons (dVar 1) kNil)) (dVar 2)) (dVar 3)) kNil))))
  (zCons (zFld W_told (dVar 0) (dVar 1))
  (zCons (zFld W_ones (dVar 0) (dVar 2))
  (zCons (zFld W_noughts (dVar 0) (dVar 3))
  (zOne (zFld W_outs (dVar 0) (dVar 4)))))))
  · have h := h.run; split at h; exact h; exact h.elim
theorem bd_Merge___init__ {f : Addr} {fd : FuncData} (F : L2.Fun K "__init__" "Merge.__init__" s_Merge___init__ f fd) : Binds K fd ["self", "told", "ones", "noughts", "outs"] [] := F.binds (fun _ _ _ _ _ _ us hl => match us, hl with | [_, _, _, _, _], _ => rfl)
abbrev s_Pass___init__ : Stmt := inClass (topS 4) 0
theorem sc_Pass___init__ : FnScope ["self", "ins", "outs", "route"] ["self", "ins", "outs", "route"] (defScope s_Pass___init__) := ⟨rfl, rfl, rfl, by decide +kernel, rfl, by decide +kernel, by decide +kernel⟩
def b_Pass___init__ (K : PySem.W.Frag) (Γ : Gm) : TS :=
  (sSeq (sExp (eCall (sp_Part___init__ K Γ) E0 (aCons (eVar 0) (aCons (eVar 1) aNil))))
  (sSeq (sFld Γ ["Pass", "Merge"] "outs" (eVar 0) (eVar 2))
  (sFld Γ ["Pass"] "route" (eVar 0) (eVar 3))))
structure sp_Pass___init__ (K : PySem.W.Frag) (Γ : Gm) (vs : List V) (H : Hp) (Q : VK) (E : XK) : Prop where
  run : match vs with
  | [a0, a1, a2, a3] => b_Pass___init__ K Γ { nx := fun _ H' => Q .non H', rt := Q } [some a0, some a1, some a2, some a3] H
  | _ => False
theorem okf_Pass___init__ {f : Addr} {fd : FuncData} (F : L2.Fun K "__init__" "Pass.__init__" s_Pass___init__ f fd) (K_Part___init__ : Mc P w K mg base Γ CX0 (1) "Part" "__init__" (sp_Part___init__ K Γ)) (W_outs : Flds K Γ ["Pass", "Merge"] "outs") (W_route : Flds K Γ ["Pass"] "route") : FnOk P w K mg base CX0 (2 + 1) f fd ["self", "ins", "outs", "route"] (sp_Pass___init__ K Γ) := by
  have nd := sc_Pass___init__.nd
  refine F.ok (k := 2) sc_Pass___init__ (fun vs H Q E h => ?_) (fun cdv A outer s H vs Q E hr h => ⟨b_Pass___init__ K Γ, ?_, ?_⟩)
  · have h := h.run; split at h; exact rfl; exact h.elim
  · have hu64 := hr.units
    have hu1 := hu_of hr
    exact (zCons (zExp (dCls K_Part___init__ (hr.mono (by omega)) rfl pass0 (kCons (dVar 0) (kCons (dVar 1) kNil))))
  (zCons (zFld W_outs (dVar 0) (dVar 2))
  (zOne (zFld W_route (dVar 0) (dVar 3)))))
  · have h := h.run; split at h; exact h; exact h.elim
theorem bd_Pass___init__ {f : Addr} {fd : FuncData} (F : L2.Fun K "__init__" "Pass.__init__" s_Pass___init__ f fd) : Binds K fd ["self", "ins", "outs", "route"] [] := F.binds (fun _ _ _ _ _ _ us hl => match us, hl with | [_, _, _, _], _ => rfl)
abbrev s_Work___init__ : Stmt := inClass (topS 5) 0
theorem sc_Work___init__ : FnScope ["self", "ins", "out", "sign", "left", "right"] ["self", "ins", "out", "sign", "left", "right"] (defScope s_Work___init__) := ⟨rfl, rfl, rfl, by decide +kernel, rfl, by decide +kernel, by decide +kernel⟩
def b_Work___init__ (K : PySem.W.Frag) (Γ : Gm) : TS :=
  (sSeq (sExp (eCall (sp_Part___init__ K Γ) E0 (aCons (eVar 0) (aCons (eVar 1) aNil))))
  (sSeq (sFld Γ ["Work"] "out" (eVar 0) (eVar 2))
  (sSeq (sFld Γ ["Work"] "sign" (eVar 0) (eVar 3))
  (sSeq (sFld Γ ["Work"] "left" (eVar 0) (eVar 4))
  (sFld Γ ["Work"] "right" (eVar 0) (eVar 5))))))
structure sp_Work___init__ (K : PySem.W.Frag) (Γ : Gm) (vs : List V) (H : Hp) (Q : VK) (E : XK) : Prop where
  run : match vs with
  | [a0, a1, a2, a3, a4, a5] => b_Work___init__ K Γ { nx := fun _ H' => Q .non H', rt := Q } [some a0, some a1, some a2, some a3, some a4, some a5] H
  | _ => False
theorem okf_Work___init__ {f : Addr} {fd : FuncData} (F : L2.Fun K "__init__" "Work.__init__" s_Work___init__ f fd) (K_Part___init__ : Mc P w K mg base Γ CX0 (1) "Part" "__init__" (sp_Part___init__ K Γ)) (W_left : Flds K Γ ["Work"] "left") (W_out : Flds K Γ ["Work"] "out") (W_right : Flds K Γ ["Work"] "right") (W_sign : Flds K Γ ["Work"] "sign") : FnOk P w K mg base CX0 (2 + 1) f fd ["self", "ins", "out", "sign", "left", "right"] (sp_Work___init__ K Γ) := by
  have nd := sc_Work___init__.nd
  refine F.ok (k := 2) sc_Work___init__ (fun vs H Q E h => ?_) (fun cdv A outer s H vs Q E hr h => ⟨b_Work___init__ K Γ, ?_, ?_⟩)
  · have h := h.run; split at h; exact rfl; exact h.elim
  · have hu64 := hr.units
    have hu1 := hu_of hr
    exact (zCons (zExp (dCls K_Part___init__ (hr.mono (by omega)) rfl pass0 (kCons (dVar 0) (kCons (dVar 1) kNil))))
  (zCons (zFld W_out (dVar 0) (dVar 2))
  (zCons (zFld W_sign (dVar 0) (dVar 3))
  (zCons (zFld W_left (dVar 0) (dVar 4))
  (zOne (zFld W_right (dVar 0) (dVar 5)))))))
  · have h := h.run; split at h; exact h; exact h.elim
theorem bd_Work___init__ {f : Addr} {fd : FuncData} (F : L2.Fun K "__init__" "Work.__init__" s_Work___init__ f fd) : Binds K fd ["self", "ins", "out", "sign", "left", "right"] [] := F.binds (fun _ _ _ _ _ _ us hl => match us, hl with | [_, _, _, _, _, _], _ => rfl)
abbrev s_Choose___init__ : Stmt := inClass (topS 6) 0
theorem sc_Choose___init__ : FnScope ["self", "ins", "which", "ones", "noughts", "told"] ["self", "ins", "which", "ones", "noughts", "told"] (defScope s_Choose___init__) := ⟨rfl, rfl, rfl, by decide +kernel, rfl, by decide +kernel, by decide +kernel⟩
def b_Choose___init__ (K : PySem.W.Frag) (Γ : Gm) : TS :=
  (sSeq (sExp (eCall (sp_Part___init__ K Γ) E0 (aCons (eVar 0) (aCons (eVar 1) aNil))))
  (sSeq (sFld Γ ["Choose"] "which" (eVar 0) (eVar 2))
  (sSeq (sFld Γ ["Choose", "Merge"] "ones" (eVar 0) (eVar 3))
  (sSeq (sFld Γ ["Choose", "Merge"] "noughts" (eVar 0) (eVar 4))
  (sFld Γ ["Choose", "Merge"] "told" (eVar 0) (eVar 5))))))
structure sp_Choose___init__ (K : PySem.W.Frag) (Γ : Gm) (vs : List V) (H : Hp) (Q : VK) (E : XK) : Prop where
  run : match vs with
  | [a0, a1, a2, a3, a4, a5] => b_Choose___init__ K Γ { nx := fun _ H' => Q .non H', rt := Q } [some a0, some a1, some a2, some a3, some a4, some a5] H
  | _ => False
theorem okf_Choose___init__ {f : Addr} {fd : FuncData} (F : L2.Fun K "__init__" "Choose.__init__" s_Choose___init__ f fd) (K_Part___init__ : Mc P w K mg base Γ CX0 (1) "Part" "__init__" (sp_Part___init__ K Γ)) (W_noughts : Flds K Γ ["Choose", "Merge"] "noughts") (W_ones : Flds K Γ ["Choose", "Merge"] "ones") (W_told : Flds K Γ ["Choose", "Merge"] "told") (W_which : Flds K Γ ["Choose"] "which") : FnOk P w K mg base CX0 (2 + 1) f fd ["self", "ins", "which", "ones", "noughts", "told"] (sp_Choose___init__ K Γ) := by
  have nd := sc_Choose___init__.nd
  refine F.ok (k := 2) sc_Choose___init__ (fun vs H Q E h => ?_) (fun cdv A outer s H vs Q E hr h => ⟨b_Choose___init__ K Γ, ?_, ?_⟩)
  · have h := h.run; split at h; exact rfl; exact h.elim
  · have hu64 := hr.units
    have hu1 := hu_of hr
    exact (zCons (zExp (dCls K_Part___init__ (hr.mono (by omega)) rfl pass0 (kCons (dVar 0) (kCons (dVar 1) kNil))))
  (zCons (zFld W_which (dVar 0) (dVar 2))
  (zCons (zFld W_ones (dVar 0) (dVar 3))
  (zCons (zFld W_noughts (dVar 0) (dVar 4))
  (zOne (zFld W_told (dVar 0) (dVar 5)))))))
  · have h := h.run; split at h; exact h; exact h.elim
theorem bd_Choose___init__ {f : Addr} {fd : FuncData} (F : L2.Fun K "__init__" "Choose.__init__" s_Choose___init__ f fd) : Binds K fd ["self", "ins", "which", "ones", "noughts", "told"] [] := F.binds (fun _ _ _ _ _ _ us hl => match us, hl with | [_, _, _, _, _, _], _ => rfl)
abbrev s_part_of : Stmt := topS 8
theorem sc_part_of : FnScope ["row"] ["row"] (defScope s_part_of) := ⟨rfl, rfl, rfl, by decide +kernel, rfl, by decide +kernel, by decide +kernel⟩
def b_part_of (K : PySem.W.Frag) (Γ : Gm) : TS :=
  (sSeq (sIf (tTst (eBin (uEq K) (eBin (uIx K) (eVar 0) (eLit (.int 0))) (eLit (.str "pass")))) (sRet (eNew Γ "Pass" (sp_Pass___init__ K Γ) E0 (aCons (eBin (uIx K) (eVar 0) (eLit (.int 1))) (aCons (eBin (uIx K) (eVar 0) (eLit (.int 2))) (aCons (eBin (uIx K) (eVar 0) (eLit (.int 3))) aNil))))) sNil)
  (sSeq (sIf (tTst (eBin (uEq K) (eBin (uIx K) (eVar 0) (eLit (.int 0))) (eLit (.str "work")))) (sRet (eNew Γ "Work" (sp_Work___init__ K Γ) E0 (aCons (eBin (uIx K) (eVar 0) (eLit (.int 1))) (aCons (eBin (uIx K) (eVar 0) (eLit (.int 2))) (aCons (eBin (uIx K) (eVar 0) (eLit (.int 3))) (aCons (eBin (uIx K) (eVar 0) (eLit (.int 4))) (aCons (eBin (uIx K) (eVar 0) (eLit (.int 5))) aNil))))))) sNil)
  (sSeq (sIf (tTst (eBin (uEq K) (eBin (uIx K) (eVar 0) (eLit (.int 0))) (eLit (.str "choose")))) (sRet (eNew Γ "Choose" (sp_Choose___init__ K Γ) E0 (aCons (eBin (uIx K) (eVar 0) (eLit (.int 1))) (aCons (eBin (uIx K) (eVar 0) (eLit (.int 2))) (aCons (eBin (uIx K) (eVar 0) (eLit (.int 3))) (aCons (eBin (uIx K) (eVar 0) (eLit (.int 4))) (aCons (eBin (uIx K) (eVar 0) (eLit (.int 5))) aNil))))))) sNil)
  (sRet (eNew Γ "Merge" (sp_Merge___init__ K Γ) E0 (aCons (eBin (uIx K) (eVar 0) (eLit (.int 1))) (aCons (eBin (uIx K) (eVar 0) (eLit (.int 2))) (aCons (eBin (uIx K) (eVar 0) (eLit (.int 3))) (aCons (eBin (uIx K) (eVar 0) (eLit (.int 4))) aNil)))))))))
structure sp_part_of (K : PySem.W.Frag) (Γ : Gm) (vs : List V) (H : Hp) (Q : VK) (E : XK) : Prop where
  run : match vs with
  | [a0] => b_part_of K Γ { nx := fun _ H' => Q .non H', rt := Q } [some a0] H
  | _ => False
theorem okf_part_of {f : Addr} {fd : FuncData} (F : L2.Fun K "part_of" "part_of" s_part_of f fd) (I_Choose : Mi P w K mg base Γ CX0 (3) "Choose" (sp_Choose___init__ K Γ)) (I_Merge : Mi P w K mg base Γ CX0 (3) "Merge" (sp_Merge___init__ K Γ)) (I_Pass : Mi P w K mg base Γ CX0 (3) "Pass" (sp_Pass___init__ K Γ)) (I_Work : Mi P w K mg base Γ CX0 (3) "Work" (sp_Work___init__ K Γ)) : FnOk P w K mg base CX0 (4 + 1) f fd ["row"] (sp_part_of K Γ) := by
  have nd := sc_part_of.nd
  refine F.ok (k := 4) sc_part_of (fun vs H Q E h => ?_) (fun cdv A outer s H vs Q E hr h => ⟨b_part_of K Γ, ?_, ?_⟩)
  · have h := h.run; split at h; exact rfl; exact h.elim
  · have hu64 := hr.units
    have hu1 := hu_of hr
    exact (zCons (zIf (qCmp (oEq hu64) (dIx (dVar 0) dInt) dStr) (zOne (zRet (dNew I_Pass (hr.mono (by omega)) rfl pass0 (kCons (dIx (dVar 0) dInt) (kCons (dIx (dVar 0) dInt) (kCons (dIx (dVar 0) dInt) kNil)))))) zNil)
  (zCons (zIf (qCmp (oEq hu64) (dIx (dVar 0) dInt) dStr) (zOne (zRet (dNew I_Work (hr.mono (by omega)) rfl pass0 (kCons (dIx (dVar 0) dInt) (kCons (dIx (dVar 0) dInt) (kCons (dIx (dVar 0) dInt) (kCons (dIx (dVar 0) dInt) (kCons (dIx (dVar 0) dInt) kNil)))))))) zNil)
  (zCons (zIf (qCmp (oEq hu64) (dIx (dVar 0) dInt) dStr) (zOne (zRet (dNew I_Choose (hr.mono (by omega)) rfl pass0 (kCons (dIx (dVar 0) dInt) (kCons (dIx (dVar 0) dInt) (kCons (dIx (dVar 0) dInt) (kCons (dIx (dVar 0) dInt) (kCons (dIx (dVar 0) dInt) kNil)))))))) zNil)
  (zOne (zRet (dNew I_Merge (hr.mono (by omega)) rfl pass0 (kCons (dIx (dVar 0) dInt) (kCons (dIx (dVar 0) dInt) (kCons (dIx (dVar 0) dInt) (kCons (dIx (dVar 0) dInt) kNil))))))))))
  · have h := h.run; split at h; exact h; exact h.elim
theorem bd_part_of {f : Addr} {fd : FuncData} (F : L2.Fun K "part_of" "part_of" s_part_of f fd) : Binds K fd ["row"] [] := F.binds (fun _ _ _ _ _ _ us hl => match us, hl with | [_], _ => rfl)
abbrev s_Part_wants : Stmt := inClass (topS 3) 1
theorem sc_Part_wants : FnScope ["self", "yard"] ["self", "yard"] (defScope s_Part_wants) := ⟨rfl, rfl, rfl, by decide +kernel, rfl, by decide +kernel, by decide +kernel⟩
def b_Part_wants (K : PySem.W.Frag) (Γ : Gm) : TS :=
  (sRet (eFld Γ ["Part", "Pass", "Work", "Choose", "Merge"] "ins" (eVar 0)))
structure sp_Part_wants (K : PySem.W.Frag) (Γ : Gm) (vs : List V) (H : Hp) (Q : VK) (E : XK) : Prop where
  run : match vs with
  | [a0, a1] => b_Part_wants K Γ { nx := fun _ H' => Q .non H', rt := Q } [some a0, some a1] H
  | _ => False
theorem okf_Part_wants {f : Addr} {fd : FuncData} (F : L2.Fun K "wants" "Part.wants" s_Part_wants f fd) (W_ins : Flds K Γ ["Part", "Pass", "Work", "Choose", "Merge"] "ins") : FnOk P w K mg base CX0 (0 + 1) f fd ["self", "yard"] (sp_Part_wants K Γ) := by
  have nd := sc_Part_wants.nd
  refine F.ok (k := 0) sc_Part_wants (fun vs H Q E h => ?_) (fun cdv A outer s H vs Q E hr h => ⟨b_Part_wants K Γ, ?_, ?_⟩)
  · have h := h.run; split at h; exact rfl; exact h.elim
  · have hu64 := hr.units
    have hu1 := hu_of hr
    exact (zOne (zRet (dFld W_ins (dVar 0))))
  · have h := h.run; split at h; exact h; exact h.elim
theorem bd_Part_wants {f : Addr} {fd : FuncData} (F : L2.Fun K "wants" "Part.wants" s_Part_wants f fd) : Binds K fd ["self", "yard"] [] := F.binds (fun _ _ _ _ _ _ us hl => match us, hl with | [_, _], _ => rfl)
abbrev s_Yard_first : Stmt := inClass (topS 2) 3
theorem sc_Yard_first : FnScope ["self", "line"] ["self", "line"] (defScope s_Yard_first) := ⟨rfl, rfl, rfl, by decide +kernel, rfl, by decide +kernel, by decide +kernel⟩
def b_Yard_first (K : PySem.W.Frag) (Γ : Gm) : TS :=
  (sSeq (sIf (tTst (eBin (uEq K) (eBin (uIx K) (eFld Γ ["Yard"] "rows" (eVar 0)) (eVar 1)) (eLst aNil))) (sRet (eLit .non)) sNil)
  (sRet (eBin (uIx K) (eBin (uIx K) (eFld Γ ["Yard"] "rows" (eVar 0)) (eVar 1)) (eLit (.int 0)))))
structure sp_Yard_first (K : PySem.W.Frag) (Γ : Gm) (vs : List V) (H : Hp) (Q : VK) (E : XK) : Prop where
  run : match vs with
  | [a0, a1] => b_Yard_first K Γ { nx := fun _ H' => Q .non H', rt := Q } [some a0, some a1] H
  | _ => False
theorem okf_Yard_first {f : Addr} {fd : FuncData} (F : L2.Fun K "first" "Yard.first" s_Yard_first f fd) (W_rows : Flds K Γ ["Yard"] "rows") : FnOk P w K mg base CX0 (0 + 1) f fd ["self", "line"] (sp_Yard_first K Γ) := by
  have nd := sc_Yard_first.nd
  refine F.ok (k := 0) sc_Yard_first (fun vs H Q E h => ?_) (fun cdv A outer s H vs Q E hr h => ⟨b_Yard_first K Γ, ?_, ?_⟩)
  · have h := h.run; split at h; exact rfl; exact h.elim
  · have hu64 := hr.units
    have hu1 := hu_of hr
    exact (zCons (zIf (qCmp (oEq hu64) (dIx (dFld W_rows (dVar 0)) (dVar 1)) (dLst kNil)) (zOne (zRet dNon)) zNil)
  (zOne (zRet (dIx (dIx (dFld W_rows (dVar 0)) (dVar 1)) dInt))))
  · have h := h.run; split at h; exact h; exact h.elim
theorem bd_Yard_first {f : Addr} {fd : FuncData} (F : L2.Fun K "first" "Yard.first" s_Yard_first f fd) : Binds K fd ["self", "line"] [] := F.binds (fun _ _ _ _ _ _ us hl => match us, hl with | [_, _], _ => rfl)
abbrev s_Merge_wants : Stmt := inClass (topS 7) 1
theorem sc_Merge_wants : FnScope ["self", "yard", "side"] ["self", "yard"] (defScope s_Merge_wants) := ⟨rfl, rfl, rfl, by decide +kernel, rfl, by decide +kernel, by decide +kernel⟩
def b_Merge_wants (K : PySem.W.Frag) (Γ : Gm) : TS :=
  (sSeq (sSet 2 (eMth Γ "first" [("Yard", (sp_Yard_first K Γ))] E0 (eVar 1) (aCons (eFld Γ ["Choose", "Merge"] "told" (eVar 0)) aNil)))
  (sSeq (sIf (tTst (eBin (uIs false) (eVar 2) (eLit .non))) (sRet (eTup (aCons (eFld Γ ["Choose", "Merge"] "told" (eVar 0)) aNil))) sNil)
  (sSeq (sIf (tTst (eBin (uEq K) (eVar 2) (eLit (.int 0)))) (sRet (eBin (uAdd K) (eTup (aCons (eFld Γ ["Choose", "Merge"] "told" (eVar 0)) aNil)) (eFld Γ ["Choose", "Merge"] "noughts" (eVar 0)))) sNil)
  (sRet (eBin (uAdd K) (eTup (aCons (eFld Γ ["Choose", "Merge"] "told" (eVar 0)) aNil)) (eFld Γ ["Choose", "Merge"] "ones" (eVar 0)))))))
structure sp_Merge_wants (K : PySem.W.Frag) (Γ : Gm) (vs : List V) (H : Hp) (Q : VK) (E : XK) : Prop where
  run : match vs with
  | [a0, a1] => b_Merge_wants K Γ { nx := fun _ H' => Q .non H', rt := Q } [some a0, some a1, none] H
  | _ => False
theorem okf_Merge_wants {f : Addr} {fd : FuncData} (F : L2.Fun K "wants" "Merge.wants" s_Merge_wants f fd) (M_Yard_first : Mn P w K mg base Γ CX0 (1) "Yard" "first" (sp_Yard_first K Γ)) (W_noughts : Flds K Γ ["Choose", "Merge"] "noughts") (W_ones : Flds K Γ ["Choose", "Merge"] "ones") (W_told : Flds K Γ ["Choose", "Merge"] "told") : FnOk P w K mg base CX0 (1 + 1) f fd ["self", "yard"] (sp_Merge_wants K Γ) := by
  have nd := sc_Merge_wants.nd
  refine F.ok (k := 1) sc_Merge_wants (fun vs H Q E h => ?_) (fun cdv A outer s H vs Q E hr h => ⟨b_Merge_wants K Γ, ?_, ?_⟩)
  · have h := h.run; split at h; exact rfl; exact h.elim
  · have hu64 := hr.units
    have hu1 := hu_of hr
    exact (zCons (zSet (i := 2) nd rfl (by first | exact .inl rfl | exact .inr rfl) (dMth (Γ := Γ) (MOk.cons M_Yard_first (by omega) MOk.nil) hr pass0 (dVar 1) (kCons (dFld W_told (dVar 0)) kNil)))
  (zCons (zIf (qCmp oIs (dVar 2) dNon) (zOne (zRet (dTup (kCons (dFld W_told (dVar 0)) kNil)))) zNil)
  (zCons (zIf (qCmp (oEq hu64) (dVar 2) dInt) (zOne (zRet (dBin oAdd (dTup (kCons (dFld W_told (dVar 0)) kNil)) (dFld W_noughts (dVar 0))))) zNil)
  (zOne (zRet (dBin oAdd (dTup (kCons (dFld W_told (dVar 0)) kNil)) (dFld W_ones (dVar 0))))))))
  · have h := h.run; split at h; exact h; exact h.elim
theorem bd_Merge_wants {f : Addr} {fd : FuncData} (F : L2.Fun K "wants" "Merge.wants" s_Merge_wants f fd) : Binds K fd ["self", "yard"] [] := F.binds (fun _ _ _ _ _ _ us hl => match us, hl with | [_, _], _ => rfl)
abbrev s_Yard_stands : Stmt := inClass (topS 2) 6
theorem sc_Yard_stands : FnScope ["self", "row"] ["self"] (defScope s_Yard_stands) := ⟨rfl, rfl, rfl, by decide +kernel, rfl, by decide +kernel, by decide +kernel⟩
def b_Yard_stands (K : PySem.W.Frag) (Γ : Gm) : TS :=
  (sRet (eLc (cSq K (eFld Γ ["Yard"] "rows" (eVar 0))) (gNm 1) tYes (eBlt (uList K) (aCons (eVar 1) aNil)) [1]))
structure sp_Yard_stands (K : PySem.W.Frag) (Γ : Gm) (vs : List V) (H : Hp) (Q : VK) (E : XK) : Prop where
  run : match vs with
  | [a0] => b_Yard_stands K Γ { nx := fun _ H' => Q .non H', rt := Q } [some a0, none] H
  | _ => False
theorem okf_Yard_stands {f : Addr} {fd : FuncData} (F : L2.Fun K "stands" "Yard.stands" s_Yard_stands f fd) (m_list : mg "list" = none) (W_rows : Flds K Γ ["Yard"] "rows") : FnOk P w K mg base CX0 (0 + 1) f fd ["self"] (sp_Yard_stands K Γ) := by
  have nd := sc_Yard_stands.nd
  refine F.ok (k := 0) sc_Yard_stands (fun vs H Q E h => ?_) (fun cdv A outer s H vs Q E hr h => ⟨b_Yard_stands K Γ, ?_, ?_⟩)
  · have h := h.run; split at h; exact rfl; exact h.elim
  · have hu64 := hr.units
    have hu1 := hu_of hr
    exact (zOne (zRet (dLc (own := [("row", 1)]) rfl nd (kSq (dFld W_rows (dVar 0))) (blkOk_by (by first | (show blkC ["self", "row"] (defScope s_Yard_stands) _ _ = true; decide +kernel) | rfl)) (fun _ _ _ _ _ => (tgNm (i := 1) nd rfl (by first | exact .inl rfl | exact .inr rfl))) (fun _ _ _ _ _ => iNo) (fun _ _ _ _ _ => (dBty bList rfl m_list (by decide +kernel) (kCons (dVar 1) kNil))))))
  · have h := h.run; split at h; exact h; exact h.elim
theorem bd_Yard_stands {f : Addr} {fd : FuncData} (F : L2.Fun K "stands" "Yard.stands" s_Yard_stands f fd) : Binds K fd ["self"] [] := F.binds (fun _ _ _ _ _ _ us hl => match us, hl with | [_], _ => rfl)
abbrev s_L_wanted : Stmt := topS 15
theorem sc_L_wanted : FnScope ["_law_row_here", "_law_rows"] ["_law_row_here", "_law_rows"] (defScope s_L_wanted) := ⟨rfl, rfl, rfl, by decide +kernel, rfl, by decide +kernel, by decide +kernel⟩
def b_L_wanted (K : PySem.W.Frag) (Γ : Gm) : TS :=
  (sSeq (sIf (tTst (eBin (uNe K) (eBin (uIx K) (eVar 0) (eLit (.int 0))) (eLit (.str "merge")))) (sRet (eBin (uIx K) (eVar 0) (eLit (.int 1)))) sNil)
  (sSeq (sIf (tTst (eBin (uEq K) (eBin (uIx K) (eVar 1) (eBin (uIx K) (eVar 0) (eLit (.int 1)))) (eLst aNil))) (sRet (eTup (aCons (eBin (uIx K) (eVar 0) (eLit (.int 1))) aNil))) sNil)
  (sSeq (sIf (tTst (eBin (uEq K) (eBin (uIx K) (eBin (uIx K) (eVar 1) (eBin (uIx K) (eVar 0) (eLit (.int 1)))) (eLit (.int 0))) (eLit (.int 0)))) (sRet (eBin (uAdd K) (eTup (aCons (eBin (uIx K) (eVar 0) (eLit (.int 1))) aNil)) (eBin (uIx K) (eVar 0) (eLit (.int 3))))) sNil)
  (sRet (eBin (uAdd K) (eTup (aCons (eBin (uIx K) (eVar 0) (eLit (.int 1))) aNil)) (eBin (uIx K) (eVar 0) (eLit (.int 2))))))))
structure sp_L_wanted (K : PySem.W.Frag) (Γ : Gm) (vs : List V) (H : Hp) (Q : VK) (E : XK) : Prop where
  run : match vs with
  | [a0, a1] => b_L_wanted K Γ { nx := fun _ H' => Q .non H', rt := Q } [some a0, some a1] H
  | _ => False
theorem okf_L_wanted {f : Addr} {fd : FuncData} (F : L2.Fun K "_law_wanted" "_law_wanted" s_L_wanted f fd)  : FnOk P w K mg base CX0 (0 + 1) f fd ["_law_row_here", "_law_rows"] (sp_L_wanted K Γ) := by
  have nd := sc_L_wanted.nd
  refine F.ok (k := 0) sc_L_wanted (fun vs H Q E h => ?_) (fun cdv A outer s H vs Q E hr h => ⟨b_L_wanted K Γ, ?_, ?_⟩)
  · have h := h.run; split at h; exact rfl; exact h.elim
  · have hu64 := hr.units
    have hu1 := hu_of hr
    exact (zCons (zIf (qCmp (oNe hu64) (dIx (dVar 0) dInt) dStr) (zOne (zRet (dIx (dVar 0) dInt))) zNil)
  (zCons (zIf (qCmp (oEq hu64) (dIx (dVar 1) (dIx (dVar 0) dInt)) (dLst kNil)) (zOne (zRet (dTup (kCons (dIx (dVar 0) dInt) kNil)))) zNil)
  (zCons (zIf (qCmp (oEq hu64) (dIx (dIx (dVar 1) (dIx (dVar 0) dInt)) dInt) dInt) (zOne (zRet (dBin oAdd (dTup (kCons (dIx (dVar 0) dInt) kNil)) (dIx (dVar 0) dInt)))) zNil)
  (zOne (zRet (dBin oAdd (dTup (kCons (dIx (dVar 0) dInt) kNil)) (dIx (dVar 0) dInt)))))))
  · have h := h.run; split at h; exact h; exact h.elim
theorem bd_L_wanted {f : Addr} {fd : FuncData} (F : L2.Fun K "_law_wanted" "_law_wanted" s_L_wanted f fd) : Binds K fd ["_law_row_here", "_law_rows"] [] := F.binds (fun _ _ _ _ _ _ us hl => match us, hl with | [_, _], _ => rfl)
abbrev s_L_asked : Stmt := topS 17
theorem sc_L_asked : FnScope ["_law_part", "_law_yard", "_law_row_here", "_law_rows", "_law_found", "_law_line"] ["_law_part", "_law_yard", "_law_row_here", "_law_rows"] (defScope s_L_asked) := ⟨rfl, rfl, rfl, by decide +kernel, rfl, by decide +kernel, by decide +kernel⟩
def l_L_asked_1 (K : PySem.W.Frag) (Γ : Gm) : TS :=
  (sIf (tOr (tNot (tTst (eBlt (uIsi K) (aCons (eVar 5) (aCons (eLit (.ty "int")) aNil))))) (tTst (eBlt (uIsi K) (aCons (eVar 5) (aCons (eLit (.ty "bool")) aNil))))) (sRet (eLit (.bl false))) sNil)
theorem el_L_asked_1 {K : PySem.W.Frag} {Γ : Gm} {D : Ends} {σ : L2.St} {H : Hp} : l_L_asked_1 K Γ D σ H = ((sIf (tOr (tNot (tTst (eBlt (uIsi K) (aCons (eVar 5) (aCons (eLit (.ty "int")) aNil))))) (tTst (eBlt (uIsi K) (aCons (eVar 5) (aCons (eLit (.ty "bool")) aNil))))) (sRet (eLit (.bl false))) sNil)) D σ H := rfl
def b_L_asked (K : PySem.W.Frag) (Γ : Gm) : TS :=
  (sSeq (sSet 4 (eMth Γ "wants" [("Part", (sp_Part_wants K Γ)), ("Pass", (sp_Part_wants K Γ)), ("Work", (sp_Part_wants K Γ)), ("Choose", (sp_Part_wants K Γ)), ("Merge", (sp_Merge_wants K Γ))] E0 (eVar 0) (aCons (eVar 1) aNil)))
  (sSeq (sIf (tOr (tNot (tTst (eBlt (uIsi K) (aCons (eVar 4) (aCons (eLit (.ty "tuple")) aNil))))) (tTst (eBin (uNe K) (eVar 4) (eCall (sp_L_wanted K Γ) E0 (aCons (eVar 2) (aCons (eVar 3) aNil)))))) (sRet (eLit (.bl false))) sNil)
  (sSeq (sFor (cSq K (eVar 4)) (gNm 5) (l_L_asked_1 K Γ))
  (sRet (eBin (uEq K) (eMth Γ "stands" [("Yard", (sp_Yard_stands K Γ))] E0 (eVar 1) aNil) (eVar 3))))))
structure sp_L_asked (K : PySem.W.Frag) (Γ : Gm) (vs : List V) (H : Hp) (Q : VK) (E : XK) : Prop where
  run : match vs with
  | [a0, a1, a2, a3] => b_L_asked K Γ { nx := fun _ H' => Q .non H', rt := Q } [some a0, some a1, some a2, some a3, none, none] H
  | _ => False
theorem okf_L_asked {f : Addr} {fd : FuncData} (F : L2.Fun K "_law_asked" "_law_asked" s_L_asked f fd) (F_L_wanted : Fn P w K mg base CX0 (1) "_law_wanted" ["_law_row_here", "_law_rows"] (sp_L_wanted K Γ)) (M_Choose_wants : Mn P w K mg base Γ CX0 (1) "Choose" "wants" (sp_Part_wants K Γ)) (M_Merge_wants : Mn P w K mg base Γ CX0 (2) "Merge" "wants" (sp_Merge_wants K Γ)) (M_Part_wants : Mn P w K mg base Γ CX0 (1) "Part" "wants" (sp_Part_wants K Γ)) (M_Pass_wants : Mn P w K mg base Γ CX0 (1) "Pass" "wants" (sp_Part_wants K Γ)) (M_Work_wants : Mn P w K mg base Γ CX0 (1) "Work" "wants" (sp_Part_wants K Γ)) (M_Yard_stands : Mn P w K mg base Γ CX0 (1) "Yard" "stands" (sp_Yard_stands K Γ)) (m_bool : mg "bool" = none) (m_int : mg "int" = none) (m_isinstance : mg "isinstance" = none) (m_tuple : mg "tuple" = none) : FnOk P w K mg base CX0 (2 + 1) f fd ["_law_part", "_law_yard", "_law_row_here", "_law_rows"] (sp_L_asked K Γ) := by
  have nd := sc_L_asked.nd
  refine F.ok (k := 2) sc_L_asked (fun vs H Q E h => ?_) (fun cdv A outer s H vs Q E hr h => ⟨b_L_asked K Γ, ?_, ?_⟩)
  · have h := h.run; split at h; exact rfl; exact h.elim
  · have hu64 := hr.units
    have hu1 := hu_of hr
    exact (zCons (zSet (i := 4) nd rfl (by first | exact .inl rfl | exact .inr rfl) (dMth (Γ := Γ) (MOk.cons M_Part_wants (by omega) (MOk.cons M_Pass_wants (by omega) (MOk.cons M_Work_wants (by omega) (MOk.cons M_Choose_wants (by omega) (MOk.cons M_Merge_wants (by omega) MOk.nil))))) hr pass0 (dVar 0) (kCons (dVar 1) kNil)))
  (zCons (zIf (PW.pt (qOr (qNot (qVal (dBlt bIsi rfl m_isinstance (by decide +kernel) (kCons (dVar 4) (kCons (dTy rfl m_tuple (by decide +kernel)) kNil))))) (qOr1 (qCmp (oNe hu64) (dVar 4) (dFn F_L_wanted (hr.mono (by omega)) rfl pass0 (kCons (dVar 2) (kCons (dVar 3) kNil))))))) (zOne (zRet dBl)) zNil)
  (zCons (zFor PassesOwn.never rfl (kSq (dVar 4)) (tgNm (i := 5) nd rfl (by first | exact .inl rfl | exact .inr rfl)) (zOne (zIf (PW.pt (qOr (qNot (qVal (dBlt bIsi rfl m_isinstance (by decide +kernel) (kCons (dVar 5) (kCons (dTy rfl m_int (by decide +kernel)) kNil))))) (qOr1 (qVal (dBlt bIsi rfl m_isinstance (by decide +kernel) (kCons (dVar 5) (kCons (dTy rfl m_bool (by decide +kernel)) kNil))))))) (zOne (zRet dBl)) zNil)))
  (zOne (zRet (dCmp (oEq hu64) (dMth0 (Γ := Γ) (MOk.cons M_Yard_stands (by omega) MOk.nil) hr pass0 (dVar 1)) (dVar 3)))))))
  · have h := h.run; split at h; exact h; exact h.elim
theorem bd_L_asked {f : Addr} {fd : FuncData} (F : L2.Fun K "_law_asked" "_law_asked" s_L_asked f fd) : Binds K fd ["_law_part", "_law_yard", "_law_row_here", "_law_rows"] [] := F.binds (fun _ _ _ _ _ _ us hl => match us, hl with | [_, _, _, _], _ => rfl)
abbrev s_Yard_hand : Stmt := inClass (topS 2) 4
theorem sc_Yard_hand : FnScope ["self", "line", "thing"] ["self", "line", "thing"] (defScope s_Yard_hand) := ⟨rfl, rfl, rfl, by decide +kernel, rfl, by decide +kernel, by decide +kernel⟩
def b_Yard_hand (K : PySem.W.Frag) (Γ : Gm) : TS :=
  (sExp (eMl K uAppend (eBin (uIx K) (eFld Γ ["Yard"] "rows" (eVar 0)) (eVar 1)) (aCons (eVar 2) aNil)))
structure sp_Yard_hand (K : PySem.W.Frag) (Γ : Gm) (vs : List V) (H : Hp) (Q : VK) (E : XK) : Prop where
  run : match vs with
  | [a0, a1, a2] => b_Yard_hand K Γ { nx := fun _ H' => Q .non H', rt := Q } [some a0, some a1, some a2] H
  | _ => False
theorem okf_Yard_hand {f : Addr} {fd : FuncData} (F : L2.Fun K "hand" "Yard.hand" s_Yard_hand f fd) (W_rows : Flds K Γ ["Yard"] "rows") : FnOk P w K mg base CX0 (0 + 1) f fd ["self", "line", "thing"] (sp_Yard_hand K Γ) := by
  have nd := sc_Yard_hand.nd
  refine F.ok (k := 0) sc_Yard_hand (fun vs H Q E h => ?_) (fun cdv A outer s H vs Q E hr h => ⟨b_Yard_hand K Γ, ?_, ?_⟩)
  · have h := h.run; split at h; exact rfl; exact h.elim
  · have hu64 := hr.units
    have hu1 := hu_of hr
    exact (zOne (zExp (dMl PySem.F.slot_list_append PySem.F.type_list_append mAppend (dIx (dFld W_rows (dVar 0)) (dVar 1)) (kCons (dVar 2) kNil))))
  · have h := h.run; split at h; exact h; exact h.elim
theorem bd_Yard_hand {f : Addr} {fd : FuncData} (F : L2.Fun K "hand" "Yard.hand" s_Yard_hand f fd) : Binds K fd ["self", "line", "thing"] [] := F.binds (fun _ _ _ _ _ _ us hl => match us, hl with | [_, _, _], _ => rfl)
abbrev s_Yard_taken : Stmt := inClass (topS 2) 5
theorem sc_Yard_taken : FnScope ["self", "line"] ["self", "line"] (defScope s_Yard_taken) := ⟨rfl, rfl, rfl, by decide +kernel, rfl, by decide +kernel, by decide +kernel⟩
def b_Yard_taken (K : PySem.W.Frag) (Γ : Gm) : TS :=
  (sRet (eMl K uPop0 (eBin (uIx K) (eFld Γ ["Yard"] "rows" (eVar 0)) (eVar 1)) (aCons (eLit (.int 0)) aNil)))
structure sp_Yard_taken (K : PySem.W.Frag) (Γ : Gm) (vs : List V) (H : Hp) (Q : VK) (E : XK) : Prop where
  run : match vs with
  | [a0, a1] => b_Yard_taken K Γ { nx := fun _ H' => Q .non H', rt := Q } [some a0, some a1] H
  | _ => False
theorem okf_Yard_taken {f : Addr} {fd : FuncData} (F : L2.Fun K "taken" "Yard.taken" s_Yard_taken f fd) (W_rows : Flds K Γ ["Yard"] "rows") : FnOk P w K mg base CX0 (0 + 1) f fd ["self", "line"] (sp_Yard_taken K Γ) := by
  have nd := sc_Yard_taken.nd
  refine F.ok (k := 0) sc_Yard_taken (fun vs H Q E h => ?_) (fun cdv A outer s H vs Q E hr h => ⟨b_Yard_taken K Γ, ?_, ?_⟩)
  · have h := h.run; split at h; exact rfl; exact h.elim
  · have hu64 := hr.units
    have hu1 := hu_of hr
    exact (zOne (zRet (dMl PySem.F.slot_list_pop PySem.F.type_list_pop mPop0 (dIx (dFld W_rows (dVar 0)) (dVar 1)) (kCons dInt kNil))))
  · have h := h.run; split at h; exact h; exact h.elim
theorem bd_Yard_taken {f : Addr} {fd : FuncData} (F : L2.Fun K "taken" "Yard.taken" s_Yard_taken f fd) : Binds K fd ["self", "line"] [] := F.binds (fun _ _ _ _ _ _ us hl => match us, hl with | [_, _], _ => rfl)
abbrev s_L_first : Stmt := topS 16
theorem sc_L_first : FnScope ["_law_cell", "_law_k", "_law_m"] ["_law_cell", "_law_k"] (defScope s_L_first) := ⟨rfl, rfl, rfl, by decide +kernel, rfl, by decide +kernel, by decide +kernel⟩
def b_L_first (K : PySem.W.Frag) (Γ : Gm) : TS :=
  (sSeq (sSet 2 (eCall (sp_L_mixed K Γ) E0 (aCons (eVar 0) (aCons (eBin (uAdd K) (eVar 1) (eLit (.int 400))) aNil))))
  (sSeq (sIf (tTst (eBin (uEq K) (eBin (rMod) (eVar 2) (eLit (.int 2))) (eLit (.int 0)))) (sRet (eTup aNil)) sNil)
  (sRet (eTup (aCons (eIf (tTst (eBin (uEq K) (eBin (rMod) (eBin (rDiv) (eVar 2) (eLit (.int 2))) (eLit (.int 3))) (eLit (.int 0)))) (eCall (sp_L_number K Γ) E0 (aCons (eVar 0) (aCons (eBin (rDiv) (eVar 2) (eLit (.int 6))) aNil))) (eBin (rSub) (eBin (rMod) (eBin (rDiv) (eVar 2) (eLit (.int 2))) (eLit (.int 3))) (eLit (.int 1)))) aNil)))))
structure sp_L_first (K : PySem.W.Frag) (Γ : Gm) (vs : List V) (H : Hp) (Q : VK) (E : XK) : Prop where
  run : match vs with
  | [a0, a1] => b_L_first K Γ { nx := fun _ H' => Q .non H', rt := Q } [some a0, some a1, none] H
  | _ => False
theorem okf_L_first {f : Addr} {fd : FuncData} (F : L2.Fun K "_law_first" "_law_first" s_L_first f fd) (F_L_mixed : Fn P w K mg base CX0 (1) "_law_mixed" ["_law_cell", "_law_k"] (sp_L_mixed K Γ)) (F_L_number : Fn P w K mg base CX0 (1) "_law_number" ["_law_cell", "_law_way"] (sp_L_number K Γ)) : FnOk P w K mg base CX0 (1 + 1) f fd ["_law_cell", "_law_k"] (sp_L_first K Γ) := by
  have nd := sc_L_first.nd
  refine F.ok (k := 1) sc_L_first (fun vs H Q E h => ?_) (fun cdv A outer s H vs Q E hr h => ⟨b_L_first K Γ, ?_, ?_⟩)
  · have h := h.run; split at h; exact rfl; exact h.elim
  · have hu64 := hr.units
    have hu1 := hu_of hr
    exact (zCons (zSet (i := 2) nd rfl (by first | exact .inl rfl | exact .inr rfl) (dFn F_L_mixed (hr.mono (by omega)) rfl pass0 (kCons (dVar 0) (kCons (dBin oAdd (dVar 1) dInt) kNil))))
  (zCons (zIf (qCmp (oEq hu64) (dBin oMod (dVar 2) dInt) dInt) (zOne (zRet (dTup kNil))) zNil)
  (zOne (zRet (dTup (kCons (dIf (qCmp (oEq hu64) (dBin oMod (dBin oDiv (dVar 2) dInt) dInt) dInt) (dFn F_L_number (hr.mono (by omega)) rfl pass0 (kCons (dVar 0) (kCons (dBin oDiv (dVar 2) dInt) kNil))) (dBin oSub (dBin oMod (dBin oDiv (dVar 2) dInt) dInt) dInt)) kNil))))))
  · have h := h.run; split at h; exact h; exact h.elim
theorem bd_L_first {f : Addr} {fd : FuncData} (F : L2.Fun K "_law_first" "_law_first" s_L_first f fd) : Binds K fd ["_law_cell", "_law_k"] [] := F.binds (fun _ _ _ _ _ _ us hl => match us, hl with | [_, _], _ => rfl)
abbrev s_L_one : Stmt := topS 18
theorem sc_L_one : FnScope ["_law_cell", "_law_k", "_law_row_here", "_law_lines_here", "_law_j", "_law_rows", "_law_line", "_law_yard", "_law_part", "_law_thing"] ["_law_cell", "_law_k"] (defScope s_L_one) := ⟨rfl, rfl, rfl, by decide +kernel, rfl, by decide +kernel, by decide +kernel⟩
def b_L_one (K : PySem.W.Frag) (Γ : Gm) : TS :=
  (sSeq (sSet 2 (eCall (sp_L_row K Γ) E0 (aCons (eVar 0) (aCons (eVar 1) (aCons (eLit (.int 4)) aNil)))))
  (sSeq (sSet 3 (eLc (cR1 (eLit (.int 34))) (gNm 4) tYes (eTup (aCons (eLit (.int 2)) (aCons (eCall (sp_L_first K Γ) E0 (aCons (eVar 0) (aCons (eBin (uAdd K) (eVar 1) (eVar 4)) aNil))) aNil))) [4]))
  (sSeq (sSet 5 (eLc (cSq K (eVar 3)) (gNm 6) tYes (eBlt (uList K) (aCons (eBin (uIx K) (eVar 6) (eLit (.int 1))) aNil)) [6]))
  (sSeq (sSet 7 (eNew Γ "Yard" (sp_Yard___init__ K Γ) E0 (aCons (eVar 3) aNil)))
  (sSeq (sSet 8 (eCall (sp_part_of K Γ) E0 (aCons (eVar 2) aNil)))
  (sSeq (sIf (tOr (tTst (eBin (uNe K) (eIsC Γ [("Yard", false), ("Part", false), ("Pass", false), ("Work", false), ("Choose", false), ("Merge", true)] (eVar 8)) (eBin (uEq K) (eBin (uIx K) (eVar 2) (eLit (.int 0))) (eLit (.str "merge"))))) (tNot (tTst (eCall (sp_L_asked K Γ) E0 (aCons (eVar 8) (aCons (eVar 7) (aCons (eVar 2) (aCons (eVar 5) aNil)))))))) (sRet (eLit (.bl false))) sNil)
  (sSeq (sSet 6 (eBin (uIx K) (eCall (sp_L_wanted K Γ) E0 (aCons (eVar 2) (aCons (eVar 5) aNil))) (eLit (.int 0))))
  (sSeq (sIf (tTst (eBin (uEq K) (eBin (uIx K) (eVar 5) (eVar 6)) (eLst aNil))) (sSeq (sSet 9 (eBin (rMod) (eCall (sp_L_mixed K Γ) E0 (aCons (eVar 0) (aCons (eBin (uAdd K) (eVar 1) (eLit (.int 500))) aNil))) (eLit (.int 2))))
  (sSeq (sExp (eMth Γ "hand" [("Yard", (sp_Yard_hand K Γ))] E0 (eVar 7) (aCons (eVar 6) (aCons (eVar 9) aNil))))
  (sExp (eMl K uAppend (eBin (uIx K) (eVar 5) (eVar 6)) (aCons (eVar 9) aNil))))) (sSeq (sExp (eMth Γ "taken" [("Yard", (sp_Yard_taken K Γ))] E0 (eVar 7) (aCons (eVar 6) aNil)))
  (sExp (eMl K uPop0 (eBin (uIx K) (eVar 5) (eVar 6)) (aCons (eLit (.int 0)) aNil)))))
  (sRet (eCall (sp_L_asked K Γ) E0 (aCons (eVar 8) (aCons (eVar 7) (aCons (eVar 2) (aCons (eVar 5) aNil))))))))))))))
structure sp_L_one (K : PySem.W.Frag) (Γ : Gm) (vs : List V) (H : Hp) (Q : VK) (E : XK) : Prop where
  run : match vs with
  | [a0, a1] => b_L_one K Γ { nx := fun _ H' => Q .non H', rt := Q } [some a0, some a1, none, none, none, none, none, none, none, none] H
  | _ => False
theorem okf_L_one {f : Addr} {fd : FuncData} (F : L2.Fun K "_law_one" "_law_one" s_L_one f fd) (F_L_asked : Fn P w K mg base CX0 (3) "_law_asked" ["_law_part", "_law_yard", "_law_row_here", "_law_rows"] (sp_L_asked K Γ)) (F_L_first : Fn P w K mg base CX0 (2) "_law_first" ["_law_cell", "_law_k"] (sp_L_first K Γ)) (F_L_mixed : Fn P w K mg base CX0 (1) "_law_mixed" ["_law_cell", "_law_k"] (sp_L_mixed K Γ)) (F_L_row : Fn P w K mg base CX0 (3) "_law_row" ["_law_cell", "_law_k", "_law_span"] (sp_L_row K Γ)) (F_L_wanted : Fn P w K mg base CX0 (1) "_law_wanted" ["_law_row_here", "_law_rows"] (sp_L_wanted K Γ)) (F_part_of : Fn P w K mg base CX0 (5) "part_of" ["row"] (sp_part_of K Γ)) (I_Yard : Mi P w K mg base Γ CX0 (1) "Yard" (sp_Yard___init__ K Γ)) (M_Yard_hand : Mn P w K mg base Γ CX0 (1) "Yard" "hand" (sp_Yard_hand K Γ)) (M_Yard_taken : Mn P w K mg base Γ CX0 (1) "Yard" "taken" (sp_Yard_taken K Γ)) (m_isinstance : mg "isinstance" = none) (m_list : mg "list" = none) (m_range : mg "range" = none) (KT_Merge : Kits K mg Γ "Merge" [("Yard", false), ("Part", false), ("Pass", false), ("Work", false), ("Choose", false), ("Merge", true)]) : FnOk P w K mg base CX0 (5 + 1) f fd ["_law_cell", "_law_k"] (sp_L_one K Γ) := by
  have nd := sc_L_one.nd
  refine F.ok (k := 5) sc_L_one (fun vs H Q E h => ?_) (fun cdv A outer s H vs Q E hr h => ⟨b_L_one K Γ, ?_, ?_⟩)
  · have h := h.run; split at h; exact rfl; exact h.elim
  · have hu64 := hr.units
    have hu1 := hu_of hr
    exact (zCons (zSet (i := 2) nd rfl (by first | exact .inl rfl | exact .inr rfl) (dFn F_L_row (hr.mono (by omega)) rfl pass0 (kCons (dVar 0) (kCons (dVar 1) (kCons dInt kNil)))))
  (zCons (zSetLc (i := 3) (own := [("_law_j", 4)]) rfl nd rfl rfl (sw_true rfl rfl rfl (by decide +kernel)) (kR1 rfl m_range dInt) (blkOk_by (by first | (show blkC ["_law_cell", "_law_k", "_law_row_here", "_law_lines_here", "_law_j", "_law_rows", "_law_line", "_law_yard", "_law_part", "_law_thing"] (defScope s_L_one) _ _ = true; decide +kernel) | rfl)) (fun _ _ _ _ _ => (tgNm (i := 4) nd rfl (by first | exact .inl rfl | exact .inr rfl))) (fun _ _ _ _ _ => iNo) (fun _ _ _ _ _ => (dTup (kCons dInt (kCons (dFn F_L_first (hr.mono (by omega)) rfl pass0 (kCons (dVar 0) (kCons (dBin oAdd (dVar 1) (dVar 4)) kNil))) kNil)))))
  (zCons (zSetLc (i := 5) (own := [("_law_line", 6)]) rfl nd rfl rfl (sw_true rfl rfl rfl (by decide +kernel)) (kSq (dVar 3)) (blkOk_by (by first | (show blkC ["_law_cell", "_law_k", "_law_row_here", "_law_lines_here", "_law_j", "_law_rows", "_law_line", "_law_yard", "_law_part", "_law_thing"] (defScope s_L_one) _ _ = true; decide +kernel) | rfl)) (fun _ _ _ _ _ => (tgNm (i := 6) nd rfl (by first | exact .inl rfl | exact .inr rfl))) (fun _ _ _ _ _ => iNo) (fun _ _ _ _ _ => (dBty bList rfl m_list (by decide +kernel) (kCons (dIx (dVar 6) dInt) kNil))))
  (zCons (zSet (i := 7) nd rfl (by first | exact .inl rfl | exact .inr rfl) (dNew I_Yard (hr.mono (by omega)) rfl pass0 (kCons (dVar 3) kNil)))
  (zCons (zSet (i := 8) nd rfl (by first | exact .inl rfl | exact .inr rfl) (dFn F_part_of (hr.mono (by omega)) rfl pass0 (kCons (dVar 2) kNil)))
  (zCons (zIf (PW.pt (qOr (qCmp (oNe hu64) (dIsC (KT_Merge) rfl m_isinstance (by decide +kernel) (dVar 8)) (dCmp (oEq hu64) (dIx (dVar 2) dInt) dStr)) (qOr1 (qNot (qVal (dFn F_L_asked (hr.mono (by omega)) rfl pass0 (kCons (dVar 8) (kCons (dVar 7) (kCons (dVar 2) (kCons (dVar 5) kNil)))))))))) (zOne (zRet dBl)) zNil)
  (zCons (zSet (i := 6) nd rfl (by first | exact .inl rfl | exact .inr rfl) (dIx (dFn F_L_wanted (hr.mono (by omega)) rfl pass0 (kCons (dVar 2) (kCons (dVar 5) kNil))) dInt))
  (zCons (zIf (qCmp (oEq hu64) (dIx (dVar 5) (dVar 6)) (dLst kNil)) (zCons (zSet (i := 9) nd rfl (by first | exact .inl rfl | exact .inr rfl) (dBin oMod (dFn F_L_mixed (hr.mono (by omega)) rfl pass0 (kCons (dVar 0) (kCons (dBin oAdd (dVar 1) dInt) kNil))) dInt))
  (zCons (zExp (dMth (Γ := Γ) (MOk.cons M_Yard_hand (by omega) MOk.nil) hr pass0 (dVar 7) (kCons (dVar 6) (kCons (dVar 9) kNil))))
  (zOne (zExp (dMl PySem.F.slot_list_append PySem.F.type_list_append mAppend (dIx (dVar 5) (dVar 6)) (kCons (dVar 9) kNil)))))) (zCons (zExp (dMth (Γ := Γ) (MOk.cons M_Yard_taken (by omega) MOk.nil) hr pass0 (dVar 7) (kCons (dVar 6) kNil)))
  (zOne (zExp (dMl PySem.F.slot_list_pop PySem.F.type_list_pop mPop0 (dIx (dVar 5) (dVar 6)) (kCons dInt kNil))))))
  (zOne (zRet (dFn F_L_asked (hr.mono (by omega)) rfl pass0 (kCons (dVar 8) (kCons (dVar 7) (kCons (dVar 2) (kCons (dVar 5) kNil)))))))))))))))
  · have h := h.run; split at h; exact h; exact h.elim
theorem bd_L_one {f : Addr} {fd : FuncData} (F : L2.Fun K "_law_one" "_law_one" s_L_one f fd) : Binds K fd ["_law_cell", "_law_k"] [] := F.binds (fun _ _ _ _ _ _ us hl => match us, hl with | [_, _], _ => rfl)
abbrev s_law : Stmt := topS 19
theorem sc_law : FnScope ["_law_script", "_law_cells", "_law_k", "_law_cell"] ["_law_script"] (defScope s_law) := ⟨rfl, rfl, rfl, by decide +kernel, rfl, by decide +kernel, by decide +kernel⟩
def l_law_1 (K : PySem.W.Frag) (Γ : Gm) : TS :=
  (sIf (tNot (tTst (eCall (sp_L_one K Γ) E0 (aCons (eVar 3) (aCons (eVar 2) aNil))))) (sRet (eLit (.bl false))) sNil)
theorem el_law_1 {K : PySem.W.Frag} {Γ : Gm} {D : Ends} {σ : L2.St} {H : Hp} : l_law_1 K Γ D σ H = ((sIf (tNot (tTst (eCall (sp_L_one K Γ) E0 (aCons (eVar 3) (aCons (eVar 2) aNil))))) (sRet (eLit (.bl false))) sNil)) D σ H := rfl
def b_law (K : PySem.W.Frag) (Γ : Gm) : TS :=
  (sSeq (sSet 1 (eBlt (uList K) (aCons (eVar 0) aNil)))
  (sSeq (sIf (tTst (eBin (uEq K) (eBlt (uLen K) (aCons (eVar 1) aNil)) (eLit (.int 0)))) (sSet 1 (eLst (aCons (eLit (.int 0)) aNil))) sNil)
  (sSeq (sForP (cEn K (eVar 1)) (gPr K 2 3) (l_law_1 K Γ))
  (sRet (eLit (.bl true))))))
structure sp_law (K : PySem.W.Frag) (Γ : Gm) (vs : List V) (H : Hp) (Q : VK) (E : XK) : Prop where
  run : match vs with
  | [a0] => b_law K Γ { nx := fun _ H' => Q .non H', rt := Q } [some a0, none, none, none] H
  | _ => False
theorem okf_law {f : Addr} {fd : FuncData} (F : L2.Fun K "law" "law" s_law f fd) (F_L_one : Fn P w K mg base CX0 (6) "_law_one" ["_law_cell", "_law_k"] (sp_L_one K Γ)) (m_enumerate : mg "enumerate" = none) (m_len : mg "len" = none) (m_list : mg "list" = none) : FnOk P w K mg base CX0 (6 + 1) f fd ["_law_script"] (sp_law K Γ) := by
  have nd := sc_law.nd
  refine F.ok (k := 6) sc_law (fun vs H Q E h => ?_) (fun cdv A outer s H vs Q E hr h => ⟨b_law K Γ, ?_, ?_⟩)
  · have h := h.run; split at h; exact rfl; exact h.elim
  · have hu64 := hr.units
    have hu1 := hu_of hr
    exact (zCons (zSet (i := 1) nd rfl (by first | exact .inl rfl | exact .inr rfl) (dBty bList rfl m_list (by decide +kernel) (kCons (dVar 0) kNil)))
  (zCons (zIf (qCmp (oEq hu64) (dBlt bLen rfl m_len (by decide +kernel) (kCons (dVar 1) kNil)) dInt) (zOne (zSet (i := 1) nd rfl (by first | exact .inl rfl | exact .inr rfl) (dLst (kCons dInt kNil)))) zNil)
  (zCons (zForP PassesOwn.never rfl (kEn rfl m_enumerate (dVar 1)) (tgPr (i := 2) (j := 3) nd rfl (by first | exact .inl rfl | exact .inr rfl) rfl (by first | exact .inl rfl | exact .inr rfl)) (zOne (zIf (qNot (qVal (dFn F_L_one (hr.mono (by omega)) rfl pass0 (kCons (dVar 3) (kCons (dVar 2) kNil))))) (zOne (zRet dBl)) zNil)))
  (zOne (zRet dBl)))))
  · have h := h.run; split at h; exact h; exact h.elim
theorem bd_law {f : Addr} {fd : FuncData} (F : L2.Fun K "law" "law" s_law f fd) : Binds K fd ["_law_script"] [] := F.binds (fun _ _ _ _ _ _ us hl => match us, hl with | [_], _ => rfl)
end
def spL (K : PySem.W.Frag) : Sp := fun vs H Q E => ∀ Γ, sp_law K Γ vs H Q E

def big : Int := 1000000000000000000000000000000
theorem e30 : (10 : Int) ^ Int.toNat 30 = 1000000000000000000000000000000 := by decide +kernel
theorem e60 : (10 : Int) ^ Int.toNat 60 = 1000000000000000000000000000000000000000000000000000000000000 := by decide +kernel
theorem cp30 : CPow 10 30 := ⟨by decide, by decide, by decide⟩
theorem cp60 : CPow 10 60 := ⟨by decide, by decide, by decide⟩
theorem bits30 {a : Int} (h : 0 ≤ a ∧ a < big) : Builtin.Int.intBits a ≤ 101 := bitsOf (a := 100) (by unfold big at h; omega)
section
variable {K : PySem.W.Frag} {Γ : Gm} {H : Hp} {Q : VK} {E : XK}
theorem sq_nat {n m : Nat} (h : n ≤ m) : n * n ≤ m * m := Nat.mul_le_mul h h
theorem c_mixed (c k : Int) (hk : 0 ≤ k ∧ k ≤ 1000000) (q : ∀ i : Int, 0 ≤ i → i < 2147483647 → Q (.int i) H) : sp_L_mixed K Γ [.int c, .int k] H Q E := by
  refine ⟨?_⟩
  unfold b_L_mixed
  walk_at "ex"
  obtain ⟨n, rfl⟩ := Int.eq_ofNat_of_zero_le hk.1
  have h1 : n * n ≤ 1000000 * 1000000 := sq_nat (by omega)
  have h2 : ((n : Int) * n) = ((n * n : Nat) : Int) := by simp
  rw [h2]
  have hm : 0 ≤ (c % 2147483647 * 48271 + (((n * n : Nat) : Int) + 3 * n + 7) * 69621) % 2147483647 ∧ (c % 2147483647 * 48271 + (((n * n : Nat) : Int) + 3 * n + 7) * 69621) % 2147483647 < 2147483647 := by omega
  refine ⟨by decide, mulOk (a := 65) (b := 65) (bitsOf (by omega)) (by decide), mulOk (a := 65) (b := 65) (bitsOf (by omega)) (bitsOf (by omega)), mulOk (a := 65) (b := 65) (by decide) (bitsOf (by omega)), mulOk (a := 65) (b := 65) (bitsOf (by omega)) (by decide), by decide, ?_⟩
  exact ⟨mulOk (a := 65) (b := 65) (bitsOf (by omega)) (bitsOf (by omega)), by decide, q _ (by omega) (by omega)⟩
theorem c_number (c w : Int) (hw : 0 ≤ w ∧ w ≤ 4294967296) (q : ∀ i : Int, 0 ≤ i ∧ i < big → Q (.int i) H) : sp_L_number K Γ [.int c, .int w] H Q E := by
  refine ⟨?_⟩
  unfold b_L_number
  walk_at "ex"
  rw [e60]
  refine ⟨cp60, by decide, ?_⟩
  have hc : 0 ≤ c % 1000000000000000000000000000000000000000000000000000000000000 ∧ c % 1000000000000000000000000000000000000000000000000000000000000 < 1000000000000000000000000000000000000000000000000000000000000 := by omega
  generalize c % 1000000000000000000000000000000000000000000000000000000000000 = c at hc
  unfold big at q
  walk_at "if"
  refine ⟨by decide, ?_⟩
  split
  · exact ⟨by decide, q _ (by omega)⟩
  walk_at "if"
  refine ⟨by decide, ?_⟩
  split
  · rw [e30]
    exact ⟨cp30, by decide, q _ (by omega)⟩
  walk_at "if"
  refine ⟨by decide, ?_⟩
  split
  · rw [e30]
    exact ⟨cp30, by decide, q _ (by omega)⟩
  rw [e30]
  obtain ⟨n, rfl⟩ := Int.eq_ofNat_of_zero_le hw.1
  have h1 : n * n ≤ 4294967296 * 4294967296 := sq_nat (by omega)
  have h2 : ((n : Int) * n) = ((n * n : Nat) : Int) := by simp
  rw [h2]
  have h3 : (c + 1).natAbs < 2 ^ 200 := by omega
  have h4 : (((n * n : Nat) : Int) + 11).natAbs < 2 ^ 65 := by omega
  exact ⟨mulOk (a := 65) (b := 65) (bitsOf (by omega)) (bitsOf (by omega)), mulOk (bitsOf h3) (bitsOf h4), mulOk (b := 101) (bitsOf (wide_lt h3 h4)) (by decide), cp30, by decide, q _ (by omega)⟩
end

theorem Grow.of {F H H' : Hp} (s : Same F H) (t : Same H H') : Grow F H F H' := ⟨Same.refl _, s.trans t, t, fun _ h _ => h⟩
theorem Grow.s {F H F' H' : Hp} (g : Grow F H F' H') : Same F' H' := g.fh
/-- a new thing is written, that may be written again -/
theorem Grow.cell {F H F' H' : Hp} {x : Addr} {o : HO} (g : Grow F H F' H') (h1 : F' x = none) (h2 : H x = none) : Grow F H F' (upd H' x o) := ⟨g.ff, Same.up g.fh h1, Same.up g.hh h2, g.apart⟩
/-- .. is shut: it isn't written any more -/
theorem Grow.shut {F H F' H' : Hp} {x : Addr} {o : HO} (g : Grow F H F' H') (h1 : F' x = none) (h2 : H x = none) (h3 : H' x = some o) : Grow F H (upd F' x o) H' := ⟨g.ff.trans (Same.new h1), fun b u e => by
  by_cases h : b = x
  · subst h
    rw [upd_same] at e
    cases e
    exact h3
  · rw [upd_ne h] at e
    exact g.fh _ _ e, g.hh, fun b z1 z2 => by
    have : b ≠ x := fun e => z2 (by rw [e]; exact h2)
    rw [upd_ne this]
    exact g.apart b z1 z2⟩
def put {α : Type} (f : Nat → α) (q : Nat) (x : α) : Nat → α := fun z => if z = q then x else f z
theorem put_same {α : Type} {f : Nat → α} {q : Nat} {x : α} : put f q x q = x := if_pos rfl
theorem put_ne {α : Type} {f : Nat → α} {q z : Nat} {x : α} (h : z ≠ q) : put f q x z = f z := if_neg h
/-- rows of cells of one's own, all apart -/
structure Own (F H : Hp) (ad : Nat → List Addr) (R : Nat → List HO) : Prop where
  s : Same F H
  c : ∀ {q i : Nat} {a : Addr}, (ad q)[i]? = some a → ∃ o, (R q)[i]? = some o ∧ Cell F H a o
  len : ∀ q, (ad q).length = (R q).length
  inj : ∀ {q i q' i' : Nat} {a : Addr}, (ad q)[i]? = some a → (ad q')[i']? = some a → q = q' ∧ i = i'
theorem Own.grow {F H F' H' : Hp} {ad : Nat → List Addr} {R : Nat → List HO} (o : Own F H ad R) (g : Grow F H F' H') : Own F' H' ad R := ⟨g.fh, fun h => by
  obtain ⟨u, e, c⟩ := o.c h
  exact ⟨u, e, c.grow g⟩, o.len, o.inj⟩
theorem Own.set {F H : Hp} {ad : Nat → List Addr} {R : Nat → List HO} {q i : Nat} {a : Addr} {u : HO} (o : Own F H ad R) (h : (ad q)[i]? = some a) : Own F (upd H a u) ad (put R q ((R q).set i u)) := ⟨Same.up o.s (o.c h).choose_spec.2.f, fun {q' i' b} h' => by
  obtain ⟨v, e, c⟩ := o.c h'
  by_cases z : b = a
  · subst z
    obtain ⟨rfl, rfl⟩ := o.inj h' h
    refine ⟨u, ?_, c.set⟩
    rw [put_same, List.getElem?_set_self]
    exact (List.getElem?_eq_some_iff.mp e).1
  · refine ⟨v, ?_, c.other z⟩
    by_cases y : q' = q
    · subst y
      rw [put_same, List.getElem?_set_ne, e]
      rintro rfl
      rw [h] at h'
      exact z (Option.some.inj h').symm
    · rw [put_ne y]
      exact e, fun q' => by
  by_cases y : q' = q
  · subst y; rw [put_same, List.length_set]; exact o.len q'
  · rw [put_ne y]; exact o.len q', o.inj⟩
/-- new cells -/
structure Nw (H0 H : Hp) (ps : List Addr) (os : List HO) : Prop where
  nd : ps.Nodup
  fr : ∀ p ∈ ps, H0 p = none
  at' : ∀ {i : Nat} {p : Addr}, ps[i]? = some p → ∃ o, os[i]? = some o ∧ H p = some o
  len : ps.length = os.length
theorem Nw.nil {H0 H : Hp} : Nw H0 H [] [] := ⟨List.nodup_nil, fun _ h => (nomatch h), fun h => (nomatch h), rfl⟩
theorem Nw.mem {H0 H : Hp} {ps : List Addr} {os : List HO} (n : Nw H0 H ps os) {p : Addr} (h : p ∈ ps) : ∃ o, H p = some o := by
  obtain ⟨i, hi⟩ := List.getElem?_of_mem h
  obtain ⟨o, _, e⟩ := n.at' hi
  exact ⟨o, e⟩
theorem Nw.push {H0 H : Hp} {ps : List Addr} {os : List HO} {p : Addr} {o : HO} (n : Nw H0 H ps os) (s : Same H0 H) (h : H p = none) : Nw H0 (upd H p o) (ps ++ [p]) (os ++ [o]) := ⟨by
  rw [List.nodup_append]
  refine ⟨n.nd, by simp, fun a ha b hb => ?_⟩
  rw [List.mem_singleton] at hb
  subst hb
  obtain ⟨u, e⟩ := n.mem ha
  exact ne_of_none e h, fun a ha => by
  rcases List.mem_append.mp ha with ha | ha
  · exact n.fr a ha
  · rw [List.mem_singleton] at ha
    subst ha
    exact Same.free s h, fun {i a} hi => by
  by_cases z : i < ps.length
  · rw [List.getElem?_append_left z] at hi
    obtain ⟨u, e1, e2⟩ := n.at' hi
    refine ⟨u, ?_, ?_⟩
    · rw [List.getElem?_append_left (by rw [← n.len]; exact z)]
      exact e1
    · rw [upd_ne (ne_of_none e2 h)]
      exact e2
  · rw [List.getElem?_append_right (by omega)] at hi
    have hz : i - ps.length = 0 := by
      have := (List.getElem?_eq_some_iff.mp hi).1
      simp at this
      omega
    rw [hz] at hi
    simp at hi
    subst hi
    refine ⟨o, ?_, upd_same⟩
    rw [List.getElem?_append_right (by rw [← n.len]; omega), ← n.len, hz]
    rfl, by simp [n.len]⟩
theorem Nw.same {H0 H H' : Hp} {ps : List Addr} {os : List HO} (n : Nw H0 H ps os) (s : Same H H') : Nw H0 H' ps os := ⟨n.nd, n.fr, fun h => by
  obtain ⟨o, e, z⟩ := n.at' h
  exact ⟨o, e, s _ _ z⟩, n.len⟩
theorem Nw.wr {H0 H : Hp} {ps : List Addr} {os : List HO} {x : Addr} {u : HO} (n : Nw H0 H ps os) (h : x ∉ ps) : Nw H0 (upd H x u) ps os := ⟨n.nd, n.fr, fun {i p} hi => by
  obtain ⟨o, e, z⟩ := n.at' hi
  refine ⟨o, e, ?_⟩
  rw [upd_ne (fun e2 => h (by rw [← e2]; exact List.mem_of_getElem? hi))]
  exact z, n.len⟩
theorem Nw.back {H0 H1 H : Hp} {ps : List Addr} {os : List HO} (n : Nw H1 H ps os) (s : Same H0 H1) : Nw H0 H ps os := ⟨n.nd, fun p h => Same.free s (n.fr p h), n.at', n.len⟩
theorem Own.add {F H F' H' : Hp} {ad : Nat → List Addr} {R : Nat → List HO} {q : Nat} {ps : List Addr} {os : List HO} (o : Own F H ad R) (g : Grow F H F' H') (n : Nw H H' ps os) (hf : ∀ p ∈ ps, F' p = none) (hq : ad q = []) : Own F' H' (put ad q ps) (put R q os) := by
  have o' := o.grow g
  have old : ∀ {q' i : Nat} {a : Addr}, (ad q')[i]? = some a → a ∉ ps := fun h z => by
    obtain ⟨u, _, c⟩ := o.c h
    have := n.fr _ z
    rw [c.h] at this
    cases this
  refine ⟨g.fh, fun {q' i a} h => ?_, fun q' => ?_, fun {q1 i1 q2 i2 a} h1 h2 => ?_⟩
  · by_cases y : q' = q
    · subst y
      rw [put_same] at h ⊢
      obtain ⟨u, e1, e2⟩ := n.at' h
      exact ⟨u, e1, hf _ (List.mem_of_getElem? h), e2⟩
    · rw [put_ne y] at h ⊢
      exact o'.c h
  · by_cases y : q' = q
    · subst y; rw [put_same, put_same]; exact n.len
    · rw [put_ne y, put_ne y]; exact o.len q'
  · by_cases y1 : q1 = q <;> by_cases y2 : q2 = q
    · subst y1; subst y2
      rw [put_same] at h1 h2
      refine ⟨rfl, ?_⟩
      exact (List.getElem?_inj (List.getElem?_eq_some_iff.mp h1).1 n.nd).mp (h1.trans h2.symm)
    · subst y1
      rw [put_same] at h1
      rw [put_ne y2] at h2
      exact (old h2 (List.mem_of_getElem? h1)).elim
    · subst y2
      rw [put_same] at h2
      rw [put_ne y1] at h1
      exact (old h1 (List.mem_of_getElem? h2)).elim
    · rw [put_ne y1] at h1
      rw [put_ne y2] at h2
      exact o.inj h1 h2
theorem Own.zero {F H : Hp} (s : Same F H) : Own F H (fun _ => []) (fun _ => []) := ⟨s, fun h => by simp at h, fun _ => rfl, fun h => by simp at h⟩
/-! data that can be laid side by side -/
inductive Pl : Nat → PyData → Prop
  | none {n : Nat} : Pl n .none
  | bool {n : Nat} {b : Bool} : Pl n (.bool b)
  | int {n : Nat} {i : Int} : Pl n (.int i)
  | str {n : Nat} {x : Str} (h : (PyData.str x).canLay0 = true) : Pl n (.str x)
  | list {n : Nat} {ds : List PyData} (hs : ∀ d ∈ ds, Pl n d) : Pl (n + 1) (.list ds)
  | tuple {n : Nat} {ds : List PyData} (hs : ∀ d ∈ ds, Pl n d) : Pl (n + 1) (.tuple ds)
theorem all_lay {ds : List PyData} (h : ∀ d ∈ ds, d.canLay0 = true) : PyData.canLayAll0 ds = true := by
  induction ds with
  | nil => rfl
  | cons d ds ih =>
    rw [PyData.canLayAll0, h d List.mem_cons_self, ih fun x hx => h x (List.mem_cons_of_mem _ hx)]
    rfl
theorem all_deep {n : Nat} {ds : List PyData} (h : ∀ d ∈ ds, d.depth ≤ n) : PyData.depthAll ds ≤ n := by
  induction ds with
  | nil => simp [PyData.depthAll]
  | cons d ds ih =>
    rw [PyData.depthAll]
    have := h d List.mem_cons_self
    have := ih fun x hx => h x (List.mem_cons_of_mem _ hx)
    omega
theorem Pl.ok {n : Nat} {d : PyData} (h : Pl n d) : d.canLay0 = true ∧ d.depth ≤ n := by
  induction h with
  | none => exact ⟨rfl, by simp [PyData.depth]⟩
  | bool => exact ⟨rfl, by simp [PyData.depth]⟩
  | int => exact ⟨rfl, by simp [PyData.depth]⟩
  | str h => exact ⟨h, by simp [PyData.depth]⟩
  | list hs ih => exact ⟨all_lay fun d hd => (ih d hd).1, Nat.succ_le_succ (all_deep fun d hd => (ih d hd).2)⟩
  | tuple hs ih => exact ⟨all_lay fun d hd => (ih d hd).1, Nat.succ_le_succ (all_deep fun d hd => (ih d hd).2)⟩
theorem Pl.shaped {n : Nat} {d : PyData} (h : Pl n d) (hn : n ≤ 64) : SeqAt.shaped d = true := by
  have := h.ok
  rw [SeqAt.shaped, this.1, Bool.true_and, decide_eq_true (by omega)]
theorem all_eq {ds : List PyData} (h : ∀ d ∈ ds, PyData.eqv d d = true) : PyData.eqvAll ds ds = true := by
  induction ds with
  | nil => rfl
  | cons d ds ih =>
    rw [PyData.eqvAll, h d List.mem_cons_self, ih fun x hx => h x (List.mem_cons_of_mem _ hx)]
    rfl
theorem Pl.eq {n : Nat} {d : PyData} (h : Pl n d) : PyData.eqv d d = true := by
  induction h with
  | none => rfl
  | bool => simp [PyData.eqv]
  | int => simp [PyData.eqv]
  | str h => simp [PyData.eqv]
  | list hs ih => rw [PyData.eqv]; exact all_eq ih
  | tuple hs ih => rw [PyData.eqv]; exact all_eq ih
theorem Pl.ints {n : Nat} {r : List Int} : Pl (n + 1) (.list (r.map .int)) := .list fun d h => by
  obtain ⟨i, _, rfl⟩ := List.mem_map.mp h
  exact .int
theorem cutV_mem {xs : List V} {lo hi : Option Int} {v : V} (h : v ∈ cutV xs lo hi) : v ∈ xs := List.mem_of_mem_drop (List.mem_of_mem_take h)
theorem enumV_cons {k : Nat} {x : V} {xs : List V} : enumV k (x :: xs) = (.int k, x) :: enumV (k + 1) xs := by
  unfold enumV
  rw [List.zipIdx_cons, List.map_cons]

def Ints (r : List Int) : HO := .lst (r.map V.int)
def lenV : Option Int → V
  | none => .non
  | some k => .int k
def Ln (K : PySem.W.Frag) (F : Hp) (v : V) (l : Option Int) (r : List Int) : Prop := ∃ a b, v = .ref a ∧ SqT K F a [lenV l, .ref b] ∧ SqT K F b (r.map V.int)
theorem Ln.same {K : PySem.W.Frag} {F F' : Hp} {v : V} {l : Option Int} {r : List Int} (h : Ln K F v l r) (s : Same F F') : Ln K F' v l r := by
  obtain ⟨a, b, e, h1, h2⟩ := h
  exact ⟨a, b, e, Same.sqT s h1, Same.sqT s h2⟩
section
variable {K : PySem.W.Frag} {Γ : Gm} {F H : Hp} {Q : VK} {E : XK}
/-- a yard at rest in F: the rows' addresses as -/
def Yd (K : PySem.W.Frag) (Γ : Gm) (F : Hp) (v : V) (ls : List (Option Int)) (ps : List Addr) : Prop := ∃ y dx A B, v = .ref y ∧ F y = some (.ins (Γ "Yard") dx [("lengths", .ref A), ("rows", .ref B)]) ∧ F A = some (.lst (ls.map lenV)) ∧ F B = some (.lst (ps.map V.ref))
theorem Yd.same {F F' : Hp} {v : V} {ls : List (Option Int)} {ps : List Addr} (h : Yd K Γ F v ls ps) (s : Same F F') : Yd K Γ F' v ls ps := by
  obtain ⟨y, dx, A, B, e, h1, h2, h3⟩ := h
  exact ⟨y, dx, A, B, e, s _ _ h1, s _ _ h2, s _ _ h3⟩
theorem at_map {α : Type} {f : α → V} {xs : List α} {i : Nat} {x : α} (h : xs[i]? = some x) : atI (xs.map f) (i : Int) = some (f x) := atNat (by rw [List.getElem?_map, h]; rfl)
theorem c_hand {v : V} {ls : List (Option Int)} {ps : List Addr} {i : Nat} {a : Addr} {r : List Int} {x : Int} (y : Yd K Γ H v ls ps) (hi : ps[i]? = some a) (ha : H a = some (Ints r)) (hr : r.length ≤ 1000) (q : Q .non (upd H a (Ints (r ++ [x])))) : sp_Yard_hand K Γ [v, .int i, .int x] H Q E := by
  have := sz
  obtain ⟨y, dx, A, B, rfl, h1, h2, h3⟩ := y
  refine ⟨?_⟩
  unfold b_Yard_hand
  walk_at "ex"
  refine ⟨_, dx, _, List.mem_cons_self, h1, .ref B, rfl, _, _, .inl (SqL.of h3), at_map hi, ?_⟩
  walk_at "ex"
  refine ⟨⟨_, SqL.of ha⟩, _, ha, by rw [List.length_map]; omega, ?_⟩
  have e : upd H a (Ints (r ++ [x])) = upd H a (.lst (r.map V.int ++ [.int x])) := by rw [Ints, List.map_append]; rfl
  rw [← e]
  exact q
theorem c_taken {v : V} {ls : List (Option Int)} {ps : List Addr} {i : Nat} {a : Addr} {r : List Int} {x : Int} (y : Yd K Γ H v ls ps) (hi : ps[i]? = some a) (ha : H a = some (Ints (x :: r))) (q : Q (.int x) (upd H a (Ints r))) : sp_Yard_taken K Γ [v, .int i] H Q E := by
  obtain ⟨y, dx, A, B, rfl, h1, h2, h3⟩ := y
  refine ⟨?_⟩
  unfold b_Yard_taken
  walk_at "ex"
  refine ⟨_, dx, _, List.mem_cons_self, h1, .ref B, rfl, _, _, .inl (SqL.of h3), at_map hi, ?_⟩
  walk_at "ex"
  exact ⟨⟨_, SqL.of ha⟩, trivial, _, _, ha, q⟩
theorem c_first {v : V} {ls : List (Option Int)} {ps : List Addr} {i : Nat} {a : Addr} {r : List Int} (s : Same F H) (y : Yd K Γ H v ls ps) (hi : ps[i]? = some a) (ha : H a = some (Ints r)) (q : ∀ H', Grow F H F H' → Q (r.head?.elim .non V.int) H') : sp_Yard_first K Γ [v, .int i] H Q E := by
  have hy := y
  obtain ⟨y, dx, A, B, rfl, h1, h2, h3⟩ := y
  refine ⟨?_⟩
  unfold b_Yard_first
  walk_at "if"
  refine ⟨_, dx, _, List.mem_cons_self, h1, .ref B, rfl, _, _, .inl (SqL.of h3), at_map hi, ?_⟩
  walk_at "ex"
  refine ⟨by decide, fun p hp => ?_⟩
  have g := Grow.drop (o := .lst []) s hp
  have t : Same H (upd H p (.lst [])) := Same.new hp
  refine ⟨.list (r.map .int), .list [], .lst (SqL.of (t _ _ ha)) (DpAll.same t DpAll.ints), .lst (SqL.of upd_same) .nil, ?_, by decide, ?_⟩
  · exact (Pl.ints (n := 0)).shaped (by decide)
  cases r with
  | nil => exact q _ g
  | cons x r =>
    simp only [List.map_cons, PyData.eqv, PyData.eqvAll]
    refine ⟨_, dx, _, List.mem_cons_self, t _ _ h1, .ref B, rfl, _, _, .inl (SqL.of (t _ _ h3)), at_map hi, ?_⟩
    walk_at "ex"
    exact ⟨_, .int x, .inl (SqL.of (t _ _ ha)), at_map (i := 0) (xs := x :: r) rfl, q _ g⟩
/-- what the rows hold, as data -/
def rowsD (rs : List (List Int)) : PyData := .list (rs.map fun r => .list (r.map .int))
theorem rowsD_sh {rs : List (List Int)} {n : Nat} (h : rs.length ≤ 1000) (hr : ∀ r ∈ rs, r.length ≤ 1000) : Sh (n + 2) (rowsD rs) := .list (by simp; omega) fun d hd => by
  obtain ⟨r, h1, rfl⟩ := List.mem_map.mp hd
  refine .list (by have := hr r h1; simp; omega) fun d hd => ?_
  obtain ⟨i, _, rfl⟩ := List.mem_map.mp hd
  exact .int
theorem rowsD_pl {rs : List (List Int)} : Pl 2 (rowsD rs) := .list fun d hd => by
  obtain ⟨r, h1, rfl⟩ := List.mem_map.mp hd
  exact Pl.ints
theorem c_stands {v : V} {ls : List (Option Int)} {ps : List Addr} {rs : List (List Int)} (s : Same F H) (y : Yd K Γ H v ls ps) (hps : ps.length ≤ 1000) (hl : ps.length = rs.length) (hat : ∀ (i : Nat) (p : Addr), ps[i]? = some p → ∃ r, rs[i]? = some r ∧ H p = some (Ints r)) (q : ∀ F' H' D, Grow F H F' H' → Dp K F' (.ref D) (rowsD rs) → Q (.ref D) H') : sp_Yard_stands K Γ [v] H Q E := by
  have := sz
  obtain ⟨y, dx, A, B, rfl, h1, h2, h3⟩ := y
  refine ⟨?_⟩
  unfold b_Yard_stands
  walk_at "ex"
  refine ⟨_, dx, _, List.mem_cons_self, h1, .ref B, rfl, .inl ⟨_, SqL.of h3, fun D hD => ?_⟩⟩
  have g : Grow F H F (upd H D (.lst [])) := Grow.drop s hD
  have hd : upd H D (.lst []) D = some (.lst []) := upd_same
  have hf : F D = none := Same.free s hD
  have hdl : ([] : List V).length + ps.length ≤ 1000 := by simp; omega
  unfold rowsD at q
  rw [← List.nil_append (rs.map fun r => PyData.list (r.map .int))] at q
  obtain ⟨F0, g, hf, hda⟩ : ∃ F0, Grow F H F0 (upd H D (.lst [])) ∧ F0 D = none ∧ DpAll K F0 [] ([] : List PyData) := ⟨F, g, hf, .nil⟩
  generalize upd H D (.lst []) = H1 at g hd ⊢
  generalize ([] : List V) = acc at hd hda hdl
  generalize ([] : List PyData) = ds at hda q
  generalize hL : (fun H => SqL K H B (ps.map V.ref)) = L
  have hLk : ∀ F' H', Grow F H F' H' → L H' := fun F' H' g => by rw [← hL]; exact SqL.of (g.hh _ _ h3)
  clear hL h3 h2 h1
  induction ps generalizing rs acc ds F0 H1 with
  | nil =>
    have : rs = [] := List.length_eq_zero_iff.mp hl.symm
    subst this
    refine ⟨hLk _ _ g, ?_⟩
    refine q (upd F0 D (.lst acc)) H1 D (g.shut hf hD hd) ?_
    rw [List.map_nil, List.append_nil]
    exact .lst (SqL.of upd_same) (DpAll.same (Same.new hf) hda)
  | cons p ps ih =>
    obtain ⟨r, hr, hp⟩ := hat 0 p rfl
    cases rs with
    | nil => cases hl
    | cons r' rs =>
    cases hr
    refine ⟨hLk _ _ g, ?_⟩
    walk_at "ex"
    refine ⟨rfl, ?_⟩
    walk_at "ex"
    refine ⟨_, .inl (SqL.of (g.hh _ _ hp)), fun t ht => ?_⟩
    rw [List.length_cons] at hdl hps hl
    have hDt : D ≠ t := ne_of_none hd ht
    refine ⟨acc, by rw [upd_ne hDt]; exact hd, by omega, ?_⟩
    have g2 := g.trans (Grow.new (o := .lst (r.map V.int)) g.fh ht)
    have hf2 : upd F0 t (.lst (r.map V.int)) D = none := by rw [upd_ne hDt]; exact hf
    refine ih (by omega) (by simpa using hl) (fun i p h => hat (i + 1) p h) (upd F0 t (.lst (r.map V.int))) hf2 _ (g2.cell hf2 hD) (acc ++ [.ref t]) upd_same (by simp only [List.length_append, List.length_cons, List.length_nil]; omega) (ds ++ [.list (r.map .int)]) (DpAll.app (DpAll.same (Same.new (Same.free g.fh ht)) hda) (.cons (.lst (SqL.of upd_same) DpAll.ints) .nil)) ?_
    rw [List.append_assoc]
    exact q
/-- the lines at hand -/
def Lns (K : PySem.W.Frag) (F : Hp) (lvs : List V) (ls : List (Option Int)) (rs : List (List Int)) : Prop := lvs.length = ls.length ∧ lvs.length = rs.length ∧ ∀ (i : Nat) (v : V), lvs[i]? = some v → ∃ l r, ls[i]? = some l ∧ rs[i]? = some r ∧ Ln K F v l r
theorem Lns.same {F' : Hp} {lvs : List V} {ls : List (Option Int)} {rs : List (List Int)} (h : Lns K F lvs ls rs) (s : Same F F') : Lns K F' lvs ls rs := ⟨h.1, h.2.1, fun i v e => by
  obtain ⟨l, r, h1, h2, h3⟩ := h.2.2 i v e
  exact ⟨l, r, h1, h2, h3.same s⟩⟩
theorem Lns.cons {v : V} {lvs : List V} {ls : List (Option Int)} {rs : List (List Int)} (h : Lns K F (v :: lvs) ls rs) : ∃ l ls' r rs', ls = l :: ls' ∧ rs = r :: rs' ∧ Ln K F v l r ∧ Lns K F lvs ls' rs' := by
  obtain ⟨h1, h2, h3⟩ := h
  cases ls with
  | nil => cases h1
  | cons l ls =>
  cases rs with
  | nil => cases h2
  | cons r rs =>
  obtain ⟨l', r', e1, e2, z⟩ := h3 0 v rfl
  cases e1; cases e2
  exact ⟨_, _, _, _, rfl, rfl, z, by simpa using h1, by simpa using h2, fun i v h => h3 (i + 1) v h⟩
theorem Lns.nil {ls : List (Option Int)} {rs : List (List Int)} (h : Lns K F [] ls rs) : ls = [] ∧ rs = [] := ⟨List.length_eq_zero_iff.mp h.1.symm, List.length_eq_zero_iff.mp h.2.1.symm⟩
theorem lc_len {L : Hp → Prop} {A : Addr} {H0 : Hp} {o1 o2 : Option V} (hL : ∀ H', Same H0 H' → L H') (hA : H0 A = none) (hF : F A = none) : ∀ (lvs : List V) (ls : List (Option Int)) (rs : List (List Int)) (done : List (Option Int)) (H1 : Hp), Lns K F lvs ls rs → Grow F H0 F H1 → H1 A = some (.lst (done.map lenV)) → done.length + lvs.length ≤ 1000 →
    (∀ H2, Grow F H0 F H2 → H2 A = some (.lst ((done ++ ls).map lenV)) → Q (.ref A) H2) → walkC L (gNm 2) tYes (eBin (uIx K) (eVar 2) (eLit (.int 0))) [2] [o1, o2, none] A Q lvs H1 := by
  have := sz
  intro lvs
  induction lvs with
  | nil =>
    intro ls rs done H1 h g hd hl q
    obtain ⟨rfl, rfl⟩ := h.nil
    refine ⟨hL _ g.hh, q _ g ?_⟩
    rw [List.append_nil]
    exact hd
  | cons v lvs ih =>
    intro ls rs done H1 h g hd hl q
    obtain ⟨l, ls, r, rs, rfl, rfl, hv, h4⟩ := h.cons
    refine ⟨hL _ g.hh, ?_⟩
    walk_at "ex"
    refine ⟨rfl, ?_⟩
    obtain ⟨a, c, rfl, h1, h2⟩ := hv
    walk_at "ex"
    rw [List.length_cons] at hl
    refine ⟨_, lenV l, .inr (Same.sqT g.fh h1), rfl, _, hd, by rw [List.length_map]; omega, ?_⟩
    refine ih ls rs (done ++ [l]) _ h4 (g.cell hF hA) ?_ (by simp only [List.length_append, List.length_cons, List.length_nil]; omega) ?_
    · rw [upd_same, List.map_append]
      rfl
    · rw [List.append_assoc]
      exact q
theorem lc_rows {L : Hp → Prop} {A : Addr} {H0 : Hp} {i : Nat} {σ : L2.St} {te : TE} (hL : ∀ H', Same H0 H' → L H') (hA : H0 A = none) (hF : F A = none) (hw : ∀ v, wipe ((wipe σ [i]).set i (some v)) [i] = wipe σ [i])
    (hte : ∀ v l r H Q, Ln K H v l r → (∀ p, H p = none → Q (.ref p) (upd H p (Ints r))) → te ((wipe σ [i]).set i (some v)) H Q) : ∀ (lvs : List V) (ls : List (Option Int)) (rs : List (List Int)) (ps : List Addr) (os : List HO) (H1 : Hp), Lns K F lvs ls rs → Grow F H0 F H1 → Nw H0 H1 ps os → A ∉ ps → H1 A = some (.lst (ps.map V.ref)) → ps.length + lvs.length ≤ 1000 →
    (∀ H2 ps', Grow F H0 F H2 → Nw H0 H2 ps' (os ++ rs.map Ints) → A ∉ ps' → H2 A = some (.lst (ps'.map V.ref)) → Q (.ref A) H2) → walkC L (gNm i) tYes te [i] σ A Q lvs H1 := by
  have := sz
  intro lvs
  induction lvs with
  | nil =>
    intro ls rs ps os H1 h g n hn hd hl q
    obtain ⟨rfl, rfl⟩ := h.nil
    refine ⟨hL _ g.hh, q _ ps g ?_ hn hd⟩
    rw [List.map_nil, List.append_nil]
    exact n
  | cons v lvs ih =>
    intro ls rs ps os H1 h g n hn hd hl q
    obtain ⟨l, ls, r, rs, rfl, rfl, hv, h4⟩ := h.cons
    refine ⟨hL _ g.hh, ?_⟩
    walk_at "ex"
    refine ⟨hw v, ?_⟩
    walk_at "ex"
    refine hte _ _ _ _ _ (hv.same g.fh) fun p hp => ?_
    rw [List.length_cons] at hl
    have hpA : A ≠ p := ne_of_none hd hp
    refine ⟨_, by rw [upd_ne hpA]; exact hd, by rw [List.length_map]; omega, ?_⟩
    have n2 := n.push (o := Ints r) g.hh hp
    have hn2 : A ∉ ps ++ [p] := by simp [hn, hpA]
    refine ih ls rs (ps ++ [p]) (os ++ [Ints r]) _ h4 (Grow.cell (Grow.cell g (Same.free g.fh hp) (Same.free g.hh hp)) hF hA) (n2.wr hn2) hn2 ?_ (by simp only [List.length_append, List.length_cons, List.length_nil]; omega) ?_
    · rw [upd_same, List.map_append]
      rfl
    · rw [List.append_assoc]
      exact q
theorem c_init {x dx b : Addr} {lvs : List V} {ls : List (Option Int)} {rs : List (List Int)} (s : Same F H) (hx : H x = none) (hdx : H dx = none) (hne : dx ≠ x) (hb : H b = some (.lst lvs)) (hl : lvs.length ≤ 1000) (hL : Lns K F lvs ls rs)
    (q : ∀ F' H' ps, Grow F H F' H' → Nw H H' ps (rs.map Ints) → (∀ p ∈ ps, F' p = none) → Yd K Γ F' (.ref x) ls ps → Q .non H') :
    sp_Yard___init__ K Γ [.ref x, .ref b] (upd (upd H dx (.own x)) x (.ins (Γ "Yard") dx [])) Q E := by
  have := sz
  refine ⟨?_⟩
  unfold b_Yard___init__
  walk_at "ex"
  have t1 : Same H (upd H dx (.own x)) := Same.new hdx
  have hx1 : upd H dx (.own x) x = none := by rw [upd_ne hne.symm]; exact hx
  have g0 : Grow F H F (upd (upd H dx (.own x)) x (.ins (Γ "Yard") dx [])) := Grow.of s (t1.trans (Same.new hx1))
  have cx : upd (upd H dx (.own x)) x (.ins (Γ "Yard") dx []) x = some (.ins (Γ "Yard") dx []) := upd_same
  generalize upd (upd H dx (.own x)) x (.ins (Γ "Yard") dx []) = H0 at g0 cx
  have fx : F x = none := Same.free s hx
  refine .inl ⟨lvs, SqL.of (g0.hh _ _ hb), fun A hA => ?_⟩
  refine lc_len (F := F) (H0 := H0) (fun H' t => SqL.of (t _ _ (g0.hh _ _ hb))) hA (Same.free g0.fh hA) lvs ls rs [] _ hL (Grow.drop g0.fh hA) upd_same (by simp; omega) fun H2 g1 hd => ?_
  refine ⟨_, dx, _, List.mem_cons_self, g1.hh _ _ cx, show (0 : Nat) < 1000 by decide, ?_⟩
  have hAx : A ≠ x := (ne_of_none cx hA).symm
  have k1 : Grow F H (upd F A (.lst (ls.map lenV))) H2 := (g0.trans g1).shut (Same.free g0.fh hA) (Same.free g0.hh hA) hd
  have fx1 : upd F A (.lst (ls.map lenV)) x = none := by rw [upd_ne hAx.symm]; exact fx
  have k2 := k1.cell (o := .ins (Γ "Yard") dx (putF "lengths" (.ref A) [])) fx1 hx
  have cx2 : upd H2 x (.ins (Γ "Yard") dx (putF "lengths" (.ref A) [])) x = some (.ins (Γ "Yard") dx (putF "lengths" (.ref A) [])) := upd_same
  have hA2 : upd F A (.lst (ls.map lenV)) A = some (.lst (ls.map lenV)) := upd_same
  generalize upd H2 x (.ins (Γ "Yard") dx (putF "lengths" (.ref A) [])) = H3 at k2 cx2
  have hL1 := hL.same k2.ff
  generalize upd F A (.lst (ls.map lenV)) = F1 at k2 hA2 fx1 hL1
  refine .inl ⟨lvs, SqL.of (k2.hh _ _ hb), fun B hB => ?_⟩
  refine lc_rows (F := F1) (H0 := H3) (fun H' t => SqL.of (t _ _ (k2.hh _ _ hb))) hB (Same.free k2.fh hB) (fun _ => rfl) ?_ lvs ls rs [] [] _ hL1 (Grow.drop k2.fh hB) Nw.nil (by simp) upd_same (by simp; omega) fun H4 ps g2 n hBp hd2 => ?_
  · intro v l r H Q hv q
    obtain ⟨a, c, rfl, h1, h2⟩ := hv
    walk_at "ex"
    exact ⟨_, .ref c, .inr h1, rfl, _, .inr h2, q⟩
  refine ⟨_, dx, _, List.mem_cons_self, g2.hh _ _ cx2, show (1 : Nat) < 1000 by decide, ?_⟩
  have hBx : B ≠ x := (ne_of_none cx2 hB).symm
  have k3 : Grow F H (upd F1 B (.lst (ps.map V.ref))) H4 := (k2.trans g2).shut (Same.free k2.fh hB) (Same.free k2.hh hB) hd2
  have fx2 : upd F1 B (.lst (ps.map V.ref)) x = none := by rw [upd_ne hBx.symm]; exact fx1
  have k4 := k3.cell (o := .ins (Γ "Yard") dx [("lengths", .ref A), ("rows", .ref B)]) fx2 hx
  have k5 := k4.shut fx2 hx upd_same
  have hxp : x ∉ ps := fun h => by
    have := n.fr x h
    rw [cx2] at this
    cases this
  have hAB : A ≠ B := ne_of_none (k2.fh _ _ hA2) hB
  have hfp : ∀ p ∈ ps, F1 p = none := fun p h => Same.free k2.fh (n.fr p h)
  refine q _ _ ps k5 ((n.wr hxp).back k2.hh) (fun p hp => ?_) ⟨x, dx, A, B, rfl, upd_same, ?_, ?_⟩
  · rw [upd_ne (fun e => hxp (by rw [← e]; exact hp)), upd_ne (fun e => hBp (by rw [← e]; exact hp))]
    exact hfp p hp
  · rw [upd_ne hAx, upd_ne hAB]
    exact hA2
  · rw [upd_ne hBx]
    exact upd_same
end
section
variable {K : PySem.W.Frag} {Γ : Gm} {F H : Hp} {Q : VK} {E : XK} {ad : Nat → List Addr} {R : Nat → List HO} {ls : List (Option Int)} {X : List (List Int)}
theorem Own.row {q i : Nat} {r : List Int} (o : Own F H ad R) (hR : R q = X.map Ints) (hi : X[i]? = some r) : ∃ a, (ad q)[i]? = some a ∧ H a = some (Ints r) := by
  have hl := o.len q
  rw [hR, List.length_map] at hl
  have h1 := (List.getElem?_eq_some_iff.mp hi).1
  have h2 := List.getElem?_eq_getElem (show i < (ad q).length by omega)
  obtain ⟨u, e, c⟩ := o.c h2
  rw [hR, List.getElem?_map, hi] at e
  cases e
  exact ⟨_, h2, c.h⟩
theorem Own.lens {q : Nat} (o : Own F H ad R) (hR : R q = X.map Ints) : (ad q).length = X.length := by
  have hl := o.len q
  rw [hR, List.length_map] at hl
  exact hl
theorem Own.ats {q : Nat} (o : Own F H ad R) (hR : R q = X.map Ints) (i : Nat) (p : Addr) (h : (ad q)[i]? = some p) : ∃ r, X[i]? = some r ∧ H p = some (Ints r) := by
  obtain ⟨u, e, c⟩ := o.c h
  rw [hR, List.getElem?_map] at e
  cases z : X[i]? with
  | none => rw [z] at e; cases e
  | some r =>
    rw [z] at e
    cases e
    exact ⟨r, rfl, c.h⟩
theorem dp_rows : ∀ {ps : List Addr} {X : List (List Int)}, ps.length = X.length → (∀ (i : Nat) (p : Addr), ps[i]? = some p → ∃ r, X[i]? = some r ∧ H p = some (Ints r)) → DpAll K H (ps.map V.ref) (X.map fun r => PyData.list (r.map .int))
  | [], [], _, _ => .nil
  | p :: ps, r :: X, h, f => by
    obtain ⟨r', e, hp⟩ := f 0 p rfl
    cases e
    exact .cons (.lst (SqL.of hp) DpAll.ints) (dp_rows (by simpa using h) fun i p h => f (i + 1) p h)
theorem Own.dp {q : Nat} {b : Addr} (o : Own F H ad R) (hR : R q = X.map Ints) (hb : SqL K F b ((ad q).map V.ref)) : Dp K H (.ref b) (rowsD X) := .lst (o.s.seq hb) (dp_rows (o.lens hR) (o.ats hR))
theorem Yd.m {v : V} {ps : List Addr} {m : Str} {sp : Sp} {k : Sp → Prop} (y : Yd K Γ H v ls ps) (q : k sp) (h1 : (m == ("lengths" : Str)) = false := by decide +kernel) (h2 : (m == ("rows" : Str)) = false := by decide +kernel) : asRef v fun a => mthR Γ m a H [("Yard", sp)] k := by
  obtain ⟨y, dx, A, B, rfl, h, _⟩ := y
  refine ⟨_, List.mem_cons_self, dx, _, h, ?_, q⟩
  rw [List.lookup_cons, h1, List.lookup_cons, h2]
  rfl
end

def TI (K : PySem.W.Frag) (F : Hp) (v : V) (xs : List Int) : Prop := ∃ a, v = .ref a ∧ SqT K F a (xs.map V.int)
theorem TI.same {K : PySem.W.Frag} {F F' : Hp} {v : V} {xs : List Int} (h : TI K F v xs) (s : Same F F') : TI K F' v xs := by
  obtain ⟨a, e, h⟩ := h
  exact ⟨a, e, Same.sqT s h⟩
def Sd (K : PySem.W.Frag) (F : Hp) (v : V) : Int ⊕ Int → Prop
  | .inl i => ∃ a, v = .ref a ∧ SqT K F a [.str "is", .int i]
  | .inr i => ∃ a, v = .ref a ∧ SqT K F a [.str "in", .int i]
theorem Sd.same {K : PySem.W.Frag} {F F' : Hp} {v : V} {d : Int ⊕ Int} (h : Sd K F v d) (s : Same F F') : Sd K F' v d := by
  cases d
  all_goals
    obtain ⟨a, e, h⟩ := h
    exact ⟨a, e, Same.sqT s h⟩
def SdOk (w : Int) : Int ⊕ Int → Prop
  | .inl i => 0 ≤ i ∧ i < big
  | .inr i => 0 ≤ i ∧ i < w
section
variable {K : PySem.W.Frag} {Γ : Gm} {F H : Hp} {Q : VK} {E : XK}
theorem mul_in {a b c d : Int} (ha : 0 ≤ a ∧ a ≤ c) (hb : 0 ≤ b ∧ b ≤ d) : 0 ≤ a * b ∧ a * b ≤ c * d := ⟨Int.mul_nonneg ha.1 hb.1, Int.mul_le_mul ha.2 hb.2 hb.1 (Int.le_trans ha.1 ha.2)⟩
theorem c_side (m w c : Int) (hm : 0 ≤ m ∧ m ≤ 100000) (hw : 0 < w) (s : Same F H) (q : ∀ F' H' v d, Grow F H F' H' → Sd K F' v d → SdOk w d → Q v H') : sp_L_side K Γ [.int m, .int w, .int c] H Q E := by
  have := sz
  refine ⟨?_⟩
  unfold b_L_side
  walk_at "if"
  refine ⟨by decide, ?_⟩
  split
  · refine ⟨⟨by decide, by decide⟩, c_number _ _ (by omega) fun i hi => ?_⟩
    refine ⟨show 2 ≤ sizeLine by omega, fun p hp => ?_⟩
    exact q _ _ _ (.inl i) (Grow.new s hp) ⟨p, rfl, .inl (.inl upd_same)⟩ hi
  · refine ⟨⟨by decide, by decide⟩, hw, show 2 ≤ sizeLine by omega, fun p hp => ?_⟩
    exact q _ _ _ (.inr (m / 3 % w)) (Grow.new s hp) ⟨p, rfl, .inl (.inl upd_same)⟩ ⟨Int.emod_nonneg _ (by omega), Int.emod_lt_of_pos _ hw⟩
theorem c_lines (m many span : Int) (hm : 0 ≤ m ∧ m < 2147483647) (h1 : 0 ≤ many ∧ many ≤ 16) (h2 : 0 < span ∧ span ≤ 1000) (s : Same F H)
    (q : ∀ F' H' p (xs : List Int), Grow F H F' H' → SqL K F' p (xs.map V.int) → xs.length = many.toNat → (∀ x ∈ xs, 0 ≤ x ∧ x ≤ span - 1 + (span / 200 + 2) * 15) → Q (.ref p) H') : sp_L_lines K Γ [.int m, .int many, .int span] H Q E := by
  have := sz
  refine ⟨?_⟩
  unfold b_L_lines
  walk_at "ex"
  have a1 := Int.emod_nonneg (m / 5) (show span ≠ 0 by omega)
  have a2 := Int.emod_lt_of_pos (m / 5) h2.1
  have a3 := Int.emod_nonneg m (show span / 200 + 2 ≠ 0 by omega)
  have a4 := Int.emod_lt_of_pos m (show 0 < span / 200 + 2 by omega)
  refine ⟨⟨by decide, by decide⟩, h2.1, ⟨by decide, by decide⟩, by omega, by omega, fun D hD => ?_⟩
  have b1 : 0 ≤ 1 + m % (span / 200 + 2) ∧ 1 + m % (span / 200 + 2) ≤ span / 200 + 2 := by omega
  clear a3 a4
  generalize m / 5 % span = st at a1 a2 ⊢
  generalize 1 + m % (span / 200 + 2) = sp' at b1 ⊢
  have hx : ∀ x ∈ rangeV 0 many, ∃ j : Int, x = .int j ∧ 0 ≤ j ∧ j ≤ 15 := fun x hx => by
    obtain ⟨j, z1, z2, z3⟩ := range_mem hx
    exact ⟨j, z1, z2, by omega⟩
  have hle : ([] : List Int).length + (rangeV 0 many).length = many.toNat := by
    unfold rangeV
    simp only [List.length_nil, List.length_map, List.length_range]
    omega
  have hbd : ∀ x ∈ ([] : List Int), 0 ≤ x ∧ x ≤ span - 1 + (span / 200 + 2) * 15 := by simp
  have hs : Same H (upd H D (.lst [])) := Same.new hD
  have hd : upd H D (.lst []) D = some (.lst (([] : List Int).map V.int)) := upd_same
  generalize rangeV 0 many = xs at hx hle ⊢
  generalize upd H D (.lst []) = H1 at hs hd ⊢
  generalize ([] : List Int) = done at hle hd hbd
  induction xs generalizing H1 done with
  | nil =>
    refine ⟨trivial, ?_⟩
    have g1 : Grow F H F H1 := Grow.of s hs
    have hF : F D = none := Same.free s hD
    refine if_join (fun σ H' => ∃ (F' : Hp) (p : Addr) (ys : List Int), Grow F H F' H' ∧ SqL K F' p (ys.map V.int) ∧ ys.length = many.toNat ∧ (∀ x ∈ ys, 0 ≤ x ∧ x ≤ span - 1 + (span / 200 + 2) * 15) ∧ σ[5]? = some (some (.ref p))) ?_ ?_
    · walk_at "ex"
      refine ⟨⟨by decide, by decide⟩, by decide, ?_⟩
      split
      · refine ⟨_, SqL.of hd, fun p hp => ?_⟩
        refine ⟨_, p, done.reverse, g1.trans (Grow.new g1.fh hp), SqL.of ?_, by simpa using hle, fun x hx => hbd x (by simpa using hx), rfl⟩
        rw [upd_same, List.map_reverse]
      · exact ⟨_, D, done, g1.shut hF hD hd, SqL.of upd_same, by simpa using hle, hbd, rfl⟩
    rintro σ H' ⟨F', p, ys, g, h1, h2, h3, e⟩
    walk_at "ex"
    rw [e]
    exact q _ _ _ _ g h1 h2 h3
  | cons x xs ih =>
    obtain ⟨j, rfl, hj0, hj1⟩ := hx _ List.mem_cons_self
    refine ⟨trivial, ?_⟩
    walk_at "ex"
    refine ⟨rfl, ?_⟩
    walk_at "ex"
    rw [List.length_cons] at hle
    have mb := mul_in b1 ⟨hj0, hj1⟩
    refine ⟨mulOk (a := 65) (b := 65) (bitsOf (by omega)) (bitsOf (by omega)), done.map V.int, hd, by rw [List.length_map]; omega, ?_⟩
    refine ih (fun y hy => hx y (List.mem_cons_of_mem _ hy)) _ (Same.up hs hD) (done ++ [st + sp' * j]) (by simp only [List.length_append, List.length_cons, List.length_nil]; omega) ?_ ?_
    · rw [upd_same, List.map_append]
      rfl
    · intro x hx
      rcases List.mem_append.mp hx with hx | hx
      · exact hbd x hx
      · rw [List.mem_singleton] at hx
        subst hx
        omega
end

def cutL (xs : List Int) (lo hi : Option Int) : List Int := (xs.drop (HT.sIx xs.length 0 lo)).take (HT.sIx xs.length xs.length hi - HT.sIx xs.length 0 lo)
theorem cutL_map {xs : List Int} {lo hi : Option Int} : cutV (xs.map V.int) lo hi = (cutL xs lo hi).map V.int := by
  unfold cutV cutL
  rw [List.length_map, List.map_take, List.map_drop]
theorem cutL_mem {xs : List Int} {lo hi : Option Int} {v : Int} (h : v ∈ cutL xs lo hi) : v ∈ xs := List.mem_of_mem_drop (List.mem_of_mem_take h)
theorem sIx_in {n d : Nat} {v : Int} (h0 : 0 ≤ v) (h1 : v ≤ n) : HT.sIx n d (some v) = v.toNat := by
  show (if v < 0 then _ else min v.toNat n) = _
  rw [if_neg (by omega)]
  omega
theorem cutL_len {xs : List Int} {lo hi : Int} (h0 : 0 ≤ lo) (h1 : lo ≤ hi) (h2 : hi ≤ xs.length) : (cutL xs (some lo) (some hi)).length = (hi - lo).toNat := by
  unfold cutL
  rw [List.length_take, List.length_drop, sIx_in h0 (by omega), sIx_in (by omega) h2]
  omega
theorem cutL_len0 {xs : List Int} {hi : Int} (h1 : 0 ≤ hi) (h2 : hi ≤ xs.length) : (cutL xs none (some hi)).length = hi.toNat := by
  unfold cutL
  rw [List.length_take, List.length_drop, sIx_in h1 h2]
  show min (hi.toNat - 0) (xs.length - 0) = _
  omega
theorem cutL_len1 {xs : List Int} {lo : Int} (h1 : 0 ≤ lo) (h2 : lo ≤ xs.length) : (cutL xs (some lo) none).length = (xs.length - lo).toNat := by
  unfold cutL
  rw [List.length_take, List.length_drop, sIx_in h1 h2]
  show min (xs.length - lo.toNat) (xs.length - lo.toNat) = _
  omega
theorem cut_step {F H : Hp} {p1 p2 : Addr} {A B : HO} (s : Same F H) (h1 : H p1 = none) (h2 : upd H p1 A p2 = none) : Grow F H (upd F p2 B) (upd (upd H p1 A) p2 B) := (Grow.drop s h1).trans (Grow.new (Same.up s (Same.free s h1)) h2)
/-- a row of a net, as data -/
inductive RD
  | pass (ins outs route : List Int)
  | work (ins : List Int) (out : Int) (sg : Nat) (l r : Int ⊕ Int)
  | choose (ins : List Int) (which : Int) (ones noughts : List Int) (told : Int)
  | merge (told : Int) (ones noughts outs : List Int)
def RAt (K : PySem.W.Frag) (F : Hp) (a : Addr) : RD → Prop
  | .pass i o r => ∃ vi vo vr, SqT K F a [.str "pass", vi, vo, vr] ∧ TI K F vi i ∧ TI K F vo o ∧ TI K F vr r
  | .work i o s l r => ∃ vi vl vr, SqT K F a [.str "work", vi, .int o, .str ⟨#[s]⟩, vl, vr] ∧ TI K F vi i ∧ Sd K F vl l ∧ Sd K F vr r
  | .choose i w o n t => ∃ vi vo vn, SqT K F a [.str "choose", vi, .int w, vo, vn, .int t] ∧ TI K F vi i ∧ TI K F vo o ∧ TI K F vn n
  | .merge t o n u => ∃ vo vn vu, SqT K F a [.str "merge", .int t, vo, vn, vu] ∧ TI K F vo o ∧ TI K F vn n ∧ TI K F vu u
theorem RAt.same {K : PySem.W.Frag} {F F' : Hp} {a : Addr} {d : RD} (h : RAt K F a d) (s : Same F F') : RAt K F' a d := by
  cases d
  all_goals
    obtain ⟨x, y, z, h1, h2, h3, h4⟩ := h
    exact ⟨x, y, z, Same.sqT s h1, h2.same s, h3.same s, h4.same s⟩
def Bd (B : Int) (xs : List Int) : Prop := ∀ x ∈ xs, 0 ≤ x ∧ x ≤ B
def ROk (B : Int) : RD → Prop
  | .pass i o r => (1 ≤ i.length ∧ i.length ≤ 5) ∧ o.length ≤ 5 ∧ r.length = o.length ∧ (∀ x ∈ r, 0 ≤ x ∧ x < i.length) ∧ Bd B i ∧ Bd B o
  | .work i o s l r => (1 ≤ i.length ∧ i.length ≤ 5) ∧ (0 ≤ o ∧ o ≤ B) ∧ SdOk i.length l ∧ SdOk i.length r ∧ s ∈ [43, 45, 42, 47, 60, 61, 38, 124, 94] ∧ Bd B i
  | .choose i w o n t => (1 ≤ i.length ∧ i.length ≤ 5) ∧ o.length = i.length ∧ n.length = i.length ∧ (0 ≤ w ∧ w < i.length) ∧ (0 ≤ t ∧ t ≤ B) ∧ Bd B i ∧ Bd B o ∧ Bd B n
  | .merge t o n u => (1 ≤ o.length ∧ o.length ≤ 5) ∧ n.length = o.length ∧ u.length = o.length ∧ (0 ≤ t ∧ t ≤ B) ∧ Bd B o ∧ Bd B n ∧ Bd B u
section
variable {K : PySem.W.Frag} {Γ : Gm} {F H : Hp} {Q : VK} {E : XK}
theorem cutT {p : Addr} {xs : List Int} {lo hi : Option Int} {A : Addr → Hp → List V → Prop} {B' : Addr → Hp → Prop} (hp : SqL K H p (xs.map V.int))
    (q : ∀ p1 p2, H p1 = none → upd H p1 (.lst ((cutL xs lo hi).map V.int)) p2 = none → A p2 (upd H p1 (.lst ((cutL xs lo hi).map V.int))) ((cutL xs lo hi).map V.int)) :
    cutR K p lo hi H fun x H1 => vRef' [x] fun a => (∃ ys, SqL K H1 a ys ∧ ∀ p2, H1 p2 = none → A p2 H1 ys) ∨ B' a H1 :=
  ⟨_, hp, fun p1 h1 => by
    rw [cutL_map]
    exact .inl ⟨_, SqL.of upd_same, fun p2 h2 => q p1 p2 h1 h2⟩⟩
theorem cut_all {F0 H0 : Hp} {p1 p2 : Addr} {xs : List Int} (g : Grow F0 H0 F H) (h1 : H p1 = none) (h2 : upd H p1 (.lst (xs.map V.int)) p2 = none) :
    ∃ F', Grow F0 H0 F' (upd (upd H p1 (.lst (xs.map V.int))) p2 (.tup (xs.map V.int))) ∧ TI K F' (.ref p2) xs ∧ Same F F' :=
  ⟨_, g.trans (cut_step (B := .tup (xs.map V.int)) g.fh h1 h2), ⟨p2, rfl, .inl (.inl upd_same)⟩, Same.new (Same.free (Same.up g.fh (Same.free g.fh h1)) h2)⟩
theorem tup_all {F0 H0 : Hp} {p : Addr} {ys : List V} (g : Grow F0 H0 F H) (h : H p = none) : ∃ F', Grow F0 H0 F' (upd H p (.tup ys)) ∧ SqT K F' p ys ∧ Same F F' :=
  ⟨_, g.trans (Grow.new (o := .tup ys) g.fh h), .inl (.inl upd_same), Same.new (Same.free g.fh h)⟩
theorem sqL_at {xs : List Int} {i : Int} (h0 : 0 ≤ i) (h1 : i < xs.length) : ∃ v, v ∈ xs ∧ atI (xs.map V.int) i = some (.int v) := by
  obtain ⟨j, rfl⟩ := Int.eq_ofNat_of_zero_le h0
  have hj : j < xs.length := by omega
  exact ⟨_, List.getElem_mem hj, atNat (by rw [List.getElem?_map, List.getElem?_eq_getElem hj]; rfl)⟩
theorem c_row (c k span : Int) (hk : 0 ≤ k ∧ k ≤ 1000) (h2 : 0 < span ∧ span ≤ 1000) (s : Same F H)
    (q : ∀ F' H' a d, Grow F H F' H' → RAt K F' a d → ROk (span - 1 + (span / 200 + 2) * 15) d → Q (.ref a) H') : sp_L_row K Γ [.int c, .int k, .int span] H Q E := by
  have := sz
  refine ⟨?_⟩
  unfold b_L_row
  walk_at "ex"
  refine c_mixed _ _ (by omega) fun m hm0 hm1 => ?_
  walk_at "ex"
  refine c_mixed _ _ (by omega) fun n hn0 hn1 => ?_
  walk_at "ex"
  refine ⟨⟨by decide, by decide⟩, by decide, ?_⟩
  obtain ⟨w, hw⟩ := Int.eq_ofNat_of_zero_le (show 0 ≤ 1 + m / 4 % 5 by omega)
  rw [hw]
  have hw1 : 1 ≤ w ∧ w ≤ 5 := by omega
  generalize hBe : span - 1 + (span / 200 + 2) * 15 = B at q
  walk_at "if"
  refine ⟨by decide, ?_⟩
  split
  · refine ⟨⟨by decide, by decide⟩, by decide, ?_⟩
    obtain ⟨o, ho⟩ := Int.eq_ofNat_of_zero_le (show 0 ≤ m / 20 % 6 by omega)
    rw [ho]
    have ho1 : o ≤ 5 := by omega
    refine c_lines _ _ _ ⟨hn0, hn1⟩ (by omega) h2 s fun F1 H1 p xs g1 hp hl hB => ?_
    rw [hBe] at hB
    walk_at "ex"
    refine ⟨⟨by omega, by omega⟩, fun D hD => ?_⟩
    have hx : ∀ x ∈ rangeV 0 (o : Int), ∃ j : Int, x = .int j ∧ 0 ≤ j ∧ j ≤ 10 := fun x hx => by
      obtain ⟨j, z1, z2, z3⟩ := range_mem hx
      exact ⟨j, z1, z2, by omega⟩
    have hle : ([] : List Int).length + (rangeV 0 (o : Int)).length = o := by
      unfold rangeV
      simp only [List.length_nil, List.length_map, List.length_range]
      omega
    have hbd : ∀ x ∈ ([] : List Int), 0 ≤ x ∧ x < (w : Int) := by simp
    have hs : Same H1 (upd H1 D (.lst [])) := Same.new hD
    have hd : upd H1 D (.lst []) D = some (.lst (([] : List Int).map V.int)) := upd_same
    generalize rangeV 0 (o : Int) = zs at hx hle ⊢
    generalize upd H1 D (.lst []) = H2 at hs hd ⊢
    generalize ([] : List Int) = done at hle hd hbd
    induction zs generalizing H2 done with
    | nil =>
      refine ⟨trivial, ?_⟩
      have g2 : Grow F H F1 H2 := g1.trans (Grow.of g1.fh hs)
      refine .inl ⟨_, SqL.of hd, fun p0 a0 => ?_⟩
      obtain ⟨F3, g3, t3, e3⟩ := tup_all (K := K) (ys := done.map V.int) g2 a0
      have hp := e3.seq hp
      have l1 : (cutL xs none (some (w : Int))).length = w := by rw [cutL_len0 (by omega) (by omega)]; omega
      have l2 : (cutL xs (some (w : Int)) none).length = o := by rw [cutL_len1 (by omega) (by omega)]; omega
      walk_at "ex"
      refine cutT (g3.fh.seq hp) fun p1 p2 a1 a2 => ?_
      obtain ⟨F4, g4, t4, e4⟩ := cut_all (K := K) g3 a1 a2
      have hp := e4.seq hp
      refine cutT (g4.fh.seq hp) fun p3 p4 a3 a4 => ?_
      obtain ⟨F5, g5, t5, e5⟩ := cut_all (K := K) g4 a3 a4
      refine ⟨show 4 ≤ sizeLine by omega, fun p7 a7 => ?_⟩
      obtain ⟨F6, g6, t6, e6⟩ := tup_all (K := K) (ys := [.str "pass", .ref p2, .ref p4, .ref p0]) g5 a7
      have t3' : TI K F3 (.ref p0) done := ⟨p0, rfl, t3⟩
      exact q _ _ _ (.pass _ _ _) g6 ⟨_, _, _, t6, (t4.same e5).same e6, t5.same e6, ((t3'.same e4).same e5).same e6⟩ ⟨by omega, by omega, by rw [l2]; simpa using hle, by rw [l1]; exact hbd, fun x hx => hB x (cutL_mem hx), fun x hx => hB x (cutL_mem hx)⟩
    | cons x zs ih =>
      obtain ⟨j, rfl, hj0, hj1⟩ := hx _ List.mem_cons_self
      refine ⟨trivial, ?_⟩
      walk_at "ex"
      refine ⟨rfl, ?_⟩
      walk_at "ex"
      refine c_mixed _ _ (by omega) fun i hi0 hi1 => ?_
      walk_at "ex"
      rw [List.length_cons] at hle
      refine ⟨by omega, done.map V.int, hd, by rw [List.length_map]; omega, ?_⟩
      refine ih (fun y hy => hx y (List.mem_cons_of_mem _ hy)) _ (Same.up hs hD) (done ++ [i % w]) (by simp only [List.length_append, List.length_cons, List.length_nil]; omega) ?_ ?_
      · rw [upd_same, List.map_append]
        rfl
      · intro x hx
        rcases List.mem_append.mp hx with hx | hx
        · exact hbd x hx
        · rw [List.mem_singleton] at hx
          subst hx
          exact ⟨Int.emod_nonneg _ (by omega), Int.emod_lt_of_pos _ (by omega)⟩
  walk_at "if"
  refine ⟨by decide, ?_⟩
  split
  · refine c_lines _ _ _ ⟨hn0, hn1⟩ (by omega) h2 s fun F1 H1 p xs g1 hp hl hB => ?_
    rw [hBe] at hB
    walk_at "ex"
    refine ⟨⟨by decide, by decide⟩, by decide, c_side _ _ _ (by omega) (by omega) g1.fh fun F2 H2 v2 d2 g2 hd2 ok2 => ?_⟩
    have hp := g2.ff.seq hp
    walk_at "ex"
    refine ⟨⟨by decide, by decide⟩, by decide, c_side _ _ _ (by omega) (by omega) g2.fh fun F3 H3 v3 d3 g3 hd3 ok3 => ?_⟩
    have hp := g3.ff.seq hp
    have hd2 := hd2.same g3.ff
    have g3 := (g1.trans g2).trans g3
    walk_at "ex"
    obtain ⟨tv, ht, hat⟩ := sqL_at (xs := xs) (i := w) (by omega) (by omega)
    have l1 : (cutL xs none (some (w : Int))).length = w := by rw [cutL_len0 (by omega) (by omega)]; omega
    refine cutT (g3.fh.seq hp) fun p1 p2 a1 a2 => ?_
    obtain ⟨F4, g4, t4, e4⟩ := cut_all (K := K) g3 a1 a2
    have hp := e4.seq hp
    obtain ⟨sg, hs⟩ := at_len (xs := (Str.ofString "+-*/<=&|^").cps.toList) (i := n % 9) (by omega) (by
      have : (Str.ofString "+-*/<=&|^").cps.toList.length = 9 := by decide +kernel
      omega)
    have hsg : sg ∈ [43, 45, 42, 47, 60, 61, 38, 124, 94] := by
      have e : (Str.ofString "+-*/<=&|^").cps.toList = [43, 45, 42, 47, 60, 61, 38, 124, 94] := by decide +kernel
      have := atI_mem hs
      rw [e] at this
      exact this
    refine ⟨_, _, .inl (g4.fh.seq hp), hat, by decide, by decide +kernel, sg, hs, show 6 ≤ sizeLine by omega, fun p7 a7 => ?_⟩
    obtain ⟨F5, g5, t5, e5⟩ := tup_all (K := K) (ys := [.str "work", .ref p2, .int tv, .str ⟨#[sg]⟩, v2, v3]) g4 a7
    exact q _ _ _ (.work _ _ _ d2 d3) g5 ⟨_, _, _, t5, t4.same e5, (hd2.same e4).same e5, (hd3.same e4).same e5⟩ ⟨by omega, hB _ ht, by rw [l1]; exact ok2, by rw [l1]; exact ok3, hsg, fun x hx => hB x (cutL_mem hx)⟩
  refine ⟨mulOk (a := 65) (b := 65) (by decide) (bitsOf (by omega)), c_lines _ _ _ ⟨hn0, hn1⟩ (by omega) h2 s fun F1 H1 p xs g1 hp hl hB => ?_⟩
  walk_at "if"
  refine ⟨by decide, ?_⟩
  rw [hBe] at hB
  have m2 : IntMulOk 2 w := mulOk (a := 65) (b := 65) (by decide) (bitsOf (by omega))
  have m3 : IntMulOk 3 w := mulOk (a := 65) (b := 65) (by decide) (bitsOf (by omega))
  obtain ⟨tv, ht, hat⟩ := sqL_at (xs := xs) (i := 3 * w) (by omega) (by omega)
  have bd : ∀ lo hi, Bd B (cutL xs lo hi) := fun lo hi x hx => hB x (cutL_mem hx)
  have l1 : (cutL xs none (some (w : Int))).length = w := by rw [cutL_len0 (by omega) (by omega)]; omega
  have l2 : (cutL xs (some (w : Int)) (some (2 * (w : Int)))).length = w := by rw [cutL_len (by omega) (by omega) (by omega)]; omega
  have l3 : (cutL xs (some (2 * (w : Int))) (some (3 * (w : Int)))).length = w := by rw [cutL_len (by omega) (by omega) (by omega)]; omega
  split
  · refine cutT (g1.fh.seq hp) fun p1 p2 a1 a2 => ?_
    obtain ⟨F2, g2, t2, e2⟩ := cut_all (K := K) g1 a1 a2
    have hp := e2.seq hp
    refine ⟨⟨by decide, by decide⟩, by omega, m2, cutT (g2.fh.seq hp) fun p3 p4 a3 a4 => ?_⟩
    obtain ⟨F3, g3, t3, e3⟩ := cut_all (K := K) g2 a3 a4
    have hp := e3.seq hp
    refine ⟨m2, m3, cutT (g3.fh.seq hp) fun p5 p6 a5 a6 => ?_⟩
    obtain ⟨F4, g4, t4, e4⟩ := cut_all (K := K) g3 a5 a6
    have hp := e4.seq hp
    refine ⟨m3, _, _, .inl (g4.fh.seq hp), hat, show 6 ≤ sizeLine by omega, fun p7 a7 => ?_⟩
    obtain ⟨F5, g5, t5, e5⟩ := tup_all (K := K) (ys := [.str "choose", .ref p2, .int (m / 20 % w), .ref p4, .ref p6, .int tv]) g4 a7
    exact q _ _ _ (.choose _ _ _ _ _) g5 ⟨_, _, _, t5, ((t2.same e3).same e4).same e5, (t3.same e4).same e5, t4.same e5⟩ ⟨by omega, by omega, by omega, ⟨Int.emod_nonneg _ (by omega), by rw [l1]; exact Int.emod_lt_of_pos _ (by omega)⟩, hB _ ht, bd _ _, bd _ _, bd _ _⟩
  refine ⟨m3, _, _, .inl (g1.fh.seq hp), hat, cutT (g1.fh.seq hp) fun p1 p2 a1 a2 => ?_⟩
  obtain ⟨F2, g2, t2, e2⟩ := cut_all (K := K) g1 a1 a2
  have hp := e2.seq hp
  refine ⟨m2, cutT (g2.fh.seq hp) fun p3 p4 a3 a4 => ?_⟩
  obtain ⟨F3, g3, t3, e3⟩ := cut_all (K := K) g2 a3 a4
  have hp := e3.seq hp
  refine ⟨m2, m3, cutT (g3.fh.seq hp) fun p5 p6 a5 a6 => ?_⟩
  obtain ⟨F4, g4, t4, e4⟩ := cut_all (K := K) g3 a5 a6
  refine ⟨show 5 ≤ sizeLine by omega, fun p7 a7 => ?_⟩
  obtain ⟨F5, g5, t5, e5⟩ := tup_all (K := K) (ys := [.str "merge", .int tv, .ref p2, .ref p4, .ref p6]) g4 a7
  exact q _ _ _ (.merge _ _ _ _) g5 ⟨_, _, _, t5, ((t2.same e3).same e4).same e5, (t3.same e4).same e5, t4.same e5⟩ ⟨by omega, by omega, by omega, hB _ ht, bd _ _, bd _ _, bd _ _⟩
end

def PAt (K : PySem.W.Frag) (Γ : Gm) (F : Hp) (a : Addr) : RD → Prop
  | .pass i o r => ∃ dx vi vo vr, F a = some (.ins (Γ "Pass") dx [("ins", vi), ("outs", vo), ("route", vr)]) ∧ TI K F vi i ∧ TI K F vo o ∧ TI K F vr r
  | .work i o s l r => ∃ dx vi vl vr, F a = some (.ins (Γ "Work") dx [("ins", vi), ("out", .int o), ("sign", .str ⟨#[s]⟩), ("left", vl), ("right", vr)]) ∧ TI K F vi i ∧ Sd K F vl l ∧ Sd K F vr r
  | .choose i w o n t => ∃ dx vi vo vn, F a = some (.ins (Γ "Choose") dx [("ins", vi), ("which", .int w), ("ones", vo), ("noughts", vn), ("told", .int t)]) ∧ TI K F vi i ∧ TI K F vo o ∧ TI K F vn n
  | .merge t o n u => ∃ dx vi vo vn vu, F a = some (.ins (Γ "Merge") dx [("ins", vi), ("told", .int t), ("ones", vo), ("noughts", vn), ("outs", vu)]) ∧ TI K F vi (t :: (o ++ n)) ∧ TI K F vo o ∧ TI K F vn n ∧ TI K F vu u
theorem PAt.same {K : PySem.W.Frag} {Γ : Gm} {F F' : Hp} {a : Addr} {d : RD} (h : PAt K Γ F a d) (s : Same F F') : PAt K Γ F' a d := by
  cases d with
  | merge t o n u =>
    obtain ⟨dx, vi, vo, vn, vu, h1, h2, h3, h4, h5⟩ := h
    exact ⟨dx, vi, vo, vn, vu, s _ _ h1, h2.same s, h3.same s, h4.same s, h5.same s⟩
  | _ =>
    obtain ⟨dx, vi, vo, vn, h1, h2, h3, h4⟩ := h
    exact ⟨dx, vi, vo, vn, s _ _ h1, h2.same s, h3.same s, h4.same s⟩
section
variable {K : PySem.W.Frag} {Γ : Gm} {F H : Hp} {Q : VK} {E : XK}
theorem c_part_init {C : Str} {x dx : Addr} {fs : List (Str × V)} {v : V} (hC : C ∈ (["Part", "Pass", "Work", "Choose", "Merge"] : List Str)) (h : H x = some (.ins (Γ C) dx fs)) (hl : fs.length < 1000) (q : Q .non (upd H x (.ins (Γ C) dx (putF "ins" v fs)))) : sp_Part___init__ K Γ [.ref x, v] H Q E := by
  refine ⟨?_⟩
  unfold b_Part___init__
  walk_at "ex"
  exact ⟨C, dx, fs, hC, h, hl, q⟩
/-- a new object of a class: where it begins -/
theorem born {C x dx : Addr} {fs : List (Str × V)} (s : Same F H) (hx : H x = none) (hd : H dx = none) (hne : dx ≠ x) : Grow F H F (upd (upd H dx (.own x)) x (.ins C dx fs)) := by
  have hx1 : upd H dx (.own x) x = none := by rw [upd_ne hne.symm]; exact hx
  exact Grow.of s ((Same.new hd).trans (Same.new hx1))
theorem c_pass_init {x dx : Addr} {vi vo vr : V} (s : Same F H) (hx : H x = none) (hd : H dx = none) (hne : dx ≠ x)
    (q : ∀ F' H', Grow F H F' H' → F' x = some (.ins (Γ "Pass") dx [("ins", vi), ("outs", vo), ("route", vr)]) → Q .non H') : sp_Pass___init__ K Γ [.ref x, vi, vo, vr] (upd (upd H dx (.own x)) x (.ins (Γ "Pass") dx [])) Q E := by
  have fx := Same.free s hx
  refine ⟨?_⟩
  unfold b_Pass___init__
  walk_at "ex"
  refine c_part_init (C := "Pass") (dx := dx) (fs := []) (by decide +kernel) upd_same (by decide) ?_
  walk_at "ex"
  refine ⟨"Pass", dx, _, by decide +kernel, upd_same, show (1 : Nat) < 1000 by decide, "Pass", dx, _, by decide +kernel, upd_same, show (2 : Nat) < 1000 by decide, ?_⟩
  exact q _ _ (((((born s hx hd hne).cell fx hx).cell fx hx).cell fx hx).shut fx hx upd_same) upd_same
theorem c_work_init {x dx : Addr} {vi vo vs vl vr : V} (s : Same F H) (hx : H x = none) (hd : H dx = none) (hne : dx ≠ x)
    (q : ∀ F' H', Grow F H F' H' → F' x = some (.ins (Γ "Work") dx [("ins", vi), ("out", vo), ("sign", vs), ("left", vl), ("right", vr)]) → Q .non H') : sp_Work___init__ K Γ [.ref x, vi, vo, vs, vl, vr] (upd (upd H dx (.own x)) x (.ins (Γ "Work") dx [])) Q E := by
  have fx := Same.free s hx
  refine ⟨?_⟩
  unfold b_Work___init__
  walk_at "ex"
  refine c_part_init (C := "Work") (dx := dx) (fs := []) (by decide +kernel) upd_same (by decide) ?_
  walk_at "ex"
  refine ⟨"Work", dx, _, by decide +kernel, upd_same, show (1 : Nat) < 1000 by decide, "Work", dx, _, by decide +kernel, upd_same, show (2 : Nat) < 1000 by decide, "Work", dx, _, by decide +kernel, upd_same, show (3 : Nat) < 1000 by decide, "Work", dx, _, by decide +kernel, upd_same, show (4 : Nat) < 1000 by decide, ?_⟩
  exact q _ _ (((((((born s hx hd hne).cell fx hx).cell fx hx).cell fx hx).cell fx hx).cell fx hx).shut fx hx upd_same) upd_same
theorem c_choose_init {x dx : Addr} {vi vw vo vn vt : V} (s : Same F H) (hx : H x = none) (hd : H dx = none) (hne : dx ≠ x)
    (q : ∀ F' H', Grow F H F' H' → F' x = some (.ins (Γ "Choose") dx [("ins", vi), ("which", vw), ("ones", vo), ("noughts", vn), ("told", vt)]) → Q .non H') : sp_Choose___init__ K Γ [.ref x, vi, vw, vo, vn, vt] (upd (upd H dx (.own x)) x (.ins (Γ "Choose") dx [])) Q E := by
  have fx := Same.free s hx
  refine ⟨?_⟩
  unfold b_Choose___init__
  walk_at "ex"
  refine c_part_init (C := "Choose") (dx := dx) (fs := []) (by decide +kernel) upd_same (by decide) ?_
  walk_at "ex"
  refine ⟨"Choose", dx, _, by decide +kernel, upd_same, show (1 : Nat) < 1000 by decide, "Choose", dx, _, by decide +kernel, upd_same, show (2 : Nat) < 1000 by decide, "Choose", dx, _, by decide +kernel, upd_same, show (3 : Nat) < 1000 by decide, "Choose", dx, _, by decide +kernel, upd_same, show (4 : Nat) < 1000 by decide, ?_⟩
  exact q _ _ (((((((born s hx hd hne).cell fx hx).cell fx hx).cell fx hx).cell fx hx).cell fx hx).shut fx hx upd_same) upd_same
theorem catT {a b : Addr} {xs ys : List Int} (ha : SqT K H a (xs.map V.int)) (hb : SqT K H b (ys.map V.int)) (hx : 1 ≤ xs.length) (hy : 1 ≤ ys.length) (hl : xs.length + ys.length ≤ 1000) (q : ∀ p, H p = none → Q (.ref p) (upd H p (.tup ((xs ++ ys).map V.int)))) : catR K a b H Q := by
  have := sz
  refine .inr ⟨_, _, ha, hb, fun e => ?_, by rw [List.length_map, List.length_map]; omega, fun e => ?_, fun _ p hp => ?_⟩
  · rw [List.map_eq_nil_iff] at e
    subst e
    simp at hx
  · rw [List.map_eq_nil_iff] at e
    subst e
    simp at hy
  · rw [← List.map_append]
    exact q p hp
theorem c_merge_init {x dx : Addr} {t : Int} {vo vn vu : V} {o n : List Int} (s : Same F H) (hx : H x = none) (hd : H dx = none) (hne : dx ≠ x) (ho : TI K F vo o) (hn : TI K F vn n) (l1 : 1 ≤ o.length ∧ o.length ≤ 100) (l2 : 1 ≤ n.length ∧ n.length ≤ 100)
    (q : ∀ F' H' vi, Grow F H F' H' → F' x = some (.ins (Γ "Merge") dx [("ins", vi), ("told", .int t), ("ones", vo), ("noughts", vn), ("outs", vu)]) → TI K F' vi (t :: (o ++ n)) → Q .non H') :
    sp_Merge___init__ K Γ [.ref x, .int t, vo, vn, vu] (upd (upd H dx (.own x)) x (.ins (Γ "Merge") dx [])) Q E := by
  have := sz
  have fx := Same.free s hx
  obtain ⟨ao, rfl, ho⟩ := ho
  obtain ⟨an, rfl, hn⟩ := hn
  have g0 := born (C := Γ "Merge") (fs := []) s hx hd hne
  have cx : upd (upd H dx (.own x)) x (.ins (Γ "Merge") dx []) x = some (.ins (Γ "Merge") dx []) := upd_same
  generalize upd (upd H dx (.own x)) x (.ins (Γ "Merge") dx []) = H0 at g0 cx
  refine ⟨?_⟩
  unfold b_Merge___init__
  walk_at "ex"
  refine ⟨show 1 ≤ sizeLine by omega, fun p1 hp1 => ?_⟩
  obtain ⟨F1, g1, t1, e1⟩ := tup_all (K := K) (ys := [t].map V.int) (Grow.rfl' g0.fh) hp1
  have cx1 : upd H0 p1 (.tup ([t].map V.int)) x = some (.ins (Γ "Merge") dx []) := by rw [upd_ne (ne_of_none cx hp1)]; exact cx
  refine catT (xs := [t]) (ys := o) (Same.sqT g1.fh t1) (Same.sqT g1.fh (Same.sqT e1 ho)) (by simp) l1.1 (by simp; omega) fun p2 hp2 => ?_
  obtain ⟨F2, g2, t2, e2⟩ := tup_all (K := K) (ys := ([t] ++ o).map V.int) g1 hp2
  have cx2 := (upd_ne (o := .tup (([t] ++ o).map V.int)) (ne_of_none cx1 hp2)).trans cx1
  walk_at "ex"
  refine catT (xs := [t] ++ o) (ys := n) (Same.sqT g2.fh t2) (Same.sqT g2.fh (Same.sqT e2 (Same.sqT e1 hn))) (by simp) l2.1 (by simp; omega) fun p3 hp3 => ?_
  obtain ⟨F3, g3, t3, e3⟩ := tup_all (K := K) (ys := ([t] ++ o ++ n).map V.int) g2 hp3
  have cx3 := (upd_ne (o := .tup (([t] ++ o ++ n).map V.int)) (ne_of_none cx2 hp3)).trans cx2
  refine c_part_init (C := "Merge") (dx := dx) (fs := []) (by decide +kernel) cx3 (by decide) ?_
  walk_at "ex"
  refine ⟨"Merge", dx, _, by decide +kernel, upd_same, show (1 : Nat) < 1000 by decide, "Merge", dx, _, by decide +kernel, upd_same, show (2 : Nat) < 1000 by decide, "Merge", dx, _, by decide +kernel, upd_same, show (3 : Nat) < 1000 by decide, "Merge", dx, _, by decide +kernel, upd_same, show (4 : Nat) < 1000 by decide, ?_⟩
  have fx3 : F3 x = none := g3.apart x fx (by rw [cx]; simp)
  have g3 := g0.trans g3
  have ti : TI K F3 (.ref p3) (t :: (o ++ n)) := ⟨p3, rfl, by simpa using t3⟩
  refine q _ _ _ (((((((g3.cell fx3 hx).cell fx3 hx).cell fx3 hx).cell fx3 hx).cell fx3 hx).shut fx3 hx upd_same)) upd_same (ti.same (Same.new fx3))
theorem c_part_of {a : Addr} {d : RD} {B : Int} (s : Same F H) (h : RAt K F a d) (ok : ROk B d) (q : ∀ F' H' p, Grow F H F' H' → PAt K Γ F' p d → Q (.ref p) H') : sp_part_of K Γ [.ref a] H Q E := by
  have := sz
  refine ⟨?_⟩
  unfold b_part_of
  cases d with
  | pass i o r =>
    obtain ⟨vi, vo, vr, h0, h1, h2, h3⟩ := h
    have hH := Same.sqT s h0
    walk_at "if"
    refine ⟨_, .str "pass", .inr hH, rfl, ?_⟩
    walk_at "ex"
    refine ⟨_, vi, .inr hH, rfl, _, vo, .inr hH, rfl, _, vr, .inr hH, rfl, fun x dx hx hd hne => ?_⟩
    exact c_pass_init s hx hd hne fun F' H' g e => ⟨rfl, q _ _ _ g ⟨dx, vi, vo, vr, e, h1.same g.ff, h2.same g.ff, h3.same g.ff⟩⟩
  | work i o sg l r =>
    obtain ⟨vi, vl, vr, h0, h1, h2, h3⟩ := h
    have hH := Same.sqT s h0
    walk_at "if"
    refine ⟨_, .str "work", .inr hH, rfl, ?_⟩
    walk_at "ex"
    rw [if_neg (by decide +kernel)]
    walk_at "if"
    refine ⟨_, .str "work", .inr hH, rfl, ?_⟩
    walk_at "ex"
    refine ⟨_, vi, .inr hH, rfl, _, .int o, .inr hH, rfl, _, .str ⟨#[sg]⟩, .inr hH, rfl, _, vl, .inr hH, rfl, _, vr, .inr hH, rfl, fun x dx hx hd hne => ?_⟩
    exact c_work_init s hx hd hne fun F' H' g e => ⟨rfl, q _ _ _ g ⟨dx, vi, vl, vr, e, h1.same g.ff, h2.same g.ff, h3.same g.ff⟩⟩
  | choose i w o n t =>
    obtain ⟨vi, vo, vn, h0, h1, h2, h3⟩ := h
    have hH := Same.sqT s h0
    walk_at "if"
    refine ⟨_, .str "choose", .inr hH, rfl, ?_⟩
    walk_at "ex"
    rw [if_neg (by decide +kernel)]
    walk_at "if"
    refine ⟨_, .str "choose", .inr hH, rfl, ?_⟩
    walk_at "ex"
    rw [if_neg (by decide +kernel)]
    walk_at "if"
    refine ⟨_, .str "choose", .inr hH, rfl, ?_⟩
    walk_at "ex"
    refine ⟨_, vi, .inr hH, rfl, _, .int w, .inr hH, rfl, _, vo, .inr hH, rfl, _, vn, .inr hH, rfl, _, .int t, .inr hH, rfl, fun x dx hx hd hne => ?_⟩
    exact c_choose_init s hx hd hne fun F' H' g e => ⟨rfl, q _ _ _ g ⟨dx, vi, vo, vn, e, h1.same g.ff, h2.same g.ff, h3.same g.ff⟩⟩
  | merge t o n u =>
    obtain ⟨vo, vn, vu, h0, h1, h2, h3⟩ := h
    have hH := Same.sqT s h0
    walk_at "if"
    refine ⟨_, .str "merge", .inr hH, rfl, ?_⟩
    walk_at "ex"
    rw [if_neg (by decide +kernel)]
    walk_at "if"
    refine ⟨_, .str "merge", .inr hH, rfl, ?_⟩
    walk_at "ex"
    rw [if_neg (by decide +kernel)]
    walk_at "if"
    refine ⟨_, .str "merge", .inr hH, rfl, ?_⟩
    walk_at "ex"
    rw [if_neg (by decide +kernel)]
    refine ⟨_, .int t, .inr hH, rfl, _, vo, .inr hH, rfl, _, vn, .inr hH, rfl, _, vu, .inr hH, rfl, fun x dx hx hd hne => ?_⟩
    obtain ⟨k1, k2, k3, _⟩ := ok
    exact c_merge_init s hx hd hne h1 h2 (by omega) (by omega) fun F' H' vi g e ti => ⟨rfl, q _ _ _ g ⟨dx, vi, vo, vn, vu, e, ti, h1.same g.ff, h2.same g.ff, h3.same g.ff⟩⟩
end

structure Ak (K : PySem.W.Frag) (Γ : Gm) (F H : Hp) (ad : Nat → List Addr) (R : Nat → List HO) (y : V) (ls : List (Option Int)) (rw' : Addr) (X : List (List Int)) : Prop where
  own : Own F H ad R
  yd : Yd K Γ F y ls (ad 0)
  sr : SqL K F rw' ((ad 1).map V.ref)
  ra : R 0 = X.map Ints
  rb : R 1 = X.map Ints
  lx : X.length = 34
  bd : ∀ r ∈ X, r.length ≤ 2
def mw (r : List Int) (t : Int) (o n : List Int) : List Int := match r with
  | c :: _ => if c = 0 then t :: n else t :: o
  | [] => [t]
/-- what a part wants -/
def wantsL (X : List (List Int)) : RD → List Int
  | .pass i _ _ => i
  | .work i _ _ _ _ => i
  | .choose i _ _ _ _ => i
  | .merge t o n _ => match X[t.toNat]? with
    | some r => mw r t o n
    | none => [t]
section
variable {K : PySem.W.Frag} {Γ : Gm} {F H : Hp} {Q : VK} {E : XK} {ad : Nat → List Addr} {R : Nat → List HO} {y : V} {ls : List (Option Int)} {rw' : Addr} {X : List (List Int)}
theorem Ak.grow {F' H' : Hp} (h : Ak K Γ F H ad R y ls rw' X) (g : Grow F H F' H') : Ak K Γ F' H' ad R y ls rw' X := ⟨h.own.grow g, h.yd.same g.ff, g.ff.seq h.sr, h.ra, h.rb, h.lx, h.bd⟩
theorem Ak.get {i : Nat} (h : Ak K Γ F H ad R y ls rw' X) (hi : i < 34) : ∃ r a b, X[i]? = some r ∧ (ad 0)[i]? = some a ∧ (ad 1)[i]? = some b ∧ H a = some (Ints r) ∧ H b = some (Ints r) ∧ a ≠ b ∧ r.length ≤ 2 := by
  have e2 := List.getElem?_eq_getElem (show i < X.length by rw [h.lx]; exact hi)
  obtain ⟨a, a1, a2⟩ := h.own.row h.ra e2
  obtain ⟨b, b1, b2⟩ := h.own.row h.rb e2
  refine ⟨_, a, b, e2, a1, b1, a2, b2, ?_, h.bd _ (List.getElem_mem _)⟩
  rintro rfl
  exact absurd (h.own.inj a1 b1).1 (by decide)
theorem c_pwants {a : Addr} {C : Str} {dx : Addr} {fs : List (Str × V)} {v w : V} (hC : C ∈ (["Part", "Pass", "Work", "Choose", "Merge"] : List Str)) (h : H a = some (.ins (Γ C) dx fs)) (hl : fs.lookup ("ins" : Str) = some v) (q : Q v H) : sp_Part_wants K Γ [.ref a, w] H Q E := by
  refine ⟨?_⟩
  unfold b_Part_wants
  walk_at "ex"
  exact ⟨C, dx, fs, hC, h, v, hl, q⟩
theorem c_mwants {a : Addr} {t : Int} {o n u : List Int} {B : Int} (h : Ak K Γ F H ad R y ls rw' X) (hp : PAt K Γ F a (.merge t o n u)) (ok : ROk B (.merge t o n u)) (hB : B ≤ 33) (q : ∀ F' H' p, Grow F H F' H' → SqT K F' p ((wantsL X (.merge t o n u)).map V.int) → Q (.ref p) H') : sp_Merge_wants K Γ [.ref a, y] H Q E := by
  have := sz
  obtain ⟨dx, vi, vo, vn, vu, e, t1, ⟨ao, rfl, t2⟩, ⟨an, rfl, t3⟩, t4⟩ := hp
  obtain ⟨k1, k2, k3, ⟨k4, k5⟩, _⟩ := ok
  have hH := h.own.s
  obtain ⟨i, rfl⟩ := Int.eq_ofNat_of_zero_le k4
  obtain ⟨r, b, c, e1, e2, e3, hb, hc, hbc, hr⟩ := h.get (i := i) (by omega)
  have w := h.yd.same hH
  refine ⟨?_⟩
  unfold b_Merge_wants
  walk_at "ex"
  refine w.m ?_
  refine ⟨"Merge", dx, _, by decide +kernel, hH _ _ e, .int i, rfl, c_first hH w e2 hb fun H2 g => ?_⟩
  walk_at "if"
  have hH2 := g.fh
  have hw : wantsL X (.merge i o n u) = mw r i o n := by
    show (match X[Int.toNat (i : Int)]? with | some r => mw r i o n | none => [(i : Int)]) = _
    rw [Int.toNat_natCast, e1]
  cases r with
  | nil =>
    simp only [List.head?_nil, Option.elim_none, if_true, decide_true]
    refine ⟨"Merge", dx, _, by decide +kernel, hH2 _ _ e, .int i, rfl, show 1 ≤ sizeLine by omega, fun p hp => ?_⟩
    obtain ⟨F3, g3, t5, e3⟩ := tup_all (K := K) (ys := [(i : Int)].map V.int) g hp
    exact q _ _ _ g3 (by rw [hw]; exact t5)
  | cons z r =>
    simp only [List.head?_cons, Option.elim_some, reduceCtorEq, decide_false, Bool.false_eq_true, if_false]
    walk_at "if"
    by_cases hz : z = 0
    · subst hz
      simp only [if_true]
      refine ⟨"Merge", dx, _, by decide +kernel, hH2 _ _ e, .int i, rfl, show 1 ≤ sizeLine by omega, fun p hp => ?_⟩
      obtain ⟨F3, g3, t5, e3⟩ := tup_all (K := K) (ys := [(i : Int)].map V.int) g hp
      refine ⟨"Merge", dx, _, by decide +kernel, g3.fh _ _ (e3 _ _ e), .ref an, rfl, ?_⟩
      walk_at "ex"
      refine catT (xs := [(i : Int)]) (ys := n) (Same.sqT g3.fh t5) (Same.sqT g3.fh (Same.sqT e3 t3)) (by simp) (by omega) (by simp; omega) fun p2 hp2 => ?_
      obtain ⟨F4, g4, t6, e4⟩ := tup_all (K := K) (ys := ([(i : Int)] ++ n).map V.int) g3 hp2
      exact q _ _ _ g4 (by rw [hw]; simp only [mw, if_true]; exact t6)
    · simp only [hz, if_false]
      refine ⟨"Merge", dx, _, by decide +kernel, hH2 _ _ e, .int i, rfl, show 1 ≤ sizeLine by omega, fun p hp => ?_⟩
      obtain ⟨F3, g3, t5, e3⟩ := tup_all (K := K) (ys := [(i : Int)].map V.int) g hp
      refine ⟨"Merge", dx, _, by decide +kernel, g3.fh _ _ (e3 _ _ e), .ref ao, rfl, ?_⟩
      walk_at "ex"
      refine catT (xs := [(i : Int)]) (ys := o) (Same.sqT g3.fh t5) (Same.sqT g3.fh (Same.sqT e3 t2)) (by simp) (by omega) (by simp; omega) fun p2 hp2 => ?_
      obtain ⟨F4, g4, t6, e4⟩ := tup_all (K := K) (ys := ([(i : Int)] ++ o).map V.int) g3 hp2
      exact q _ _ _ g4 (by rw [hw]; simp only [mw, hz, if_false]; exact t6)
theorem c_wanted {a : Addr} {d : RD} {B : Int} (h : Ak K Γ F H ad R y ls rw' X) (hr : RAt K F a d) (ok : ROk B d) (hB : B ≤ 33) (q : ∀ F' H' p, Grow F H F' H' → SqT K F' p ((wantsL X d).map V.int) → Q (.ref p) H') : sp_L_wanted K Γ [.ref a, .ref rw'] H Q E := by
  have := sz
  have hH := h.own.s
  refine ⟨?_⟩
  unfold b_L_wanted
  cases d with
  | pass i o r =>
    obtain ⟨vi, v2, v3, h0, ⟨ai, rfl, h1⟩, h2, h3⟩ := hr
    have h0 := Same.sqT hH h0
    walk_at "if"
    refine ⟨_, .str "pass", .inr h0, rfl, ?_⟩
    walk_at "ex"
    rw [if_pos (by decide +kernel)]
    exact ⟨_, .ref ai, .inr h0, rfl, q _ _ _ (Grow.rfl' hH) h1⟩
  | work i o sg l r =>
    obtain ⟨vi, v2, v3, h0, ⟨ai, rfl, h1⟩, h2, h3⟩ := hr
    have h0 := Same.sqT hH h0
    walk_at "if"
    refine ⟨_, .str "work", .inr h0, rfl, ?_⟩
    walk_at "ex"
    rw [if_pos (by decide +kernel)]
    exact ⟨_, .ref ai, .inr h0, rfl, q _ _ _ (Grow.rfl' hH) h1⟩
  | choose i w o n t =>
    obtain ⟨vi, v2, v3, h0, ⟨ai, rfl, h1⟩, h2, h3⟩ := hr
    have h0 := Same.sqT hH h0
    walk_at "if"
    refine ⟨_, .str "choose", .inr h0, rfl, ?_⟩
    walk_at "ex"
    rw [if_pos (by decide +kernel)]
    exact ⟨_, .ref ai, .inr h0, rfl, q _ _ _ (Grow.rfl' hH) h1⟩
  | merge t o n u =>
    obtain ⟨vo, vn, vu, h0, ⟨ao, rfl, h1⟩, ⟨an, rfl, h2⟩, h3⟩ := hr
    obtain ⟨k1, k2, k3, ⟨k4, k5⟩, _⟩ := ok
    obtain ⟨i, rfl⟩ := Int.eq_ofNat_of_zero_le k4
    obtain ⟨r, b, c, e1, e2, e3, hb, hc, hbc, hr⟩ := h.get (i := i) (by omega)
    have h0H := Same.sqT hH h0
    have hw : wantsL X (.merge i o n u) = mw r i o n := by
      show (match X[Int.toNat (i : Int)]? with | some r => mw r i o n | none => [(i : Int)]) = _
      rw [Int.toNat_natCast, e1]
    walk_at "if"
    refine ⟨_, .str "merge", .inr h0H, rfl, ?_⟩
    walk_at "ex"
    rw [if_neg (by decide +kernel)]
    walk_at "if"
    refine ⟨_, .int i, .inr h0H, rfl, ?_⟩
    walk_at "ex"
    refine ⟨_, .ref c, .inl (hH.seq h.sr), at_map e3, show 0 ≤ sizeLine by omega, fun p hp => ?_⟩
    walk_at "ex"
    have g := Grow.drop (o := .lst []) hH hp
    have t : Same H (upd H p (.lst [])) := Same.new hp
    refine ⟨.list (r.map .int), .list [], .lst (SqL.of (t _ _ hc)) (DpAll.same t DpAll.ints), .lst (SqL.of upd_same) .nil, (Pl.ints (n := 0)).shaped (by decide), by decide, ?_⟩
    generalize upd H p (.lst []) = H2 at g t ⊢
    have h0H := Same.sqT g.fh h0
    cases r with
    | nil =>
      simp only [List.map_nil, PyData.eqv, PyData.eqvAll, if_true]
      refine ⟨_, .int i, .inr h0H, rfl, show 1 ≤ sizeLine by omega, fun p hp => ?_⟩
      obtain ⟨F3, g3, t5, e3⟩ := tup_all (K := K) (ys := [(i : Int)].map V.int) g hp
      exact q _ _ _ g3 (by rw [hw]; exact t5)
    | cons z r =>
      simp only [List.map_cons, PyData.eqv, PyData.eqvAll, Bool.false_eq_true, if_false]
      walk_at "if"
      refine ⟨_, .int i, .inr h0H, rfl, ?_⟩
      walk_at "ex"
      refine ⟨_, .ref c, .inl (g.fh.seq h.sr), at_map e3, ?_⟩
      walk_at "ex"
      refine ⟨_, .int z, .inl (SqL.of (t _ _ hc)), at_map (i := 0) (xs := z :: r) rfl, ?_⟩
      walk_at "ex"
      by_cases hz : z = 0
      · subst hz
        simp only [if_true]
        refine ⟨_, .int i, .inr h0H, rfl, show 1 ≤ sizeLine by omega, fun p hp => ?_⟩
        obtain ⟨F3, g3, t5, e3⟩ := tup_all (K := K) (ys := [(i : Int)].map V.int) g hp
        refine ⟨_, .ref an, .inr (Same.sqT g3.fh (Same.sqT e3 h0)), rfl, ?_⟩
        walk_at "ex"
        refine catT (xs := [(i : Int)]) (ys := n) (Same.sqT g3.fh t5) (Same.sqT g3.fh (Same.sqT e3 h2)) (by simp) (by omega) (by simp; omega) fun p2 hp2 => ?_
        obtain ⟨F4, g4, t6, e4⟩ := tup_all (K := K) (ys := ([(i : Int)] ++ n).map V.int) g3 hp2
        exact q _ _ _ g4 (by rw [hw]; simp only [mw, if_true]; exact t6)
      · simp only [hz, if_false]
        refine ⟨_, .int i, .inr h0H, rfl, show 1 ≤ sizeLine by omega, fun p hp => ?_⟩
        obtain ⟨F3, g3, t5, e3⟩ := tup_all (K := K) (ys := [(i : Int)].map V.int) g hp
        refine ⟨_, .ref ao, .inr (Same.sqT g3.fh (Same.sqT e3 h0)), rfl, ?_⟩
        walk_at "ex"
        refine catT (xs := [(i : Int)]) (ys := o) (Same.sqT g3.fh t5) (Same.sqT g3.fh (Same.sqT e3 h1)) (by simp) (by omega) (by simp; omega) fun p2 hp2 => ?_
        obtain ⟨F4, g4, t6, e4⟩ := tup_all (K := K) (ys := ([(i : Int)] ++ o).map V.int) g3 hp2
        exact q _ _ _ g4 (by rw [hw]; simp only [mw, hz, if_false]; exact t6)
end

section
variable {K : PySem.W.Frag} {Γ : Gm} {F H : Hp} {Q : VK} {E : XK} {ad : Nat → List Addr} {R : Nat → List HO} {y : V} {ls : List (Option Int)} {rw' : Addr} {X : List (List Int)}
theorem c_wants {a : Addr} {d : RD} {B : Int} (h : Ak K Γ F H ad R y ls rw' X) (hp : PAt K Γ F a d) (ok : ROk B d) (hB : B ≤ 33) (q : ∀ F' H' p, Grow F H F' H' → SqT K F' p ((wantsL X d).map V.int) → Q (.ref p) H') :
    mthR Γ "wants" a H [("Part", sp_Part_wants K Γ), ("Pass", sp_Part_wants K Γ), ("Work", sp_Part_wants K Γ), ("Choose", sp_Part_wants K Γ), ("Merge", sp_Merge_wants K Γ)] fun sp => sp [.ref a, y] H Q E := by
  have hH := h.own.s
  cases d with
  | pass i o r =>
    obtain ⟨dx, vi, v2, v3, e, ⟨ai, rfl, h1⟩, _⟩ := hp
    exact ⟨("Pass", sp_Part_wants K Γ), by simp, dx, _, hH _ _ e, rfl, c_pwants (C := "Pass") (by decide +kernel) (hH _ _ e) rfl (q _ _ _ (Grow.rfl' hH) h1)⟩
  | work i o sg l r =>
    obtain ⟨dx, vi, v2, v3, e, ⟨ai, rfl, h1⟩, _⟩ := hp
    exact ⟨("Work", sp_Part_wants K Γ), by simp, dx, _, hH _ _ e, rfl, c_pwants (C := "Work") (by decide +kernel) (hH _ _ e) rfl (q _ _ _ (Grow.rfl' hH) h1)⟩
  | choose i w o n t =>
    obtain ⟨dx, vi, v2, v3, e, ⟨ai, rfl, h1⟩, _⟩ := hp
    exact ⟨("Choose", sp_Part_wants K Γ), by simp, dx, _, hH _ _ e, rfl, c_pwants (C := "Choose") (by decide +kernel) (hH _ _ e) rfl (q _ _ _ (Grow.rfl' hH) h1)⟩
  | merge t o n u =>
    have hp' := hp
    obtain ⟨dx, vi, vo, vn, vu, e, _⟩ := hp
    exact ⟨("Merge", sp_Merge_wants K Γ), by simp, dx, _, hH _ _ e, rfl, c_mwants h hp' ok hB q⟩
theorem head_of {B : Int} {xs : List Int} (h : 1 ≤ xs.length) (hb : Bd B xs) (hB : B ≤ 33) : ∃ (i : Nat) (r : List Int), i < 34 ∧ xs = (i : Int) :: r := by
  cases xs with
  | nil => simp at h
  | cons x r =>
    have := hb x List.mem_cons_self
    exact ⟨x.toNat, r, by omega, by rw [Int.toNat_of_nonneg this.1]⟩
theorem wants_head {d : RD} {B : Int} (ok : ROk B d) (hB : B ≤ 33) : ∃ (i : Nat) (r : List Int), i < 34 ∧ wantsL X d = (i : Int) :: r := by
  cases d with
  | pass i o r => exact head_of ok.1.1 ok.2.2.2.2.1 hB
  | work i o sg l r => exact head_of ok.1.1 ok.2.2.2.2.2 hB
  | choose i w o n t => exact head_of ok.1.1 ok.2.2.2.2.2.1 hB
  | merge t o n u =>
    have ht := ok.2.2.2.1
    obtain ⟨i, rfl⟩ := Int.eq_ofNat_of_zero_le ht.1
    show ∃ (j : Nat) (r : List Int), j < 34 ∧ (match X[Int.toNat (i : Int)]? with | some r => mw r i o n | none => [(i : Int)]) = (j : Int) :: r
    cases X[Int.toNat (i : Int)]? with
    | none => exact ⟨i, [], by omega, rfl⟩
    | some r =>
      cases r with
      | nil => exact ⟨i, [], by omega, rfl⟩
      | cons c r =>
        by_cases hc : c = 0
        · exact ⟨i, n, by omega, by simp only [mw, hc, if_true]⟩
        · exact ⟨i, o, by omega, by simp only [mw, hc, if_false]⟩
theorem tupI_pl {xs : List Int} : Pl 1 (.tuple (xs.map .int)) := .tuple fun d h => by
  obtain ⟨i, _, rfl⟩ := List.mem_map.mp h
  exact .int
theorem c_asked {a ra : Addr} {d : RD} {B : Int} (h : Ak K Γ F H ad R y ls rw' X) (hp : PAt K Γ F a d) (hr : RAt K F ra d) (ok : ROk B d) (hB : B ≤ 33) (q : ∀ F' H', Grow F H F' H' → Q (.bl true) H') : sp_L_asked K Γ [.ref a, y, .ref ra, .ref rw'] H Q E := by
  have := sz
  refine ⟨?_⟩
  unfold b_L_asked
  walk_at "ex"
  refine c_wants h hp ok hB fun F1 H1 p1 g1 t1 => ?_
  have h1 := h.grow g1
  walk_at "if"
  refine .inr (.inl ⟨⟨_, Same.sqT g1.fh t1⟩, ?_⟩)
  walk_at "ex"
  refine c_wanted h1 (hr.same g1.ff) ok hB fun F2 H2 p2 g2 t2 => ?_
  have t1 := Same.sqT g2.ff t1
  have h2 := h1.grow g2
  walk_at "ex"
  refine ⟨.tuple ((wantsL X d).map .int), .tuple ((wantsL X d).map .int), .tup (Same.sqT g2.fh t1) DpAll.ints, .tup (Same.sqT g2.fh t2) DpAll.ints, tupI_pl.shaped (by decide), tupI_pl.shaped (by decide), ?_⟩
  rw [tupI_pl.eq]
  walk_at "ex"
  refine .inr ⟨_, Same.sqT g2.fh t1, ?_⟩
  have turn : ∀ (xs : List Int) (o : Option V), walk (fun H => SqT K H p1 ((wantsL X d).map V.int)) (gNm 5) (l_L_asked_1 K Γ) { nx := sRet (eBin (uEq K) (eMth Γ "stands" [("Yard", sp_Yard_stands K Γ)] E0 (eVar 1) aNil) (eVar 3)) { nx := fun _ H' => Q .non H', rt := Q }, rt := Q } (xs.map V.int) [some (.ref a), some y, some (.ref ra), some (.ref rw'), some (.ref p1), o] H2 := by
    intro xs
    induction xs with
    | nil =>
      intro o
      refine ⟨Same.sqT g2.fh t1, ?_⟩
      walk_at "ex"
      have hH := h2.own.s
      have w := h2.yd.same hH
      refine w.m (c_stands (rs := X) hH w (by have := h2.own.lens h2.ra; have := h2.lx; omega) (h2.own.lens h2.ra) (h2.own.ats h2.ra) fun F3 H3 D g3 hD => ?_)
      walk_at "ex"
      refine ⟨rowsD X, rowsD X, Dp.same g3.fh hD, Dp.same g3.hh (h2.own.dp h2.rb h2.sr), rowsD_pl.shaped (by decide), rowsD_pl.shaped (by decide), ?_⟩
      rw [rowsD_pl.eq]
      exact q _ _ ((g1.trans g2).trans g3)
    | cons x xs ih =>
      intro o
      refine ⟨Same.sqT g2.fh t1, ?_⟩
      walk_at "ex"
      rw [el_L_asked_1]
      walk_at "if"
      exact ih _
  exact turn _ _
end

section
variable {K : PySem.W.Frag} {Γ : Gm} {F H : Hp} {Q : VK} {E : XK} {ad : Nat → List Addr} {R : Nat → List HO} {y : V} {ls : List (Option Int)} {rw' : Addr} {X : List (List Int)}
theorem Ak.put {i : Nat} {r : List Int} {a b : Addr} (h : Ak K Γ F H ad R y ls rw' X) (ha : (ad 0)[i]? = some a) (hb : (ad 1)[i]? = some b) (hr : r.length ≤ 2) : ∃ R', Ak K Γ F (upd (upd H a (Ints r)) b (Ints r)) ad R' y ls rw' (X.set i r) := by
  have hm : (X.set i r).map Ints = (X.map Ints).set i (Ints r) := by rw [List.map_set]
  have o1 := h.own.set (u := Ints r) ha
  have o2 := o1.set (u := Ints r) hb
  refine ⟨_, o2, h.yd, h.sr, ?_, ?_, by rw [List.length_set]; exact h.lx, fun z hz => ?_⟩
  · rw [put_ne (by decide), put_same, h.ra, hm]
  · rw [put_same, put_ne (by decide), h.rb, hm]
  · rcases List.mem_or_eq_of_mem_set hz with h1 | rfl
    · exact h.bd z h1
    · exact hr
theorem c_lfirst (c k : Int) (hk : 0 ≤ k ∧ k ≤ 100000) (s : Same F H) (q : ∀ F' H' p (r : List Int), Grow F H F' H' → SqT K F' p (r.map V.int) → r.length ≤ 1 → Q (.ref p) H') : sp_L_first K Γ [.int c, .int k] H Q E := by
  have := sz
  refine ⟨?_⟩
  unfold b_L_first
  walk_at "ex"
  refine c_mixed _ _ (by omega) fun m hm0 hm1 => ?_
  walk_at "if"
  refine ⟨by decide, ?_⟩
  split
  · refine ⟨show 0 ≤ sizeLine by omega, fun p hp => ?_⟩
    obtain ⟨F3, g3, t5, e3⟩ := tup_all (K := K) (ys := ([] : List Int).map V.int) (Grow.rfl' s) hp
    exact q _ _ _ [] g3 t5 (by simp)
  · refine ⟨⟨by decide, by decide⟩, by decide, ?_⟩
    split
    · refine ⟨⟨by decide, by decide⟩, c_number _ _ (by omega) fun x _ => ?_⟩
      walk_at "ex"
      refine ⟨show 1 ≤ sizeLine by omega, fun p hp => ?_⟩
      obtain ⟨F3, g3, t5, e3⟩ := tup_all (K := K) (ys := ([x] : List Int).map V.int) (Grow.rfl' s) hp
      exact q _ _ _ [x] g3 t5 (by simp)
    · refine ⟨⟨by decide, by decide⟩, by decide, show 1 ≤ sizeLine by omega, fun p hp => ?_⟩
      obtain ⟨F3, g3, t5, e3⟩ := tup_all (K := K) (ys := ([m / 2 % 3 - 1] : List Int).map V.int) (Grow.rfl' s) hp
      exact q _ _ _ [m / 2 % 3 - 1] g3 t5 (by simp)
theorem Lns.push {lvs : List V} {ls : List (Option Int)} {rs : List (List Int)} {v : V} {l : Option Int} {r : List Int} (h : Lns K F lvs ls rs) (hv : Ln K F v l r) : Lns K F (lvs ++ [v]) (ls ++ [l]) (rs ++ [r]) := ⟨by simp [h.1], by simp [h.2.1], fun i z hz => by
  by_cases c : i < lvs.length
  · rw [List.getElem?_append_left c] at hz
    obtain ⟨l', r', e1, e2, e3⟩ := h.2.2 i z hz
    refine ⟨l', r', ?_, ?_, e3⟩
    · rw [List.getElem?_append_left (by rw [← h.1]; exact c)]; exact e1
    · rw [List.getElem?_append_left (by rw [← h.2.1]; exact c)]; exact e2
  · have hi : i = lvs.length := by
      have := (List.getElem?_eq_some_iff.mp hz).1
      simp at this
      omega
    subst hi
    rw [List.getElem?_append_right (Nat.le_refl _), Nat.sub_self] at hz
    cases hz
    refine ⟨l, r, ?_, ?_, hv⟩
    · rw [h.1, List.getElem?_append_right (Nat.le_refl _), Nat.sub_self]; rfl
    · rw [h.2.1, List.getElem?_append_right (Nat.le_refl _), Nat.sub_self]; rfl⟩
theorem lc_lines {L : Hp → Prop} {A : Addr} {c k : Int} {H0 : Hp} {o2 o3 o5 o6 o7 o8 o9 : Option V} (hL : ∀ H', L H') (hk : 0 ≤ k ∧ k ≤ 1000) (hA : H0 A = none) :
    ∀ (xs : List V) (lvs : List V) (ls : List (Option Int)) (rs : List (List Int)) (F1 H1 : Hp), (∀ x ∈ xs, ∃ j : Int, x = .int j ∧ 0 ≤ j ∧ j ≤ 40) → Grow F H0 F1 H1 → F1 A = none → H1 A = some (.lst lvs) → Lns K F1 lvs ls rs → lvs.length + xs.length ≤ 1000 → (∀ r ∈ rs, r.length ≤ 1) →
    (∀ F2 H2 lvs' ls rs, Grow F H0 F2 H2 → F2 A = some (.lst lvs') → Lns K F2 lvs' ls rs → lvs'.length = lvs.length + xs.length → (∀ r ∈ rs, r.length ≤ 1) → Q (.ref A) H2) →
    walkC L (gNm 4) tYes (eTup (aCons (eLit (.int 2)) (aCons (eCall (sp_L_first K Γ) E0 (aCons (eVar 0) (aCons (eBin (uAdd K) (eVar 1) (eVar 4)) aNil))) aNil))) [4] [some (.int c), some (.int k), o2, o3, none, o5, o6, o7, o8, o9] A Q xs H1 := by
  have := sz
  intro xs
  induction xs with
  | nil =>
    intro lvs ls rs F1 H1 _ g hF hd h hl h3 q
    exact ⟨hL _, q _ _ lvs ls rs (g.shut hF hA hd) upd_same (h.same (Same.new hF)) rfl h3⟩
  | cons x xs ih =>
    intro lvs ls rs F1 H1 hx g hF hd h hl h3 q
    obtain ⟨j, rfl, hj0, hj1⟩ := hx _ List.mem_cons_self
    refine ⟨hL _, ?_⟩
    walk_at "ex"
    refine ⟨rfl, ?_⟩
    simp only [wipe, List.map, List.foldl]
    walk_at "ex"
    rw [List.length_cons] at hl
    refine c_lfirst _ _ (by omega) g.fh fun F2 H2 p r g2 ht hr => ?_
    walk_at "ex"
    refine ⟨show 2 ≤ sizeLine by omega, fun p2 hp2 => ?_⟩
    have hF2 : F2 A = none := g2.apart A hF (by rw [hd]; simp)
    have hd2 := g2.hh _ _ hd
    have hA2 : A ≠ p2 := ne_of_none hd2 hp2
    obtain ⟨F3, g3, t3, e3⟩ := tup_all (K := K) (ys := [.int 2, .ref p]) g2 hp2
    have hF3 : F3 A = none := g3.apart A hF (by rw [hd]; simp)
    refine ⟨lvs, by rw [upd_ne hA2]; exact hd2, by omega, ?_⟩
    refine ih (lvs ++ [.ref p2]) (ls ++ [some 2]) (rs ++ [r]) F3 _ (fun y hy => hx y (List.mem_cons_of_mem _ hy)) ((g.trans g3).cell hF3 hA) hF3 upd_same (((h.same g2.ff).same e3).push ⟨p2, p, rfl, t3, Same.sqT e3 ht⟩) (by simp only [List.length_append, List.length_cons, List.length_nil]; omega) (fun z hz => ?_) (fun F3 H3 lvs' ls' rs' a1 a2 a3 a4 a5 => q F3 H3 lvs' ls' rs' a1 a2 a3 (by rw [a4]; simp only [List.length_append, List.length_cons, List.length_nil]; omega) a5)
    rcases List.mem_append.mp hz with hz | hz
    · exact h3 z hz
    · rw [List.mem_singleton] at hz
      rw [hz]; exact hr
def isM : RD → Bool
  | .merge _ _ _ _ => true
  | _ => false
theorem isC_part {a : Addr} {d : RD} (hp : PAt K Γ H a d) :
    ∃ c ∈ ([("Yard", false), ("Part", false), ("Pass", false), ("Work", false), ("Choose", false), ("Merge", true)] : List (Str × Bool)), ∃ dx fs, H a = some (.ins (Γ c.1) dx fs) ∧ c.2 = isM d := by
  cases d with
  | pass i o r =>
    obtain ⟨dx, vi, v2, v3, e, _⟩ := hp
    exact ⟨("Pass", false), by simp, dx, _, e, rfl⟩
  | work i o sg l r =>
    obtain ⟨dx, vi, v2, v3, e, _⟩ := hp
    exact ⟨("Work", false), by simp, dx, _, e, rfl⟩
  | choose i w o n t =>
    obtain ⟨dx, vi, v2, v3, e, _⟩ := hp
    exact ⟨("Choose", false), by simp, dx, _, e, rfl⟩
  | merge t o n u =>
    obtain ⟨dx, vi, vo, vn, vu, e, _⟩ := hp
    exact ⟨("Merge", true), by simp, dx, _, e, rfl⟩
theorem row_kind {a : Addr} {d : RD} (hr : RAt K H a d) : ∃ (xs : List V) (z : Str), SqT K H a xs ∧ atI xs 0 = some (.str z) ∧ decide (z = "merge") = isM d := by
  cases d with
  | pass i o r =>
    obtain ⟨vi, v2, v3, h0, _⟩ := hr
    exact ⟨_, "pass", h0, rfl, (show decide (("pass" : Str) = "merge") = false by decide +kernel)⟩
  | work i o sg l r =>
    obtain ⟨vi, v2, v3, h0, _⟩ := hr
    exact ⟨_, "work", h0, rfl, (show decide (("work" : Str) = "merge") = false by decide +kernel)⟩
  | choose i w o n t =>
    obtain ⟨vi, v2, v3, h0, _⟩ := hr
    exact ⟨_, "choose", h0, rfl, (show decide (("choose" : Str) = "merge") = false by decide +kernel)⟩
  | merge t o n u =>
    obtain ⟨vi, v2, v3, h0, _⟩ := hr
    exact ⟨_, "merge", h0, rfl, (show decide (("merge" : Str) = "merge") = true by decide +kernel)⟩
theorem Yd.mr {y0 : Addr} {ps : List Addr} {m : Str} {sp : Sp} {k : Sp → Prop} (y : Yd K Γ H (.ref y0) ls ps) (q : k sp) (h1 : (m == ("lengths" : Str)) = false := by decide +kernel) (h2 : (m == ("rows" : Str)) = false := by decide +kernel) : mthR Γ m y0 H [("Yard", sp)] k := Yd.m y q h1 h2
theorem c_one (c k : Int) (hk : 0 ≤ k ∧ k ≤ 100) (s : Same F H) (q : ∀ F' H', Grow F H F' H' → Q (.bl true) H') : sp_L_one K Γ [.int c, .int k] H Q E := by
  have := sz
  refine ⟨?_⟩
  unfold b_L_one
  walk_at "ex"
  refine c_row c k 4 (by omega) (by decide) s fun F1 H1 ra d g1 hra ok => ?_
  have ok : ROk 33 d := ok
  walk_at "ex"
  refine ⟨by decide, fun A hA => ?_⟩
  refine lc_lines (F := F1) (fun _ => trivial) (by omega) hA _ [] [] [] F1 _ (fun x hx => by
    obtain ⟨j, h1, h2, h3⟩ := range_mem hx
    exact ⟨j, h1, h2, by omega⟩) (Grow.drop g1.fh hA) (Same.free g1.fh hA) upd_same ⟨rfl, rfl, fun i v h => by simp at h⟩ (by simp [rangeV]) (by simp) fun F2 H2 lvs ls rs g2 hA2 hL hlv hr3 => ?_
  have hlv : lvs.length = 34 := by rw [hlv]; simp [rangeV]
  have hra := hra.same g2.ff
  walk_at "ex"
  refine .inl ⟨lvs, SqL.of (g2.fh _ _ hA2), fun D hD => ?_⟩
  refine lc_rows (F := F2) (H0 := H2) (fun H' t => SqL.of (t _ _ (g2.fh _ _ hA2))) hD (Same.free g2.fh hD) (fun _ => rfl) ?_ lvs ls rs [] [] _ hL (Grow.drop g2.fh hD) Nw.nil (by simp) upd_same (by simp; omega) fun H3 ps1 g3 n3 hDp hd3 => ?_
  · intro v l r H Q hv q
    obtain ⟨a, c, rfl, h1, h2⟩ := hv
    simp only [wipe, List.map, List.foldl]
    walk_at "ex"
    exact ⟨_, .ref c, .inr h1, rfl, _, .inr h2, q⟩
  have f3 : ∀ p ∈ ps1, upd F2 D (.lst (ps1.map V.ref)) p = none := fun p hp => by
    rw [upd_ne (fun e => hDp (by rw [← e]; exact hp))]
    exact Same.free g2.fh (n3.fr p hp)
  have g3 := g3.shut (Same.free g2.fh hD) hD hd3
  have o1 := (Own.zero g2.fh).add (q := 1) g3 n3 f3 rfl
  rw [List.nil_append] at o1
  have hw1 : upd F2 D (.lst (ps1.map V.ref)) D = some (.lst (ps1.map V.ref)) := upd_same
  generalize upd F2 D (.lst (ps1.map V.ref)) = F3 at o1 hw1 g3
  have hL3 := hL.same g3.ff
  have hA3 := g3.ff _ _ hA2
  have hra := hra.same g3.ff
  walk_at "ex"
  intro x dx hx hdx hne
  refine c_init o1.s hx hdx hne (o1.s _ _ hA3) (by omega) hL3 fun F4 H4 ps0 g4 n4 f4 yd => ⟨rfl, ?_⟩
  have o2 := o1.add (q := 0) g4 n4 f4 rfl
  have hra := hra.same g4.ff
  walk_at "ex"
  refine c_part_of o2.s hra ok fun F5 H5 pa g5 hpa => ?_
  have hra := hra.same g5.ff
  have ak : Ak K Γ F5 H5 _ _ (.ref x) ls D rs := ⟨o2.grow g5, yd.same g5.ff, SqL.of (g5.ff _ _ (g4.ff _ _ hw1)), rfl, rfl, by have := hL.2.1; omega, fun r hr => Nat.le_succ_of_le (hr3 r hr)⟩
  have gg := (((g1.trans g2).trans g3).trans g4).trans g5
  have hpH := hpa.same ak.own.s
  obtain ⟨ks, z, hk1, hk2, hk3⟩ := row_kind (hra.same ak.own.s)
  walk_at "if"
  obtain ⟨ic, hic, idx, ifs, ie, ib⟩ := isC_part hpH
  refine ⟨ic, hic, idx, ifs, ie, ?_⟩
  rw [ib]
  refine ⟨ks, .str z, .inr hk1, hk2, ?_⟩
  walk_at "ex"
  rw [hk3]
  rw [if_neg (fun h => h rfl)]
  refine c_asked ak hpa hra ok (by decide) fun F6 H6 g6 => ?_
  have ak := ak.grow g6
  have hpa := hpa.same g6.ff
  have hra := hra.same g6.ff
  walk_at "ex"
  refine c_wanted ak hra ok (by decide) fun F7 H7 p7 g7 t7 => ?_
  have ak := ak.grow g7
  have hpa := hpa.same g7.ff
  have hra := hra.same g7.ff
  obtain ⟨i, wr, hi, hwl⟩ := wants_head (X := rs) ok (by decide)
  rw [hwl] at t7
  walk_at "ex"
  refine ⟨_, .int i, .inr (Same.sqT g7.fh t7), at_map (i := 0) (xs := (i : Int) :: wr) rfl, ?_⟩
  obtain ⟨r, a, b, e1, e2, e3, ha, hb, hab, hr⟩ := ak.get hi
  have hH := ak.own.s
  have hrl : r.length ≤ 1 := by
    have := hr3 r (List.mem_of_getElem? e1)
    exact this
  have na : H a = none := Same.free (((g1.trans g2).trans g3).hh) (n4.fr a (List.mem_of_getElem? (show ps0[i]? = some a from e2)))
  have nb : H b = none := Same.free ((g1.trans g2).hh) (n3.fr b (List.mem_of_getElem? (show ps1[i]? = some b from e3)))
  have gg := (gg.trans g6).trans g7
  walk_at "if"
  refine ⟨_, .ref b, .inl (hH.seq ak.sr), at_map e3, show 0 ≤ sizeLine by omega, fun p hp => ?_⟩
  walk_at "ex"
  have g8 := Grow.drop (o := .lst []) hH hp
  have ak := ak.grow g8
  have gg := gg.trans g8
  have hH := ak.own.s
  have ha := g8.hh _ _ ha
  have hb := g8.hh _ _ hb
  refine ⟨.list (r.map .int), .list [], .lst (SqL.of hb) DpAll.ints, .lst (SqL.of upd_same) .nil, (Pl.ints (n := 0)).shaped (by decide), by decide, ?_⟩
  generalize upd H7 p (.lst []) = H8 at g8 gg ha hb hH ak ⊢
  have fa : F7 a = none := by
    obtain ⟨u, _, cc⟩ := ak.own.c e2
    exact cc.f
  have fb : F7 b = none := by
    obtain ⟨u, _, cc⟩ := ak.own.c e3
    exact cc.f
  have w := ak.yd.same hH
  cases r with
  | nil =>
    simp only [List.map_nil, PyData.eqv, PyData.eqvAll, if_true]
    refine c_mixed _ _ (by omega) fun m hm0 hm1 => ?_
    walk_at "ex"
    refine ⟨by decide, ?_⟩
    refine w.mr (c_hand w e2 ha (by simp) ?_)
    walk_at "ex"
    have hb' : upd H8 a (Ints ([] ++ [m % 2])) b = some (Ints []) := by rw [upd_ne hab.symm]; exact hb
    have o5 := ak.own.set (u := Ints ([] ++ [m % 2])) e2
    refine ⟨_, .ref b, .inl (o5.s.seq ak.sr), at_map e3, ?_⟩
    walk_at "ex"
    refine ⟨⟨_, SqL.of hb'⟩, _, hb', by simp; omega, ?_⟩
    obtain ⟨R', ak'⟩ := ak.put e2 e3 (r := [] ++ [m % 2]) (by simp)
    have gg' := (gg.cell (o := Ints ([] ++ [m % 2])) fa na).cell (o := Ints ([] ++ [m % 2])) fb nb
    exact c_asked ak' hpa hra ok (by decide) fun F9 H9 g9 => q _ _ (gg'.trans g9)
  | cons z r =>
    simp only [List.map_cons, PyData.eqv, PyData.eqvAll, Bool.false_eq_true, if_false]
    refine w.mr (c_taken w e2 ha ?_)
    walk_at "ex"
    have hb' : upd H8 a (Ints r) b = some (Ints (z :: r)) := by rw [upd_ne hab.symm]; exact hb
    have o5 := ak.own.set (u := Ints r) e2
    refine ⟨_, .ref b, .inl (o5.s.seq ak.sr), at_map e3, ?_⟩
    walk_at "ex"
    refine ⟨⟨_, SqL.of hb'⟩, trivial, _, _, hb', ?_⟩
    obtain ⟨R', ak'⟩ := ak.put e2 e3 (r := r) (by simp at hrl; simp [hrl])
    have gg' := (gg.cell (o := Ints r) fa na).cell (o := Ints r) fb nb
    exact c_asked ak' hpa hra ok (by decide) fun F9 H9 g9 => q _ _ (gg'.trans g9)
end

theorem main {K : PySem.W.Frag} (Γ : Gm) {H : Hp} {a : Addr} {ns : List Int} (hl : ns.length ≤ 63) (hb : ∀ z ∈ ns, Builtin.Int.intBits z ≤ 1048576) (hS : SqL K H a (ns.map V.int)) : sp_law K Γ [.ref a] H (fun v _ => v = .bl true) fun _ _ _ => False := by
  have := sz
  refine ⟨?_⟩
  unfold b_law
  walk_at "ex"
  refine ⟨_, .inl hS, fun l hl1 => ?_⟩
  refine if_join (fun σ H' => ∃ (p : Addr) (cs : List Int), cs.length ≤ 63 ∧ H' p = some (.lst (cs.map .int)) ∧ σ = [some (.ref a), some (.ref p), none, none]) ?_ ?_
  · walk_at "ex"
    refine ⟨_, .inl (SqL.of upd_same), ?_⟩
    walk_at "ex"
    rw [List.length_map]
    split
    · exact ⟨show 1 ≤ sizeLine by omega, fun p hp => ⟨p, [0], by simp, upd_same, rfl⟩⟩
    · exact ⟨l, ns, hl, upd_same, rfl⟩
  rintro σ H1 ⟨p, cs, hc, hp, rfl⟩
  walk_at "ex"
  refine ⟨_, SqL.of hp, ?_⟩
  have turn : ∀ (zs : List Int) (k : Nat) (H2 : Hp) (o2 o3 : Option V), k + zs.length ≤ 63 → Same H1 H2 → walkP (fun H => SqL K H p (cs.map V.int)) (gPr K 2 3) (l_law_1 K Γ) { nx := sRet (eLit (.bl true)) { nx := fun _ H' => V.non = .bl true, rt := fun v _ => v = .bl true }, rt := fun v _ => v = .bl true } (enumV k (zs.map V.int)) [some (.ref a), some (.ref p), o2, o3] H2 := by
    intro zs
    induction zs with
    | nil =>
      intro k H2 o2 o3 _ s
      exact ⟨SqL.of (s _ _ hp), rfl⟩
    | cons z zs ih =>
      intro k H2 o2 o3 hk s
      rw [List.map_cons, enumV_cons]
      refine ⟨SqL.of (s _ _ hp), fun T hT => ?_⟩
      walk_at "ex"
      refine ⟨.int k, .int z, .inl (.inl upd_same), ?_⟩
      walk_at "ex"
      rw [el_law_1]
      walk_at "if"
      rw [List.length_cons] at hk
      refine c_one (F := H1) z k (by omega) (s.trans (Same.new hT)) fun F' H' g => ?_
      walk_at "ex"
      exact ih (k + 1) _ _ _ (by omega) ((s.trans (Same.new hT)).trans g.hh)
  exact turn cs 0 H1 _ _ (by omega) (Same.refl _)

theorem all_mk {P : Program} {w : World} {K : PySem.W.Frag} {h : Heap} {mg : Str → Option Value} {fa : Addr} (X : K.In h) (G : h.Ns mainGlobals mg) (hfa : mg "law" = some (.ref fa))
    {f0 f1 f2 f3 f4 f5 f6 f7 f8 f9 f10 f11 f12 f13 f14 f15 f16 f17 f18 f19 f20 f21 f22 c_Yard c_Part c_Pass c_Work c_Choose c_Merge : Addr} {od0 an0 od1 an1 od2 an2 od3 an3 od4 an4 od5 an5 od6 an6 od7 an7 od8 an8 od9 an9 od10 an10 od11 an11 od12 an12 od13 an13 od14 an14 od15 an15 od16 an16 od17 an17 od18 an18 od19 an19 od20 an20 od21 an21 od22 an22 : Option Addr} {sl0 sl1 sl2 sl3 sl4 sl5 sl6 sl7 sl8 sl9 sl10 sl11 sl12 sl13 sl14 sl15 sl16 sl17 sl18 sl19 sl20 sl21 sl22 : Array (Option Value)} {oc0 kV0 dc0 pm0 cd0 ct0 oc1 kV1 dc1 pm1 cd1 ct1 oc2 kV2 dc2 pm2 cd2 ct2 oc3 kV3 dc3 pm3 cd3 ct3 oc4 kV4 dc4 pm4 cd4 ct4 oc5 kV5 dc5 pm5 cd5 ct5 oc6 kV6 dc6 pm6 cd6 ct6 oc7 kV7 dc7 pm7 cd7 ct7 oc8 kV8 dc8 pm8 cd8 ct8 oc9 kV9 dc9 pm9 cd9 ct9 oc10 kV10 dc10 pm10 cd10 ct10 oc11 kV11 dc11 pm11 cd11 ct11 oc12 kV12 dc12 pm12 cd12 ct12 oc13 kV13 dc13 pm13 cd13 ct13 oc14 kV14 dc14 pm14 cd14 ct14 oc15 kV15 dc15 pm15 cd15 ct15 oc16 kV16 dc16 pm16 cd16 ct16 oc17 kV17 dc17 pm17 cd17 ct17 oc18 kV18 dc18 pm18 cd18 ct18 oc19 kV19 dc19 pm19 cd19 ct19 oc20 kV20 dc20 pm20 cd20 ct20 oc21 kV21 dc21 pm21 cd21 ct21 oc22 kV22 dc22 pm22 cd22 ct22 : Value}
    (aC_Yard : PySem.W.nsIn K mainGlobals "Yard" = some (some (.ref c_Yard)))
    (aC_Part : PySem.W.nsIn K mainGlobals "Part" = some (some (.ref c_Part)))
    (aC_Pass : PySem.W.nsIn K mainGlobals "Pass" = some (some (.ref c_Pass)))
    (aC_Work : PySem.W.nsIn K mainGlobals "Work" = some (some (.ref c_Work)))
    (aC_Choose : PySem.W.nsIn K mainGlobals "Choose" = some (some (.ref c_Choose)))
    (aC_Merge : PySem.W.nsIn K mainGlobals "Merge" = some (some (.ref c_Merge)))
    (a0 : PySem.W.nsIn K mainGlobals "_law_mixed" = some (some (.ref f0)))
    (l0 : K.lookup f0 = some ⟨oc0, od0, .func (PySem.W.fnOf "_law_mixed" "_law_mixed" (defArgs s_L_mixed) (defBody s_L_mixed) (defScope s_L_mixed) .none kV0 dc0 pm0 an0 cd0 ct0), sl0⟩)
    (c0 : PySem.W.codeIn K cd0 "_law_mixed" = true)
    (k0 : PySem.W.keepIn K (.ref f0) = true)
    (a1 : PySem.W.nsIn K mainGlobals "_law_lines" = some (some (.ref f1)))
    (l1 : K.lookup f1 = some ⟨oc1, od1, .func (PySem.W.fnOf "_law_lines" "_law_lines" (defArgs s_L_lines) (defBody s_L_lines) (defScope s_L_lines) .none kV1 dc1 pm1 an1 cd1 ct1), sl1⟩)
    (c1 : PySem.W.codeIn K cd1 "_law_lines" = true)
    (k1 : PySem.W.keepIn K (.ref f1) = true)
    (a2 : PySem.W.nsIn K mainGlobals "_law_number" = some (some (.ref f2)))
    (l2 : K.lookup f2 = some ⟨oc2, od2, .func (PySem.W.fnOf "_law_number" "_law_number" (defArgs s_L_number) (defBody s_L_number) (defScope s_L_number) .none kV2 dc2 pm2 an2 cd2 ct2), sl2⟩)
    (c2 : PySem.W.codeIn K cd2 "_law_number" = true)
    (k2 : PySem.W.keepIn K (.ref f2) = true)
    (a3 : PySem.W.nsIn K mainGlobals "_law_side" = some (some (.ref f3)))
    (l3 : K.lookup f3 = some ⟨oc3, od3, .func (PySem.W.fnOf "_law_side" "_law_side" (defArgs s_L_side) (defBody s_L_side) (defScope s_L_side) .none kV3 dc3 pm3 an3 cd3 ct3), sl3⟩)
    (c3 : PySem.W.codeIn K cd3 "_law_side" = true)
    (k3 : PySem.W.keepIn K (.ref f3) = true)
    (a4 : PySem.W.nsIn K mainGlobals "_law_row" = some (some (.ref f4)))
    (l4 : K.lookup f4 = some ⟨oc4, od4, .func (PySem.W.fnOf "_law_row" "_law_row" (defArgs s_L_row) (defBody s_L_row) (defScope s_L_row) .none kV4 dc4 pm4 an4 cd4 ct4), sl4⟩)
    (c4 : PySem.W.codeIn K cd4 "_law_row" = true)
    (k4 : PySem.W.keepIn K (.ref f4) = true)
    (a5 : PySem.W.findIn K (.ref c_Yard) "__init__" = some (some (.ref f5)))
    (l5 : K.lookup f5 = some ⟨oc5, od5, .func (PySem.W.fnOf "__init__" "Yard.__init__" (defArgs s_Yard___init__) (defBody s_Yard___init__) (defScope s_Yard___init__) .none kV5 dc5 pm5 an5 cd5 ct5), sl5⟩)
    (c5 : PySem.W.codeIn K cd5 "Yard.__init__" = true)
    (k5 : PySem.W.keepIn K (.ref f5) = true)
    (i5 : PySem.W.isFn K (.ref f5) = true)
    (a6 : PySem.W.findIn K (.ref c_Part) "__init__" = some (some (.ref f6)))
    (l6 : K.lookup f6 = some ⟨oc6, od6, .func (PySem.W.fnOf "__init__" "Part.__init__" (defArgs s_Part___init__) (defBody s_Part___init__) (defScope s_Part___init__) .none kV6 dc6 pm6 an6 cd6 ct6), sl6⟩)
    (c6 : PySem.W.codeIn K cd6 "Part.__init__" = true)
    (k6 : PySem.W.keepIn K (.ref f6) = true)
    (i6 : PySem.W.isFn K (.ref f6) = true)
    (a7 : PySem.W.findIn K (.ref c_Merge) "__init__" = some (some (.ref f7)))
    (l7 : K.lookup f7 = some ⟨oc7, od7, .func (PySem.W.fnOf "__init__" "Merge.__init__" (defArgs s_Merge___init__) (defBody s_Merge___init__) (defScope s_Merge___init__) .none kV7 dc7 pm7 an7 cd7 ct7), sl7⟩)
    (c7 : PySem.W.codeIn K cd7 "Merge.__init__" = true)
    (k7 : PySem.W.keepIn K (.ref f7) = true)
    (i7 : PySem.W.isFn K (.ref f7) = true)
    (a8 : PySem.W.findIn K (.ref c_Pass) "__init__" = some (some (.ref f8)))
    (l8 : K.lookup f8 = some ⟨oc8, od8, .func (PySem.W.fnOf "__init__" "Pass.__init__" (defArgs s_Pass___init__) (defBody s_Pass___init__) (defScope s_Pass___init__) .none kV8 dc8 pm8 an8 cd8 ct8), sl8⟩)
    (c8 : PySem.W.codeIn K cd8 "Pass.__init__" = true)
    (k8 : PySem.W.keepIn K (.ref f8) = true)
    (i8 : PySem.W.isFn K (.ref f8) = true)
    (a9 : PySem.W.findIn K (.ref c_Work) "__init__" = some (some (.ref f9)))
    (l9 : K.lookup f9 = some ⟨oc9, od9, .func (PySem.W.fnOf "__init__" "Work.__init__" (defArgs s_Work___init__) (defBody s_Work___init__) (defScope s_Work___init__) .none kV9 dc9 pm9 an9 cd9 ct9), sl9⟩)
    (c9 : PySem.W.codeIn K cd9 "Work.__init__" = true)
    (k9 : PySem.W.keepIn K (.ref f9) = true)
    (i9 : PySem.W.isFn K (.ref f9) = true)
    (a10 : PySem.W.findIn K (.ref c_Choose) "__init__" = some (some (.ref f10)))
    (l10 : K.lookup f10 = some ⟨oc10, od10, .func (PySem.W.fnOf "__init__" "Choose.__init__" (defArgs s_Choose___init__) (defBody s_Choose___init__) (defScope s_Choose___init__) .none kV10 dc10 pm10 an10 cd10 ct10), sl10⟩)
    (c10 : PySem.W.codeIn K cd10 "Choose.__init__" = true)
    (k10 : PySem.W.keepIn K (.ref f10) = true)
    (i10 : PySem.W.isFn K (.ref f10) = true)
    (a11 : PySem.W.nsIn K mainGlobals "part_of" = some (some (.ref f11)))
    (l11 : K.lookup f11 = some ⟨oc11, od11, .func (PySem.W.fnOf "part_of" "part_of" (defArgs s_part_of) (defBody s_part_of) (defScope s_part_of) .none kV11 dc11 pm11 an11 cd11 ct11), sl11⟩)
    (c11 : PySem.W.codeIn K cd11 "part_of" = true)
    (k11 : PySem.W.keepIn K (.ref f11) = true)
    (a12 : PySem.W.findIn K (.ref c_Part) "wants" = some (some (.ref f12)))
    (l12 : K.lookup f12 = some ⟨oc12, od12, .func (PySem.W.fnOf "wants" "Part.wants" (defArgs s_Part_wants) (defBody s_Part_wants) (defScope s_Part_wants) .none kV12 dc12 pm12 an12 cd12 ct12), sl12⟩)
    (c12 : PySem.W.codeIn K cd12 "Part.wants" = true)
    (k12 : PySem.W.keepIn K (.ref f12) = true)
    (i12 : PySem.W.isFn K (.ref f12) = true)
    (a13 : PySem.W.findIn K (.ref c_Yard) "first" = some (some (.ref f13)))
    (l13 : K.lookup f13 = some ⟨oc13, od13, .func (PySem.W.fnOf "first" "Yard.first" (defArgs s_Yard_first) (defBody s_Yard_first) (defScope s_Yard_first) .none kV13 dc13 pm13 an13 cd13 ct13), sl13⟩)
    (c13 : PySem.W.codeIn K cd13 "Yard.first" = true)
    (k13 : PySem.W.keepIn K (.ref f13) = true)
    (i13 : PySem.W.isFn K (.ref f13) = true)
    (a14 : PySem.W.findIn K (.ref c_Merge) "wants" = some (some (.ref f14)))
    (l14 : K.lookup f14 = some ⟨oc14, od14, .func (PySem.W.fnOf "wants" "Merge.wants" (defArgs s_Merge_wants) (defBody s_Merge_wants) (defScope s_Merge_wants) .none kV14 dc14 pm14 an14 cd14 ct14), sl14⟩)
    (c14 : PySem.W.codeIn K cd14 "Merge.wants" = true)
    (k14 : PySem.W.keepIn K (.ref f14) = true)
    (i14 : PySem.W.isFn K (.ref f14) = true)
    (a15 : PySem.W.findIn K (.ref c_Yard) "stands" = some (some (.ref f15)))
    (l15 : K.lookup f15 = some ⟨oc15, od15, .func (PySem.W.fnOf "stands" "Yard.stands" (defArgs s_Yard_stands) (defBody s_Yard_stands) (defScope s_Yard_stands) .none kV15 dc15 pm15 an15 cd15 ct15), sl15⟩)
    (c15 : PySem.W.codeIn K cd15 "Yard.stands" = true)
    (k15 : PySem.W.keepIn K (.ref f15) = true)
    (i15 : PySem.W.isFn K (.ref f15) = true)
    (a16 : PySem.W.nsIn K mainGlobals "_law_wanted" = some (some (.ref f16)))
    (l16 : K.lookup f16 = some ⟨oc16, od16, .func (PySem.W.fnOf "_law_wanted" "_law_wanted" (defArgs s_L_wanted) (defBody s_L_wanted) (defScope s_L_wanted) .none kV16 dc16 pm16 an16 cd16 ct16), sl16⟩)
    (c16 : PySem.W.codeIn K cd16 "_law_wanted" = true)
    (k16 : PySem.W.keepIn K (.ref f16) = true)
    (a17 : PySem.W.nsIn K mainGlobals "_law_asked" = some (some (.ref f17)))
    (l17 : K.lookup f17 = some ⟨oc17, od17, .func (PySem.W.fnOf "_law_asked" "_law_asked" (defArgs s_L_asked) (defBody s_L_asked) (defScope s_L_asked) .none kV17 dc17 pm17 an17 cd17 ct17), sl17⟩)
    (c17 : PySem.W.codeIn K cd17 "_law_asked" = true)
    (k17 : PySem.W.keepIn K (.ref f17) = true)
    (a18 : PySem.W.findIn K (.ref c_Yard) "hand" = some (some (.ref f18)))
    (l18 : K.lookup f18 = some ⟨oc18, od18, .func (PySem.W.fnOf "hand" "Yard.hand" (defArgs s_Yard_hand) (defBody s_Yard_hand) (defScope s_Yard_hand) .none kV18 dc18 pm18 an18 cd18 ct18), sl18⟩)
    (c18 : PySem.W.codeIn K cd18 "Yard.hand" = true)
    (k18 : PySem.W.keepIn K (.ref f18) = true)
    (i18 : PySem.W.isFn K (.ref f18) = true)
    (a19 : PySem.W.findIn K (.ref c_Yard) "taken" = some (some (.ref f19)))
    (l19 : K.lookup f19 = some ⟨oc19, od19, .func (PySem.W.fnOf "taken" "Yard.taken" (defArgs s_Yard_taken) (defBody s_Yard_taken) (defScope s_Yard_taken) .none kV19 dc19 pm19 an19 cd19 ct19), sl19⟩)
    (c19 : PySem.W.codeIn K cd19 "Yard.taken" = true)
    (k19 : PySem.W.keepIn K (.ref f19) = true)
    (i19 : PySem.W.isFn K (.ref f19) = true)
    (a20 : PySem.W.nsIn K mainGlobals "_law_first" = some (some (.ref f20)))
    (l20 : K.lookup f20 = some ⟨oc20, od20, .func (PySem.W.fnOf "_law_first" "_law_first" (defArgs s_L_first) (defBody s_L_first) (defScope s_L_first) .none kV20 dc20 pm20 an20 cd20 ct20), sl20⟩)
    (c20 : PySem.W.codeIn K cd20 "_law_first" = true)
    (k20 : PySem.W.keepIn K (.ref f20) = true)
    (a21 : PySem.W.nsIn K mainGlobals "_law_one" = some (some (.ref f21)))
    (l21 : K.lookup f21 = some ⟨oc21, od21, .func (PySem.W.fnOf "_law_one" "_law_one" (defArgs s_L_one) (defBody s_L_one) (defScope s_L_one) .none kV21 dc21 pm21 an21 cd21 ct21), sl21⟩)
    (c21 : PySem.W.codeIn K cd21 "_law_one" = true)
    (k21 : PySem.W.keepIn K (.ref f21) = true)
    (a22 : PySem.W.nsIn K mainGlobals "law" = some (some (.ref f22)))
    (l22 : K.lookup f22 = some ⟨oc22, od22, .func (PySem.W.fnOf "law" "law" (defArgs s_law) (defBody s_law) (defScope s_law) .none kV22 dc22 pm22 an22 cd22 ct22), sl22⟩)
    (c22 : PySem.W.codeIn K cd22 "law" = true)
    (k22 : PySem.W.keepIn K (.ref f22) = true)
    (pg_Yard : PySem.W.plainGet K c_Yard Str.empty = true)
    (hd_Yard : PySem.W.hasDictIn K c_Yard = true)
    (po_Yard : PySem.W.plainOver K c_Yard = true)
    (sa_Yard : PySem.W.findIn K (.ref c_Yard) "__setattr__" = some (some (.builtin "object.__setattr__")))
    (mk_Yard : PySem.W.makesIn K c_Yard = true)
    (kc_Yard : PySem.W.keepIn K (.ref c_Yard) = true)
    (pg_Part : PySem.W.plainGet K c_Part Str.empty = true)
    (hd_Part : PySem.W.hasDictIn K c_Part = true)
    (po_Part : PySem.W.plainOver K c_Part = true)
    (sa_Part : PySem.W.findIn K (.ref c_Part) "__setattr__" = some (some (.builtin "object.__setattr__")))
    (mk_Part : PySem.W.makesIn K c_Part = true)
    (kc_Part : PySem.W.keepIn K (.ref c_Part) = true)
    (pg_Pass : PySem.W.plainGet K c_Pass Str.empty = true)
    (hd_Pass : PySem.W.hasDictIn K c_Pass = true)
    (po_Pass : PySem.W.plainOver K c_Pass = true)
    (sa_Pass : PySem.W.findIn K (.ref c_Pass) "__setattr__" = some (some (.builtin "object.__setattr__")))
    (mk_Pass : PySem.W.makesIn K c_Pass = true)
    (kc_Pass : PySem.W.keepIn K (.ref c_Pass) = true)
    (pg_Work : PySem.W.plainGet K c_Work Str.empty = true)
    (hd_Work : PySem.W.hasDictIn K c_Work = true)
    (po_Work : PySem.W.plainOver K c_Work = true)
    (sa_Work : PySem.W.findIn K (.ref c_Work) "__setattr__" = some (some (.builtin "object.__setattr__")))
    (mk_Work : PySem.W.makesIn K c_Work = true)
    (kc_Work : PySem.W.keepIn K (.ref c_Work) = true)
    (pg_Choose : PySem.W.plainGet K c_Choose Str.empty = true)
    (hd_Choose : PySem.W.hasDictIn K c_Choose = true)
    (po_Choose : PySem.W.plainOver K c_Choose = true)
    (sa_Choose : PySem.W.findIn K (.ref c_Choose) "__setattr__" = some (some (.builtin "object.__setattr__")))
    (mk_Choose : PySem.W.makesIn K c_Choose = true)
    (kc_Choose : PySem.W.keepIn K (.ref c_Choose) = true)
    (pg_Merge : PySem.W.plainGet K c_Merge Str.empty = true)
    (hd_Merge : PySem.W.hasDictIn K c_Merge = true)
    (po_Merge : PySem.W.plainOver K c_Merge = true)
    (sa_Merge : PySem.W.findIn K (.ref c_Merge) "__setattr__" = some (some (.builtin "object.__setattr__")))
    (mk_Merge : PySem.W.makesIn K c_Merge = true)
    (kc_Merge : PySem.W.keepIn K (.ref c_Merge) = true)
    (n_Part_ins : PySem.W.findIn K (.ref c_Part) "ins" = some none)
    (n_Pass_ins : PySem.W.findIn K (.ref c_Pass) "ins" = some none)
    (n_Work_ins : PySem.W.findIn K (.ref c_Work) "ins" = some none)
    (n_Choose_ins : PySem.W.findIn K (.ref c_Choose) "ins" = some none)
    (n_Merge_ins : PySem.W.findIn K (.ref c_Merge) "ins" = some none)
    (n_Work_left : PySem.W.findIn K (.ref c_Work) "left" = some none)
    (n_Yard_lengths : PySem.W.findIn K (.ref c_Yard) "lengths" = some none)
    (n_Choose_noughts : PySem.W.findIn K (.ref c_Choose) "noughts" = some none)
    (n_Merge_noughts : PySem.W.findIn K (.ref c_Merge) "noughts" = some none)
    (n_Choose_ones : PySem.W.findIn K (.ref c_Choose) "ones" = some none)
    (n_Merge_ones : PySem.W.findIn K (.ref c_Merge) "ones" = some none)
    (n_Work_out : PySem.W.findIn K (.ref c_Work) "out" = some none)
    (n_Pass_outs : PySem.W.findIn K (.ref c_Pass) "outs" = some none)
    (n_Merge_outs : PySem.W.findIn K (.ref c_Merge) "outs" = some none)
    (n_Work_right : PySem.W.findIn K (.ref c_Work) "right" = some none)
    (n_Pass_route : PySem.W.findIn K (.ref c_Pass) "route" = some none)
    (n_Yard_rows : PySem.W.findIn K (.ref c_Yard) "rows" = some none)
    (n_Work_sign : PySem.W.findIn K (.ref c_Work) "sign" = some none)
    (n_Choose_told : PySem.W.findIn K (.ref c_Choose) "told" = some none)
    (n_Merge_told : PySem.W.findIn K (.ref c_Merge) "told" = some none)
    (n_Choose_which : PySem.W.findIn K (.ref c_Choose) "which" = some none)
    (r_Part___init__ : PySem.W.readsIn K c_Part (.type "type") = true)
    (g_Part___init__ : PySem.W.specialIn K (.ref c_Part) "__getattribute__" = some (some (.builtin "type.__getattribute__")))
    (v_Part___init__ : PySem.W.findCls K (.ref c_Part) (.type "type") "__init__" = some (.val (.ref f6)))
    (h_Choose_wants : PySem.W.findIn K (.ref c_Choose) "wants" = some (some (.ref f12)))
    (h_Pass_wants : PySem.W.findIn K (.ref c_Pass) "wants" = some (some (.ref f12)))
    (h_Work_wants : PySem.W.findIn K (.ref c_Work) "wants" = some (some (.ref f12)))
    (t_Merge_Yard : PySem.W.kitOne K (.ref c_Yard) (.ref c_Merge) = some false)
    (t_Merge_Part : PySem.W.kitOne K (.ref c_Part) (.ref c_Merge) = some false)
    (t_Merge_Pass : PySem.W.kitOne K (.ref c_Pass) (.ref c_Merge) = some false)
    (t_Merge_Work : PySem.W.kitOne K (.ref c_Work) (.ref c_Merge) = some false)
    (t_Merge_Choose : PySem.W.kitOne K (.ref c_Choose) (.ref c_Merge) = some false)
    (t_Merge_Merge : PySem.W.kitOne K (.ref c_Merge) (.ref c_Merge) = some true)
    (x1_Yard : PySem.W.findIn K (.ref c_Yard) "__class__" = some (some (.builtin "object.__class__")))
    (x4_Yard : PySem.W.mroIn K c_Yard (.type "object") = some true)
    (x1_Part : PySem.W.findIn K (.ref c_Part) "__class__" = some (some (.builtin "object.__class__")))
    (x4_Part : PySem.W.mroIn K c_Part (.type "object") = some true)
    (x1_Pass : PySem.W.findIn K (.ref c_Pass) "__class__" = some (some (.builtin "object.__class__")))
    (x4_Pass : PySem.W.mroIn K c_Pass (.type "object") = some true)
    (x1_Work : PySem.W.findIn K (.ref c_Work) "__class__" = some (some (.builtin "object.__class__")))
    (x4_Work : PySem.W.mroIn K c_Work (.type "object") = some true)
    (x1_Choose : PySem.W.findIn K (.ref c_Choose) "__class__" = some (some (.builtin "object.__class__")))
    (x4_Choose : PySem.W.mroIn K c_Choose (.type "object") = some true)
    (x1_Merge : PySem.W.findIn K (.ref c_Merge) "__class__" = some (some (.builtin "object.__class__")))
    (x4_Merge : PySem.W.mroIn K c_Merge (.type "object") = some true)
    (x2 : PySem.W.specialIn K (.builtin "object.__class__") "__get__" = some (some (.builtin "getset_descriptor.__get__")))
    (x3 : PySem.W.takesIn K (.builtin "object.__class__") = some true)
    (z_bool : PySem.W.nsIn K mainGlobals "bool" = some none)
    (z_enumerate : PySem.W.nsIn K mainGlobals "enumerate" = some none)
    (z_int : PySem.W.nsIn K mainGlobals "int" = some none)
    (z_isinstance : PySem.W.nsIn K mainGlobals "isinstance" = some none)
    (z_len : PySem.W.nsIn K mainGlobals "len" = some none)
    (z_list : PySem.W.nsIn K mainGlobals "list" = some none)
    (z_range : PySem.W.nsIn K mainGlobals "range" = some none)
    (z_reversed : PySem.W.nsIn K mainGlobals "reversed" = some none)
    (z_tuple : PySem.W.nsIn K mainGlobals "tuple" = some none)
    : ∃ fd : FuncData, (∀ (s : Shared) (v : Value), BindsTo s fd ⟨[v], []⟩ [("_law_script", v)]) ∧ ∀ base : Heap, K.In base → base.Ns mainGlobals mg → FnOk P w K mg base CX0 7 fa fd ["_law_script"] (spL K) := by
  have e := hfa.symm.trans (PySem.W.mg_of X G a22)
  cases e
  let Γ : Gm := gam [("Yard", c_Yard), ("Part", c_Part), ("Pass", c_Pass), ("Work", c_Work), ("Choose", c_Choose), ("Merge", c_Merge)]
  have eG_Yard : Γ "Yard" = c_Yard := rfl
  have Cl_Yard : Cls K (Γ "Yard") := ⟨pg_Yard, hd_Yard, po_Yard, sa_Yard⟩
  have mC_Yard : mg "Yard" = some (.ref (Γ "Yard")) := PySem.W.mg_of X G aC_Yard
  have eG_Part : Γ "Part" = c_Part := rfl
  have Cl_Part : Cls K (Γ "Part") := ⟨pg_Part, hd_Part, po_Part, sa_Part⟩
  have mC_Part : mg "Part" = some (.ref (Γ "Part")) := PySem.W.mg_of X G aC_Part
  have eG_Pass : Γ "Pass" = c_Pass := rfl
  have Cl_Pass : Cls K (Γ "Pass") := ⟨pg_Pass, hd_Pass, po_Pass, sa_Pass⟩
  have mC_Pass : mg "Pass" = some (.ref (Γ "Pass")) := PySem.W.mg_of X G aC_Pass
  have eG_Work : Γ "Work" = c_Work := rfl
  have Cl_Work : Cls K (Γ "Work") := ⟨pg_Work, hd_Work, po_Work, sa_Work⟩
  have mC_Work : mg "Work" = some (.ref (Γ "Work")) := PySem.W.mg_of X G aC_Work
  have eG_Choose : Γ "Choose" = c_Choose := rfl
  have Cl_Choose : Cls K (Γ "Choose") := ⟨pg_Choose, hd_Choose, po_Choose, sa_Choose⟩
  have mC_Choose : mg "Choose" = some (.ref (Γ "Choose")) := PySem.W.mg_of X G aC_Choose
  have eG_Merge : Γ "Merge" = c_Merge := rfl
  have Cl_Merge : Cls K (Γ "Merge") := ⟨pg_Merge, hd_Merge, po_Merge, sa_Merge⟩
  have mC_Merge : mg "Merge" = some (.ref (Γ "Merge")) := PySem.W.mg_of X G aC_Merge
  have m_bool := PySem.W.mg_none_of X G z_bool
  have m_enumerate := PySem.W.mg_none_of X G z_enumerate
  have m_int := PySem.W.mg_none_of X G z_int
  have m_isinstance := PySem.W.mg_none_of X G z_isinstance
  have m_len := PySem.W.mg_none_of X G z_len
  have m_list := PySem.W.mg_none_of X G z_list
  have m_range := PySem.W.mg_none_of X G z_range
  have m_reversed := PySem.W.mg_none_of X G z_reversed
  have m_tuple := PySem.W.mg_none_of X G z_tuple
  have W_ins : Flds K Γ ["Part", "Pass", "Work", "Choose", "Merge"] "ins" := (Flds.cons Cl_Part n_Part_ins (Flds.cons Cl_Pass n_Pass_ins (Flds.cons Cl_Work n_Work_ins (Flds.cons Cl_Choose n_Choose_ins (Flds.cons Cl_Merge n_Merge_ins Flds.nil)))))
  have W_left : Flds K Γ ["Work"] "left" := (Flds.cons Cl_Work n_Work_left Flds.nil)
  have W_lengths : Flds K Γ ["Yard"] "lengths" := (Flds.cons Cl_Yard n_Yard_lengths Flds.nil)
  have W_noughts : Flds K Γ ["Choose", "Merge"] "noughts" := (Flds.cons Cl_Choose n_Choose_noughts (Flds.cons Cl_Merge n_Merge_noughts Flds.nil))
  have W_ones : Flds K Γ ["Choose", "Merge"] "ones" := (Flds.cons Cl_Choose n_Choose_ones (Flds.cons Cl_Merge n_Merge_ones Flds.nil))
  have W_out : Flds K Γ ["Work"] "out" := (Flds.cons Cl_Work n_Work_out Flds.nil)
  have W_outs : Flds K Γ ["Pass", "Merge"] "outs" := (Flds.cons Cl_Pass n_Pass_outs (Flds.cons Cl_Merge n_Merge_outs Flds.nil))
  have W_right : Flds K Γ ["Work"] "right" := (Flds.cons Cl_Work n_Work_right Flds.nil)
  have W_route : Flds K Γ ["Pass"] "route" := (Flds.cons Cl_Pass n_Pass_route Flds.nil)
  have W_rows : Flds K Γ ["Yard"] "rows" := (Flds.cons Cl_Yard n_Yard_rows Flds.nil)
  have W_sign : Flds K Γ ["Work"] "sign" := (Flds.cons Cl_Work n_Work_sign Flds.nil)
  have W_told : Flds K Γ ["Choose", "Merge"] "told" := (Flds.cons Cl_Choose n_Choose_told (Flds.cons Cl_Merge n_Merge_told Flds.nil))
  have W_which : Flds K Γ ["Choose"] "which" := (Flds.cons Cl_Choose n_Choose_which Flds.nil)
  have KT_Merge : Kits K mg Γ "Merge" [("Yard", false), ("Part", false), ("Pass", false), ("Work", false), ("Choose", false), ("Merge", true)] := (Kits.cons Cl_Yard x1_Yard x2 x3 x4_Yard t_Merge_Yard (Kits.cons Cl_Part x1_Part x2 x3 x4_Part t_Merge_Part (Kits.cons Cl_Pass x1_Pass x2 x3 x4_Pass t_Merge_Pass (Kits.cons Cl_Work x1_Work x2 x3 x4_Work t_Merge_Work (Kits.cons Cl_Choose x1_Choose x2 x3 x4_Choose t_Merge_Choose (Kits.cons Cl_Merge x1_Merge x2 x3 x4_Merge t_Merge_Merge (Kits.nil mC_Merge)))))))
  have U_L_mixed := fun_mk (st := s_L_mixed) l0 c0 k0
  have U_L_lines := fun_mk (st := s_L_lines) l1 c1 k1
  have U_L_number := fun_mk (st := s_L_number) l2 c2 k2
  have U_L_side := fun_mk (st := s_L_side) l3 c3 k3
  have U_L_row := fun_mk (st := s_L_row) l4 c4 k4
  have U_Yard___init__ := fun_mk (st := s_Yard___init__) l5 c5 k5
  have U_Part___init__ := fun_mk (st := s_Part___init__) l6 c6 k6
  have U_Merge___init__ := fun_mk (st := s_Merge___init__) l7 c7 k7
  have U_Pass___init__ := fun_mk (st := s_Pass___init__) l8 c8 k8
  have U_Work___init__ := fun_mk (st := s_Work___init__) l9 c9 k9
  have U_Choose___init__ := fun_mk (st := s_Choose___init__) l10 c10 k10
  have U_part_of := fun_mk (st := s_part_of) l11 c11 k11
  have U_Part_wants := fun_mk (st := s_Part_wants) l12 c12 k12
  have U_Yard_first := fun_mk (st := s_Yard_first) l13 c13 k13
  have U_Merge_wants := fun_mk (st := s_Merge_wants) l14 c14 k14
  have U_Yard_stands := fun_mk (st := s_Yard_stands) l15 c15 k15
  have U_L_wanted := fun_mk (st := s_L_wanted) l16 c16 k16
  have U_L_asked := fun_mk (st := s_L_asked) l17 c17 k17
  have U_Yard_hand := fun_mk (st := s_Yard_hand) l18 c18 k18
  have U_Yard_taken := fun_mk (st := s_Yard_taken) l19 c19 k19
  have U_L_first := fun_mk (st := s_L_first) l20 c20 k20
  have U_L_one := fun_mk (st := s_L_one) l21 c21 k21
  have U_law := fun_mk (st := s_law) l22 c22 k22
  refine ⟨PySem.W.fnOf "law" "law" (defArgs s_law) (defBody s_law) (defScope s_law) .none kV22 dc22 pm22 an22 cd22 ct22, fun s v => .of_eq rfl, fun base _ _ => ?_⟩
  have O_L_mixed := okf_L_mixed (P := P) (w := w) (K := K) (mg := mg) (base := base) (Γ := Γ) U_L_mixed 
  have F_L_mixed : Fn P w K mg base CX0 _ "_law_mixed" _ _ := ⟨_, _, PySem.W.mg_of X G a0, k0, bd_L_mixed U_L_mixed, O_L_mixed⟩
  have O_L_lines := okf_L_lines (P := P) (w := w) (K := K) (mg := mg) (base := base) (Γ := Γ) U_L_lines m_list m_range m_reversed
  have F_L_lines : Fn P w K mg base CX0 _ "_law_lines" _ _ := ⟨_, _, PySem.W.mg_of X G a1, k1, bd_L_lines U_L_lines, O_L_lines⟩
  have O_L_number := okf_L_number (P := P) (w := w) (K := K) (mg := mg) (base := base) (Γ := Γ) U_L_number 
  have F_L_number : Fn P w K mg base CX0 _ "_law_number" _ _ := ⟨_, _, PySem.W.mg_of X G a2, k2, bd_L_number U_L_number, O_L_number⟩
  have O_L_side := okf_L_side (P := P) (w := w) (K := K) (mg := mg) (base := base) (Γ := Γ) U_L_side F_L_number
  have F_L_side : Fn P w K mg base CX0 _ "_law_side" _ _ := ⟨_, _, PySem.W.mg_of X G a3, k3, bd_L_side U_L_side, O_L_side⟩
  have O_L_row := okf_L_row (P := P) (w := w) (K := K) (mg := mg) (base := base) (Γ := Γ) U_L_row F_L_lines F_L_mixed F_L_side m_range m_tuple
  have F_L_row : Fn P w K mg base CX0 _ "_law_row" _ _ := ⟨_, _, PySem.W.mg_of X G a4, k4, bd_L_row U_L_row, O_L_row⟩
  have O_Yard___init__ := okf_Yard___init__ (P := P) (w := w) (K := K) (mg := mg) (base := base) (Γ := Γ) U_Yard___init__ m_list W_lengths W_rows
  have I_Yard : Mi P w K mg base Γ CX0 _ "Yard" _ := ⟨_, _, _, ⟨mk_Yard, a5, i5, kc_Yard⟩, mC_Yard, bd_Yard___init__ U_Yard___init__, O_Yard___init__⟩
  have O_Part___init__ := okf_Part___init__ (P := P) (w := w) (K := K) (mg := mg) (base := base) (Γ := Γ) U_Part___init__ W_ins
  have K_Part___init__ : Mc P w K mg base Γ CX0 _ "Part" "__init__" _ := ⟨_, _, _, _, mC_Part, r_Part___init__, g_Part___init__, v_Part___init__, k6, bd_Part___init__ U_Part___init__, O_Part___init__⟩
  have O_Merge___init__ := okf_Merge___init__ (P := P) (w := w) (K := K) (mg := mg) (base := base) (Γ := Γ) U_Merge___init__ K_Part___init__ W_noughts W_ones W_outs W_told
  have I_Merge : Mi P w K mg base Γ CX0 _ "Merge" _ := ⟨_, _, _, ⟨mk_Merge, a7, i7, kc_Merge⟩, mC_Merge, bd_Merge___init__ U_Merge___init__, O_Merge___init__⟩
  have O_Pass___init__ := okf_Pass___init__ (P := P) (w := w) (K := K) (mg := mg) (base := base) (Γ := Γ) U_Pass___init__ K_Part___init__ W_outs W_route
  have I_Pass : Mi P w K mg base Γ CX0 _ "Pass" _ := ⟨_, _, _, ⟨mk_Pass, a8, i8, kc_Pass⟩, mC_Pass, bd_Pass___init__ U_Pass___init__, O_Pass___init__⟩
  have O_Work___init__ := okf_Work___init__ (P := P) (w := w) (K := K) (mg := mg) (base := base) (Γ := Γ) U_Work___init__ K_Part___init__ W_left W_out W_right W_sign
  have I_Work : Mi P w K mg base Γ CX0 _ "Work" _ := ⟨_, _, _, ⟨mk_Work, a9, i9, kc_Work⟩, mC_Work, bd_Work___init__ U_Work___init__, O_Work___init__⟩
  have O_Choose___init__ := okf_Choose___init__ (P := P) (w := w) (K := K) (mg := mg) (base := base) (Γ := Γ) U_Choose___init__ K_Part___init__ W_noughts W_ones W_told W_which
  have I_Choose : Mi P w K mg base Γ CX0 _ "Choose" _ := ⟨_, _, _, ⟨mk_Choose, a10, i10, kc_Choose⟩, mC_Choose, bd_Choose___init__ U_Choose___init__, O_Choose___init__⟩
  have O_part_of := okf_part_of (P := P) (w := w) (K := K) (mg := mg) (base := base) (Γ := Γ) U_part_of I_Choose I_Merge I_Pass I_Work
  have F_part_of : Fn P w K mg base CX0 _ "part_of" _ _ := ⟨_, _, PySem.W.mg_of X G a11, k11, bd_part_of U_part_of, O_part_of⟩
  have O_Part_wants := okf_Part_wants (P := P) (w := w) (K := K) (mg := mg) (base := base) (Γ := Γ) U_Part_wants W_ins
  have M_Choose_wants : Mn P w K mg base Γ CX0 _ "Choose" "wants" _ := ⟨_, _, _, Cl_Choose, ⟨h_Choose_wants, i12, k12⟩, bd_Part_wants U_Part_wants, O_Part_wants⟩
  have M_Part_wants : Mn P w K mg base Γ CX0 _ "Part" "wants" _ := ⟨_, _, _, Cl_Part, ⟨a12, i12, k12⟩, bd_Part_wants U_Part_wants, O_Part_wants⟩
  have M_Pass_wants : Mn P w K mg base Γ CX0 _ "Pass" "wants" _ := ⟨_, _, _, Cl_Pass, ⟨h_Pass_wants, i12, k12⟩, bd_Part_wants U_Part_wants, O_Part_wants⟩
  have M_Work_wants : Mn P w K mg base Γ CX0 _ "Work" "wants" _ := ⟨_, _, _, Cl_Work, ⟨h_Work_wants, i12, k12⟩, bd_Part_wants U_Part_wants, O_Part_wants⟩
  have O_Yard_first := okf_Yard_first (P := P) (w := w) (K := K) (mg := mg) (base := base) (Γ := Γ) U_Yard_first W_rows
  have M_Yard_first : Mn P w K mg base Γ CX0 _ "Yard" "first" _ := ⟨_, _, _, Cl_Yard, ⟨a13, i13, k13⟩, bd_Yard_first U_Yard_first, O_Yard_first⟩
  have O_Merge_wants := okf_Merge_wants (P := P) (w := w) (K := K) (mg := mg) (base := base) (Γ := Γ) U_Merge_wants M_Yard_first W_noughts W_ones W_told
  have M_Merge_wants : Mn P w K mg base Γ CX0 _ "Merge" "wants" _ := ⟨_, _, _, Cl_Merge, ⟨a14, i14, k14⟩, bd_Merge_wants U_Merge_wants, O_Merge_wants⟩
  have O_Yard_stands := okf_Yard_stands (P := P) (w := w) (K := K) (mg := mg) (base := base) (Γ := Γ) U_Yard_stands m_list W_rows
  have M_Yard_stands : Mn P w K mg base Γ CX0 _ "Yard" "stands" _ := ⟨_, _, _, Cl_Yard, ⟨a15, i15, k15⟩, bd_Yard_stands U_Yard_stands, O_Yard_stands⟩
  have O_L_wanted := okf_L_wanted (P := P) (w := w) (K := K) (mg := mg) (base := base) (Γ := Γ) U_L_wanted 
  have F_L_wanted : Fn P w K mg base CX0 _ "_law_wanted" _ _ := ⟨_, _, PySem.W.mg_of X G a16, k16, bd_L_wanted U_L_wanted, O_L_wanted⟩
  have O_L_asked := okf_L_asked (P := P) (w := w) (K := K) (mg := mg) (base := base) (Γ := Γ) U_L_asked F_L_wanted M_Choose_wants M_Merge_wants M_Part_wants M_Pass_wants M_Work_wants M_Yard_stands m_bool m_int m_isinstance m_tuple
  have F_L_asked : Fn P w K mg base CX0 _ "_law_asked" _ _ := ⟨_, _, PySem.W.mg_of X G a17, k17, bd_L_asked U_L_asked, O_L_asked⟩
  have O_Yard_hand := okf_Yard_hand (P := P) (w := w) (K := K) (mg := mg) (base := base) (Γ := Γ) U_Yard_hand W_rows
  have M_Yard_hand : Mn P w K mg base Γ CX0 _ "Yard" "hand" _ := ⟨_, _, _, Cl_Yard, ⟨a18, i18, k18⟩, bd_Yard_hand U_Yard_hand, O_Yard_hand⟩
  have O_Yard_taken := okf_Yard_taken (P := P) (w := w) (K := K) (mg := mg) (base := base) (Γ := Γ) U_Yard_taken W_rows
  have M_Yard_taken : Mn P w K mg base Γ CX0 _ "Yard" "taken" _ := ⟨_, _, _, Cl_Yard, ⟨a19, i19, k19⟩, bd_Yard_taken U_Yard_taken, O_Yard_taken⟩
  have O_L_first := okf_L_first (P := P) (w := w) (K := K) (mg := mg) (base := base) (Γ := Γ) U_L_first F_L_mixed F_L_number
  have F_L_first : Fn P w K mg base CX0 _ "_law_first" _ _ := ⟨_, _, PySem.W.mg_of X G a20, k20, bd_L_first U_L_first, O_L_first⟩
  have O_L_one := okf_L_one (P := P) (w := w) (K := K) (mg := mg) (base := base) (Γ := Γ) U_L_one F_L_asked F_L_first F_L_mixed F_L_row F_L_wanted F_part_of I_Yard M_Yard_hand M_Yard_taken m_isinstance m_list m_range KT_Merge
  have F_L_one : Fn P w K mg base CX0 _ "_law_one" _ _ := ⟨_, _, PySem.W.mg_of X G a21, k21, bd_L_one U_L_one, O_L_one⟩
  exact (okf_law (P := P) (w := w) (K := K) (mg := mg) (base := base) (Γ := Γ) U_law F_L_one m_enumerate m_len m_list).imp fun vs H Q E h => h Γ

end Hf

open PySem PySem.W PyProof.Rows in
set_option maxRecDepth 100000 in
set_option maxHeartbeats 0 in
theorem PySem.Challenge.cw_handflow_k41_wants_holds : PySem.Challenge.rw_handflow_k41_wants.Holds := by
  w_on; o_law; k_head; (case hw => w_witness2)
  k_fill
  refine Hf.walkB (l := PySem.Challenge.rw_handflow_k41_wants) (k := 7) (fun _ => L2.CX0) Hf.spL "_law_script" rfl rfl ⟨rfl, by decide, by decide⟩ (fun w h Y => PySem.W.kIn_of Y) ?F (fun K H a ns hl hb _ hS => fun Γ => Hf.main Γ hl hb hS) fun _ _ _ _ _ z => z
  case F =>
    intro w mg fa h KX G hmg
    have hmg1 : mg "law" = some (.ref fa) := hmg
    clear hmg
    refine' Hf.all_mk KX G hmg1 ?aC_Yard ?aC_Part ?aC_Pass ?aC_Work ?aC_Choose ?aC_Merge ?a0 ?l0 ?c0 ?k0 ?a1 ?l1 ?c1 ?k1 ?a2 ?l2 ?c2 ?k2 ?a3 ?l3 ?c3 ?k3 ?a4 ?l4 ?c4 ?k4 ?a5 ?l5 ?c5 ?k5 ?i5 ?a6 ?l6 ?c6 ?k6 ?i6 ?a7 ?l7 ?c7 ?k7 ?i7 ?a8 ?l8 ?c8 ?k8 ?i8 ?a9 ?l9 ?c9 ?k9 ?i9 ?a10 ?l10 ?c10 ?k10 ?i10 ?a11 ?l11 ?c11 ?k11 ?a12 ?l12 ?c12 ?k12 ?i12 ?a13 ?l13 ?c13 ?k13 ?i13 ?a14 ?l14 ?c14 ?k14 ?i14 ?a15 ?l15 ?c15 ?k15 ?i15 ?a16 ?l16 ?c16 ?k16 ?a17 ?l17 ?c17 ?k17 ?a18 ?l18 ?c18 ?k18 ?i18 ?a19 ?l19 ?c19 ?k19 ?i19 ?a20 ?l20 ?c20 ?k20 ?a21 ?l21 ?c21 ?k21 ?a22 ?l22 ?c22 ?k22 ?pg_Yard ?hd_Yard ?po_Yard ?sa_Yard ?mk_Yard ?kc_Yard ?pg_Part ?hd_Part ?po_Part ?sa_Part ?mk_Part ?kc_Part ?pg_Pass ?hd_Pass ?po_Pass ?sa_Pass ?mk_Pass ?kc_Pass ?pg_Work ?hd_Work ?po_Work ?sa_Work ?mk_Work ?kc_Work ?pg_Choose ?hd_Choose ?po_Choose ?sa_Choose ?mk_Choose ?kc_Choose ?pg_Merge ?hd_Merge ?po_Merge ?sa_Merge ?mk_Merge ?kc_Merge ?n_Part_ins ?n_Pass_ins ?n_Work_ins ?n_Choose_ins ?n_Merge_ins ?n_Work_left ?n_Yard_lengths ?n_Choose_noughts ?n_Merge_noughts ?n_Choose_ones ?n_Merge_ones ?n_Work_out ?n_Pass_outs ?n_Merge_outs ?n_Work_right ?n_Pass_route ?n_Yard_rows ?n_Work_sign ?n_Choose_told ?n_Merge_told ?n_Choose_which ?r_Part___init__ ?g_Part___init__ ?v_Part___init__ ?h_Choose_wants ?h_Pass_wants ?h_Work_wants ?t_Merge_Yard ?t_Merge_Part ?t_Merge_Pass ?t_Merge_Work ?t_Merge_Choose ?t_Merge_Merge ?x1_Yard ?x4_Yard ?x1_Part ?x4_Part ?x1_Pass ?x4_Pass ?x1_Work ?x4_Work ?x1_Choose ?x4_Choose ?x1_Merge ?x4_Merge ?x2 ?x3 ?z_bool ?z_enumerate ?z_int ?z_isinstance ?z_len ?z_list ?z_range ?z_reversed ?z_tuple
    (case aC_Yard => k_is)
    (case aC_Part => k_is)
    (case aC_Pass => k_is)
    (case aC_Work => k_is)
    (case aC_Choose => k_is)
    (case aC_Merge => k_is)
    (case a0 => k_is)
    (case l0 => k_is)
    (case c0 => k_is)
    (case k0 => k_is)
    (case a1 => k_is)
    (case l1 => k_is)
    (case c1 => k_is)
    (case k1 => k_is)
    (case a2 => k_is)
    (case l2 => k_is)
    (case c2 => k_is)
    (case k2 => k_is)
    (case a3 => k_is)
    (case l3 => k_is)
    (case c3 => k_is)
    (case k3 => k_is)
    (case a4 => k_is)
    (case l4 => k_is)
    (case c4 => k_is)
    (case k4 => k_is)
    (case a5 => k_is)
    (case l5 => k_is)
    (case c5 => k_is)
    (case k5 => k_is)
    (case i5 => k_is)
    (case a6 => k_is)
    (case l6 => k_is)
    (case c6 => k_is)
    (case k6 => k_is)
    (case i6 => k_is)
    (case a7 => k_is)
    (case l7 => k_is)
    (case c7 => k_is)
    (case k7 => k_is)
    (case i7 => k_is)
    (case a8 => k_is)
    (case l8 => k_is)
    (case c8 => k_is)
    (case k8 => k_is)
    (case i8 => k_is)
    (case a9 => k_is)
    (case l9 => k_is)
    (case c9 => k_is)
    (case k9 => k_is)
    (case i9 => k_is)
    (case a10 => k_is)
    (case l10 => k_is)
    (case c10 => k_is)
    (case k10 => k_is)
    (case i10 => k_is)
    (case a11 => k_is)
    (case l11 => k_is)
    (case c11 => k_is)
    (case k11 => k_is)
    (case a12 => k_is)
    (case l12 => k_is)
    (case c12 => k_is)
    (case k12 => k_is)
    (case i12 => k_is)
    (case a13 => k_is)
    (case l13 => k_is)
    (case c13 => k_is)
    (case k13 => k_is)
    (case i13 => k_is)
    (case a14 => k_is)
    (case l14 => k_is)
    (case c14 => k_is)
    (case k14 => k_is)
    (case i14 => k_is)
    (case a15 => k_is)
    (case l15 => k_is)
    (case c15 => k_is)
    (case k15 => k_is)
    (case i15 => k_is)
    (case a16 => k_is)
    (case l16 => k_is)
    (case c16 => k_is)
    (case k16 => k_is)
    (case a17 => k_is)
    (case l17 => k_is)
    (case c17 => k_is)
    (case k17 => k_is)
    (case a18 => k_is)
    (case l18 => k_is)
    (case c18 => k_is)
    (case k18 => k_is)
    (case i18 => k_is)
    (case a19 => k_is)
    (case l19 => k_is)
    (case c19 => k_is)
    (case k19 => k_is)
    (case i19 => k_is)
    (case a20 => k_is)
    (case l20 => k_is)
    (case c20 => k_is)
    (case k20 => k_is)
    (case a21 => k_is)
    (case l21 => k_is)
    (case c21 => k_is)
    (case k21 => k_is)
    (case a22 => k_is)
    (case l22 => k_is)
    (case c22 => k_is)
    (case k22 => k_is)
    (case pg_Yard => k_is)
    (case hd_Yard => k_is)
    (case po_Yard => k_is)
    (case sa_Yard => k_is)
    (case mk_Yard => k_is)
    (case kc_Yard => k_is)
    (case pg_Part => k_is)
    (case hd_Part => k_is)
    (case po_Part => k_is)
    (case sa_Part => k_is)
    (case mk_Part => k_is)
    (case kc_Part => k_is)
    (case pg_Pass => k_is)
    (case hd_Pass => k_is)
    (case po_Pass => k_is)
    (case sa_Pass => k_is)
    (case mk_Pass => k_is)
    (case kc_Pass => k_is)
    (case pg_Work => k_is)
    (case hd_Work => k_is)
    (case po_Work => k_is)
    (case sa_Work => k_is)
    (case mk_Work => k_is)
    (case kc_Work => k_is)
    (case pg_Choose => k_is)
    (case hd_Choose => k_is)
    (case po_Choose => k_is)
    (case sa_Choose => k_is)
    (case mk_Choose => k_is)
    (case kc_Choose => k_is)
    (case pg_Merge => k_is)
    (case hd_Merge => k_is)
    (case po_Merge => k_is)
    (case sa_Merge => k_is)
    (case mk_Merge => k_is)
    (case kc_Merge => k_is)
    (case n_Part_ins => k_is)
    (case n_Pass_ins => k_is)
    (case n_Work_ins => k_is)
    (case n_Choose_ins => k_is)
    (case n_Merge_ins => k_is)
    (case n_Work_left => k_is)
    (case n_Yard_lengths => k_is)
    (case n_Choose_noughts => k_is)
    (case n_Merge_noughts => k_is)
    (case n_Choose_ones => k_is)
    (case n_Merge_ones => k_is)
    (case n_Work_out => k_is)
    (case n_Pass_outs => k_is)
    (case n_Merge_outs => k_is)
    (case n_Work_right => k_is)
    (case n_Pass_route => k_is)
    (case n_Yard_rows => k_is)
    (case n_Work_sign => k_is)
    (case n_Choose_told => k_is)
    (case n_Merge_told => k_is)
    (case n_Choose_which => k_is)
    (case r_Part___init__ => k_is)
    (case g_Part___init__ => k_is)
    (case v_Part___init__ => k_is)
    (case h_Choose_wants => k_is)
    (case h_Pass_wants => k_is)
    (case h_Work_wants => k_is)
    (case t_Merge_Yard => kit_is)
    (case t_Merge_Part => kit_is)
    (case t_Merge_Pass => kit_is)
    (case t_Merge_Work => kit_is)
    (case t_Merge_Choose => kit_is)
    (case t_Merge_Merge => kit_is)
    (case x1_Yard => k_is)
    (case x4_Yard => k_is)
    (case x1_Part => k_is)
    (case x4_Part => k_is)
    (case x1_Pass => k_is)
    (case x4_Pass => k_is)
    (case x1_Work => k_is)
    (case x4_Work => k_is)
    (case x1_Choose => k_is)
    (case x4_Choose => k_is)
    (case x1_Merge => k_is)
    (case x4_Merge => k_is)
    (case x2 => k_is)
    (case x3 => k_is)
    (case z_bool => k_is)
    (case z_enumerate => k_is)
    (case z_int => k_is)
    (case z_isinstance => k_is)
    (case z_len => k_is)
    (case z_list => k_is)
    (case z_range => k_is)
    (case z_reversed => k_is)
    (case z_tuple => k_is)
#print axioms PySem.Challenge.cw_handflow_k41_wants_holds
