import PyProof.Rows.All
import Wide.All
import OpenK.AllK
import Wide.FinOn
import HandS.ForMost
import HandS.ForExc
import HandS.EndBits
import HandS.Wide
import HandS.IsInst
import HandS.RaiseMore
import HandS.Conv
import HandS.Zip
import KE.IntTextLaws
import HandS.Rev
import HandS.Set
import HandS.Strs
import PyProof.Rows.SetFrom
import PyProof.Rows.SortShellAny
import HandS.More
import HandS.SetKeys
import HandS.Text
import HandS.Style
import HandS.Defaults
import HandS.TupAny
import HandS.Replace
import PyProof.ListMulAny
import HandS.Sort
import HandS.TryElse
import HandS.RaiseOp
import HandS.ExcBuiltin
import PyProof.ListIndex
import PyProof.ListIndexNeg
import HandS.Iter
import HandS.Remove
import HandS.SetFor
import KE.KDictKeyed
import KE.KDictLaw
import HandS.ExcInit
import HandS.ExcIs
import HandS.ExcField
import HandS.ExcOwn
import HandS.WordsExc
import KE.KExcIs
import PySem.Challenge.RW_handflow_k05_named
set_option Elab.async false
set_option linter.all false
set_option maxRecDepth 100000
set_option maxHeartbeats 4000000
namespace Hf
open PySem PySem.Spec L2 PyProof.Rows
section
variable {X : Cx} {e a b c : Expr} {pos : Pos} {ta tb tc : TE}
theorem pe_w {t t' : TE} (h : PE X e t) (w : ∀ σ H Q, t' σ H Q → t σ H Q) : PE X e t' := ⟨fun pins s σ H Q I q => h.run pins s σ H Q I (w _ _ _ q)⟩
theorem pt_w {t t' : TT} (h : PT X e t) (w : ∀ σ H Q, t' σ H Q → t σ H Q) : PT X e t' := ⟨fun pins s σ H Q I q => h.run pins s σ H Q I (w _ _ _ q)⟩
theorem ps_w {st : Stmt} {t t' : TS} (h : PS X st t) (w : ∀ D σ H, t' D σ H → t D σ H) : PS X st t' := ⟨fun pins s σ H D I q => h.run pins s σ H D I (w _ _ _ q)⟩
theorem op_w {f : Value → Value → Sem Value} {r r' : R2} (h : OpR X f r) (w : ∀ x y H Q, r' x y H Q → r x y H Q) : OpR X f r' := fun pins s σ H x y v u Q I rx ry q => h pins s σ H x y v u Q I rx ry (w _ _ _ _ q)

/-! names, constants -/
def eVar (i : Nat) (σ : L2.St) (H : Hp) (Q : VK) : Prop := match σ[i]? with
  | some (some v) => Q v H
  | _ => False
theorem dVar (i : Nat) {x : Str} (hN : X.N[i]? = some x := by rfl) (hv : Vis X.env.scope x := by first | exact Or.inl rfl | exact Or.inr (Or.inl rfl) | exact Or.inr (Or.inr rfl))
    (hd : (x == ("__debug__" : Str)) = false := by decide) (hcd : (x == ("__classdict__" : Str)) = false := by decide) : PE X (.Name x pos) (eVar i) :=
  pe_w (pe_var hN hv hd hcd) fun σ H Q q => by
    unfold eVar at q
    split at q
    · exact ⟨_, by assumption, q⟩
    · exact q.elim
def eLit (v : V) (_ : L2.St) (H : Hp) (Q : VK) : Prop := Q v H
theorem dInt {i : Int} {j} : PE X (.Constant (.int i) j pos) (eLit (.int i)) := pe_int
theorem dBl {i : Bool} {j} : PE X (.Constant (.bool i) j pos) (eLit (.bl i)) := pe_bl
theorem dNon {j} : PE X (.Constant .none j pos) (eLit .non) := pe_non
theorem dStr {x : Str} {j} : PE X (.Constant (.str x) j pos) (eLit (.str x)) := pe_str
/-! operators -/
def eBin (r : R2) (ta tb : TE) (σ : L2.St) (H : Hp) (Q : VK) : Prop := ta σ H fun x H1 => tb σ H1 fun y H2 => r x y H2 Q
def eUn (r : V → Hp → VK → Prop) (ta : TE) (σ : L2.St) (H : Hp) (Q : VK) : Prop := ta σ H fun x H1 => r x H1 Q
theorem dBin {op : Operator} {r : R2} (ho : OpR X (binaryOp op) r) (ha : PE X a ta) (hb : PE X b tb) : PE X (.BinOp a op b pos) (eBin r ta tb) := pe_op ho ha hb
theorem dUn {op : UnaryOp} {r : V → Hp → VK → Prop} (ho : UnR X (unaryOp op) r) (ha : PE X a ta) : PE X (.UnaryOp op a pos) (eUn r ta) := pe_un ho ha

/-- two ints, what is asked of them, the answer -/
def uII (C : Int → Int → Prop) (g : Int → Int → V) (x y : V) (H : Hp) (Q : VK) : Prop := match x, y with
  | .int i, .int j => C i j ∧ Q (g i j) H
  | _, _ => False
def uI2 (g : Int → Int → V) (x y : V) (H : Hp) (Q : VK) : Prop := match x, y with
  | .int i, .int j => Q (g i j) H
  | _, _ => False
theorem uII_of {f : Value → Value → Sem Value} {C : Int → Int → Prop} {g : Int → Int → V} (h : OpR X f (rI C g)) : OpR X f (uII C g) := op_w h fun x y H Q q => by
  unfold uII at q
  split at q
  · exact ⟨_, _, rfl, rfl, q⟩
  · exact q.elim
theorem uI2_of {f : Value → Value → Sem Value} {g : Int → Int → V} (h : OpR X f (rI0 g)) : OpR X f (uI2 g) := op_w h fun x y H Q q => by
  unfold uI2 at q
  split at q
  · exact ⟨_, _, rfl, rfl, q⟩
  · exact q.elim
/-- lists are joined, or tuples -/
def catR (K : PySem.W.Frag) (a b : Addr) (H : Hp) (Q : VK) : Prop :=
  (∃ xs ys, SqL K H a xs ∧ SqL K H b ys ∧ xs.length + ys.length ≤ sizeLine ∧ ∀ p, H p = none → Q (.ref p) (upd H p (.lst (xs ++ ys)))) ∨
  (∃ xs ys, SqT K H a xs ∧ SqT K H b ys ∧ xs ≠ [] ∧ xs.length + ys.length ≤ sizeLine ∧ (ys = [] → Q (.ref a) H) ∧ (ys ≠ [] → ∀ p, H p = none → Q (.ref p) (upd H p (.tup (xs ++ ys)))))
def uAdd (K : PySem.W.Frag) (x y : V) (H : Hp) (Q : VK) : Prop := match x, y with
  | .int i, .int j => Q (.int (i + j)) H
  | .str i, .str j => i.length + j.length ≤ sizeLine ∧ Q (.str (i ++ j)) H
  | .ref i, .ref j => catR K i j H Q
  | _, _ => False

theorem cat_seq : ∀ {pins : List (Addr × Obj)} {s : Shared} {σ : L2.St} {H : Hp} {i j : Addr} {Q : VK}, Inv X pins σ H s → catR X.K i j H Q → wpAny (model X.prog X.w) X.A (binaryOp .Add (.ref i) (.ref j)) (EP X pins σ Q) X.xe s := by
  intro pins s σ H i j Q I h
  rcases h with ⟨xs, ys, h1, h2, hz, q⟩ | ⟨xs, ys, h1, h2, n1, hz, q1, q2⟩
  · obtain ⟨i1, r1, ⟨⟨cls, dd, data, sl⟩, n, ho, hc, _, hd⟩, _⟩ := I.list h1
    obtain ⟨i2, r2, ⟨⟨cls2, dd2, data2, sl2⟩, m, ho2, hc2, _, hd2⟩, _⟩ := I.list h2
    simp only at hc hd hc2 hd2
    subst hc hd hc2 hd2
    have l1 := r1.length
    have l2 := r2.length
    have ee : i1.toArray ++ i2.toArray = (i1 ++ i2).toArray := by simp
    refine concat_meets ⟨_, ho, rfl⟩ ⟨_, ho2, rfl⟩ noFill_list_add seq_list_add PySem.F.slot_list_add PySem.F.entry_list_add (PySem.F.args_list_add_2 _ _) (list_addW i j i1.toArray i2.toArray n m dd dd2 sl sl2 (by rw [List.size_toArray, List.size_toArray]; omega)) ⟨ho, ho2, ?_⟩
    rw [ee]
    exact ⟨.ref _, _, I.lnew (t' := s.toks) (r1.append r2) (by rw [List.length_append]; omega), rfl, q _ I.fresh⟩
  · exact op_catT pins s σ H (.ref i) (.ref j) (.ref i) (.ref j) Q I rfl rfl ⟨i, j, xs, ys, rfl, rfl, h1, h2, n1, hz, q1, q2⟩
theorem oAdd : OpR X (binaryOp .Add) (uAdd X.K) := by
  intro pins s σ H x y v u Q I rx ry h
  unfold uAdd at h
  split at h
  · exact op_add pins s σ H _ _ v u Q I rx ry ⟨_, _, rfl, rfl, h⟩
  · exact op_add_str pins s σ H _ _ v u Q I rx ry ⟨_, _, rfl, rfl, h⟩
  · cases rx
    cases ry
    exact cat_seq I h
  · exact h.elim
theorem oSub : OpR X (binaryOp .Sub) (uI2 fun i j => .int (i - j)) := uI2_of op_sub
/-- ints, or a text some times over -/
def repS (z : Str) (k : Int) : Str := ⟨(List.replicate k.toNat z.cps.toList).flatten.toArray⟩
def uMul (x y : V) (H : Hp) (Q : VK) : Prop := match x, y with
  | .int i, .int j => IntMulOk i j ∧ Q (.int (i * j)) H
  | .str z, .int k => k ≤ 1000000 ∧ -1000000 ≤ k ∧ z.length ≤ 16 ∧ Q (.str (repS z k)) H
  | _, _ => False
theorem rep_cps (cs : Array Nat) : ∀ (m : Nat), (List.replicate m cs).foldl (· ++ ·) #[] = (List.replicate m cs.toList).flatten.toArray := by
  intro m
  have gen : ∀ (m : Nat) (acc : Array Nat), (List.replicate m cs).foldl (· ++ ·) acc = acc ++ (List.replicate m cs.toList).flatten.toArray := by
    intro m
    induction m with
    | zero => intro acc; simp
    | succ m ih =>
      intro acc
      rw [List.replicate_succ, List.foldl_cons, ih, List.replicate_succ, List.flatten_cons]
      simp [Array.append_assoc, ← List.append_toArray]
  rw [gen]
  simp
theorem oMul : OpR X (binaryOp .Mult) uMul := by
  intro pins s σ H x y v u Q I rx ry h
  unfold uMul at h
  split at h
  · obtain ⟨t, rfl⟩ := rx
    obtain ⟨t', rfl⟩ := ry
    exact mul_int ⟨.int _, H, I.tok _, ⟨_, rfl⟩, h.2⟩ h.1
  · rename_i z k
    obtain ⟨h1, h2, hz, q⟩ := h
    obtain ⟨t, rfl⟩ := rx
    obtain ⟨t', rfl⟩ := ry
    have hsz : sizeLine = 16777216 := sizeLine_eq
    refine PySem.P.mul_str ?_ ?_ ?_ ?_
    · rw [decide_eq_false (by omega), decide_eq_false (by omega)]; rfl
    · intro a b
      have : (16 : Int) ≤ (2 ^ 63 - 1) / k := by
        rw [Int.le_ediv_iff_mul_le (by omega)]
        omega
      omega
    · intro a b
      unfold Builtin.Str.tooLong
      have e : z.length * k.toNat ≤ 16 * 1000000 := Nat.mul_le_mul hz (by omega)
      have e2 : ¬ sizeLine < z.length * k.toNat := by omega
      simp [e2]
    · split
      · have e : repS z k = Str.empty := by
          have : k.toNat = 0 := by omega
          unfold repS
          rw [this]
          rfl
        rw [e] at q
        exact ⟨by decide, ⟨.str _, H, I.tok _, ⟨_, rfl⟩, q⟩⟩
      · split
        · rename_i a b
          have e : repS z k = z := by
            unfold repS
            rw [Bool.or_eq_true, beq_iff_eq, beq_iff_eq] at b
            rcases b with b | b
            · have : k.toNat = 1 := by omega
              rw [this]
              simp
            · have : z.cps = #[] := Array.eq_empty_of_size_eq_zero b
              cases z
              simp only at this
              subst this
              simp
          rw [e] at q
          exact ⟨.str _, H, I, ⟨_, rfl⟩, q⟩
        · refine ⟨?_, ⟨.str _, H, I.tok _, ⟨_, rfl⟩, ?_⟩⟩
          · rw [rep_cps]
            show (_ : Nat) ≤ _
            have e : z.length * k.toNat ≤ 16 * 1000000 := Nat.mul_le_mul hz (by omega)
            simp [Str.length] at e ⊢
            rw [Nat.mul_comm]
            omega
          · rw [rep_cps]
            exact q
  · exact h.elim
theorem oDiv : OpR X (binaryOp .FloorDiv) (uII CDivW fun i j => .int (i / j)) := uII_of op_fdivW
theorem oMod : OpR X (binaryOp .Mod) (uII (fun _ j => 0 < j) fun i j => .int (i % j)) := uII_of op_mod
theorem oPow : OpR X (binaryOp .Pow) (uII CPow fun i j => .int (i ^ j.toNat)) := uII_of op_pow
theorem oAnd : OpR X (binaryOp .BitAnd) (uI2 fun i j => .int (Builtin.bitAnd i j)) := uI2_of op_and
theorem oOr : OpR X (binaryOp .BitOr) (uI2 fun i j => .int (Builtin.bitOr i j)) := uI2_of op_or
theorem oXor : OpR X (binaryOp .BitXor) (uI2 fun i j => .int (Builtin.bitXor i j)) := uI2_of op_xor
def uNeg (x : V) (H : Hp) (Q : VK) : Prop := match x with
  | .int i => Q (.int (-i)) H
  | _ => False
theorem oNeg : UnR X (unaryOp .USub) uNeg := fun pins s σ H x v Q I rx h => by
  unfold uNeg at h
  split at h
  · exact un_neg pins s σ H _ v Q I rx ⟨_, rfl, h⟩
  · exact h.elim
/-! comparisons -/
theorem oLt : OpR X (compareOp .Lt) (uI2 fun i j => .bl (decide (i < j))) := uI2_of op_lt
theorem oLe : OpR X (compareOp .LtE) (uI2 fun i j => .bl (decide (i ≤ j))) := uI2_of op_le
theorem oGt : OpR X (compareOp .Gt) (uI2 fun i j => .bl (decide (j < i))) := uI2_of op_gt
theorem oGe : OpR X (compareOp .GtE) (uI2 fun i j => .bl (decide (j ≤ i))) := uI2_of op_ge
/-- data of any depth is compared by what it tells -/
def eqD (K : PySem.W.Frag) (x y : V) (H : Hp) (k : Bool → Prop) : Prop := ∃ d e, Dp K H x d ∧ Dp K H y e ∧ SeqAt.shaped d = true ∧ SeqAt.shaped e = true ∧ k (PyData.eqv d e)
def uEq (K : PySem.W.Frag) (x y : V) (H : Hp) (Q : VK) : Prop := match x, y with
  | .int i, .int j => Q (.bl (decide (i = j))) H
  | .str i, .str j => Q (.bl (decide (i = j))) H
  | .bl i, .bl j => Q (.bl (decide (i = j))) H
  | .ref a, y => eqD K (.ref a) y H fun b => Q (.bl (b)) H
  | x, .ref b => eqD K x (.ref b) H fun b => Q (.bl (b)) H
  | x, y => scal x y = true ∧ Q (.bl (decide (x = y))) H
def uNe (K : PySem.W.Frag) (x y : V) (H : Hp) (Q : VK) : Prop := match x, y with
  | .int i, .int j => Q (.bl (!decide (i = j))) H
  | .str i, .str j => Q (.bl (!decide (i = j))) H
  | .bl i, .bl j => Q (.bl (!decide (i = j))) H
  | .ref a, y => eqD K (.ref a) y H fun b => Q (.bl (!b)) H
  | x, .ref b => eqD K x (.ref b) H fun b => Q (.bl (!b)) H
  | x, y => scal x y = true ∧ Q (.bl (!decide (x = y))) H
theorem oEq (hu : X.A.units + 64 < cLine) : OpR X (compareOp .Eq) (uEq X.K) := by
  intro pins s σ H x y v u Q I rx ry h
  unfold uEq at h
  split at h
  · exact op_eq pins s σ H _ _ v u Q I rx ry ⟨rfl, by simpa using h⟩
  · exact op_eq pins s σ H _ _ v u Q I rx ry ⟨rfl, by simpa using h⟩
  · exact op_eq pins s σ H _ _ v u Q I rx ry ⟨rfl, by simpa using h⟩
  · exact op_eqD hu pins s σ H _ _ v u Q I rx ry h
  · exact op_eqD hu pins s σ H _ _ v u Q I rx ry h
  · exact op_eq pins s σ H _ _ v u Q I rx ry h
theorem oNe (hu : X.A.units + 64 < cLine) : OpR X (compareOp .NotEq) (uNe X.K) := by
  intro pins s σ H x y v u Q I rx ry h
  unfold uNe at h
  split at h
  · exact op_ne pins s σ H _ _ v u Q I rx ry ⟨rfl, by simpa using h⟩
  · exact op_ne pins s σ H _ _ v u Q I rx ry ⟨rfl, by simpa using h⟩
  · exact op_ne pins s σ H _ _ v u Q I rx ry ⟨rfl, by simpa using h⟩
  · exact op_neD hu pins s σ H _ _ v u Q I rx ry h
  · exact op_neD hu pins s σ H _ _ v u Q I rx ry h
  · exact op_ne pins s σ H _ _ v u Q I rx ry h
/-- in a list or a tuple of flat things; a sign in a text -/
def inSq (K : PySem.W.Frag) (x : V) (p : Addr) (H : Hp) (k : Bool → Prop) : Prop := ∃ xs, (SqL K H p xs ∨ SqT K H p xs) ∧ flatV x = true ∧ xs.all flatV = true ∧ k (inV x xs)
def inTx (w z : Str) : Bool := !(Builtin.Str.occurrences z w 0 z.length 1).isEmpty
def uIn (K : PySem.W.Frag) (neg : Bool) (x y : V) (H : Hp) (Q : VK) : Prop := match x, y with
  | .str w, .str z => Q (.bl (if neg then !inTx w z else inTx w z)) H
  | x, .ref p => inSq K x p H fun b => Q (.bl (if neg then !b else b)) H
  | _, _ => False
theorem oIn : OpR X (compareOp .In) (uIn X.K false) := by
  intro pins s σ H x y v u Q I rx ry h
  unfold uIn at h
  split at h
  · exact op_in_str pins s σ H _ _ v u Q I rx ry ⟨_, _, rfl, rfl, h⟩
  · obtain ⟨xs, h1, h2, h3, q⟩ := h
    exact op_in_seq pins s σ H _ _ v u Q I rx ry ⟨_, xs, rfl, h1, h2, h3, q⟩
  · exact h.elim
theorem oNotIn : OpR X (compareOp .NotIn) (uIn X.K true) := by
  intro pins s σ H x y v u Q I rx ry h
  unfold uIn at h
  split at h
  · exact op_notIn_str pins s σ H _ _ v u Q I rx ry ⟨_, _, rfl, rfl, h⟩
  · obtain ⟨xs, h1, h2, h3, q⟩ := h
    exact op_notIn_seq pins s σ H _ _ v u Q I rx ry ⟨_, xs, rfl, h1, h2, h3, q⟩
  · exact h.elim
theorem inTx_one (c : Nat) (z : Str) : inTx ⟨#[c]⟩ z = decide (c ∈ z.cps.toList) := PySem.StrLaws.found_one z c
def uIs (neg : Bool) (x y : V) (H : Hp) (Q : VK) : Prop := match y with
  | .non => Q (.bl (if neg then !decide (x = .non) else decide (x = .non))) H
  | _ => False
theorem oIs : OpR X (compareOp .Is) (uIs false) := op_w op_isN fun x y H Q q => by
  unfold uIs at q
  split at q
  · exact ⟨rfl, q⟩
  · exact q.elim
theorem oIsNot : OpR X (compareOp .IsNot) (uIs true) := op_w op_notN fun x y H Q q => by
  unfold uIs at q
  split at q
  · exact ⟨rfl, q⟩
  · exact q.elim
theorem dCmp {op : CmpOp} {r : R2} (ho : OpR X (compareOp op) r) (ha : PE X a ta) (hb : PE X b tb) (hm : behindInMarks op b = false := by first | rfl | exact nomark _) : PE X (.Compare a [op] [b] pos) (eBin r ta tb) := pe_cmpR ho ha hb hm
/-! tests -/
/-- by what a value is -/
def asBl (x : V) (k : Bool → Prop) : Prop := match x with
  | .bl b => k b
  | _ => False
def asInt (x : V) (k : Int → Prop) : Prop := match x with
  | .int i => k i
  | _ => False
def tru (x : V) (H : Hp) (Q : Bool → Hp → Prop) : Prop := match x with
  | .bl k => Q k H
  | .int i => Q (i != 0) H
  | _ => False
theorem asBl_of {x : V} {k : Bool → Prop} (h : asBl x k) : ∃ b, x = .bl b ∧ k b := by
  unfold asBl at h
  split at h
  · exact ⟨_, rfl, h⟩
  · exact h.elim
theorem asInt_of {x : V} {k : Int → Prop} (h : asInt x k) : ∃ b, x = .int b ∧ k b := by
  unfold asInt at h
  split at h
  · exact ⟨_, rfl, h⟩
  · exact h.elim
def tTst (t : TE) (σ : L2.St) (H : Hp) (Q : Bool → Hp → Prop) : Prop := t σ H fun x H1 => tru x H1 Q
theorem tru_of {pins : List (Addr × Obj)} {s : Shared} {σ : L2.St} {H : Hp} {Q : Bool → Hp → Prop} {x : V} {v : Value} (I : Inv X pins σ H s) (r : RelV x v)
    (q : tru x H Q) : wpAny (model X.prog X.w) X.A (truthy v) (TP X pins σ Q) X.xe s := by
  refine tru_ok pins s σ H x v Q I r ?_
  unfold tru at q
  split at q
  · exact ⟨_, rfl, q⟩
  · exact ⟨_, rfl, q⟩
  · exact q.elim
/-- any expression by its truth -/
theorem qVal (ha : PE X a ta) (he : ∀ whole, isTrue a X.env whole = (do let v ← whole; standAt a.pos; holding [v] (truthy v)) := by intro _; rfl) : PT X a (tTst ta) :=
  ⟨fun pins s σ H _ I h => isTrue_plain (thn (ha.run pins s σ H _ I h) fun _ _ ⟨_, _, I1, r1, q1⟩ => tru_of I1 r1 q1) (he _)⟩
theorem qCmp {op : CmpOp} {r : R2} (ho : OpR X (compareOp op) r) (ha : PE X a ta) (hb : PE X b tb) (hm : behindInMarks op b = false := by first | rfl | exact nomark _) : PT X (.Compare a [op] [b] pos) (tTst (eBin r ta tb)) :=
  ⟨fun pins s σ H _ I h => wpAny_isTrue_Compare1 (thn (ha.run pins s σ H _ I h) fun v s1 ⟨x, H1, I1, r1, q1⟩ => thn (hb.run pins s1 σ H1 _ I1 q1) fun u s2 ⟨y, H2, I2, r2, q2⟩ =>
    thn (ho pins s2 σ H2 x y v u _ I2 r1 r2 q2) fun _ _ ⟨_, _, I3, r3, q3⟩ => tru_of I3 r3 q3) hm⟩
/-- a op1 b op2 c -/
def eChain (r r' : R2) (ta tb tc : TE) (σ : L2.St) (H : Hp) (Q : VK) : Prop := ta σ H fun x H1 => tb σ H1 fun y H2 => r x y H2 fun z H3 => asBl z fun k => if k = true then tc σ H3 fun w' H4 => r' y w' H4 Q else Q (.bl false) H3
theorem dChain {op op' : CmpOp} {r r' : R2} (ho : OpR X (compareOp op) r) (ho' : OpR X (compareOp op') r') (ha : PE X a ta) (hb : PE X b tb) (hc : PE X c tc)
    (hm : lastMarks [op, op'] [b, c] = false := by with_unfolding_all rfl) : PE X (.Compare a [op, op'] [b, c] pos) (eChain r r' ta tb tc) := by
  refine ⟨fun pins s σ H Q I h => ?_⟩
  refine Compare_chain (thn (ha.run pins s σ H _ I h) fun v s1 ⟨x, H1, I1, r1, q1⟩ => chain_link (thn (hb.run pins s1 σ H1 _ I1 q1) fun u s2 ⟨y, H2, I2, r2, q2⟩ =>
    thn (ho pins s2 σ H2 x y v u _ I2 r1 r2 q2) fun d s3 ⟨z, H3, I3, r3, q3⟩ => ?_)) hm
  obtain ⟨k, rfl, q3⟩ := asBl_of q3
  · cases r3
    refine wpAny_truthy_bool ?_
    cases k with
    | false => exact ite_ff ⟨.bl false, H3, I3, rfl, q3⟩
    | true => exact ite_tt (chain_last (thn (hc.run pins s3 σ H3 _ I3 q3) fun w' s4 ⟨z', H4, I4, r4, q4⟩ => ho' pins s4 σ H4 y z' u w' Q I4 r2 r4 q4))
theorem qChain {op op' : CmpOp} {r r' : R2} (ho : OpR X (compareOp op) r) (ho' : OpR X (compareOp op') r') (ha : PE X a ta) (hb : PE X b tb) (hc : PE X c tc)
    (hm : lastMarks [op, op'] [b, c] = false := by with_unfolding_all rfl) : PT X (.Compare a [op, op'] [b, c] pos) (tTst (eChain r r' ta tb tc)) := by
  refine ⟨fun pins s σ H Q I h => ?_⟩
  refine isTrue_chain (thn (ha.run pins s σ H _ I h) fun v s1 ⟨x, H1, I1, r1, q1⟩ => test_link (thn (hb.run pins s1 σ H1 _ I1 q1) fun u s2 ⟨y, H2, I2, r2, q2⟩ =>
    thn (ho pins s2 σ H2 x y v u _ I2 r1 r2 q2) fun d s3 ⟨z, H3, I3, r3, q3⟩ => ?_)) hm
  obtain ⟨k, rfl, q3⟩ := asBl_of q3
  · cases r3
    refine wpAny_truthy_bool ?_
    cases k with
    | false => exact ite_ff ⟨H3, I3, q3⟩
    | true => exact ite_tt (test_last (thn (hc.run pins s3 σ H3 _ I3 q3) fun w' s4 ⟨z', H4, I4, r4, q4⟩ => thn (ho' pins s4 σ H4 y z' u w' _ I4 r2 r4 q4) fun _ _ ⟨_, _, I5, r5, q5⟩ => tru_of I5 r5 q5))
variable {rest : List Expr} {tA tB' : TT}
def tAnd (t u : TT) (σ : L2.St) (H : Hp) (Q : Bool → Hp → Prop) : Prop := t σ H fun c H1 => if c = true then u σ H1 Q else Q false H1
def tOr (t u : TT) (σ : L2.St) (H : Hp) (Q : Bool → Hp → Prop) : Prop := t σ H fun c H1 => if c = true then Q true H1 else u σ H1 Q
def tNot (t : TT) (σ : L2.St) (H : Hp) (Q : Bool → Hp → Prop) : Prop := t σ H fun c H1 => Q (!c) H1
theorem qAnd1 (ha : PT X a tA) : PW X (.BoolOp .And [a] pos) tA := pw_and1 ha
theorem qOr1 (ha : PT X a tA) : PW X (.BoolOp .Or [a] pos) tA := pw_or1 ha
theorem qAnd (ha : PT X a tA) (hb : PW X (.BoolOp .And (b :: rest) pos) tB') : PW X (.BoolOp .And (a :: b :: rest) pos) (tAnd tA tB') := pw_and ha hb
theorem qOr (ha : PT X a tA) (hb : PW X (.BoolOp .Or (b :: rest) pos) tB') : PW X (.BoolOp .Or (a :: b :: rest) pos) (tOr tA tB') := pw_or ha hb
theorem qNot (ha : PT X a tA) : PT X (.UnaryOp .Not a pos) (tNot tA) := pt_not ha
/-! and, or, not as values -/
def eAnd (ta tb : TE) (σ : L2.St) (H : Hp) (Q : VK) : Prop := ta σ H fun x H1 => asBl x fun c => if c = true then tb σ H1 Q else Q (.bl false) H1
def eOr (ta tb : TE) (σ : L2.St) (H : Hp) (Q : VK) : Prop := ta σ H fun x H1 => asBl x fun c => if c = true then Q (.bl true) H1 else tb σ H1 Q
def eNot (ta : TE) (σ : L2.St) (H : Hp) (Q : VK) : Prop := ta σ H fun x H1 => asBl x fun c => Q (.bl (!c)) H1
theorem dOne {op} {t : TE} (h : PE X a t) : PE X (.BoolOp op [a] pos) t := pe_one h
theorem dAnd (ha : PE X a ta) (hb : PE X (.BoolOp .And (b :: rest) pos) tb) : PE X (.BoolOp .And (a :: b :: rest) pos) (eAnd ta tb) := by
  refine ⟨fun pins s σ H Q I h => BoolOp_and (thn (ha.run pins s σ H _ I h) fun v s1 ⟨x, H1, I1, r1, q1⟩ => ?_)⟩
  obtain ⟨c, rfl, q1⟩ := asBl_of q1
  · cases r1
    refine wpAny_truthy_bool ?_
    cases c with
    | true => exact hb.run pins s1 σ H1 Q I1 q1
    | false => exact ⟨.bl false, H1, I1, rfl, q1⟩
theorem dOr (ha : PE X a ta) (hb : PE X (.BoolOp .Or (b :: rest) pos) tb) : PE X (.BoolOp .Or (a :: b :: rest) pos) (eOr ta tb) := by
  refine ⟨fun pins s σ H Q I h => BoolOp_or (thn (ha.run pins s σ H _ I h) fun v s1 ⟨x, H1, I1, r1, q1⟩ => ?_)⟩
  obtain ⟨c, rfl, q1⟩ := asBl_of q1
  · cases r1
    refine wpAny_truthy_bool ?_
    cases c with
    | false => exact hb.run pins s1 σ H1 Q I1 q1
    | true => exact ⟨.bl true, H1, I1, rfl, q1⟩
theorem dNot (ha : PE X a ta) : PE X (.UnaryOp .Not a pos) (eNot ta) := by
  refine ⟨fun pins s σ H Q I h => UnaryOp_ (thn (ha.run pins s σ H _ I h) fun v s1 ⟨x, H1, I1, r1, q1⟩ => ?_)⟩
  obtain ⟨c, rfl, q1⟩ := asBl_of q1
  · cases r1
    exact not_of (wpAny_truthy_bool ⟨.bl (!c), H1, I1, rfl, q1⟩)
def eIf (t : TT) (ta tb : TE) (σ : L2.St) (H : Hp) (Q : VK) : Prop := t σ H fun c H1 => if c = true then ta σ H1 Q else tb σ H1 Q
theorem dIf (hc : PT X c tA) (ha : PE X a ta) (hb : PE X b tb) : PE X (.IfExp c a b pos) (eIf tA ta tb) := pe_ifExp hc ha hb
/-! arguments, displays, subscripts, calls -/
variable {es : List Expr} {tes : TA} {te : TE}
def aNil (_ : L2.St) (H : Hp) (Q : List V → Hp → Prop) : Prop := Q [] H
def aCons (ta : TE) (tr : TA) (σ : L2.St) (H : Hp) (Q : List V → Hp → Prop) : Prop := ta σ H fun x H1 => tr σ H1 fun xs H2 => Q (x :: xs) H2
theorem kNil : PA X [] aNil := pa_nil
theorem kCons (ha : PE X e te) (hr : PA X es tes) (hs : starEach (e :: es) X.env = (false, eval e X.env) :: starEach es X.env := by rfl) : PA X (e :: es) (aCons te tes) := pa_cons ha hr hs
def eTup (t : TA) (σ : L2.St) (H : Hp) (Q : VK) : Prop := t σ H fun xs H1 => xs.length ≤ sizeLine ∧ ∀ p, H1 p = none → Q (.ref p) (upd H1 p (.tup xs))
def eLst (t : TA) (σ : L2.St) (H : Hp) (Q : VK) : Prop := t σ H fun xs H1 => xs.length ≤ sizeLine ∧ ∀ p, H1 p = none → Q (.ref p) (upd H1 p (.lst xs))
theorem dTup {x1} (h : PA X es tes) : PE X (.Tuple es x1 pos) (eTup tes) := pe_tup h
theorem dLst (h : PA X es tes) : PE X (.List es pos) (eLst tes) := pe_lst h
/-- a place in a list or a tuple; a sign of a text -/
def ixR (K : PySem.W.Frag) (x : Addr) (i : Int) (H : Hp) (Q : VK) : Prop := ∃ xs v, (SqL K H x xs ∨ SqT K H x xs) ∧ atI xs i = some v ∧ Q v H
def ixS (z : Str) (i : Int) (H : Hp) (Q : VK) : Prop := z.length ≤ sizeLine ∧ ∃ c, atI z.cps.toList i = some c ∧ Q (.str ⟨#[c]⟩) H
def uIx (K : PySem.W.Frag) (x y : V) (H : Hp) (Q : VK) : Prop := match x, y with
  | .ref p, .int i => ixR K p i H Q
  | .str z, .int i => ixS z i H Q
  | _, _ => False
theorem oIx : IxR X (uIx X.K) := by
  intro value slice pins s σ H x y v u Q I rx ry h hs
  unfold uIx at h
  split at h
  · obtain ⟨xs, w, h1 | h1, h2, q⟩ := h
    · exact ix_list value slice pins s σ H _ _ v u Q I rx ry ⟨_, xs, _, w, rfl, rfl, h1, h2, q⟩ hs
    · exact ix_tup value slice pins s σ H _ _ v u Q I rx ry ⟨_, xs, _, w, rfl, rfl, h1, h2, q⟩ hs
  · obtain ⟨hz, k, h1, q⟩ := h
    exact ix_str value slice pins s σ H _ _ v u Q I rx ry ⟨_, _, k, rfl, rfl, hz, h1, q⟩ hs
  · exact h.elim
theorem dIx (ha : PE X a ta) (hb : PE X b tb) (hs : PlainIx b := by exact fun _ _ => rfl) : PE X (.Subscript a b pos) (eBin (uIx X.K) ta tb) := pe_ix oIx ha hb hs
variable {lo hi : Option Expr} {tl th : TO} {p2 : Pos}
def oNone (_ : L2.St) (H : Hp) (Q : Option Int → Hp → Prop) : Prop := Q none H
def oPart (t : TE) (σ : L2.St) (H : Hp) (Q : Option Int → Hp → Prop) : Prop := t σ H fun x H1 => asInt x fun i => Q (some i) H1
theorem gNone : PO X none oNone := po_none
theorem gSome (h : PE X a ta) : PO X (some a) (oPart ta) := by
  refine ⟨fun pins s σ H Q I q => ?_⟩
  rw [evalPart_some]
  refine thn (h.run pins s σ H _ I q) fun u s1 ⟨x, H1, I1, r1, q1⟩ => ?_
  obtain ⟨i, rfl, q1⟩ := asInt_of q1
  obtain ⟨t, rfl⟩ := r1
  exact ⟨some i, H1, I1, .int i t, q1⟩
/-- a part of a list, of a text, of a tuple -/
def cutR (K : PySem.W.Frag) (a : Addr) (lo hi : Option Int) (H : Hp) (Q : VK) : Prop := ∃ xs, SqL K H a xs ∧ ∀ p, H p = none → Q (.ref p) (upd H p (.lst (cutV xs lo hi)))
def uSl (K : PySem.W.Frag) (x : V) (lo hi : Option Int) (H : Hp) (Q : VK) : Prop := match x with
  | .ref a => cutR K a lo hi H Q
  | .str z => z.length ≤ sizeLine ∧ Q (.str (cutS z lo hi)) H
  | _ => False
theorem oSl : SlR X (uSl X.K) := by
  intro pins s σ H x v vl vu lo hi sl Q I rx hs pl pu h
  unfold uSl at h
  split at h
  · obtain ⟨xs, h1, q⟩ := h
    exact sl_list pins s σ H _ v vl vu lo hi sl Q I rx hs pl pu ⟨_, xs, rfl, h1, q⟩
  · exact sl_str pins s σ H _ v vl vu lo hi sl Q I rx hs pl pu ⟨_, rfl, h.1, h.2⟩
  · exact h.elim
def eSl (r : V → Option Int → Option Int → Hp → VK → Prop) (te : TE) (tl th : TO) (σ : L2.St) (H : Hp) (Q : VK) : Prop := te σ H fun x H1 => tl σ H1 fun l H2 => th σ H2 fun u H3 => r x l u H3 Q
theorem dSl (he : PE X e te) (hl : PO X lo tl) (hu : PO X hi th) : PE X (.Subscript e (.Slice lo hi none p2) pos) (eSl (uSl X.K) te tl th) := pe_slice oSl he hl hu
/-! calls -/
def eCall (sp : Sp) (E : XK) (t : TA) (σ : L2.St) (H : Hp) (Q : VK) : Prop := t σ H fun vs H1 => sp vs H1 Q E
variable {CX : CXT} {k : Nat} {f C : Addr} {fd : FuncData} {ps : List Str} {sp : Sp} {E : XK} {x : Str} {p : Pos}
theorem dCall (F : FnOk X.prog X.w X.K X.mg X.base CX k f fd ps sp) (hr : Room k X.A) (hg : Gl X x) (hm : X.mg x = some (.ref f)) (hk : PySem.W.keepIn X.K (.ref f) = true) (hb : Binds X.K fd ps []) (hx : Passes CX X E)
    (ha : PA X (e :: es) tes) (hdb : (x == ("__debug__" : Str)) = false := by decide) (he : starEach (e :: es) X.env = (false, eval e X.env) :: starEach es X.env := by rfl) (hpl : (backTo pos (starEach es X.env)).any (·.1) = false := by rfl) :
    PE X (.Call (.Name x p) (e :: es) [] pos) (eCall sp E tes) := by
  refine pe_w (pe_call F hr hg hm hk hb .nil hx ha hdb he hpl) fun σ H Q q => ?_
  unfold tCall
  simp only [List.append_nil]
  exact q
theorem dCall0 (F : FnOk X.prog X.w X.K X.mg X.base CX k f fd ps sp) (hr : Room k X.A) (hg : Gl X x) (hm : X.mg x = some (.ref f)) (hk : PySem.W.keepIn X.K (.ref f) = true) (hb : Binds X.K fd ps []) (hx : Passes CX X E)
    (hdb : (x == ("__debug__" : Str)) = false := by decide) : PE X (.Call (.Name x p) [] [] pos) (eCall sp E aNil) := pe_call0 F hr hg hm hk hb .nil hx hdb
def eBlt (r : List V → Hp → VK → Prop) (t : TA) (σ : L2.St) (H : Hp) (Q : VK) : Prop := t σ H fun vs H1 => r vs H1 Q
theorem dBlt {id : String} {r : List V → Hp → VK → Prop} (hc : CallR X (.builtin id) r) (hg : Gl X x) (hm : X.mg x = none) (hv : bootBuiltins x = some (.builtin id)) (ha : PA X (e :: es) tes) (hn : x ≠ "__name__" := by decide) (hdb : (x == ("__debug__" : Str)) = false := by decide)
    (he : starEach (e :: es) X.env = (false, eval e X.env) :: starEach es X.env := by rfl) (hpl : (backTo pos (starEach es X.env)).any (·.1) = false := by rfl) : PE X (.Call (.Name x p) (e :: es) [] pos) (eBlt r tes) := pe_callB hc hg hm hv ha hn hdb he hpl
theorem dBty {id : String} {r : List V → Hp → VK → Prop} (hc : CallR X (.type id) r) (hg : Gl X x) (hm : X.mg x = none) (hv : bootBuiltins x = some (.type id)) (ha : PA X (e :: es) tes) (hn : x ≠ "__name__" := by decide) (hdb : (x == ("__debug__" : Str)) = false := by decide)
    (he : starEach (e :: es) X.env = (false, eval e X.env) :: starEach es X.env := by rfl) (hpl : (backTo pos (starEach es X.env)).any (·.1) = false := by rfl) : PE X (.Call (.Name x p) (e :: es) [] pos) (eBlt r tes) := pe_callTy hc hg hm hv ha hn hdb he hpl
/-- len -/
def lenR (K : PySem.W.Frag) (a : Addr) (H : Hp) (k : Int → Prop) : Prop := (∃ xs, (SqL K H a xs ∨ SqT K H a xs) ∧ k xs.length)
def uLen (K : PySem.W.Frag) (vs : List V) (H : Hp) (Q : VK) : Prop := match vs with
  | [.str z] => z.length ≤ sizeLine ∧ Q (.int z.length) H
  | [.ref a] => lenR K a H fun n => Q (.int n) H
  | _ => False
theorem bLen : CallR X (.builtin "len") (uLen X.K) := by
  intro pins s σ H xs us Q I r h
  unfold uLen at h
  split at h
  · exact call_len_str pins s σ H _ us Q I r ⟨_, rfl, h.1, h.2⟩
  · obtain ⟨ys, h1, q⟩ := h
    exact call_len_seq pins s σ H _ us Q I r ⟨_, ys, rfl, h1, q⟩
  · exact h.elim
/-- int, str, list, tuple, max, min, isinstance -/
def uInt (vs : List V) (H : Hp) (Q : VK) : Prop := match vs with
  | [.int i] => Q (.int i) H
  | [.bl b] => Q (.int (if b then 1 else 0)) H
  | [.str z] => ∃ n, PySem.intText? z = some n ∧ z.length ≤ 640 ∧ Q (.int n) H
  | _ => False
theorem bInt : CallR X (.type "int") uInt := by
  intro pins s σ H xs us Q I r h
  unfold uInt at h
  split at h
  · exact call_int1 pins s σ H _ us Q I r (.inl ⟨_, rfl, h⟩)
  · exact call_int1 pins s σ H _ us Q I r (.inr ⟨_, rfl, h⟩)
  · obtain ⟨n, h1, h2, q⟩ := h
    exact call_int_str pins s σ H _ us Q I r ⟨_, n, rfl, h1, h2, q⟩
  · exact h.elim
def uStr (vs : List V) (H : Hp) (Q : VK) : Prop := match vs with
  | [.int i] => i.natAbs.log2 < 1920 ∧ Q (.str (toString i)) H
  | [.str z] => Q (.str z) H
  | _ => False
def uMax (vs : List V) (H : Hp) (Q : VK) : Prop := match vs with
  | [.int i, .int j] => Q (.int (if j > i then j else i)) H
  | _ => False
def uMin (vs : List V) (H : Hp) (Q : VK) : Prop := match vs with
  | [.int i, .int j] => Q (.int (if j < i then j else i)) H
  | _ => False
theorem bMax (hc : X.calm = true) : CallR X (.builtin "max") uMax := by
  intro pins s σ H xs us Q I r h
  unfold uMax at h
  split at h
  · exact call_max2 hc pins s σ H _ us Q I r ⟨_, _, rfl, h⟩
  · exact h.elim
theorem bMin (hc : X.calm = true) : CallR X (.builtin "min") uMin := by
  intro pins s σ H xs us Q I r h
  unfold uMin at h
  split at h
  · exact call_min2 hc pins s σ H _ us Q I r ⟨_, _, rfl, h⟩
  · exact h.elim
def uList (K : PySem.W.Frag) (vs : List V) (H : Hp) (Q : VK) : Prop := match vs with
  | [.ref a] => ∃ xs, (SqL K H a xs ∨ SqT K H a xs) ∧ ∀ p, H p = none → Q (.ref p) (upd H p (.lst xs))
  | _ => False
theorem bList : CallR X (.type "list") (uList X.K) := by
  intro pins s σ H xs us Q I r h
  unfold uList at h
  split at h
  · obtain ⟨ys, h1, q⟩ := h
    exact call_list_of pins s σ H _ us Q I r ⟨_, ys, rfl, h1, q⟩
  · exact h.elim
/-- the types of the values of data -/
def tyN (K : PySem.W.Frag) (x : V) (H : Hp) (k : String → Prop) : Prop := match x with
  | .non => k "NoneType"
  | .bl _ => k "bool"
  | .int _ => k "int"
  | .str _ => k "str"
  | .ref a => ((∃ xs, SqL K H a xs) ∧ k "list") ∨ ((∃ xs, SqT K H a xs) ∧ k "tuple") ∨ ((∃ kvs, H a = some (.dK kvs)) ∧ k "dict")
  | _ => False
theorem tyN_of {K : PySem.W.Frag} {x : V} {H : Hp} {k : String → Prop} (h : tyN K x H k) : ∃ n, TyX K H x (.type n) ∧ k n := by
  unfold tyN at h
  split at h
  · exact ⟨_, .base .non, h⟩
  · exact ⟨_, .base (.bl _), h⟩
  · exact ⟨_, .base (.int _), h⟩
  · exact ⟨_, .base (.str _), h⟩
  · rcases h with ⟨⟨xs, h1⟩, q⟩ | ⟨⟨xs, h1⟩, q⟩ | ⟨⟨xs, h1⟩, q⟩
    · refine ⟨_, ?_, q⟩
      rcases h1 with (h1 | ⟨o, h1⟩) | ⟨o, its, n, h1, h2, _⟩
      · exact .base (.lst h1)
      · exact .base (.frz h1)
      · exact .kList h1 h2
    · refine ⟨_, ?_, q⟩
      rcases h1 with (h1 | ⟨o, h1⟩) | ⟨o, its, n, h1, h2, _⟩
      · exact .base (.tup h1)
      · exact .fTuple h1
      · exact .kTuple h1 h2
    · exact ⟨_, .base (.dK h1), q⟩
  · exact h.elim
/-- isinstance(x, T), T a built-in type -/
def uIsi (K : PySem.W.Frag) (vs : List V) (H : Hp) (Q : VK) : Prop := match vs with
  | [x, .ty t] => tyN K x H fun n => ∃ b, kitB n t = some b ∧ Q (.bl b) H
  | _ => False
theorem bIsi : CallR X (.builtin "isinstance") (uIsi X.K) := by
  intro pins s σ H xs us Q I r h
  unfold uIsi at h
  split at h
  · obtain ⟨n, h1, b, h2, q⟩ := tyN_of h
    exact call_isi pins s σ H _ us Q I r ⟨_, _, _, _, b, rfl, .ty _, h1, kit_ty h2, q⟩
  · exact h.elim
theorem dTy {n : String} (hg : Gl X x) (hm : X.mg x = none) (hv : bootBuiltins x = some (.type n)) (hn : x ≠ "__name__" := by decide) (hd : (x == ("__debug__" : Str)) = false := by decide) : PE X (.Name x p) (eLit (.ty n)) := pe_bltn hg hm hv rfl hn hd
theorem dGl {v : V} {u : Value} (hg : Gl X x) (hm : X.mg x = some u) (r : RelV v u) (hd : (x == ("__debug__" : Str)) = false := by decide) : PE X (.Name x p) (eLit v) := pe_glob hg hm r hd
/-- a method of a built-in type -/
def eMb0 (K : PySem.W.Frag) (T : String) (r : V → List V → Hp → VK → Prop) (to : TE) (σ : L2.St) (H : Hp) (Q : VK) : Prop := to σ H fun x H1 => tyV K T x H1 ∧ r x [] H1 Q
def eMb (K : PySem.W.Frag) (T : String) (r : V → List V → Hp → VK → Prop) (to : TE) (t : TA) (σ : L2.St) (H : Hp) (Q : VK) : Prop := to σ H fun x H1 => tyV K T x H1 ∧ t σ H1 fun xs H2 => r x xs H2 Q
variable {o : Expr} {to : TE} {name : Str} {apos cpos : Pos} {T id : String} {r : V → List V → Hp → VK → Prop}
theorem dMb0 (pa : PlainAttrs T) (slot : Slot T name id) (hty : typeOf (.builtin id) = pure (.type "method_descriptor")) (hm : MtR X id r) (ho : PE X o to)
    (hbase : attributeBase o name X.env (eval o X.env) = eval o X.env := by rfl) (hline : (apos.endLine == cpos.line) = true := by rfl) : PE X (.Call (.Attribute o name apos) [] [] cpos) (eMb0 X.K T r to) := pe_bm0 pa slot hty hm ho hbase hline
theorem dMb (pa : PlainAttrs T) (slot : Slot T name id) (hty : typeOf (.builtin id) = pure (.type "method_descriptor")) (hm : MtR X id r) (ho : PE X o to) (ha : PA X (e :: es) tes)
    (hbase : attributeBase o name X.env (eval o X.env) = eval o X.env := by rfl)
    (hfew : ((backTo cpos (starEach (e :: es) X.env)).all (fun x => !x.1) && (backToKw cpos (keywordEach [] X.env)).all (fun x => x.1.isSome) && decide ((e :: es).length + ([] : List Keyword).length + (if ([] : List Keyword).isEmpty then 0 else 1) < 30)) = true := by rfl)
    (hline : (apos.endLine == cpos.line) = true := by rfl) (hs : starEach (e :: es) X.env = (false, eval e X.env) :: starEach es X.env := by rfl) (hplain : (backTo cpos (starEach es X.env)).any (·.1) = false := by rfl) :
    PE X (.Call (.Attribute o name apos) (e :: es) [] cpos) (eMb X.K T r to tes) := pe_bm pa slot hty hm ho ha hbase hfew hline hs hplain
/-! statements -/
variable {st : Stmt} {sts : List Stmt} {t u : TS} {g : TG}
def sSeq (t u : TS) (D : Ends) (σ : L2.St) (H : Hp) : Prop := t { D with nx := u D } σ H
def sSet (i : Nat) (te : TE) (D : Ends) (σ : L2.St) (H : Hp) : Prop := te σ H fun v H1 => D.nx (σ.set i (some v)) H1
def sExp (te : TE) (D : Ends) (σ : L2.St) (H : Hp) : Prop := te σ H fun _ H1 => D.nx σ H1
def sRet (te : TE) (D : Ends) (σ : L2.St) (H : Hp) : Prop := te σ H D.rt
def sRetN (D : Ends) (_ : L2.St) (H : Hp) : Prop := D.rt .non H
/-- P: what both ways reach -/
def sIf (c : TT) (t u : TS) (D : Ends) (σ : L2.St) (H : Hp) : Prop := ∃ P : L2.St → Hp → Prop, (∀ σ' H', P σ' H' → D.nx σ' H') ∧ c σ H fun b H1 => if b = true then t { D with nx := P } σ H1 else u { D with nx := P } σ H1
theorem ps_hat {st : Stmt} {t : TS} (h : PS X st t) : PS X st (fun D σ H => ∃ P : L2.St → Hp → Prop, (∀ σ' H', P σ' H' → D.nx σ' H') ∧ t { D with nx := P } σ H) :=
  ⟨fun pins s σ H D I ⟨P, w, q⟩ => thn (h.run pins s σ H _ I q) fun f s' z => by
    cases f with
    | next => obtain ⟨σ', H', I', q'⟩ := z; exact ⟨σ', H', I', w _ _ q'⟩
    | brk => exact z
    | cont => exact z
    | ret u => exact z⟩
theorem if_split {c : TT} {t u : TS} {D : Ends} {σ : L2.St} {H : Hp} (h : c σ H fun b H1 => if b = true then t D σ H1 else u D σ H1) : sIf c t u D σ H := ⟨D.nx, fun _ _ q => q, h⟩
theorem if_join {c : TT} {t u : TS} {D : Ends} {σ : L2.St} {H : Hp} (P : L2.St → Hp → Prop) (h : c σ H fun b H1 => if b = true then t { D with nx := P } σ H1 else u { D with nx := P } σ H1) (w : ∀ σ' H', P σ' H' → D.nx σ' H') : sIf c t u D σ H := ⟨P, w, h⟩
def sNil (D : Ends) (σ : L2.St) (H : Hp) : Prop := D.nx σ H
def sBrk (D : Ends) (σ : L2.St) (H : Hp) : Prop := D.bk σ H
def sCnt (D : Ends) (σ : L2.St) (H : Hp) : Prop := D.ct σ H
theorem zCons (h : PS X st t) (hs : PSs X sts u) : PSs X (st :: sts) (sSeq t u) := pss_cons h hs
theorem zOne (h : PS X st t) : PSs X [st] t := pss_one h
theorem zNil : PSs X [] sNil := pss_nil
theorem zSet {i : Nat} {px : Pos} {v : Expr} (nd : X.N.Nodup) (hN : X.N[i]? = some x) (hv : Loc X.env.scope x) (he : PE X v te) (hs : swapsWith v (some (.Name x px)) pos.line X.env = pure false := by rfl) (hf : X.fn x = true ∨ X.env.scope.names.lookup x = some .local := by first | exact .inl rfl | exact .inr rfl | assumption) : PS X (.Assign [.Name x px] v pos) (sSet i te) := ps_set nd hN hv he hs hf
theorem zExp (he : PE X e te) (hs : swapsWith e none pos.line X.env = pure false := by rfl) : PS X (.Expr e pos) (sExp te) := ps_expr he hs
theorem zRet (he : PE X e te) : PS X (.Return (some e) pos) (sRet te) := ps_ret he
theorem zRetN : PS X (.Return none pos) sRetN := ps_retN
theorem zIf {q : List Stmt} (hc : PT X c tA) (h1 : PSs X sts t) (h2 : PSs X q u) : PS X (.If c sts q pos) (sIf tA t u) := ps_hat (ps_if hc h1 h2)
theorem zBrk : PS X (.Break pos) sBrk := ps_break
theorem zCnt : PS X (.Continue pos) sCnt := ps_continue
theorem zPass : PS X (.Pass pos) sNil := ps_pass
/-! loops -/
def whileN (c : TT) (tb : TS) (D : Ends) : Nat → L2.St → Hp → Prop
  | 0, _, _ => False
  | n + 1, σ, H => c σ H fun b H1 => if b = true then tb { D with nx := whileN c tb D n, ct := whileN c tb D n, bk := D.nx } σ H1 else D.nx σ H1
def sWhile (c : TT) (tb : TS) (D : Ends) (σ : L2.St) (H : Hp) : Prop := ∃ n, whileN c tb D n σ H

/-- what follows may be weakened -/
def hat (t : TE) : TE := fun σ H Q => ∃ Q0 : VK, (∀ v H', Q0 v H' → Q v H') ∧ t σ H Q0
def hatT (t : TT) : TT := fun σ H Q => ∃ Q0 : Bool → Hp → Prop, (∀ v H', Q0 v H' → Q v H') ∧ t σ H Q0
def hatA (t : TA) : TA := fun σ H Q => ∃ Q0 : List V → Hp → Prop, (∀ v H', Q0 v H' → Q v H') ∧ t σ H Q0
theorem pe_hat {t : TE} (h : PE X e t) : PE X e (hat t) := ⟨fun pins s σ H Q I ⟨Q0, w, q⟩ => thn (h.run pins s σ H Q0 I q) fun _ _ ⟨v, H', I', r, q'⟩ => ⟨v, H', I', r, w _ _ q'⟩⟩
theorem pt_hat {t : TT} (h : PT X e t) : PT X e (hatT t) := ⟨fun pins s σ H Q I ⟨Q0, w, q⟩ => thn (h.run pins s σ H Q0 I q) fun _ _ ⟨H', I', q'⟩ => ⟨H', I', w _ _ q'⟩⟩
theorem pa_hat {t : TA} (h : PA X es t) : PA X es (hatA t) := ⟨fun pos pins s σ H Q I ⟨Q0, w, q⟩ => thn (h.run pos pins s σ H Q0 I q) fun _ _ ⟨v, H', I', r, q'⟩ => ⟨v, H', I', r, w _ _ q'⟩⟩
theorem zWhile (hp : PassesOwn (model X.prog X.w) X.A X.env X.xe) (hc : PT X c tA) (hb : PSs X sts t) : PS X (.While c sts [] pos) (sWhile tA t) :=
  ps_w (ps_while hp (pt_hat hc) hb) fun D σ H ⟨n, h⟩ => by
    refine ⟨fun m σ H => whileN tA t D m σ H, ⟨n, h⟩, fun m σ H h => ?_⟩
    cases m with
    | zero => exact h.elim
    | succ m =>
      refine ⟨_, fun b H1 q => ?_, h⟩
      cases b with
      | true => exact ⟨whileN tA t D m, fun σ' H' z => ⟨m, Nat.lt_succ_self m, z⟩, q⟩
      | false => exact q
/-- targets -/
def gNm (i : Nat) (v : V) (σ : L2.St) (H : Hp) (Q : L2.St → Hp → Prop) : Prop := Q (σ.set i (some v)) H
def asRef (x : V) (k : Addr → Prop) : Prop := match x with
  | .ref a => k a
  | _ => False
theorem asRef_of {x : V} {k : Addr → Prop} (h : asRef x k) : ∃ b, x = .ref b ∧ k b := by
  unfold asRef at h
  split at h
  · exact ⟨_, rfl, h⟩
  · exact h.elim
def asTx (x : V) (k : Str → Prop) : Prop := match x with
  | .str a => k a
  | _ => False
theorem asTx_of {x : V} {k : Str → Prop} (h : asTx x k) : ∃ b, x = .str b ∧ k b := by
  unfold asTx at h
  split at h
  · exact ⟨_, rfl, h⟩
  · exact h.elim
def gPr (K : PySem.W.Frag) (i j : Nat) (v : V) (σ : L2.St) (H : Hp) (Q : L2.St → Hp → Prop) : Prop := asRef v fun a => ∃ x y, SqT K H a [x, y] ∧ Q ((σ.set i (some x)).set j (some y)) H
theorem tgNm {i : Nat} {px : Pos} (nd : X.N.Nodup) (hN : X.N[i]? = some x) (hv : Loc X.env.scope x) (hf : X.fn x = true ∨ X.env.scope.names.lookup x = some .local := by first | exact .inl rfl | exact .inr rfl | assumption) : PG X (.Name x px) (gNm i) := pg_name nd hN hv hf
theorem tgPr {i j : Nat} {px py : Pos} {y : Str} {kk : Nat} (nd : X.N.Nodup) (hN : X.N[i]? = some x) (hv : Loc X.env.scope x) (hN' : X.N[j]? = some y) (hv' : Loc X.env.scope y) (hc : X.calm = true := by rfl)
    (hf : X.fn x = true ∨ X.env.scope.names.lookup x = some .local := by first | exact .inl rfl | exact .inr rfl | assumption) (hf' : X.fn y = true ∨ X.env.scope.names.lookup y = some .local := by first | exact .inl rfl | exact .inr rfl | assumption) :
    PG X (.Tuple [.Name x px, .Name y py] kk pos) (gPr X.K i j) := by
  refine ⟨fun pins s σ H v u Q I r h => (pg_tup hc (pgs_cons (pg_name nd hN hv hf) (pgs_cons (pg_name nd hN' hv' hf') pgs_nil))).run pins s σ H v u Q I r ?_⟩
  obtain ⟨a, rfl, z, w, h1, q⟩ := asRef_of h
  exact ⟨a, _, rfl, h1, rfl, z, [w], rfl, w, [], rfl, rfl, q⟩
/-! for: the turns one by one; L: what stands through the loop (the list) -/
def walk (L : Hp → Prop) (g : TG) (tb : TS) (D : Ends) : List V → L2.St → Hp → Prop
  | [], σ, H => L H ∧ D.nx σ H
  | x :: r, σ, H => L H ∧ g x σ H fun σ2 H2 => tb { D with nx := walk L g tb D r, ct := walk L g tb D r, bk := D.nx } σ2 H2
/-- .. the items in new pairs -/
def walkP (L : Hp → Prop) (g : TG) (tb : TS) (D : Ends) : List (V × V) → L2.St → Hp → Prop
  | [], σ, H => L H ∧ D.nx σ H
  | x :: r, σ, H => L H ∧ ∀ T, H T = none → g (.ref T) σ (upd H T (.tup [x.1, x.2])) fun σ2 H2 => tb { D with nx := walkP L g tb D r, ct := walkP L g tb D r, bk := D.nx } σ2 H2
def rangeV (lo hi : Int) : List V := (List.range (hi - lo).toNat).map fun (i : Nat) => .int (lo + i)
def enumV (k : Nat) (xs : List V) : List (V × V) := (xs.zipIdx k).map fun p => (.int (p.2 : Nat), p.1)
theorem walk_drop {L : Hp → Prop} {g : TG} {tb : TS} {D : Ends} {xs : List V} {i : Nat} {x : V} (h : xs[i]? = some x) : xs.drop i = x :: xs.drop (i + 1) := by
  obtain ⟨h1, h2⟩ := List.getElem?_eq_some_iff.mp h
  rw [← h2]
  exact List.drop_eq_getElem_cons h1
/-- the loop's word by the turns -/
theorem walk_it {L : Hp → Prop} {J : It} {g : TG} {tb : TS} {D : Ends} {xs : List V} {σ : L2.St} {H : Hp} (hstop : ∀ i H, L H → xs.length ≤ i → J.stop i H) (hgo : ∀ i x H, L H → xs[i]? = some x → J.go i H ∧ ∀ y H', J.yld i H y H' → H' = H ∧ y = x)
    (h : walk L g tb D xs σ H) : ∃ W : Nat → Nat → L2.St → Hp → Prop, (∃ m, W 0 m σ H) ∧ ∀ i m σ H, W i m σ H →
  (J.stop i H ∧ D.nx σ H) ∨ (J.go i H ∧ ∃ N : L2.St → Hp → Prop, (∀ σ' H', N σ' H' → ∃ m', m' < m ∧ W (i + 1) m' σ' H') ∧ ∀ x H', J.yld i H x H' → g x σ H' fun σ2 H2 => tb { D with nx := N, ct := N, bk := D.nx } σ2 H2) := by
  refine ⟨fun i m σ H => m = xs.length - i ∧ i ≤ xs.length ∧ walk L g tb D (xs.drop i) σ H, ⟨xs.length, by simp, Nat.zero_le _, h⟩, ?_⟩
  rintro i m σ H ⟨rfl, hi, p⟩
  by_cases hlt : i < xs.length
  · have e := List.getElem?_eq_getElem hlt
    rw [walk_drop (L := L) (g := g) (tb := tb) (D := D) e] at p
    obtain ⟨l, p⟩ := p
    obtain ⟨h1, h2⟩ := hgo i _ H l e
    refine .inr ⟨h1, walk L g tb D (xs.drop (i + 1)), fun σ' H' z => ⟨xs.length - (i + 1), by omega, rfl, hlt, z⟩, fun y H' q => ?_⟩
    obtain ⟨rfl, rfl⟩ := h2 y H' q
    exact p
  · have e : i = xs.length := by omega
    subst e
    rw [List.drop_length] at p
    exact .inl ⟨hstop _ _ p.1 (Nat.le_refl _), p.2⟩
theorem walk_itP {L : Hp → Prop} {J : It} {g : TG} {tb : TS} {D : Ends} {xs : List (V × V)} {σ : L2.St} {H : Hp} (hstop : ∀ i H, L H → xs.length ≤ i → J.stop i H)
    (hgo : ∀ i x H, L H → xs[i]? = some x → J.go i H ∧ ∀ y H', J.yld i H y H' → ∃ T, y = .ref T ∧ H T = none ∧ H' = upd H T (.tup [x.1, x.2]))
    (h : walkP L g tb D xs σ H) : ∃ W : Nat → Nat → L2.St → Hp → Prop, (∃ m, W 0 m σ H) ∧ ∀ i m σ H, W i m σ H →
  (J.stop i H ∧ D.nx σ H) ∨ (J.go i H ∧ ∃ N : L2.St → Hp → Prop, (∀ σ' H', N σ' H' → ∃ m', m' < m ∧ W (i + 1) m' σ' H') ∧ ∀ x H', J.yld i H x H' → g x σ H' fun σ2 H2 => tb { D with nx := N, ct := N, bk := D.nx } σ2 H2) := by
  refine ⟨fun i m σ H => m = xs.length - i ∧ i ≤ xs.length ∧ walkP L g tb D (xs.drop i) σ H, ⟨xs.length, by simp, Nat.zero_le _, h⟩, ?_⟩
  rintro i m σ H ⟨rfl, hi, p⟩
  by_cases hlt : i < xs.length
  · have e := List.getElem?_eq_getElem hlt
    rw [List.drop_eq_getElem_cons hlt] at p
    obtain ⟨l, p⟩ := p
    obtain ⟨h1, h2⟩ := hgo i _ H l e
    refine .inr ⟨h1, walkP L g tb D (xs.drop (i + 1)), fun σ' H' z => ⟨xs.length - (i + 1), by omega, rfl, hlt, z⟩, fun y H' q => ?_⟩
    obtain ⟨T, rfl, n, rfl⟩ := h2 y H' q
    exact p T n
  · have e : i = xs.length := by omega
    subst e
    rw [List.drop_length] at p
    exact .inl ⟨hstop _ _ p.1 (Nat.le_refl _), p.2⟩
/-- a list or a tuple, walked -/
def iSq (K : PySem.W.Frag) (tl : TE) : TI := fun σ H R => tl σ H fun x H1 => ∃ a, x = .ref a ∧ ((∃ xs, SqL K H1 a xs ∧ R (Itl K a) H1) ∨ (∃ xs, SqT K H1 a xs ∧ R (Itt K a) H1))
theorem pi_seq {tg l : Expr} {tl : TE} (hl : PE X l tl) : PI X tg l (iSq X.K tl) := by
  refine ⟨fun pins s σ H R I h => thn (hl.run pins s σ H _ I h) fun v s1 ⟨x, H1, I1, r1, a, ex, q⟩ => ?_⟩
  subst ex
  cases r1
  have fp : ∀ b ∈ [s1.heap.objs.size], FpOk X pins H1 b := fun b hb => by
    have z : b = s1.heap.objs.size := by simpa using hb
    subst z
    exact I1.fpOk (Nat.le_refl _) (I1.hok.fresh (Nat.le_refl _))
  rcases q with ⟨xs, hq, q⟩ | ⟨xs, hq, q⟩
  · obtain ⟨its, rv, p, hz⟩ := I1.list hq
    exact wpAny_pyIter_list p.isList ⟨s1.heap.objs.size, [s1.heap.objs.size], _, _, H1, rfl, I1.kept (t' := s1.toks) fun b o z => Heap.get?_push_of_some _ z, turn_list a _, ⟨_, Heap.get?_push_size _ rfl, rfl, rfl⟩, fp, q⟩
  · obtain ⟨its, rv, p, hz⟩ := I1.tuple hq
    exact wpAny_pyIter_tuple (show s1.heap.IsTuple a its.toArray from p) ⟨s1.heap.objs.size, [s1.heap.objs.size], _, _, H1, rfl, I1.kept (t' := s1.toks) fun b o z => Heap.get?_push_of_some _ z, turn_tuple a _, ⟨_, Heap.get?_push_size _ rfl, rfl, rfl⟩, fp, q⟩
theorem range_at {lo hi : Int} {i : Nat} {x : V} (h : (rangeV lo hi)[i]? = some x) : i < (hi - lo).toNat ∧ x = .int (lo + i) := by
  unfold rangeV at h
  rw [List.getElem?_map] at h
  by_cases z : i < (hi - lo).toNat
  · rw [List.getElem?_range z] at h
    exact ⟨z, (Option.some.inj h).symm⟩
  · rw [List.getElem?_eq_none (by simpa using z)] at h
    cases h
theorem walk_range {D : Ends} {lo hi : Int} {σ : L2.St} {H : Hp} {n : Nat} (hn : n = (hi - lo).toNat) (q : walk (fun _ => True) g t D (rangeV lo hi) σ H) : ∃ W : Nat → Nat → L2.St → Hp → Prop, (∃ m, W 0 m σ H) ∧ ∀ i m σ H, W i m σ H →
  ((Itr lo n).stop i H ∧ D.nx σ H) ∨ ((Itr lo n).go i H ∧ ∃ N : L2.St → Hp → Prop, (∀ σ' H', N σ' H' → ∃ m', m' < m ∧ W (i + 1) m' σ' H') ∧ ∀ x H', (Itr lo n).yld i H x H' → g x σ H' fun σ2 H2 => t { D with nx := N, ct := N, bk := D.nx } σ2 H2) := by
  subst hn
  refine walk_it (fun i H l hi => ?_) (fun i x H l e => ?_) q
  · unfold rangeV at hi
    rw [List.length_map, List.length_range] at hi
    exact hi
  · obtain ⟨h1, h2⟩ := range_at e
    exact ⟨h1, fun y H' ⟨z, w⟩ => ⟨z, w.trans h2.symm⟩⟩
def sForR1 (ta : TE) (g : TG) (tb : TS) (D : Ends) (σ : L2.St) (H : Hp) : Prop := ta σ H fun v H1 => asInt v fun j => (-(2 ^ 62) ≤ j ∧ j < 2 ^ 62) ∧ walk (fun _ => True) g tb D (rangeV 0 j) σ H1
def sForR2 (ta tb : TE) (g : TG) (ts : TS) (D : Ends) (σ : L2.St) (H : Hp) : Prop := ta σ H fun v H1 => tb σ H1 fun u H2 => asInt v fun i => asInt u fun j =>
  (-(2 ^ 62) ≤ i ∧ i < 2 ^ 62 ∧ -(2 ^ 62) ≤ j ∧ j < 2 ^ 62) ∧ walk (fun _ => True) g ts D (rangeV i j) σ H2
/-! what is walked: L, what stands through the walk; the items -/
abbrev SRC := L2.St → Hp → ((Hp → Prop) → List V → Hp → Prop) → Prop
abbrev SRP := L2.St → Hp → ((Hp → Prop) → List (V × V) → Hp → Prop) → Prop
def Fits (J : It) (L : Hp → Prop) (xs : List V) : Prop := (∀ i H, L H → xs.length ≤ i → J.stop i H) ∧ ∀ i x H, L H → xs[i]? = some x → J.go i H ∧ ∀ y H', J.yld i H y H' → H' = H ∧ y = x
def FitsP (J : It) (L : Hp → Prop) (xs : List (V × V)) : Prop := (∀ i H, L H → xs.length ≤ i → J.stop i H) ∧
  ∀ i x H, L H → xs[i]? = some x → J.go i H ∧ ∀ y H', J.yld i H y H' → ∃ T, y = .ref T ∧ H T = none ∧ H' = upd H T (.tup [x.1, x.2])
def PSrc (X : Cx) (tg iter : Expr) (src : SRC) : Prop := ∃ wi, PI X tg iter wi ∧ ∀ σ H R (R' : It → Hp → Prop), src σ H R → (∀ L xs J H1, Fits J L xs → R L xs H1 → R' J H1) → wi σ H R'
def PSrp (X : Cx) (tg iter : Expr) (src : SRP) : Prop := ∃ wi, PI X tg iter wi ∧ ∀ σ H R (R' : It → Hp → Prop), src σ H R → (∀ L xs J H1, FitsP J L xs → R L xs H1 → R' J H1) → wi σ H R'
def cSq (K : PySem.W.Frag) (te : TE) (σ : L2.St) (H : Hp) (R : (Hp → Prop) → List V → Hp → Prop) : Prop := te σ H fun v H1 => asRef v fun a =>
  (∃ xs, SqL K H1 a xs ∧ R (fun H => SqL K H a xs) xs H1) ∨ (∃ xs, SqT K H1 a xs ∧ R (fun H => SqT K H a xs) xs H1)
def cTx (te : TE) (σ : L2.St) (H : Hp) (R : (Hp → Prop) → List V → Hp → Prop) : Prop := te σ H fun v H1 => asTx v fun z => R (fun _ => True) (z.cps.toList.map fun c => .str ⟨#[c]⟩) H1
def cR1 (te : TE) (σ : L2.St) (H : Hp) (R : (Hp → Prop) → List V → Hp → Prop) : Prop := te σ H fun v H1 => asInt v fun j => (-(2 ^ 62) ≤ j ∧ j < 2 ^ 62) ∧ R (fun _ => True) (rangeV 0 j) H1
def cR2 (ta tb : TE) (σ : L2.St) (H : Hp) (R : (Hp → Prop) → List V → Hp → Prop) : Prop := ta σ H fun v H1 => tb σ H1 fun u H2 => asInt v fun i => asInt u fun j =>
  (-(2 ^ 62) ≤ i ∧ i < 2 ^ 62 ∧ -(2 ^ 62) ≤ j ∧ j < 2 ^ 62) ∧ R (fun _ => True) (rangeV i j) H2
def cRv (K : PySem.W.Frag) (te : TE) (σ : L2.St) (H : Hp) (R : (Hp → Prop) → List V → Hp → Prop) : Prop := te σ H fun v H1 => asRef v fun a => ∃ xs, SqL K H1 a xs ∧ R (fun H => SqL K H a xs) xs.reverse H1
def cEn (K : PySem.W.Frag) (te : TE) (σ : L2.St) (H : Hp) (R : (Hp → Prop) → List (V × V) → Hp → Prop) : Prop := te σ H fun v H1 => asRef v fun a => ∃ xs, SqL K H1 a xs ∧ R (fun H => SqL K H a xs) (enumV 0 xs) H1
def cZp (K : PySem.W.Frag) (ta tb : TE) (σ : L2.St) (H : Hp) (R : (Hp → Prop) → List (V × V) → Hp → Prop) : Prop := ta σ H fun v H1 => tb σ H1 fun u H2 => asRef v fun a => asRef u fun b =>
  (∃ xs ys, SqL K H2 a xs ∧ SqL K H2 b ys ∧ R (fun H => SqL K H a xs ∧ SqL K H b ys) (xs.zip ys) H2) ∨ (∃ xs ys, SqT K H2 a xs ∧ SqT K H2 b ys ∧ R (fun H => SqT K H a xs ∧ SqT K H b ys) (xs.zip ys) H2)
variable {tg iter : Expr}
theorem kSq (hi : PE X iter te) : PSrc X tg iter (cSq X.K te) := by
  refine ⟨_, pi_seq (pe_hat hi), fun σ H R R' h w => ⟨_, fun v H1 q => ?_, h⟩⟩
  obtain ⟨a, rfl, q⟩ := asRef_of q
  refine ⟨a, rfl, q.imp (fun ⟨xs, h1, q⟩ => ⟨xs, h1, w _ xs _ _ ⟨fun i H l hi => ⟨xs, l, hi⟩, fun i x H l e => ⟨⟨xs, x, l, e⟩, fun y H' ⟨z, w⟩ => ⟨z, Option.some.inj ((w xs l).symm.trans e)⟩⟩⟩ q⟩)
    fun ⟨xs, h1, q⟩ => ⟨xs, h1, w _ xs _ _ ⟨fun i H l hi => ⟨xs, l, hi⟩, fun i x H l e => ⟨⟨xs, x, l, e⟩, fun y H' ⟨z, w⟩ => ⟨z, Option.some.inj ((w xs l).symm.trans e)⟩⟩⟩ q⟩⟩
theorem kTx (hi : PE X iter te) : PSrc X tg iter (cTx te) := by
  refine ⟨_, pi_str (pe_hat hi), fun σ H R R' h w => ⟨_, fun v H1 q => ?_, h⟩⟩
  obtain ⟨z, rfl, q⟩ := asTx_of q
  refine ⟨z, rfl, w _ _ _ _ ⟨fun i H l hi => ?_, fun i x H l e => ?_⟩ q⟩
  · have : z.cps.size ≤ i := by simpa using hi
    exact this
  · rw [List.getElem?_map] at e
    cases e1 : z.cps.toList[i]? with
    | none => rw [e1] at e; cases e
    | some c =>
      rw [e1] at e
      have e2 : z.cps[i]? = some c := by rw [← e1]; simp
      refine ⟨(Array.getElem?_eq_some_iff.mp e2).1, fun y H' ⟨z1, c', z2, z3⟩ => ⟨z1, ?_⟩⟩
      rw [e2] at z2
      cases z2
      rw [z3]
      exact Option.some.inj e
theorem fits_range {lo hi : Int} {n : Nat} (hn : n = (hi - lo).toNat) : Fits (Itr lo n) (fun _ => True) (rangeV lo hi) := by
  subst hn
  refine ⟨fun i H l hi => ?_, fun i x H l e => ?_⟩
  · unfold rangeV at hi
    rw [List.length_map, List.length_range] at hi
    exact hi
  · obtain ⟨h1, h2⟩ := range_at e
    exact ⟨h1, fun y H' ⟨z, w⟩ => ⟨z, w.trans h2.symm⟩⟩
theorem kR1 {a : Expr} {p : Pos} (hgl : Gl X "range") (hm : X.mg "range" = none) (hi : PE X a te) (hs0 : starEach [a] X.env = [(false, eval a X.env)] := by rfl) : PSrc X tg (.Call (.Name "range" p) [a] [] cpos) (cR1 te) := by
  refine ⟨_, pi_range1 hgl hm (kCons (pe_hat hi) kNil hs0) hs0, fun σ H R R' h w => ⟨_, fun v H1 q => ?_, h⟩⟩
  obtain ⟨j, rfl, ⟨q1, q2⟩, q⟩ := asInt_of q
  exact ⟨j, rfl, q1, q2, w _ _ _ _ (fits_range (by simp)) q⟩
theorem kR2 {a b : Expr} {p : Pos} {ta tb : TE} (hgl : Gl X "range") (hm : X.mg "range" = none) (hi : PE X a ta) (hj : PE X b tb) (hs0 : starEach [a, b] X.env = [(false, eval a X.env), (false, eval b X.env)] := by rfl) (hs1 : starEach [b] X.env = [(false, eval b X.env)] := by rfl) :
    PSrc X tg (.Call (.Name "range" p) [a, b] [] cpos) (cR2 ta tb) := by
  refine ⟨_, pi_range2 hgl hm (kCons (pe_hat hi) (kCons (pe_hat hj) kNil hs1) (by rw [hs0, hs1])) hs0 hs1, fun σ H R R' h w => ⟨_, fun v H1 q => ⟨_, fun u H2 z => ?_, q⟩, h⟩⟩
  obtain ⟨i, e1, z1⟩ := asInt_of z
  obtain ⟨j, e2, q1, z2⟩ := asInt_of z1
  exact ⟨i, j, by rw [e1, e2], q1, w _ _ _ _ (fits_range rfl) z2⟩
theorem kRv {a : Expr} {p : Pos} (hgl : Gl X "reversed") (hm : X.mg "reversed" = none) (hi : PE X a te) (hs0 : starEach [a] X.env = [(false, eval a X.env)] := by rfl) : PSrc X tg (.Call (.Name "reversed" p) [a] [] cpos) (cRv X.K te) := by
  refine ⟨_, pi_reversed hgl hm (kCons (pe_hat hi) kNil hs0) hs0, fun σ H R R' h w => ⟨_, fun v H1 q => ?_, h⟩⟩
  obtain ⟨a, rfl, xs, h1, q⟩ := asRef_of q
  refine ⟨a, xs, rfl, h1, w _ _ _ _ ⟨fun i H l hi => ?_, fun i x H l e => ?_⟩ q⟩
  · rw [List.length_reverse] at hi
    exact hi
  · have hi : i < xs.length := by
      have := (List.getElem?_eq_some_iff.mp e).1
      rwa [List.length_reverse] at this
    rw [List.getElem?_reverse hi] at e
    exact ⟨⟨hi, xs, x, l, e⟩, fun y H' ⟨z, w⟩ => ⟨z, Option.some.inj ((w xs l).symm.trans e)⟩⟩
theorem enum_at {k i : Nat} {xs : List V} {x : V × V} (h : (enumV k xs)[i]? = some x) : ∃ y, xs[i]? = some y ∧ x = (.int ((k + i : Nat) : Int), y) := by
  unfold enumV at h
  rw [List.getElem?_map, List.getElem?_zipIdx] at h
  cases e : xs[i]? with
  | none => rw [e] at h; cases h
  | some y =>
    rw [e] at h
    exact ⟨y, rfl, (Option.some.inj h).symm⟩
theorem kEn {a : Expr} {elts : List Expr} {kk : Nat} {p tpos : Pos} (hgl : Gl X "enumerate") (hm : X.mg "enumerate" = none) (hi : PE X a te) (hs0 : starEach [a] X.env = [(false, eval a X.env)] := by rfl) :
    PSrp X (.Tuple elts kk tpos) (.Call (.Name "enumerate" p) [a] [] cpos) (cEn X.K te) := by
  refine ⟨_, pi_enum hgl hm (kCons (pe_hat hi) kNil hs0) hs0, fun σ H R R' h w => ⟨_, fun v H1 q => ?_, h⟩⟩
  obtain ⟨a, rfl, xs, h1, q⟩ := asRef_of q
  refine ⟨a, xs, rfl, h1, w _ _ _ _ ⟨fun i H l hi => ⟨xs, l, ?_⟩, fun i x H l e => ?_⟩ q⟩
  · unfold enumV at hi
    simpa using hi
  · obtain ⟨y, h2, rfl⟩ := enum_at e
    refine ⟨⟨xs, y, l, h2⟩, fun z H' yy => ?_⟩
    obtain ⟨T, y', e1, e2, e3, e4⟩ := yy
    have e5 : y' = y := Option.some.inj ((e4 xs l).symm.trans h2)
    subst e5
    exact ⟨T, e1, e2, by rw [e3]; simp⟩
theorem zip_at {α β : Type} {xs : List α} {ys : List β} {i : Nat} {x : α × β} (h : (xs.zip ys)[i]? = some x) : xs[i]? = some x.1 ∧ ys[i]? = some x.2 := by
  rw [List.getElem?_zip_eq_some] at h
  exact h
theorem kZp {a b : Expr} {elts : List Expr} {kk : Nat} {p tpos : Pos} {ta tb : TE} (hgl : Gl X "zip") (hm : X.mg "zip" = none) (hi : PE X a ta) (hj : PE X b tb) (hs0 : starEach [a, b] X.env = (false, eval a X.env) :: starEach [b] X.env := by rfl)
    (hs1 : starEach [b] X.env = [(false, eval b X.env)] := by rfl) (hpl : (backTo cpos (starEach [b] X.env)).any (·.1) = false := by rfl) :
    PSrp X (.Tuple elts kk tpos) (.Call (.Name "zip" p) [a, b] [] cpos) (cZp X.K ta tb) := by
  refine ⟨_, RZ.pi_zipA hgl hm (kCons (pe_hat hi) (kCons (pe_hat hj) kNil hs1) hs0) hs0 hpl, fun σ H R R' h w => ⟨_, fun v H1 q => ⟨_, fun u H2 z => ?_, q⟩, h⟩⟩
  obtain ⟨a, e1, z1⟩ := asRef_of z
  obtain ⟨b, e2, z2⟩ := asRef_of z1
  have hl : ∀ (xs ys : List V) (i : Nat), (xs.zip ys).length ≤ i → xs.length ≤ i ∨ ys.length ≤ i := fun xs ys i h => by
    rw [List.length_zip] at h
    omega
  rcases z2 with ⟨xs, ys, h1, h2, q⟩ | ⟨xs, ys, h1, h2, q⟩
  · refine ⟨a, b, xs, ys, by rw [e1, e2], .inl ⟨h1, h2, w _ _ _ _ ⟨fun i H l hi => ⟨xs, ys, l.1, l.2, hl _ _ _ hi⟩, fun i x H l e => ?_⟩ q⟩⟩
    obtain ⟨g1, g2⟩ := zip_at e
    refine ⟨⟨xs, ys, _, _, l.1, l.2, g1, g2⟩, fun z H' yy => ?_⟩
    obtain ⟨T, x', y', f1, f2, f3, f4, f5⟩ := yy
    have e5 : x' = x.1 := Option.some.inj ((f4 xs l.1).symm.trans g1)
    have e6 : y' = x.2 := Option.some.inj ((f5 ys l.2).symm.trans g2)
    subst e5 e6
    exact ⟨T, f1, f2, f3⟩
  · refine ⟨a, b, xs, ys, by rw [e1, e2], .inr ⟨h1, h2, w _ _ _ _ ⟨fun i H l hi => ⟨xs, ys, l.1, l.2, hl _ _ _ hi⟩, fun i x H l e => ?_⟩ q⟩⟩
    obtain ⟨g1, g2⟩ := zip_at e
    refine ⟨⟨xs, ys, _, _, l.1, l.2, g1, g2⟩, fun z H' yy => ?_⟩
    obtain ⟨T, x', y', f1, f2, f3, f4, f5⟩ := yy
    have e5 : x' = x.1 := Option.some.inj ((f4 xs l.1).symm.trans g1)
    have e6 : y' = x.2 := Option.some.inj ((f5 ys l.2).symm.trans g2)
    subst e5 e6
    exact ⟨T, f1, f2, f3⟩
/-! for, a comprehension, over any of them -/
def sFor (src : SRC) (g : TG) (tb : TS) (D : Ends) (σ : L2.St) (H : Hp) : Prop := src σ H fun L xs H1 => walk L g tb D xs σ H1
def sForP (src : SRP) (g : TG) (tb : TS) (D : Ends) (σ : L2.St) (H : Hp) : Prop := src σ H fun L xs H1 => walkP L g tb D xs σ H1
theorem zFor {src : SRC} (hp : PassesOwn (model X.prog X.w) X.A X.env X.xe) (hc : X.calm = true) (hi : PSrc X tg iter src) (hg : PG X tg g) (hb : PSs X sts t) (hs : ∀ x, foldedSetIterable iter X.env x = pure x := by intro _; rfl) :
    PS X (.For tg iter sts [] pos) (sFor src g t) := by
  obtain ⟨wi, h1, h2⟩ := hi
  exact ps_w (ps_for hp hc h1 hg hb hs) fun D σ H h => h2 σ H _ _ h fun L xs J H1 f q => walk_it f.1 f.2 q
theorem zForP {src : SRP} (hp : PassesOwn (model X.prog X.w) X.A X.env X.xe) (hc : X.calm = true) (hi : PSrp X tg iter src) (hg : PG X tg g) (hb : PSs X sts t) (hs : ∀ x, foldedSetIterable iter X.env x = pure x := by intro _; rfl) :
    PS X (.For tg iter sts [] pos) (sForP src g t) := by
  obtain ⟨wi, h1, h2⟩ := hi
  exact ps_w (ps_for hp hc h1 hg hb hs) fun D σ H h => h2 σ H _ _ h fun L xs J H1 f q => walk_itP f.1 f.2 q
/-- D: the new list -/
def walkC (L : Hp → Prop) (g : TG) (tt : TT) (te : TE) (vs : List Nat) (σ : L2.St) (D : Addr) (Q : VK) : List V → Hp → Prop
  | [], H => L H ∧ Q (.ref D) H
  | x :: r, H => L H ∧ g x (wipe σ vs) H fun σ2 H2 => wipe σ2 vs = wipe σ vs ∧ tt σ2 H2 fun b H3 =>
    if b = true then te σ2 H3 fun y H4 => ∃ acc, H4 D = some (.lst acc) ∧ acc.length < sizeLine ∧ walkC L g tt te vs σ D Q r (upd H4 D (.lst (acc ++ [y]))) else walkC L g tt te vs σ D Q r H3
def walkCP (L : Hp → Prop) (g : TG) (tt : TT) (te : TE) (vs : List Nat) (σ : L2.St) (D : Addr) (Q : VK) : List (V × V) → Hp → Prop
  | [], H => L H ∧ Q (.ref D) H
  | x :: r, H => L H ∧ ∀ T, H T = none → g (.ref T) (wipe σ vs) (upd H T (.tup [x.1, x.2])) fun σ2 H2 => wipe σ2 vs = wipe σ vs ∧ tt σ2 H2 fun b H3 =>
    if b = true then te σ2 H3 fun y H4 => ∃ acc, H4 D = some (.lst acc) ∧ acc.length < sizeLine ∧ walkCP L g tt te vs σ D Q r (upd H4 D (.lst (acc ++ [y]))) else walkCP L g tt te vs σ D Q r H3
def eLc (src : SRC) (g : TG) (tt : TT) (te : TE) (vs : List Nat) (σ : L2.St) (H : Hp) (Q : VK) : Prop := src σ H fun L xs H1 => ∀ D, H1 D = none → walkC L g tt te vs σ D Q xs (upd H1 D (.lst []))
def eLcP (src : SRP) (g : TG) (tt : TT) (te : TE) (vs : List Nat) (σ : L2.St) (H : Hp) (Q : VK) : Prop := src σ H fun L xs H1 => ∀ D, H1 D = none → walkCP L g tt te vs σ D Q xs (upd H1 D (.lst []))
theorem lc_it {L : Hp → Prop} {J : It} {g : TG} {tt : TT} {te : TE} {vs : List Nat} {σ : L2.St} {D : Addr} {Q : VK} {xs : List V} {H : Hp} (f : Fits J L xs) (h : walkC L g tt te vs σ D Q xs H) :
    ∃ W : Nat → Nat → Hp → Prop, (∃ m, W 0 m H) ∧ ∀ i m H, W i m H →
  (J.stop i H ∧ Q (.ref D) H) ∨ (J.go i H ∧ ∃ Nx : Hp → Prop, (∀ H', Nx H' → ∃ m', m' < m ∧ W (i + 1) m' H') ∧ ∀ x H', J.yld i H x H' → g x (wipe σ vs) H' fun σ2 H2 => wipe σ2 vs = wipe σ vs ∧ tt σ2 H2 fun b H3 =>
    if b = true then te σ2 H3 fun y H4 => ∃ acc, H4 D = some (.lst acc) ∧ acc.length < sizeLine ∧ Nx (upd H4 D (.lst (acc ++ [y]))) else Nx H3) := by
  refine ⟨fun i m H => m = xs.length - i ∧ i ≤ xs.length ∧ walkC L g tt te vs σ D Q (xs.drop i) H, ⟨xs.length, by simp, Nat.zero_le _, h⟩, ?_⟩
  rintro i m H ⟨rfl, hi, p⟩
  by_cases hlt : i < xs.length
  · have e := List.getElem?_eq_getElem hlt
    rw [List.drop_eq_getElem_cons hlt] at p
    obtain ⟨l, p⟩ := p
    obtain ⟨h1, h2⟩ := f.2 i _ H l e
    refine .inr ⟨h1, walkC L g tt te vs σ D Q (xs.drop (i + 1)), fun H' z => ⟨xs.length - (i + 1), by omega, rfl, hlt, z⟩, fun y H' q => ?_⟩
    obtain ⟨rfl, rfl⟩ := h2 y H' q
    exact p
  · have e : i = xs.length := by omega
    subst e
    rw [List.drop_length] at p
    exact .inl ⟨f.1 _ _ p.1 (Nat.le_refl _), p.2⟩
theorem lc_itP {L : Hp → Prop} {J : It} {g : TG} {tt : TT} {te : TE} {vs : List Nat} {σ : L2.St} {D : Addr} {Q : VK} {xs : List (V × V)} {H : Hp} (f : FitsP J L xs) (h : walkCP L g tt te vs σ D Q xs H) :
    ∃ W : Nat → Nat → Hp → Prop, (∃ m, W 0 m H) ∧ ∀ i m H, W i m H →
  (J.stop i H ∧ Q (.ref D) H) ∨ (J.go i H ∧ ∃ Nx : Hp → Prop, (∀ H', Nx H' → ∃ m', m' < m ∧ W (i + 1) m' H') ∧ ∀ x H', J.yld i H x H' → g x (wipe σ vs) H' fun σ2 H2 => wipe σ2 vs = wipe σ vs ∧ tt σ2 H2 fun b H3 =>
    if b = true then te σ2 H3 fun y H4 => ∃ acc, H4 D = some (.lst acc) ∧ acc.length < sizeLine ∧ Nx (upd H4 D (.lst (acc ++ [y]))) else Nx H3) := by
  refine ⟨fun i m H => m = xs.length - i ∧ i ≤ xs.length ∧ walkCP L g tt te vs σ D Q (xs.drop i) H, ⟨xs.length, by simp, Nat.zero_le _, h⟩, ?_⟩
  rintro i m H ⟨rfl, hi, p⟩
  by_cases hlt : i < xs.length
  · have e := List.getElem?_eq_getElem hlt
    rw [List.drop_eq_getElem_cons hlt] at p
    obtain ⟨l, p⟩ := p
    obtain ⟨h1, h2⟩ := f.2 i _ H l e
    refine .inr ⟨h1, walkCP L g tt te vs σ D Q (xs.drop (i + 1)), fun H' z => ⟨xs.length - (i + 1), by omega, rfl, hlt, z⟩, fun y H' q => ?_⟩
    obtain ⟨T, rfl, n, rfl⟩ := h2 y H' q
    exact p T n
  · have e : i = xs.length := by omega
    subst e
    rw [List.drop_length] at p
    exact .inl ⟨f.1 _ _ p.1 (Nat.le_refl _), p.2⟩
section
variable {elt : Expr} {ifs : List Expr} {scope : Scope} {own : List (Str × Nat)} {tt : TT} {src : SRC} {srp : SRP}
abbrev BlkG (X : Cx) (scope : Scope) (tg : Expr) (g : TG) : Prop := ∀ (s : Shared) (H : Hp) (C : Addr) (cl : List (Str × Addr)) (fp : List Addr), PG (X.blk s H scope (compEnvC scope cl C X.env) fp) tg g
abbrev BlkT (X : Cx) (scope : Scope) (ifs : List Expr) (tt : TT) : Prop := ∀ (s : Shared) (H : Hp) (C : Addr) (cl : List (Str × Addr)) (fp : List Addr), PTs (X.blk s H scope (compEnvC scope cl C X.env) fp) ifs tt
abbrev BlkE (X : Cx) (scope : Scope) (elt : Expr) (te : TE) : Prop := ∀ (s : Shared) (H : Hp) (C : Addr) (cl : List (Str × Addr)) (fp : List Addr), PE (X.blk s H scope (compEnvC scope cl C X.env) fp) elt te
theorem dLc (hc : X.calm = true) (hN : X.N.Nodup) (hi : PSrc X tg iter src) (ok : BlkOk X.N X.env.scope scope own) (hg : BlkG X scope tg g) (ht : BlkT X scope ifs tt) (he : BlkE X scope elt te) (hs : ∀ x, foldedSetIterable iter X.env x = pure x := by intro _; rfl) :
    PE X (.ListComp elt [⟨tg, iter, ifs, 0⟩] scope pos) (eLc src g tt te (own.map (·.2))) := by
  obtain ⟨wi, h1, h2⟩ := hi
  exact pe_w (pe_lc hc hN h1 ok hg ht he hs) fun σ H Q h => h2 σ H _ _ h fun L xs J H1 f q D n => lc_it f (q D n)
theorem dLcP (hc : X.calm = true) (hN : X.N.Nodup) (hi : PSrp X tg iter srp) (ok : BlkOk X.N X.env.scope scope own) (hg : BlkG X scope tg g) (ht : BlkT X scope ifs tt) (he : BlkE X scope elt te) (hs : ∀ x, foldedSetIterable iter X.env x = pure x := by intro _; rfl) :
    PE X (.ListComp elt [⟨tg, iter, ifs, 0⟩] scope pos) (eLcP srp g tt te (own.map (·.2))) := by
  obtain ⟨wi, h1, h2⟩ := hi
  exact pe_w (pe_lc hc hN h1 ok hg ht he hs) fun σ H Q h => h2 σ H _ _ h fun L xs J H1 f q D n => lc_itP f (q D n)
theorem zSetLc {i : Nat} {y : Str} {py spos : Pos} (hc : X.calm = true) (hN : X.N.Nodup) (hy : X.N[i]? = some y) (hyl : X.env.scope.names.lookup y = some .local) (hsw : swapsWith (.ListComp elt [⟨tg, iter, ifs, 0⟩] scope pos) (some (.Name y py)) spos.line X.env = pure true)
    (hi : PSrc X tg iter src) (ok : BlkOk X.N X.env.scope scope own) (hg : BlkG X scope tg g) (ht : BlkT X scope ifs tt) (he : BlkE X scope elt te) (hs : ∀ x, foldedSetIterable iter X.env x = pure x := by intro _; rfl) :
    PS X (.Assign [.Name y py] (.ListComp elt [⟨tg, iter, ifs, 0⟩] scope pos) spos) (sSet i (eLc src g tt te (own.map (·.2)))) := by
  obtain ⟨wi, h1, h2⟩ := hi
  exact ps_w (ps_setLc hc hN hy hyl hsw h1 ok hg ht he hs) fun D σ H h => h2 σ H _ _ h fun L xs J H1 f q D n => lc_it f (q D n)
theorem zSetLcP {i : Nat} {y : Str} {py spos : Pos} (hc : X.calm = true) (hN : X.N.Nodup) (hy : X.N[i]? = some y) (hyl : X.env.scope.names.lookup y = some .local) (hsw : swapsWith (.ListComp elt [⟨tg, iter, ifs, 0⟩] scope pos) (some (.Name y py)) spos.line X.env = pure true)
    (hi : PSrp X tg iter srp) (ok : BlkOk X.N X.env.scope scope own) (hg : BlkG X scope tg g) (ht : BlkT X scope ifs tt) (he : BlkE X scope elt te) (hs : ∀ x, foldedSetIterable iter X.env x = pure x := by intro _; rfl) :
    PS X (.Assign [.Name y py] (.ListComp elt [⟨tg, iter, ifs, 0⟩] scope pos) spos) (sSet i (eLcP srp g tt te (own.map (·.2)))) := by
  obtain ⟨wi, h1, h2⟩ := hi
  exact ps_w (ps_setLc hc hN hy hyl hsw h1 ok hg ht he hs) fun D σ H h => h2 σ H _ _ h fun L xs J H1 f q D n => lc_itP f (q D n)
end
def tYes (_ : L2.St) (H : Hp) (Q : Bool → Hp → Prop) : Prop := Q true H
theorem iNo : PTs X [] tYes := pts_nil
theorem iOne (h : PT X c tA) : PTs X [c] tA := pts_one h
/-! more statements -/
def sAsg (te : TE) (g : TG) (D : Ends) (σ : L2.St) (H : Hp) : Prop := te σ H fun v H1 => g v σ H1 D.nx
theorem zAsg (he : PE X e te) (hg : PG X tg g) (hs : swapsWithSole [tg] e pos.line X.env = pure false := by rfl) (hw : swappedStores [tg] e X.env = pure none := by rfl) (h1 : (assignEach [tg] X.env).map (·.2) = [assign tg X.env] := by rfl) : PS X (.Assign [tg] e pos) (sAsg te g) := ps_asg he hg hs hw h1
def gTr (K : PySem.W.Frag) (i j k : Nat) (v : V) (σ : L2.St) (H : Hp) (Q : L2.St → Hp → Prop) : Prop := asRef v fun a => ∃ x y z, SqT K H a [x, y, z] ∧ Q (((σ.set i (some x)).set j (some y)).set k (some z)) H
theorem tgTr {i j k : Nat} {px py pz : Pos} {y z : Str} {kk : Nat} (nd : X.N.Nodup) (hN : X.N[i]? = some x) (hv : Loc X.env.scope x) (hN' : X.N[j]? = some y) (hv' : Loc X.env.scope y) (hN2 : X.N[k]? = some z) (hv2 : Loc X.env.scope z) (hc : X.calm = true := by rfl)
    (hf : X.fn x = true ∨ X.env.scope.names.lookup x = some .local := by first | exact .inl rfl | exact .inr rfl | assumption) (hf' : X.fn y = true ∨ X.env.scope.names.lookup y = some .local := by first | exact .inl rfl | exact .inr rfl | assumption) (hf2 : X.fn z = true ∨ X.env.scope.names.lookup z = some .local := by first | exact .inl rfl | exact .inr rfl | assumption) :
    PG X (.Tuple [.Name x px, .Name y py, .Name z pz] kk pos) (gTr X.K i j k) := by
  refine ⟨fun pins s σ H v u Q I r h => (pg_tup hc (pgs_cons (pg_name nd hN hv hf) (pgs_cons (pg_name nd hN' hv' hf') (pgs_cons (pg_name nd hN2 hv2 hf2) pgs_nil)))).run pins s σ H v u Q I r ?_⟩
  obtain ⟨a, rfl, w1, w2, w3, h1, q⟩ := asRef_of h
  exact ⟨a, _, rfl, h1, rfl, w1, _, rfl, w2, _, rfl, w3, [], rfl, rfl, q⟩
def setR (a : Addr) (k : Int) (v : V) (H : Hp) (Q : Hp → Prop) : Prop := ∃ xs j, H a = some (.lst xs) ∧ ixN xs.length k = some j ∧ Q (upd H a (.lst (xs.set j v)))
def sSub (to ti tv : TE) (D : Ends) (σ : L2.St) (H : Hp) : Prop := tv σ H fun v H1 => to σ H1 fun o H2 => ti σ H2 fun i H3 => asRef o fun a => asInt i fun k => setR a k v H3 fun H4 => D.nx σ H4
theorem zSub {o i v : Expr} {to ti tv : TE} {spos : Pos} (ho : PE X o to) (hi : PE X i ti) (hv : PE X v tv) (hs : swapsWithSole [.Subscript o i spos] v pos.line X.env = pure false := by rfl) (hw : swappedStores [.Subscript o i spos] v X.env = pure none := by rfl)
    (h1 : (assignEach [.Subscript o i spos] X.env).map (·.2) = [assign (.Subscript o i spos) X.env] := by rfl)
    (ha : ∀ v, assign (.Subscript o i spos) X.env v = (do let ov ← holding [v] (eval o X.env); let iv ← holding [v, ov] (eval i X.env); standAt spos; holding [v, ov, iv] (setItem ov iv v); release [v, ov, iv] []) := by intro _; rfl) :
    PS X (.Assign [.Subscript o i spos] v pos) (sSub to ti tv) :=
  ps_w (ps_asg (pe_hat hv) (pg_sub (pe_hat ho) (pe_hat hi) set_list ha) hs hw h1) fun D σ H h => ⟨_, fun x H1 q => ⟨_, fun o H2 q => ⟨_, fun i H3 z => by
    obtain ⟨a, rfl, z⟩ := asRef_of z
    obtain ⟨k, rfl, xs, j, h1, h2, z⟩ := asInt_of z
    exact ⟨a, xs, k, j, rfl, rfl, h1, h2, z⟩, q⟩, q⟩, h⟩
def sNever (_ : Ends) (_ : L2.St) (_ : Hp) : Prop := False
theorem zNever {st : Stmt} : PS X st sNever := ⟨fun _ _ _ _ _ _ h => h.elim⟩
def sAug (i : Nat) (r : R2) (te : TE) (D : Ends) (σ : L2.St) (H : Hp) : Prop := eVar i σ H fun x _ => te σ H fun y H1 => r x y H1 fun z H2 => D.nx (σ.set i (some z)) H2
theorem zAug {i : Nat} {px : Pos} {op : Operator} {r : R2} (nd : X.N.Nodup) (hN : X.N[i]? = some x) (hv : Loc X.env.scope x) (he : PE X e te) (ho : OpR X (inplaceOp op) r) (hf : X.fn x = true ∨ X.env.scope.names.lookup x = some .local := by first | exact .inl rfl | exact .inr rfl | assumption) : PS X (.AugAssign (.Name x px) op e pos) (sAug i r te) := by
  have hin : PIp X op fun v y H Q => ∃ Q0 : VK, (∀ z H', Q0 z H' → Q z H') ∧ r v y H Q0 := fun pins s σ H x y u v Q I rx ry ⟨Q0, w, q⟩ => thn (ho pins s σ H x y u v Q0 I rx ry q) fun _ _ ⟨z, H', I', r', q'⟩ => ⟨z, H', I', r', w _ _ q'⟩
  exact ps_w (ps_aug nd hN hv (pe_hat he) hin hf) fun D σ H h => by
    unfold sAug eVar at h
    split at h
    · exact ⟨_, by assumption, _, fun y H1 q => ⟨_, fun z H2 q => q, q⟩, h⟩
    · exact h.elim
theorem ioAddI : OpR X (inplaceOp .Add) (uI2 fun i j => .int (i + j)) := uI2_of iop_add
theorem ioSub : OpR X (inplaceOp .Sub) (uI2 fun i j => .int (i - j)) := uI2_of iop_sub
def vRef' (vs : List V) (k : Addr → Prop) : Prop := match vs with
  | [.ref y] => k y
  | _ => False
def uTuple (K : PySem.W.Frag) (vs : List V) (H : Hp) (Q : VK) : Prop := vRef' vs fun a => (∃ xs, SqL K H a xs ∧ ∀ p, H p = none → Q (.ref p) (upd H p (.tup xs))) ∨ (∃ xs, SqT K H a xs ∧ Q (.ref a) H)
theorem bTuple : CallR X (.type "tuple") (uTuple X.K) := by
  intro pins s σ H xs us Q I r h
  unfold uTuple vRef' at h
  split at h
  · rcases h with ⟨ys, h1, q⟩ | ⟨ys, h1, q⟩
    · exact call_tuple_of pins s σ H _ us Q I r ⟨_, ys, rfl, .inl ⟨h1, q⟩⟩
    · exact call_tuple_of pins s σ H _ us Q I r ⟨_, ys, rfl, .inr ⟨h1, q⟩⟩
  · exact h.elim
/-! methods of texts and of lists -/
def eMs (r : Str → List V → Hp → VK → Prop) (to : TE) (t : TA) (σ : L2.St) (H : Hp) (Q : VK) : Prop := to σ H fun x H1 => asTx x fun z => t σ H1 fun vs H2 => r z vs H2 Q
def eMl (K : PySem.W.Frag) (r : Addr → List V → Hp → VK → Prop) (to : TE) (t : TA) (σ : L2.St) (H : Hp) (Q : VK) : Prop := to σ H fun x H1 => asRef x fun a => (∃ xs, SqL K H1 a xs) ∧ t σ H1 fun vs H2 => r a vs H2 Q
def MsR (X : Cx) (id : String) (r : Str → List V → Hp → VK → Prop) : Prop := MtR X id fun x vs H Q => ∃ z, x = .str z ∧ r z vs H Q
def MlR (X : Cx) (id : String) (r : Addr → List V → Hp → VK → Prop) : Prop := MtR X id fun x vs H Q => ∃ z, x = .ref z ∧ r z vs H Q
section
variable {rs : Str → List V → Hp → VK → Prop} {rl : Addr → List V → Hp → VK → Prop}
theorem dMs0 (slot : Slot "str" name id) (hty : typeOf (.builtin id) = pure (.type "method_descriptor")) (hm : MsR X id rs) (ho : PE X o to)
    (hbase : attributeBase o name X.env (eval o X.env) = eval o X.env := by rfl) (hline : (apos.endLine == cpos.line) = true := by rfl) : PE X (.Call (.Attribute o name apos) [] [] cpos) (eMs rs to aNil) :=
  pe_w (dMb0 PySem.F.plainAttrs_str slot hty hm (pe_hat ho) hbase hline) fun σ H Q q => ⟨_, fun v H1 z => by
    obtain ⟨s, rfl, z⟩ := asTx_of z
    exact ⟨rfl, s, rfl, z⟩, q⟩
theorem dMs (slot : Slot "str" name id) (hty : typeOf (.builtin id) = pure (.type "method_descriptor")) (hm : MsR X id rs) (ho : PE X o to) (ha : PA X (e :: es) tes)
    (hbase : attributeBase o name X.env (eval o X.env) = eval o X.env := by rfl)
    (hfew : ((backTo cpos (starEach (e :: es) X.env)).all (fun x => !x.1) && (backToKw cpos (keywordEach [] X.env)).all (fun x => x.1.isSome) && decide ((e :: es).length + ([] : List Keyword).length + (if ([] : List Keyword).isEmpty then 0 else 1) < 30)) = true := by rfl)
    (hline : (apos.endLine == cpos.line) = true := by rfl) (hs : starEach (e :: es) X.env = (false, eval e X.env) :: starEach es X.env := by rfl) (hplain : (backTo cpos (starEach es X.env)).any (·.1) = false := by rfl) :
    PE X (.Call (.Attribute o name apos) (e :: es) [] cpos) (eMs rs to tes) :=
  pe_w (dMb PySem.F.plainAttrs_str slot hty hm (pe_hat ho) (pa_hat ha) hbase hfew hline hs hplain) fun σ H Q q => ⟨_, fun v H1 z => by
    obtain ⟨s, rfl, z⟩ := asTx_of z
    exact ⟨rfl, _, fun vs H2 z => ⟨s, rfl, z⟩, z⟩, q⟩
theorem dMl0 (slot : Slot "list" name id) (hty : typeOf (.builtin id) = pure (.type "method_descriptor")) (hm : MlR X id rl) (ho : PE X o to)
    (hbase : attributeBase o name X.env (eval o X.env) = eval o X.env := by rfl) (hline : (apos.endLine == cpos.line) = true := by rfl) : PE X (.Call (.Attribute o name apos) [] [] cpos) (eMl X.K rl to aNil) :=
  pe_w (dMb0 PySem.F.plainAttrs_list slot hty hm (pe_hat ho) hbase hline) fun σ H Q q => ⟨_, fun v H1 z => by
    obtain ⟨s, rfl, h, z⟩ := asRef_of z
    exact ⟨.inl ⟨rfl, h⟩, s, rfl, z⟩, q⟩
theorem dMl (slot : Slot "list" name id) (hty : typeOf (.builtin id) = pure (.type "method_descriptor")) (hm : MlR X id rl) (ho : PE X o to) (ha : PA X (e :: es) tes)
    (hbase : attributeBase o name X.env (eval o X.env) = eval o X.env := by rfl)
    (hfew : ((backTo cpos (starEach (e :: es) X.env)).all (fun x => !x.1) && (backToKw cpos (keywordEach [] X.env)).all (fun x => x.1.isSome) && decide ((e :: es).length + ([] : List Keyword).length + (if ([] : List Keyword).isEmpty then 0 else 1) < 30)) = true := by rfl)
    (hline : (apos.endLine == cpos.line) = true := by rfl) (hs : starEach (e :: es) X.env = (false, eval e X.env) :: starEach es X.env := by rfl) (hplain : (backTo cpos (starEach es X.env)).any (·.1) = false := by rfl) :
    PE X (.Call (.Attribute o name apos) (e :: es) [] cpos) (eMl X.K rl to tes) :=
  pe_w (dMb PySem.F.plainAttrs_list slot hty hm (pe_hat ho) (pa_hat ha) hbase hfew hline hs hplain) fun σ H Q q => ⟨_, fun v H1 z => by
    obtain ⟨s, rfl, h, z⟩ := asRef_of z
    exact ⟨.inl ⟨rfl, h⟩, _, fun vs H2 z => ⟨s, rfl, z⟩, z⟩, q⟩
end
/-- one text as the argument -/
def vTx (vs : List V) (k : Str → Prop) : Prop := match vs with
  | [.str b] => k b
  | _ => False
def vNo (vs : List V) (k : Prop) : Prop := match vs with
  | [] => k
  | _ => False
def vOne (vs : List V) (k : V → Prop) : Prop := match vs with
  | [y] => k y
  | _ => False
def vInt (vs : List V) (k : Int → Prop) : Prop := match vs with
  | [.int y] => k y
  | _ => False
def vRef (vs : List V) (k : Addr → Prop) : Prop := match vs with
  | [.ref y] => k y
  | _ => False
theorem vTx_of {vs : List V} {k : Str → Prop} (h : vTx vs k) : ∃ b, vs = [.str b] ∧ k b := by
  unfold vTx at h
  split at h
  · exact ⟨_, rfl, h⟩
  · exact h.elim
theorem vNo_of {vs : List V} {k : Prop} (h : vNo vs k) : vs = [] ∧ k := by
  unfold vNo at h
  split at h
  · exact ⟨rfl, h⟩
  · exact h.elim
theorem vOne_of {vs : List V} {k : V → Prop} (h : vOne vs k) : ∃ b, vs = [b] ∧ k b := by
  unfold vOne at h
  split at h
  · exact ⟨_, rfl, h⟩
  · exact h.elim
theorem vInt_of {vs : List V} {k : Int → Prop} (h : vInt vs k) : ∃ b, vs = [.int b] ∧ k b := by
  unfold vInt at h
  split at h
  · exact ⟨_, rfl, h⟩
  · exact h.elim
theorem vRef_of {vs : List V} {k : Addr → Prop} (h : vRef vs k) : ∃ b, vs = [.ref b] ∧ k b := by
  unfold vRef at h
  split at h
  · exact ⟨_, rfl, h⟩
  · exact h.elim
def uFind (z : Str) (vs : List V) (H : Hp) (Q : VK) : Prop := vTx vs fun b => Q (.int (Txt.find z b)) H
def uStarts (z : Str) (vs : List V) (H : Hp) (Q : VK) : Prop := vTx vs fun b => Q (.bl (Txt.startswith z b)) H
def uSplit (z : Str) (vs : List V) (H : Hp) (Q : VK) : Prop := vTx vs fun b => (b.length == 0) = false ∧ z.length + 2 ≤ sizeLine ∧ ∀ p, H p = none → Q (.ref p) (upd H p (.lst ((Txt.split z b).map V.str)))
def uRstrip (z : Str) (vs : List V) (H : Hp) (Q : VK) : Prop := vNo vs (z.length ≤ sizeLine ∧ Q (.str (Txt.rstrip z)) H)
def uIsdigit (z : Str) (vs : List V) (H : Hp) (Q : VK) : Prop := vNo vs (Q (.bl (Txt.isdigit z)) H)
def uAppend (l : Addr) (vs : List V) (H : Hp) (Q : VK) : Prop := vOne vs fun y => ∃ xs, H l = some (.lst xs) ∧ xs.length < sizeLine ∧ Q .non (upd H l (.lst (xs ++ [y])))
def uPop (l : Addr) (vs : List V) (H : Hp) (Q : VK) : Prop := vNo vs (∃ xs y, H l = some (.lst (xs ++ [y])) ∧ Q y (upd H l (.lst xs)))
def uPop0 (l : Addr) (vs : List V) (H : Hp) (Q : VK) : Prop := vInt vs fun i => i = 0 ∧ ∃ xs y, H l = some (.lst (y :: xs)) ∧ Q y (upd H l (.lst xs))
def uExtend (l : Addr) (vs : List V) (H : Hp) (Q : VK) : Prop := vRef vs fun b => ∃ xs zs, H l = some (.lst xs) ∧ H b = some (.lst zs) ∧ xs.length + zs.length ≤ sizeLine ∧ Q .non (upd H l (.lst (xs ++ zs)))
theorem mFind : MsR X "str.find" uFind := fun pins s σ H x vs v us Q I rx rs ⟨z, e, q⟩ => by
  subst e
  obtain ⟨b, rfl, q⟩ := vTx_of q
  exact mt_find pins s σ H _ _ v us Q I rx rs ⟨z, b, rfl, rfl, q⟩
theorem mStarts : MsR X "str.startswith" uStarts := fun pins s σ H x vs v us Q I rx rs ⟨z, e, q⟩ => by
  subst e
  obtain ⟨b, rfl, q⟩ := vTx_of q
  exact mt_startswith pins s σ H _ _ v us Q I rx rs ⟨z, b, rfl, rfl, q⟩
theorem mSplit : MsR X "str.split" uSplit := fun pins s σ H x vs v us Q I rx rs ⟨z, e, q⟩ => by
  subst e
  obtain ⟨b, rfl, h1, h2, q⟩ := vTx_of q
  exact mt_split pins s σ H _ _ v us Q I rx rs ⟨z, b, rfl, rfl, h1, h2, q⟩
theorem mRstrip : MsR X "str.rstrip" uRstrip := fun pins s σ H x vs v us Q I rx rs ⟨z, e, q⟩ => by
  subst e
  obtain ⟨rfl, h1, q⟩ := vNo_of q
  exact mt_rstrip pins s σ H _ _ v us Q I rx rs ⟨z, rfl, rfl, h1, q⟩
theorem mIsdigit : MsR X "str.isdigit" uIsdigit := fun pins s σ H x vs v us Q I rx rs ⟨z, e, q⟩ => by
  subst e
  obtain ⟨rfl, q⟩ := vNo_of q
  exact mt_isdigit pins s σ H _ _ v us Q I rx rs ⟨z, rfl, rfl, trivial, q⟩
theorem mAppend : MlR X "list.append" uAppend := fun pins s σ H x vs v us Q I rx rs ⟨z, e, q⟩ => by
  subst e
  obtain ⟨y, rfl, xs, h1, h2, q⟩ := vOne_of q
  exact mt_append pins s σ H _ _ v us Q I rx rs ⟨z, xs, y, rfl, rfl, h1, h2, q⟩
theorem mPop : MlR X "list.pop" uPop := fun pins s σ H x vs v us Q I rx rs ⟨z, e, q⟩ => by
  subst e
  obtain ⟨rfl, xs, y, h1, q⟩ := vNo_of q
  exact mt_pop pins s σ H _ _ v us Q I rx rs ⟨z, _, y, rfl, rfl, h1, by simp, by rw [List.dropLast_concat]; exact q⟩
theorem mPop0 : MlR X "list.pop" uPop0 := fun pins s σ H x vs v us Q I rx rs ⟨z, e, q⟩ => by
  subst e
  obtain ⟨i, rfl, rfl, xs, y, h1, q⟩ := vInt_of q
  exact mt_popAt pins s σ H _ _ v us Q I rx rs ⟨z, _, 0, 0, y, rfl, rfl, h1, by decide, by decide, by simp [seqIndex?], rfl, q⟩
theorem mExtend : MlR X "list.extend" uExtend := fun pins s σ H x vs v us Q I rx rs ⟨z, e, q⟩ => by
  subst e
  obtain ⟨y, rfl, xs, zs, h1, h2, h3, q⟩ := vRef_of q
  exact mt_extend pins s σ H _ _ v us Q I rx rs ⟨z, y, xs, zs, rfl, rfl, h1, h2, h3, q⟩
theorem bStr : CallR X (.type "str") uStr := by
  intro pins s σ H xs us Q I r h
  unfold uStr at h
  split at h
  · exact call_str_int pins s σ H _ us Q I r ⟨_, rfl, h.1, h.2⟩
  · exact SkE.call_str_str pins s σ H _ us Q I r ⟨_, rfl, h⟩
  · exact h.elim

/-! the defs of a text -/
abbrev rSub : R2 := uI2 fun i j => .int (i - j)
abbrev rDiv : R2 := uII CDivW fun i j => .int (i / j)
abbrev rMod : R2 := uII (fun _ j => 0 < j) fun i j => .int (i % j)
abbrev rPow : R2 := uII CPow fun i j => .int (i ^ j.toNat)
abbrev rAnd : R2 := uI2 fun i j => .int (Builtin.bitAnd i j)
abbrev rOr : R2 := uI2 fun i j => .int (Builtin.bitOr i j)
abbrev rXor : R2 := uI2 fun i j => .int (Builtin.bitXor i j)
abbrev rLt : R2 := uI2 fun i j => .bl (decide (i < j))
abbrev rLe : R2 := uI2 fun i j => .bl (decide (i ≤ j))
abbrev rGt : R2 := uI2 fun i j => .bl (decide (j < i))
abbrev rGe : R2 := uI2 fun i j => .bl (decide (j ≤ i))
/-- a def stands -/
def Df (K : PySem.W.Frag) (mg : Str → Option Value) (x : Str) (st : Stmt) : Prop := ∃ f fd, L2.Fun K x x st f fd ∧ mg x = some (.ref f)
/-- a def keeps its promise -/
def Fn (P : Program) (w : World) (K : PySem.W.Frag) (mg : Str → Option Value) (base : Heap) (CX : CXT) (k : Nat) (x : Str) (ps : List Str) (sp : Sp) : Prop :=
  ∃ f fd, mg x = some (.ref f) ∧ PySem.W.keepIn K (.ref f) = true ∧ Binds K fd ps [] ∧ FnOk P w K mg base CX k f fd ps sp
/-- a constant of the module -/
def Cn (mg : Str → Option Value) (x : Str) (v : V) : Prop := ∃ u, mg x = some u ∧ RelV v u
theorem dFn (F : Fn X.prog X.w X.K X.mg X.base CX k x ps sp) (hr : Room k X.A) (hg : Gl X x) (hx : Passes CX X E)
    (ha : PA X (e :: es) tes) (hdb : (x == ("__debug__" : Str)) = false := by decide) (he : starEach (e :: es) X.env = (false, eval e X.env) :: starEach es X.env := by rfl) (hpl : (backTo pos (starEach es X.env)).any (·.1) = false := by rfl) :
    PE X (.Call (.Name x p) (e :: es) [] pos) (eCall sp E tes) := by
  obtain ⟨f, fd, g1, g2, g3, g4⟩ := F
  exact dCall g4 hr hg g1 g2 g3 hx ha hdb he hpl
theorem dFn0 (F : Fn X.prog X.w X.K X.mg X.base CX k x ps sp) (hr : Room k X.A) (hg : Gl X x) (hx : Passes CX X E)
    (hdb : (x == ("__debug__" : Str)) = false := by decide) : PE X (.Call (.Name x p) [] [] pos) (eCall sp E aNil) := by
  obtain ⟨f, fd, g1, g2, g3, g4⟩ := F
  exact dCall0 g4 hr hg g1 g2 g3 hx hdb
theorem dCn {v : V} (hg : Gl X x) (C : Cn X.mg x v) (hd : (x == ("__debug__" : Str)) = false := by decide) : PE X (.Name x p) (eLit v) := by
  obtain ⟨u, h1, h2⟩ := C
  exact dGl hg h1 h2 hd
end
/-! classes: Γ tells where the class of a name stands -/
section
open PySem PySem.Spec L2 PyProof.Rows
abbrev Gm := Str → Addr
def insR (Γ : Gm) (cs : List Str) (a : Addr) (H : Hp) (k : Str → Addr → List (Str × V) → Prop) : Prop := ∃ c dx fs, c ∈ cs ∧ H a = some (.ins (Γ c) dx fs) ∧ k c dx fs
/-- what is to be known of the classes that have a field -/
def Flds (K : PySem.W.Frag) (Γ : Gm) (cs : List Str) (f : Str) : Prop := ∀ c ∈ cs, Cls K (Γ c) ∧ NoAttr K (Γ c) f
theorem Flds.nil {K : PySem.W.Frag} {Γ : Gm} {f : Str} : Flds K Γ [] f := fun _ h => nomatch h
theorem Flds.cons {K : PySem.W.Frag} {Γ : Gm} {c f : Str} {cs : List Str} (h1 : Cls K (Γ c)) (h2 : NoAttr K (Γ c) f) (h : Flds K Γ cs f) : Flds K Γ (c :: cs) f := fun x hx => by
  rcases List.mem_cons.mp hx with rfl | hx
  · exact ⟨h1, h2⟩
  · exact h x hx
variable {X : Cx} {e o value : Expr} {es : List Expr} {pos pos' tpos apos : Pos} {ta tv te to : TE} {tes : TA} {f m x : Str} {Γ : Gm} {cs : List Str} {p : Pos}
def eFld (Γ : Gm) (cs : List Str) (f : Str) (ta : TE) (σ : L2.St) (H : Hp) (Q : VK) : Prop := ta σ H fun x H1 => asRef x fun a => insR Γ cs a H1 fun _ _ fs => ∃ v, fs.lookup f = some v ∧ Q v H1
theorem dFld (hk : Flds X.K Γ cs f) (he : PE X e ta) (hb : attributeBase e f X.env (eval e X.env) = eval e X.env := by rfl) : PE X (.Attribute e f pos) (eFld Γ cs f ta) :=
  pe_w (pe_fld (pe_hat he) hb) fun σ H Q h => ⟨_, fun y H1 q => by
    obtain ⟨a, rfl, c, dx, fs, hc, h1, v, h2, q⟩ := asRef_of q
    exact ⟨a, _, dx, fs, v, rfl, h1, (hk c hc).1, (hk c hc).2, h2, q⟩, h⟩
def sFld (Γ : Gm) (cs : List Str) (f : Str) (ta tv : TE) (D : Ends) (σ : L2.St) (H : Hp) : Prop := tv σ H fun y H1 => ta σ H1 fun x H2 => asRef x fun a => insR Γ cs a H2 fun c dx fs => fs.length < 1000 ∧ D.nx σ (upd H2 a (.ins (Γ c) dx (putF f y fs)))
theorem zFld (hk : Flds X.K Γ cs f) (ha : PE X o ta) (hv : PE X value tv) (hs : swapsWith value (some (.Attribute o f pos')) pos.line X.env = pure false := by rfl) : PS X (.Assign [.Attribute o f pos'] value pos) (sFld Γ cs f ta tv) :=
  ps_w (ps_fld (pe_hat ha) (pe_hat hv) hs) fun D σ H h => ⟨_, fun y H1 q => ⟨_, fun x H2 q => by
    obtain ⟨a, rfl, c, dx, fs, hc, h1, h2, q⟩ := asRef_of q
    exact ⟨a, _, dx, fs, rfl, h1, (hk c hc).1, (hk c hc).2, h2, q⟩, q⟩, h⟩
/-- o.f op= e -/
def sFldAug (Γ : Gm) (cs : List Str) (f : Str) (r : R2) (ta tv : TE) (D : Ends) (σ : L2.St) (H : Hp) : Prop := ta σ H fun x H1 => asRef x fun a => insR Γ cs a H1 fun c _ fs => ∃ v, fs.lookup f = some v ∧
  tv σ H1 fun y H2 => r v y H2 fun z H3 => ∃ dx' fs', H3 a = some (.ins (Γ c) dx' fs') ∧ fs'.length < 1000 ∧ D.nx σ (upd H3 a (.ins (Γ c) dx' (putF f z fs')))
theorem zFldAug {op : Operator} {r : R2} (hk : Flds X.K Γ cs f) (ha : PE X o ta) (hv : PE X value tv) (hop : OpR X (inplaceOp op) r) : PS X (.AugAssign (.Attribute o f tpos) op value pos) (sFldAug Γ cs f r ta tv) := by
  have hin : InOp X op fun v y H Q => ∃ Q0 : VK, (∀ z H', Q0 z H' → Q z H') ∧ r v y H Q0 := fun pins s σ H x y u v Q I rx ry ⟨Q0, w, q⟩ => thn (hop pins s σ H x y u v Q0 I rx ry q) fun _ _ ⟨z, H', I', r', q'⟩ => ⟨z, H', I', r', w _ _ q'⟩
  exact ps_w (ps_fldaug (pe_hat ha) (pe_hat hv) hin) fun D σ H h => ⟨_, fun x H1 q => by
    obtain ⟨a, rfl, c, dx, fs, hc, h1, v, h2, q⟩ := asRef_of q
    exact ⟨a, _, dx, fs, v, rfl, h1, (hk c hc).1, (hk c hc).2, h2, _, fun y H2 q => ⟨_, fun z H3 q => q, q⟩, q⟩, h⟩
/-- methods by the class of the instance -/
def MOk (X : Cx) (Γ : Gm) (CX : CXT) (k : Nat) (m : Str) (cs : List (Str × Sp)) : Prop := ∀ c ∈ cs, ∃ g fd ps, Cls X.K (Γ c.1) ∧ Meth X.K (Γ c.1) m g ∧ Binds X.K fd ps [] ∧ FnOk X.prog X.w X.K X.mg X.base CX k g fd ps c.2
/-- a class's method keeps its promise -/
def Mn (P : Program) (w : World) (K : PySem.W.Frag) (mg : Str → Option Value) (base : Heap) (Γ : Gm) (CX : CXT) (k : Nat) (c m : Str) (sp : Sp) : Prop := ∃ g fd ps, Cls K (Γ c) ∧ Meth K (Γ c) m g ∧ Binds K fd ps [] ∧ FnOk P w K mg base CX k g fd ps sp
theorem MOk.nil {CX : CXT} {k : Nat} : MOk X Γ CX k m [] := fun _ h => nomatch h
theorem MOk.cons {CX : CXT} {j k : Nat} {c : Str} {sp : Sp} {cs : List (Str × Sp)} (F : Mn X.prog X.w X.K X.mg X.base Γ CX j c m sp) (hj : j ≤ k) (h : MOk X Γ CX k m cs) : MOk X Γ CX k m ((c, sp) :: cs) := fun x hx => by
  rcases List.mem_cons.mp hx with rfl | hx
  · obtain ⟨g, fd, ps, h1, h2, h3, h4⟩ := F
    exact ⟨g, fd, ps, h1, h2, h3, h4.mono hj⟩
  · exact h x hx
def mthR (Γ : Gm) (m : Str) (a : Addr) (H : Hp) (cs : List (Str × Sp)) (k : Sp → Prop) : Prop := ∃ c ∈ cs, ∃ dx fs, H a = some (.ins (Γ c.1) dx fs) ∧ fs.lookup m = none ∧ k c.2
def eMth (Γ : Gm) (m : Str) (cs : List (Str × Sp)) (E : XK) (ta : TE) (t : TA) (σ : L2.St) (H : Hp) (Q : VK) : Prop := ta σ H fun x H1 => asRef x fun a => mthR Γ m a H1 cs fun sp => t σ H1 fun vs H2 => sp (x :: vs) H2 Q E
theorem dMth {CX : CXT} {k : Nat} {ms : List (Str × Sp)} {E : XK} {pl : Sem Bool} (F : MOk X Γ CX k m ms) (hr : Room k X.A) (hx : Passes CX X E) (he : PE X o ta) (ha : PA X (e :: es) tes)
    (hst : starEach (e :: es) X.env = (false, eval e X.env) :: starEach es X.env := by rfl) (hpl : (backTo pos (starEach es X.env)).any (·.1) = false := by rfl)
    (ht : eval (.Call (.Attribute o m apos) (e :: es) [] pos) X.env = (do let ov ← eval o X.env; standAt apos.atName; let (f, first) ← holding [ov] (getMethod ov m pl); callWith pos f first (backTo pos (starEach (e :: es) X.env)) (backToKw pos (keywordEach [] X.env))) := by rfl) :
    PE X (.Call (.Attribute o m apos) (e :: es) [] pos) (eMth Γ m ms E ta tes) := by
  refine ⟨fun pins s σ H Q I h => PySem.W.methodCall_KW (pl := pl) (thn (he.run pins s σ H _ I h) fun u s1 ⟨x, H1, I1, rx, q⟩ => ?_) ht⟩
  obtain ⟨a, ex, c, hc, dx, fs, ea, l, q⟩ := asRef_of q
  subst ex
  obtain rfl : u = Value.ref a := rx
  obtain ⟨g, fd, ps, h1, h2, h3, h4⟩ := F c hc
  refine getmeth_ok I1 ea h1 h2 l ?_
  exact PySem.W.callWith_K (first := [.ref a]) (h₀ := X.base) I.ok.mod.kin h2.kp (thn (ha.run pos pins s1 σ H1 _ I1 q) fun us s2 ⟨vs, H2, I2, r, q2⟩ => ⟨I2.kIn, run_fn (us := .ref a :: us) (vs := .ref a :: vs) (dvs := []) h4 hr h3 .nil hx I2 (.cons rfl r) (by rw [List.append_nil]; exact q2)⟩) hst hpl
theorem dMth0 {CX : CXT} {k : Nat} {ms : List (Str × Sp)} {E : XK} {pl : Sem Bool} (F : MOk X Γ CX k m ms) (hr : Room k X.A) (hx : Passes CX X E) (he : PE X o ta)
    (ht : eval (.Call (.Attribute o m apos) [] [] pos) X.env = (do let ov ← eval o X.env; standAt apos.atName; let (f, first) ← holding [ov] (getMethod ov m pl); callWith pos f first (backTo pos (starEach [] X.env)) (backToKw pos (keywordEach [] X.env))) := by rfl) :
    PE X (.Call (.Attribute o m apos) [] [] pos) (eMth Γ m ms E ta aNil) := by
  refine ⟨fun pins s σ H Q I h => PySem.W.methodCall_KW (pl := pl) (thn (he.run pins s σ H _ I h) fun u s1 ⟨x, H1, I1, rx, q⟩ => ?_) ht⟩
  obtain ⟨a, ex, c, hc, dx, fs, ea, l, q⟩ := asRef_of q
  subst ex
  obtain rfl : u = Value.ref a := rx
  obtain ⟨g, fd, ps, h1, h2, h3, h4⟩ := F c hc
  refine getmeth_ok I1 ea h1 h2 l ?_
  exact PySem.W.callWith_K0 (first := [.ref a]) I1.kIn h2.kp (run_fn (us := [.ref a]) (vs := [.ref a]) (dvs := []) h4 hr h3 .nil hx I1 (.cons rfl .nil) q)
/-- C(..): made, then __init__ -/
def Mi (P : Program) (w : World) (K : PySem.W.Frag) (mg : Str → Option Value) (base : Heap) (Γ : Gm) (CX : CXT) (k : Nat) (c : Str) (sp : Sp) : Prop := ∃ g fd ps, Mk K (Γ c) g ∧ mg c = some (.ref (Γ c)) ∧ Binds K fd ps [] ∧ FnOk P w K mg base CX k g fd ps sp
def eNew (Γ : Gm) (c : Str) (sp : Sp) (E : XK) (t : TA) (σ : L2.St) (H : Hp) (Q : VK) : Prop := t σ H fun vs H1 => ∀ x dx, H1 x = none → H1 dx = none → dx ≠ x →
  sp (.ref x :: vs) (upd (upd H1 dx (.own x)) x (.ins (Γ c) dx [])) (fun v H2 => v = .non ∧ Q (.ref x) H2) E
theorem dNew {CX : CXT} {k : Nat} {sp : Sp} {E : XK} (F : Mi X.prog X.w X.K X.mg X.base Γ CX k x sp) (hr : Room (k + 1) X.A) (hg : Gl X x) (hx : Passes CX X E) (ha : PA X (e :: es) tes)
    (hdb : (x == ("__debug__" : Str)) = false := by decide) (he : starEach (e :: es) X.env = (false, eval e X.env) :: starEach es X.env := by rfl) (hpl : (backTo pos (starEach es X.env)).any (·.1) = false := by rfl) :
    PE X (.Call (.Name x p) (e :: es) [] pos) (eNew Γ x sp E tes) := by
  obtain ⟨g, fd, ps, h1, h2, h3, h4⟩ := F
  refine pe_w (pe_make h1 h4 hr hg h2 h3 .nil hx ha hdb he hpl) fun σ H Q q => ?_
  unfold tMake
  simp only [List.append_nil]
  exact q
theorem dNew0 {CX : CXT} {k : Nat} {sp : Sp} {E : XK} (F : Mi X.prog X.w X.K X.mg X.base Γ CX k x sp) (hr : Room (k + 1) X.A) (hg : Gl X x) (hx : Passes CX X E)
    (hdb : (x == ("__debug__" : Str)) = false := by decide) : PE X (.Call (.Name x p) [] [] pos) (eNew Γ x sp E aNil) := by
  obtain ⟨g, fd, ps, h1, h2, h3, h4⟩ := F
  exact pe_make0 h1 h4 hr hg h2 h3 .nil hx hdb
/-- C.m(self, ..): a def of a class, read off the class -/
def Mc (P : Program) (w : World) (K : PySem.W.Frag) (mg : Str → Option Value) (base : Heap) (Γ : Gm) (CX : CXT) (k : Nat) (c m : Str) (sp : Sp) : Prop := ∃ g fd ps mc, mg c = some (.ref (Γ c)) ∧ PySem.W.readsIn K (Γ c) mc = true ∧
  PySem.W.specialIn K (.ref (Γ c)) "__getattribute__" = some (some (.builtin "type.__getattribute__")) ∧ PySem.W.findCls K (.ref (Γ c)) mc m = some (.val (.ref g)) ∧ PySem.W.keepIn K (.ref g) = true ∧ Binds K fd ps [] ∧ FnOk P w K mg base CX k g fd ps sp
theorem dCls {CX : CXT} {k : Nat} {sp : Sp} {E : XK} {pl : Sem Bool} (F : Mc X.prog X.w X.K X.mg X.base Γ CX k x m sp) (hr : Room k X.A) (hg : Gl X x) (hx : Passes CX X E) (ha : PA X (e :: es) tes) (hdb : (x == ("__debug__" : Str)) = false := by decide)
    (hst : starEach (e :: es) X.env = (false, eval e X.env) :: starEach es X.env := by rfl) (hpl : (backTo pos (starEach es X.env)).any (·.1) = false := by rfl)
    (ht : eval (.Call (.Attribute (.Name x p) m apos) (e :: es) [] pos) X.env = (do let ov ← eval (.Name x p) X.env; standAt apos.atName; let (f, first) ← holding [ov] (getMethod ov m pl); callWith pos f first (backTo pos (starEach (e :: es) X.env)) (backToKw pos (keywordEach [] X.env))) := by rfl) :
    PE X (.Call (.Attribute (.Name x p) m apos) (e :: es) [] pos) (eCall sp E tes) := by
  obtain ⟨g, fd, ps, mc, h1, h2, h3, h4, h5, h6, h7⟩ := F
  refine ⟨fun pins s σ H Q I h => PySem.W.methodCall_KW (pl := pl) (ld_glob I hg h1 ?_ hdb) ht⟩
  refine PySem.W.method_cls I.kIn h3 (PySem.W.cls_value I.kIn h2 h4 rfl ?_)
  exact PySem.W.callWith_K (first := []) (h₀ := X.base) I.ok.mod.kin h5 (thn (ha.run pos pins _ σ H _ (I.tok _) h) fun us s2 ⟨vs, H2, I2, r, q2⟩ => ⟨I2.kIn, run_fn (us := us) (vs := vs) (dvs := []) h7 hr h6 .nil hx I2 r (by rw [List.append_nil]; exact q2)⟩) hst hpl
end
/-- a wall: what stands in it is not looked through -/
structure Bx (p : Prop) : Prop where
  run : p
def gam (l : List (Str × Addr)) : Gm := fun c => (l.lookup c).getD 0
theorem fn_no {P : Program} {w : World} {K : PySem.W.Frag} {mg : Str → Option Value} {base : Heap} {CX : CXT} {k : Nat} {f : Addr} {fd : FuncData} {ps : List Str} : FnOk P w K mg base CX k f fd ps (fun _ _ _ _ => False) := ⟨fun _ _ _ _ h => h.elim, fun _ _ _ _ _ _ _ _ _ _ _ _ _ h => h.elim⟩
/-! isinstance(x, C), C and the class of x own ones -/
section
open PySem PySem.Spec L2 PyProof.Rows
def Kit1 (K : PySem.W.Frag) (Γ : Gm) (d : Str) (c : Str × Bool) : Prop := Cls K (Γ c.1) ∧ PySem.W.findIn K (.ref (Γ c.1)) "__class__" = some (some (.builtin "object.__class__")) ∧ PySem.W.specialIn K (.builtin "object.__class__") "__get__" = some (some (.builtin "getset_descriptor.__get__")) ∧
  PySem.W.takesIn K (.builtin "object.__class__") = some true ∧ PySem.W.mroIn K (Γ c.1) (.type "object") = some true ∧ PySem.W.kitOne K (.ref (Γ c.1)) (.ref (Γ d)) = some c.2
def Kits (K : PySem.W.Frag) (mg : Str → Option Value) (Γ : Gm) (d : Str) (tab : List (Str × Bool)) : Prop := mg d = some (.ref (Γ d)) ∧ ∀ c ∈ tab, Kit1 K Γ d c
theorem Kits.nil {K : PySem.W.Frag} {mg : Str → Option Value} {Γ : Gm} {d : Str} (h : mg d = some (.ref (Γ d))) : Kits K mg Γ d [] := ⟨h, fun _ h => nomatch h⟩
theorem Kits.cons {K : PySem.W.Frag} {mg : Str → Option Value} {Γ : Gm} {c d : Str} {b : Bool} {tab : List (Str × Bool)} (h1 : Cls K (Γ c)) (h2 : PySem.W.findIn K (.ref (Γ c)) "__class__" = some (some (.builtin "object.__class__")))
    (h3 : PySem.W.specialIn K (.builtin "object.__class__") "__get__" = some (some (.builtin "getset_descriptor.__get__"))) (h4 : PySem.W.takesIn K (.builtin "object.__class__") = some true) (h5 : PySem.W.mroIn K (Γ c) (.type "object") = some true)
    (h6 : PySem.W.kitOne K (.ref (Γ c)) (.ref (Γ d)) = some b) (h : Kits K mg Γ d tab) : Kits K mg Γ d ((c, b) :: tab) := ⟨h.1, fun x hx => by
  rcases List.mem_cons.mp hx with rfl | hx
  · exact ⟨h1, h2, h3, h4, h5, h6⟩
  · exact h.2 x hx⟩
def eIsC (Γ : Gm) (tab : List (Str × Bool)) (ta : TE) (σ : L2.St) (H : Hp) (Q : VK) : Prop := ta σ H fun x H1 => asRef x fun a => ∃ c ∈ tab, ∃ dx fs, H1 a = some (.ins (Γ c.1) dx fs) ∧ Q (.bl c.2) H1
variable {X : Cx} {a : Expr} {ta : TE} {p p2 pos : Pos} {Γ : Gm} {d : Str} {tab : List (Str × Bool)}
theorem dIsC (kt : Kits X.K X.mg Γ d tab) (hg : Gl X "isinstance") (hm : X.mg "isinstance" = none) (hv : bootBuiltins "isinstance" = some (.builtin "isinstance")) (ha : PE X a ta) (hgd : Gl X d := by rfl)
    (he : starEach [a, .Name d p2] X.env = (false, eval a X.env) :: starEach [.Name d p2] X.env := by rfl) (he2 : starEach [.Name d p2] X.env = (false, eval (.Name d p2) X.env) :: starEach [] X.env := by rfl) (hpl : (backTo pos (starEach [.Name d p2] X.env)).any (·.1) = false := by rfl) (hdb : (d == ("__debug__" : Str)) = false := by decide) :
    PE X (.Call (.Name "isinstance" p) [a, .Name d p2] [] pos) (eIsC Γ tab ta) := by
  refine pe_w (dBlt call_isi hg hm hv (kCons (pe_hat ha) (kCons (dGl (v := .ref (Γ d)) hgd kt.1 rfl hdb) kNil he2) he) (by decide) (by decide) he hpl) fun σ H Q h => ?_
  refine ⟨_, fun x H1 q => ?_, h⟩
  obtain ⟨a, rfl, c, hc, dx, fs, h1, q⟩ := asRef_of q
  obtain ⟨g1, g2, g3, g4, g5, g6⟩ := kt.2 c hc
  exact ⟨_, _, _, _, c.2, rfl, .own _, .base (.ins h1 g1 g2 g3 g4 g5), g6, q⟩
end
/-- the end: what k_head leaves, from the law's promise -/
theorem walkB {l : PySem.W.OpenLaw} {k : Nat} {q : Program} {loose : List Str} {XP : (Str → Option Value) → Heap → Prop} {YP : World → Heap → Prop} {d : DefRec} {K : Params → PySem.W.Frag} (CX : World → CXT) (sp : PySem.W.Frag → Sp) (x : Str)
    (hn : l.most = some 63) (hdf : d.params.defaults = []) (hr : Room k callerA) (hY : ∀ (w : World) (h : Heap), YP w h → (K w.params).In h)
    (F : ∀ (w : World) (mg : Str → Option Value) (fa : Addr) (h : Heap), (K w.params).In h → h.Ns mainGlobals mg → mg d.name = some (.ref fa) →
      ∃ fd : FuncData, (∀ (s : Shared) (u : Value), BindsTo s fd ⟨[u], []⟩ [(x, u)]) ∧ ∀ base : Heap, (K w.params).In base → base.Ns mainGlobals mg → FnOk l.prog w (K w.params) mg base (CX w) k fa fd [x] (sp (K w.params)))
    (hsp : ∀ (K : PySem.W.Frag) (H : Hp) (a : Addr) (ns : List Int), ns.length ≤ 63 → (∀ z ∈ ns, Builtin.Int.intBits z ≤ 1048576) → Only H → SqL K H a (ns.map V.int) → sp K [.ref a] H (fun v _ => v = .bl true) fun _ _ _ => False)
    (hCX : ∀ (w : World) (H : Hp) (s : Shared) (e : Value) (s' : Shared), CX w [] H s (fun _ _ _ => False) e s' → False) :
    PySem.W.WalkO q loose XP YP l.row.toRowW d [] (fun f vs => PySem.call f vs) :=
  L2.walk_ofB (K := K) (CX := CX) (sp := fun w => sp (K w.params)) hn (by decide) hdf hr hY F (fun w H a ns h1 h2 h3 h4 => hsp (K w.params) H a ns h1 h2 h3 h4) hCX
end Hf
set_option Elab.async false
set_option linter.all false
set_option maxRecDepth 100000
set_option maxHeartbeats 4000000
namespace Hf
open PySem PySem.Spec L2 PyProof.Rows
/-- a value, and all that stood stands -/
def Pv (H : Hp) (Q : VK) (v : V) : Prop := ∀ H', Same H H' → Q v H'
theorem Pv.here {H : Hp} {Q : VK} {v : V} (h : Pv H Q v) : Q v H := h H (Same.refl H)
theorem Pv.to {H H1 : Hp} {Q : VK} {v : V} (h : Pv H Q v) (e : Same H H1) : Pv H1 Q v := fun H' z => h H' (e.trans z)
theorem Same.new {H : Hp} {p : Addr} {o : HO} (h : H p = none) : Same H (upd H p o) := fun b x e => by
  rw [upd_ne (ne_of_none e h)]
  exact e
/-! texts by their codes -/
def S (l : List Nat) : Str := ⟨l.toArray⟩
theorem S_cps (l : List Nat) : (S l).cps.toList = l := rfl
theorem S_len (l : List Nat) : (S l).length = l.length := rfl
theorem S_app (a b : List Nat) : S a ++ S b = S (a ++ b) := by
  show (⟨a.toArray ++ b.toArray⟩ : Str) = _
  rw [List.append_toArray]
  rfl
theorem S_of (z : Str) : z = S z.cps.toList := rfl
theorem S_inj {a b : List Nat} (h : S a = S b) : a = b := congrArg (fun z => z.cps.toList) h
theorem S_eq {a b : List Nat} : (S a = S b) = (a = b) := propext ⟨S_inj, fun h => h ▸ rfl⟩
theorem sz : sizeLine = 16777216 := sizeLine_eq
theorem app_len (a b : Str) : (a ++ b).length = a.length + b.length := by
  show (a.cps ++ b.cps).size = _
  exact Array.size_append
/-! sizes of numbers -/
theorem bits_le {i : Int} : Builtin.Int.intBits i ≤ i.natAbs.log2 + 1 := by
  unfold Builtin.Int.intBits
  split <;> omega
theorem mulOk {i j : Int} {a b : Nat} (h1 : Builtin.Int.intBits i ≤ a) (h2 : Builtin.Int.intBits j ≤ b) (h : a + b ≤ 100000000 := by decide) : IntMulOk i j := by
  have e : bitsLine = 134217728 := by decide
  unfold IntMulOk
  intro z
  rw [Bool.and_eq_true] at z
  have z2 := z.2
  unfold Builtin.Int.intTooBig at z2
  have z3 := of_decide_eq_true z2
  rw [e] at z3
  omega
theorem bitsOf {i : Int} {a : Nat} (h : i.natAbs < 2 ^ a) : Builtin.Int.intBits i ≤ a + 1 := by
  refine Nat.le_trans bits_le ?_
  by_cases z : i.natAbs = 0
  · rw [z]
    have : Nat.log2 0 = 0 := by decide
    omega
  · have := (Nat.log2_lt z).mpr h
    omega

/-! the readings at values -/
section
variable {K : PySem.W.Frag} {H : Hp} {Q : VK} {i j : Int} {z w : Str} {a b : Addr} {k l : Bool} {x y : V} {C : Int → Int → Prop} {g : Int → Int → V} {neg : Bool} {lo hi : Option Int} {n : String}
theorem eb1 {f : Bool → Prop} : asBl (.bl k) f = f k := rfl
theorem eb2 {f : Int → Prop} : asInt (.int i) f = f i := rfl
theorem eb3 {f : Addr → Prop} : asRef (.ref a) f = f a := rfl
theorem eb4 {f : Bool → Hp → Prop} : tru (.bl k) H f = f k H := rfl
theorem eb5 {f : Bool → Hp → Prop} : tru (.int i) H f = f (i != 0) H := rfl
theorem eb6 {f : Str → Prop} : asTx (.str z) f = f z := rfl
theorem eb12 {f : Addr → Prop} : vRef' [.ref a] f = f a := rfl
theorem eb7 {f : Str → Prop} : vTx [.str z] f = f z := rfl
theorem eb8 {f : Prop} : vNo [] f = f := rfl
theorem eb9 {f : V → Prop} : vOne [x] f = f x := rfl
theorem eb10 {f : Int → Prop} : vInt [.int i] f = f i := rfl
theorem eb11 {f : Addr → Prop} : vRef [.ref a] f = f a := rfl
theorem eo1 : uAdd K (.int i) (.int j) H Q = Q (.int (i + j)) H := rfl
theorem eo2 : uAdd K (.str z) (.str w) H Q = (z.length + w.length ≤ sizeLine ∧ Q (.str (z ++ w)) H) := rfl
theorem eo3 : uAdd K (.ref a) (.ref b) H Q = catR K a b H Q := rfl
theorem eo4 : uMul (.int i) (.int j) H Q = (IntMulOk i j ∧ Q (.int (i * j)) H) := rfl
theorem eo5 : uMul (.str z) (.int j) H Q = (j ≤ 1000000 ∧ -1000000 ≤ j ∧ z.length ≤ 16 ∧ Q (.str (repS z j)) H) := rfl
theorem eo6 : uII C g (.int i) (.int j) H Q = (C i j ∧ Q (g i j) H) := rfl
theorem eo7 : uI2 g (.int i) (.int j) H Q = Q (g i j) H := rfl
theorem eo8 : uNeg (.int i) H Q = Q (.int (-i)) H := rfl
theorem ec1 : uEq K (.int i) (.int j) H Q = Q (.bl (decide (i = j))) H := rfl
theorem ec2 : uEq K (.str z) (.str w) H Q = Q (.bl (decide (z = w))) H := rfl
theorem ec3 : uEq K (.bl k) (.bl l) H Q = Q (.bl (decide (k = l))) H := rfl
theorem ec4 : uEq K (.ref a) y H Q = eqD K (.ref a) y H fun b => Q (.bl b) H := by cases y <;> rfl
theorem ec5 : uNe K (.int i) (.int j) H Q = Q (.bl (!decide (i = j))) H := rfl
theorem ec6 : uNe K (.str z) (.str w) H Q = Q (.bl (!decide (z = w))) H := rfl
theorem ec7 : uNe K (.bl k) (.bl l) H Q = Q (.bl (!decide (k = l))) H := rfl
theorem ec8 : uNe K (.ref a) y H Q = eqD K (.ref a) y H fun b => Q (.bl (!b)) H := by cases y <;> rfl
theorem ec9 : uIn K neg (.str w) (.str z) H Q = Q (.bl (if neg then !inTx w z else inTx w z)) H := rfl
theorem ec10 : uIn K neg x (.ref a) H Q = inSq K x a H fun b => Q (.bl (if neg then !b else b)) H := by cases x <;> rfl
theorem ec11 : uIs neg x .non H Q = Q (.bl (if neg then !decide (x = .non) else decide (x = .non))) H := rfl
theorem ex1 : uIx K (.ref a) (.int i) H Q = ixR K a i H Q := rfl
theorem ex2 : uIx K (.str z) (.int i) H Q = ixS z i H Q := rfl
theorem ex3 : uSl K (.ref a) lo hi H Q = cutR K a lo hi H Q := rfl
theorem ex4 : uSl K (.str z) lo hi H Q = (z.length ≤ sizeLine ∧ Q (.str (cutS z lo hi)) H) := rfl
theorem el1 : uLen K [.str z] H Q = (z.length ≤ sizeLine ∧ Q (.int z.length) H) := rfl
theorem el2 : uLen K [.ref a] H Q = lenR K a H fun n => Q (.int n) H := rfl
theorem el3 : uInt [.int i] H Q = Q (.int i) H := rfl
theorem el4 : uInt [.bl k] H Q = Q (.int (if k then 1 else 0)) H := rfl
theorem el5 : uInt [.str z] H Q = ∃ n, PySem.intText? z = some n ∧ z.length ≤ 640 ∧ Q (.int n) H := rfl
theorem el6 : uStr [.int i] H Q = (i.natAbs.log2 < 1920 ∧ Q (.str (toString i)) H) := rfl
theorem el7 : uStr [.str z] H Q = Q (.str z) H := rfl
theorem el8 : uMax [.int i, .int j] H Q = Q (.int (if j > i then j else i)) H := rfl
theorem el9 : uMin [.int i, .int j] H Q = Q (.int (if j < i then j else i)) H := rfl
theorem el10 : uList K [.ref a] H Q = ∃ xs, (SqL K H a xs ∨ SqT K H a xs) ∧ ∀ p, H p = none → Q (.ref p) (upd H p (.lst xs)) := rfl
theorem et1 : uIsi K [x, .ty n] H Q = tyN K x H fun m => ∃ b, kitB m n = some b ∧ Q (.bl b) H := rfl
theorem et2 {f : String → Prop} : tyN K .non H f = f "NoneType" := rfl
theorem et3 {f : String → Prop} : tyN K (.bl k) H f = f "bool" := rfl
theorem et4 {f : String → Prop} : tyN K (.int i) H f = f "int" := rfl
theorem et5 {f : String → Prop} : tyN K (.str z) H f = f "str" := rfl
theorem et6 {f : String → Prop} : tyN K (.ref a) H f = (((∃ xs, SqL K H a xs) ∧ f "list") ∨ ((∃ xs, SqT K H a xs) ∧ f "tuple") ∨ ((∃ kvs, H a = some (.dK kvs)) ∧ f "dict")) := rfl
end
theorem at_len {α : Type} {xs : List α} {i : Int} (h0 : 0 ≤ i) (h1 : i < xs.length) : ∃ v, atI xs i = some v := by
  obtain ⟨k, rfl⟩ := Int.eq_ofNat_of_zero_le h0
  have h2 : k < xs.length := by omega
  exact ⟨xs[k], atI_nat (List.getElem?_eq_getElem h2)⟩
theorem atI_mem {α : Type} {xs : List α} {i : Int} {v : α} (h : atI xs i = some v) : v ∈ xs := by
  unfold atI at h
  cases e : ixN xs.length i with
  | none => rw [e] at h; cases h
  | some j => rw [e] at h; exact List.mem_of_getElem? h
theorem cutS_le (z : Str) (lo hi : Option Int) : (cutS z lo hi).length ≤ z.length := cutS_length z lo hi
theorem repS_len {z : Str} {k : Int} : (repS z k).length = k.toNat * z.length := by
  show ((List.replicate k.toNat z.cps.toList).flatten.toArray).size = _
  simp [Str.length]
/-- the law's cells mixed -/
theorem bits_nn {z : Int} {n : Nat} (h0 : 0 ≤ z) (h : z < n) (hn : n ≤ 2 ^ 64) : Builtin.Int.intBits z ≤ 65 := bitsOf (a := 64) (by omega)
/-! what stands: F, the part of the heap that is not written any more -/
theorem Same.up {F H : Hp} {a : Addr} {o : HO} (s : Same F H) (n : F a = none) : Same F (upd H a o) := fun b x e => by
  rw [upd_ne (ne_of_none e n)]
  exact s _ _ e
theorem Same.both {F H : Hp} {a : Addr} {o : HO} (s : Same F H) : Same (upd F a o) (upd H a o) := fun b x e => by
  by_cases h : b = a
  · subst h
    rw [upd_same] at e ⊢
    exact e
  · rw [upd_ne h] at e ⊢
    exact s _ _ e
theorem Same.sqT {K : PySem.W.Frag} {H H' : Hp} {a : Addr} {xs : List V} (e : Same H H') (h : SqT K H a xs) : SqT K H' a xs := by
  rcases h with (h | ⟨o, h⟩) | h
  · exact .inl (.inl (e _ _ h))
  · exact .inl (.inr ⟨o, e _ _ h⟩)
  · exact .inr h
mutual
theorem Dp.same {K : PySem.W.Frag} {H H' : Hp} (e : Same H H') : ∀ {d : PyData} {v : V}, Dp K H v d → Dp K H' v d
  | .none, _, h => by cases h; exact .non
  | .bool b, _, h => by cases h; exact .bl b
  | .int i, _, h => by cases h; exact .int i
  | .str x, _, h => by cases h; exact .str x
  | .list ds, _, h => by cases h with | lst hs ha => exact .lst (e.seq hs) (DpAll.same e ha)
  | .tuple ds, _, h => by cases h with | tup hs ha => exact .tup (Same.sqT e hs) (DpAll.same e ha)
  | .dict _, _, h => by cases h
theorem DpAll.same {K : PySem.W.Frag} {H H' : Hp} (e : Same H H') : ∀ {ds : List PyData} {vs : List V}, DpAll K H vs ds → DpAll K H' vs ds
  | [], _, h => by cases h; exact .nil
  | d :: ds, _, h => by cases h with | cons h1 h2 => exact .cons (Dp.same e h1) (DpAll.same e h2)
end
theorem DpAll.len {K : PySem.W.Frag} {H : Hp} : ∀ {ds : List PyData} {vs : List V}, DpAll K H vs ds → vs.length = ds.length
  | [], _, h => by cases h; rfl
  | d :: ds, _, h => by cases h with | cons h1 h2 => simp [DpAll.len h2]
theorem DpAll.at {K : PySem.W.Frag} {H : Hp} : ∀ {ds : List PyData} {vs : List V} {i : Nat} {v : V}, DpAll K H vs ds → vs[i]? = some v → ∃ d, ds[i]? = some d ∧ Dp K H v d
  | [], _, _, _, h, e => by cases h; simp at e
  | d :: ds, _, 0, v, h, e => by cases h with | cons h1 h2 => simp at e; subst e; exact ⟨d, rfl, h1⟩
  | d :: ds, _, i + 1, v, h, e => by cases h with | cons h1 h2 => exact DpAll.at (i := i) h2 (by simpa using e)
theorem DpAll.at' {K : PySem.W.Frag} {H : Hp} {ds : List PyData} {vs : List V} {i : Nat} {d : PyData} (h : DpAll K H vs ds) (e : ds[i]? = some d) : ∃ v, vs[i]? = some v ∧ Dp K H v d := by
  have hi := (List.getElem?_eq_some_iff.mp e).1
  rw [← DpAll.len h] at hi
  obtain ⟨d', e', h'⟩ := DpAll.at h (List.getElem?_eq_getElem hi)
  rw [e] at e'
  cases e'
  exact ⟨_, List.getElem?_eq_getElem hi, h'⟩
theorem DpAll.app {K : PySem.W.Frag} {H : Hp} : ∀ {ds es : List PyData} {vs ws : List V}, DpAll K H vs ds → DpAll K H ws es → DpAll K H (vs ++ ws) (ds ++ es)
  | [], _, _, _, h, g => by cases h; exact g
  | d :: ds, _, _, _, h, g => by cases h with | cons h1 h2 => exact .cons h1 (DpAll.app h2 g)
theorem DpAll.ints {K : PySem.W.Frag} {H : Hp} : ∀ {ns : List Int}, DpAll K H (ns.map V.int) (ns.map PyData.int)
  | [] => .nil
  | n :: ns => .cons (.int n) DpAll.ints
theorem DpAll.strs {K : PySem.W.Frag} {H : Hp} : ∀ {ns : List Str}, DpAll K H (ns.map V.str) (ns.map PyData.str)
  | [] => .nil
  | n :: ns => .cons (.str n) DpAll.strs
/-- behind a call: F' the frozen part then -/
structure Grow (F H F' H' : Hp) : Prop where
  ff : Same F F'
  fh : Same F' H'
  hh : Same H H'
  apart : ∀ b, F b = none → H b ≠ none → F' b = none
theorem Grow.rfl' {F H : Hp} (h : Same F H) : Grow F H F H := ⟨Same.refl _, h, Same.refl _, fun _ h _ => h⟩
theorem Grow.trans {F H F1 H1 F2 H2 : Hp} (a : Grow F H F1 H1) (b : Grow F1 H1 F2 H2) : Grow F H F2 H2 := ⟨a.ff.trans b.ff, b.fh, a.hh.trans b.hh, fun x h1 h2 => b.apart x (a.apart x h1 h2) fun z => by
  cases e : H x with
  | none => exact h2 e
  | some o => rw [a.hh _ _ e] at z; cases z⟩
/-- something new that is not written any more -/
theorem Grow.new {F H : Hp} {p : Addr} {o : HO} (s : Same F H) (h : H p = none) : Grow F H (upd F p o) (upd H p o) := ⟨Same.new (Same.free s h), Same.both s, Same.new h, fun b h1 h2 => by
  rw [upd_ne (fun z => h2 (by rw [z]; exact h))]
  exact h1⟩
/-- something new that is thrown away -/
theorem Grow.drop {F H : Hp} {p : Addr} {o : HO} (s : Same F H) (h : H p = none) : Grow F H F (upd H p o) := ⟨Same.refl _, Same.up s (Same.free s h), Same.new h, fun _ h _ => h⟩
/-- a cell of one's own -/
structure Cell (F H : Hp) (a : Addr) (o : HO) : Prop where
  f : F a = none
  h : H a = some o
theorem Cell.grow {F H F' H' : Hp} {a : Addr} {o : HO} (c : Cell F H a o) (g : Grow F H F' H') : Cell F' H' a o := ⟨g.apart a c.f (by rw [c.h]; simp), g.hh _ _ c.h⟩
theorem Cell.set {F H : Hp} {a : Addr} {o u : HO} (c : Cell F H a o) : Cell F (upd H a u) a u := ⟨c.f, upd_same⟩
theorem Cell.other {F H : Hp} {a b : Addr} {o u : HO} (c : Cell F H a o) (h : a ≠ b) : Cell F (upd H b u) a o := ⟨c.f, by rw [upd_ne h]; exact c.h⟩
theorem Cell.new {F H : Hp} {p : Addr} {o : HO} (s : Same F H) (h : H p = none) : Cell F (upd H p o) p o := ⟨Same.free s h, upd_same⟩
/-- .. is given away: from now on it stands -/
theorem Cell.close {F H : Hp} {a : Addr} {o : HO} (s : Same F H) (c : Cell F H a o) : Same F (upd F a o) ∧ Same (upd F a o) H := ⟨Same.new c.f, fun b x e => by
  by_cases h : b = a
  · subst h
    rw [upd_same] at e
    cases e
    exact c.h
  · rw [upd_ne h] at e
    exact s _ _ e⟩
theorem SqL.f {K : PySem.W.Frag} {F H : Hp} {a : Addr} {xs : List V} (s : Same F H) (h : SqL K F a xs) : SqL K H a xs := s.seq h
/-! depth of data -/
inductive Sh : Nat → PyData → Prop
  | none {n : Nat} : Sh n .none
  | bool {n : Nat} {b : Bool} : Sh n (.bool b)
  | int {n : Nat} {i : Int} : Sh n (.int i)
  | str {n : Nat} {x : Str} : Sh n (.str x)
  | list {n : Nat} {ds : List PyData} (h : ds.length ≤ 16777216) (hs : ∀ d ∈ ds, Sh n d) : Sh (n + 1) (.list ds)
  | tuple {n : Nat} {ds : List PyData} (h : ds.length ≤ 16777216) (hs : ∀ d ∈ ds, Sh n d) : Sh (n + 1) (.tuple ds)
theorem atNat {α : Type} {xs : List α} {i : Nat} {v : α} (h : xs[i]? = some v) : atI xs (i : Int) = some v := atI_nat h
/-- the turns of a range -/
theorem range_mem {lo hi : Int} {x : V} (h : x ∈ rangeV lo hi) : ∃ k : Int, x = .int k ∧ lo ≤ k ∧ k < hi := by
  unfold rangeV at h
  obtain ⟨i, hi, rfl⟩ := List.mem_map.mp h
  have := List.mem_range.mp hi
  exact ⟨_, rfl, by omega, by omega⟩
theorem kit_of {a b : String} {r : Bool} {p : Bool → Prop} (h : kitB a b = some r) : (∃ x, kitB a b = some x ∧ p x) = p r := propext ⟨fun ⟨x, e, q⟩ => by rw [h] at e; cases e; exact q, fun q => ⟨r, h, q⟩⟩
theorem kt1 {p : Bool → Prop} : (∃ x, kitB "NoneType" "bool" = some x ∧ p x) = p false := kit_of (by decide +kernel)
theorem kt2 {p : Bool → Prop} : (∃ x, kitB "NoneType" "int" = some x ∧ p x) = p false := kit_of (by decide +kernel)
theorem kt3 {p : Bool → Prop} : (∃ x, kitB "NoneType" "str" = some x ∧ p x) = p false := kit_of (by decide +kernel)
theorem kt4 {p : Bool → Prop} : (∃ x, kitB "NoneType" "list" = some x ∧ p x) = p false := kit_of (by decide +kernel)
theorem kt5 {p : Bool → Prop} : (∃ x, kitB "NoneType" "tuple" = some x ∧ p x) = p false := kit_of (by decide +kernel)
theorem kt6 {p : Bool → Prop} : (∃ x, kitB "NoneType" "dict" = some x ∧ p x) = p false := kit_of (by decide +kernel)
theorem kt7 {p : Bool → Prop} : (∃ x, kitB "bool" "bool" = some x ∧ p x) = p true := kit_of (by decide +kernel)
theorem kt8 {p : Bool → Prop} : (∃ x, kitB "bool" "int" = some x ∧ p x) = p true := kit_of (by decide +kernel)
theorem kt9 {p : Bool → Prop} : (∃ x, kitB "bool" "str" = some x ∧ p x) = p false := kit_of (by decide +kernel)
theorem kt10 {p : Bool → Prop} : (∃ x, kitB "bool" "list" = some x ∧ p x) = p false := kit_of (by decide +kernel)
theorem kt11 {p : Bool → Prop} : (∃ x, kitB "bool" "tuple" = some x ∧ p x) = p false := kit_of (by decide +kernel)
theorem kt12 {p : Bool → Prop} : (∃ x, kitB "bool" "dict" = some x ∧ p x) = p false := kit_of (by decide +kernel)
theorem kt13 {p : Bool → Prop} : (∃ x, kitB "int" "bool" = some x ∧ p x) = p false := kit_of (by decide +kernel)
theorem kt14 {p : Bool → Prop} : (∃ x, kitB "int" "int" = some x ∧ p x) = p true := kit_of (by decide +kernel)
theorem kt15 {p : Bool → Prop} : (∃ x, kitB "int" "str" = some x ∧ p x) = p false := kit_of (by decide +kernel)
theorem kt16 {p : Bool → Prop} : (∃ x, kitB "int" "list" = some x ∧ p x) = p false := kit_of (by decide +kernel)
theorem kt17 {p : Bool → Prop} : (∃ x, kitB "int" "tuple" = some x ∧ p x) = p false := kit_of (by decide +kernel)
theorem kt18 {p : Bool → Prop} : (∃ x, kitB "int" "dict" = some x ∧ p x) = p false := kit_of (by decide +kernel)
theorem kt19 {p : Bool → Prop} : (∃ x, kitB "str" "bool" = some x ∧ p x) = p false := kit_of (by decide +kernel)
theorem kt20 {p : Bool → Prop} : (∃ x, kitB "str" "int" = some x ∧ p x) = p false := kit_of (by decide +kernel)
theorem kt21 {p : Bool → Prop} : (∃ x, kitB "str" "str" = some x ∧ p x) = p true := kit_of (by decide +kernel)
theorem kt22 {p : Bool → Prop} : (∃ x, kitB "str" "list" = some x ∧ p x) = p false := kit_of (by decide +kernel)
theorem kt23 {p : Bool → Prop} : (∃ x, kitB "str" "tuple" = some x ∧ p x) = p false := kit_of (by decide +kernel)
theorem kt24 {p : Bool → Prop} : (∃ x, kitB "str" "dict" = some x ∧ p x) = p false := kit_of (by decide +kernel)
theorem kt25 {p : Bool → Prop} : (∃ x, kitB "list" "bool" = some x ∧ p x) = p false := kit_of (by decide +kernel)
theorem kt26 {p : Bool → Prop} : (∃ x, kitB "list" "int" = some x ∧ p x) = p false := kit_of (by decide +kernel)
theorem kt27 {p : Bool → Prop} : (∃ x, kitB "list" "str" = some x ∧ p x) = p false := kit_of (by decide +kernel)
theorem kt28 {p : Bool → Prop} : (∃ x, kitB "list" "list" = some x ∧ p x) = p true := kit_of (by decide +kernel)
theorem kt29 {p : Bool → Prop} : (∃ x, kitB "list" "tuple" = some x ∧ p x) = p false := kit_of (by decide +kernel)
theorem kt30 {p : Bool → Prop} : (∃ x, kitB "list" "dict" = some x ∧ p x) = p false := kit_of (by decide +kernel)
theorem kt31 {p : Bool → Prop} : (∃ x, kitB "tuple" "bool" = some x ∧ p x) = p false := kit_of (by decide +kernel)
theorem kt32 {p : Bool → Prop} : (∃ x, kitB "tuple" "int" = some x ∧ p x) = p false := kit_of (by decide +kernel)
theorem kt33 {p : Bool → Prop} : (∃ x, kitB "tuple" "str" = some x ∧ p x) = p false := kit_of (by decide +kernel)
theorem kt34 {p : Bool → Prop} : (∃ x, kitB "tuple" "list" = some x ∧ p x) = p false := kit_of (by decide +kernel)
theorem kt35 {p : Bool → Prop} : (∃ x, kitB "tuple" "tuple" = some x ∧ p x) = p true := kit_of (by decide +kernel)
theorem kt36 {p : Bool → Prop} : (∃ x, kitB "tuple" "dict" = some x ∧ p x) = p false := kit_of (by decide +kernel)
theorem kt37 {p : Bool → Prop} : (∃ x, kitB "dict" "bool" = some x ∧ p x) = p false := kit_of (by decide +kernel)
theorem kt38 {p : Bool → Prop} : (∃ x, kitB "dict" "int" = some x ∧ p x) = p false := kit_of (by decide +kernel)
theorem kt39 {p : Bool → Prop} : (∃ x, kitB "dict" "str" = some x ∧ p x) = p false := kit_of (by decide +kernel)
theorem kt40 {p : Bool → Prop} : (∃ x, kitB "dict" "list" = some x ∧ p x) = p false := kit_of (by decide +kernel)
theorem kt41 {p : Bool → Prop} : (∃ x, kitB "dict" "tuple" = some x ∧ p x) = p false := kit_of (by decide +kernel)
theorem kt42 {p : Bool → Prop} : (∃ x, kitB "dict" "dict" = some x ∧ p x) = p true := kit_of (by decide +kernel)
end Hf
set_option Elab.async false
set_option linter.all false
set_option maxRecDepth 100000
set_option maxHeartbeats 4000000
namespace RT
open PySem PySem.Spec PyProof.Rows
section
variable {prog : Program} {w : World} {A : Around} {s : Shared} {R : Result → Shared → Prop} {E : Value → Shared → Prop}
/-- a list takes what a walk backwards over another list hands -/
theorem ext_rev {it l S : Addr} {items : Array Value} {c₀ : Nat} (hh : A.handled = none) (hit : s.heap.IsRevIter it l ((items.size : Int) - 1)) (hl : s.heap.IsList l items) (hne : l ≠ it) (hn : items.size ≤ sizeLine) (hSi : S ≠ it) (hSl : S ≠ l)
    (hS : s.heap.get? S = some { cls := .type "list", data := .seq #[] c₀ })
    (hR : ∀ h' tk acc' c', (∀ b o, b ≠ it → b ≠ S → s.heap.get? b = some o → h'.get? b = some o) → h'.get? S = some { cls := .type "list", dict := none, data := .seq acc' c', slots := #[] } →
      ItemsOf (fun i v => items[items.size - 1 - i]? = some v) acc' items.size → R (.ok (.ret .none)) { s with heap := h', toks := tk }) :
    wpAny (model prog w) A.in1 (Builtin.List.listExtendWith (.ref S) (.ref it) .none)
      (fun fin s' => match fin with | .done f => R (.ok f) s' | .again c' => c'.quiet = true ∧ codeAny (model prog w) A c' R s') (fun e s' => R (.error e) s') s := by
  have W := (Walks.listRev (prog := prog) (w := w) (A := A.in1) hh it l hne items).toS
  have hSf : S ∉ [it, l] := by simp only [List.mem_cons, List.not_mem_nil, or_false, not_or]; exact ⟨hSi, hSl⟩
  have hT : s.TypeIs (.ref it) "list_reverseiterator" := hit.typeIs
  have h1 : Builtin.List.listSameRef (.ref S) (.ref it) = false := by simp [Builtin.List.listSameRef, hSi]
  unfold Builtin.List.listExtendWith
  refine wpAny_bind (wpAny_typeOf hT ?_)
  rw [if_neg (by rw [h1]; decide)]
  refine wpAny_bind (wpAny_pyIter_revIter hit ?_)
  refine wpAny_bind (wpAny_holding ?_)
  unfold Builtin.List.listLengthHint
  refine wpAny_bind (wpAny_specialOf hT nolen_lri ?_)
  show wpAny _ A.in1 (specialOf (Value.ref it) (Str.ofString "__length_hint__") >>= _) _ _ _
  refine wpAny_bind (wpAny_specialOf hT hint_lri ?_)
  generalize hid : ("list_reverseiterator.__length_hint__" : String) = id0
  wp_delta
  rw [show splitId id0 = some ("list_reverseiterator", "__length_hint__") from by subst hid; decide +kernel]
  subst hid
  refine wpAny_bind (wpAny_isInstance (b := true) hT (by rw [isSubtype_type]; kernel_rfl) ?_)
  refine wpAny_pure ?_
  have e0 : ((items.size : Nat) : Int) - 1 - ((0 : Nat) : Int) = (items.size : Int) - 1 := by omega
  have key : ∀ (h : Heap) (c₁ tk : Nat), h.IsRevIter it l ((items.size : Int) - 1) → h.IsList l items → (∀ b o, b ≠ S → s.heap.get? b = some o → h.get? b = some o) → h.get? S = some { cls := .type "list", data := .seq #[] c₁ } →
      codeAny (model prog w) A (.builtin "list.extend.loop" ⟨[.ref S, .ref it, .none], []⟩) R { s with heap := h, toks := tk } := by
    intro h c₁ tk k1 k2 k3 k4
    refine codeAny_extend_loopS W hn _ hSf _ items.size 0 _ #[] c₁ rfl (Nat.zero_le _) ⟨Nat.zero_le _, by rw [e0]; exact k1, k2⟩ k4 (ItemsOf.nil _) fun s' acc' c' hm hS' hacc => ?_
    rw [Moved.eq_with hm]
    refine hR s'.heap s'.toks acc' c' (fun b o hb hb2 e => hm.heap b o (fun hmem => ?_) (k3 b o hb2 e)) hS' hacc
    rcases List.mem_cons.mp hmem with e' | hmem
    · exact hb2 e'
    · exact hb (List.mem_singleton.mp hmem)
  refine wpAny_ite_split (fun _ => ?_) (fun _ => ?_)
  · refine wpAny_bind (wpAny_rule ?_)
    refine wpAny_bind ?_
    show wpAny _ _ (updateSeq S (·.push .none) >>= fun _ => updateSeq S (·.pop)) _ _ _
    refine wpAny_bind (wpAny_updateSeq hS rfl ?_)
    have hS₂ := Heap.get?_update_self (Obj.mapSeq (·.push Value.none)) hS rfl
    refine wpAny_updateSeq (hz := by seq_fits) hS₂ rfl ?_
    have hS₃ := Heap.get?_update_self (Obj.mapSeq (·.pop)) hS₂ rfl
    have oth : ∀ b o, b ≠ S → s.heap.get? b = some o → ((s.heap.update S (Obj.mapSeq (·.push Value.none))).update S (Obj.mapSeq (·.pop))).get? b = some o :=
      fun b o hb e => (Heap.get?_update_other _ _ (Ne.symm hb)).trans ((Heap.get?_update_other _ _ (Ne.symm hb)).trans e)
    exact wpAny_pure ⟨plainId_quiet F.plain_extend_loop _, key _ _ _ (hit.at fun o e => oth _ o hSi.symm e) (hl.at fun o e => oth _ o hSl.symm e) oth hS₃⟩
  · exact wpAny_pure ⟨plainId_quiet F.plain_extend_loop _, key _ _ _ hit hl (fun b o _ e => e) hS⟩
theorem call_list_rev {it l : Addr} {items : Array Value} {Q : Value → Shared → Prop} (hh : A.handled = none) (hit : s.heap.IsRevIter it l ((items.size : Int) - 1)) (hl : s.heap.IsList l items) (hne : l ≠ it) (hn : items.size ≤ sizeLine)
    (hQ : ∀ h' tk acc c', (∀ b o, b ≠ it → s.heap.get? b = some o → h'.get? b = some o) → h'.get? s.heap.objs.size = some { cls := .type "list", dict := none, data := .seq acc c', slots := #[] } →
      ItemsOf (fun i v => items[items.size - 1 - i]? = some v) acc items.size → Q (.ref s.heap.objs.size) { s with heap := h', toks := tk }) :
    wpAny (model prog w) A (call (.type "list") [.ref it]) Q E s := by
  obtain ⟨oi, hoi, _⟩ := id hit
  obtain ⟨ol, hol, _⟩ := id hl
  have hSi : s.heap.objs.size ≠ it := Nat.ne_of_gt (Heap.lt_size hoi)
  have hSl : s.heap.objs.size ≠ l := Nat.ne_of_gt (Heap.lt_size hol)
  refine callType_codes (Q₁ := fun obj s₁ => obj = .ref s.heap.objs.size ∧ s₁ = { s with heap := s.heap.push { cls := .type "list", data := .seq #[] } }) F.called_list (F.typeCall_list_1 _) F.entry_list_init
    (code_list_new _ ⟨rfl, rfl⟩) fun obj s₁ h₁ => ?_
  obtain ⟨rfl, rfl⟩ := h₁
  have hS : (s.heap.push { cls := .type "list", data := .seq #[] }).get? s.heap.objs.size = some { cls := .type "list", data := .seq #[] } := Heap.get?_push_size _ rfl
  refine ⟨⟨_, hS, rfl⟩, F.args_list_init_2 _ _, ?_⟩
  show wpAny _ A.in1.in1 (do let old ← Builtin.List.listItems (.ref s.heap.objs.size); Builtin.List.listUpdate (.ref s.heap.objs.size) (fun _ => #[]); letGo old.toList.reverse; Builtin.List.listExtendWith (.ref s.heap.objs.size) (.ref it) .none) _ _ _
  refine wpAny_bind ?_
  unfold Builtin.List.listItems
  refine wpAny_bind (wpAny_seqItems hS rfl (wpAny_pure ?_))
  show wpAny _ _ (updateSeq s.heap.objs.size (fun _ => #[]) >>= fun _ => letGo (#[] : Array Value).toList.reverse >>= fun _ => Builtin.List.listExtendWith (.ref s.heap.objs.size) (.ref it) .none) _ _ _
  refine wpAny_bind (wpAny_updateSeq hS rfl ?_)
  have hS₂ := Heap.get?_update_self (Obj.mapSeq (fun _ => (#[] : Array Value))) hS rfl
  have oth : ∀ b o, s.heap.get? b = some o → ((s.heap.push { cls := .type "list", data := .seq #[] }).update s.heap.objs.size (Obj.mapSeq (fun _ => (#[] : Array Value)))).get? b = some o :=
    fun b o e => (Heap.get?_update_other _ _ (Nat.ne_of_gt (Heap.lt_size e))).trans (Heap.get?_push_of_some _ e)
  refine wpAny_bind (wpAny_letGo ?_)
  refine ext_rev (A := A.in1) hh (hit.at fun o e => oth _ o e) (hl.at fun o e => oth _ o e) hne hn hSi hSl hS₂ fun h' tk acc' c' hk hS' hacc => ?_
  exact ⟨rfl, hQ h' tk acc' c' (fun b o hb e => hk b o hb (Nat.ne_of_lt (Heap.lt_size e)) (oth b o e)) hS' hacc⟩
end
end RT
namespace Hf
open PySem PySem.Spec L2 PyProof.Rows
/-- list(reversed(a list)) -/
def eLstRev (K : PySem.W.Frag) (te : TE) (σ : L2.St) (H : Hp) (Q : VK) : Prop := te σ H fun v H1 => asRef v fun a => ∃ xs, SqL K H1 a xs ∧ ∀ p, H1 p = none → Q (.ref p) (upd H1 p (.lst xs.reverse))
section
variable {X : Cx}
theorem dLstRev {e : Expr} {te : TE} {p p2 pos pos2 : Pos} (hc : X.calm = true) (hg : Gl X "list") (hm : X.mg "list" = none) (hg2 : Gl X "reversed") (hm2 : X.mg "reversed" = none) (he : PE X e te)
    (hs : starEach [e] X.env = (false, eval e X.env) :: starEach [] X.env := by rfl)
    (hs2 : starEach [.Call (.Name "reversed" p2) [e] [] pos2] X.env = (false, eval (.Call (.Name "reversed" p2) [e] [] pos2) X.env) :: starEach [] X.env := by rfl) :
    PE X (.Call (.Name "list" p) [.Call (.Name "reversed" p2) [e] [] pos2] [] pos) (eLstRev X.K te) := by
  refine ⟨fun pins s σ H Q I h => ?_⟩
  refine Call_ (ld_blt I hg hm boot_list (PyProof.Rows.callWith_type1 (args_cons (Call_ (ld_blt I hg2 hm2 PyProof.Rows.boot_reversed (PyProof.Rows.callWith_type1 (args_cons (thn (he.run pins s σ H _ I h) fun u s1 ⟨v, H1, I1, r1, q1⟩ => args_nil ?_) hs) hs rfl))) hs2) hs2 rfl))
  obtain ⟨a, rfl⟩ : ∃ a, v = .ref a := by cases v <;> first | exact q1.elim | exact ⟨_, rfl⟩
  obtain ⟨xs, hq, q⟩ := q1
  obtain rfl : u = Value.ref a := r1
  obtain ⟨its, rv, p', hz⟩ := I1.list hq
  refine call_reversed_list p'.isList (args_nil ?_)
  have k0 : ∀ b o, s1.heap.get? b = some o → (s1.heap.push (revObj a ((its.toArray.size : Int) - 1))).get? b = some o := fun b o e => Heap.get?_push_of_some _ e
  have hl := p'.isList
  obtain ⟨ol, hol, _⟩ := id hl
  have hne : a ≠ s1.heap.objs.size := Nat.ne_of_lt (Heap.lt_size hol)
  have hn : its.toArray.size ≤ sizeLine := by rw [List.size_toArray, ← rv.length]; exact hz
  have sz' : s1.heap.objs.size ≤ (s1.heap.push (revObj a ((its.toArray.size : Int) - 1))).objs.size := Nat.le_of_lt (Heap.lt_size (Heap.get?_push_size s1.heap (o := revObj a ((its.toArray.size : Int) - 1)) rfl))
  refine RT.call_list_rev (s := { s1 with heap := s1.heap.push (revObj a ((its.toArray.size : Int) - 1)) }) (I1.ok.hd hc) ⟨_, Heap.get?_push_size _ rfl, rfl, rfl⟩ (hl.push _) hne hn fun h' tk acc c' hk e' hi => ?_
  refine ⟨.ref (s1.heap.push (revObj a ((its.toArray.size : Int) - 1))).objs.size, _, I1.laid (fun b o e => hk b o (Nat.ne_of_lt (Heap.lt_size e)) (k0 b o e)) sz' (show ObjOk X.prog X.w _ _ _ (.lst xs.reverse) from ⟨by rw [List.length_reverse]; exact hz, acc.toList, c', RT.vals_rev rv hi, ?_⟩), rfl, q _ (I1.hok.fresh sz')⟩
  rw [Array.toArray_toList]
  exact e'
end
end Hf
set_option Elab.async false
set_option linter.all false
set_option maxRecDepth 100000
set_option maxHeartbeats 4000000
namespace Hf
open PySem PySem.Spec L2 PyProof.Rows
/-! the mirror: values as trees, things that change as numbered cells -/
inductive AV where
  | non | bl (b : Bool) | int (i : Int) | str (z : Str) | tup (xs : List AV) | lst (xs : List AV) | id (n : Nat) | scr (xs : List AV)
abbrev AS := List (Option AV)
/-- an exception of the class at C, its dict d, that nobody raises any more -/
def ExX (C : Addr) (d : Option Addr) (a : Addr) : HO := .ext fun h => ∃ oe vs, h.get? a = some oe ∧ Zc (.ref C) d oe ∧ oe.data = .fields vs
inductive AC where
  | lst (xs : List AV) | fz (xs : List AV) | dct (kvs : List (Key × AV)) | fzd (kvs : List (Key × AV)) | ins (c : Str) (fs : List (Str × AV)) | exc (c : Str) (p : AV)
abbrev AH := List AC
inductive Rs (α : Type) where
  | ok (a : α) (h : AH) | ex (c : Str) (p : AV) (h : AH) | no
def Rs.bnd {α β : Type} (r : Rs α) (k : α → AH → Rs β) : Rs β := match r with
  | .ok a h => k a h
  | .ex c p h => .ex c p h
  | .no => .no
abbrev EV := AS → AH → Rs AV
abbrev TV := AS → AH → Rs Bool
abbrev LV := AS → AH → Rs (List AV)
abbrev GV := AV → AS → AH → Rs AS
inductive Ou where
  | nx (S : AS) | bk (S : AS) | ct (S : AS) | rt (v : AV)
abbrev SV := AS → AH → Rs Ou
abbrev MF := List AV → AH → Rs AV
section
variable (K : PySem.W.Frag) (F : Hp) (φ : List Addr)
mutual
def AR : AV → V → Prop
  | .non, v => v = .non
  | .bl b, v => v = .bl b
  | .int i, v => v = .int i
  | .str z, v => v = .str z
  | .tup xs, v => ∃ a vs, v = .ref a ∧ SqT K F a vs ∧ ARs xs vs
  | .lst xs, v => ∃ a vs, v = .ref a ∧ F a = some (.lst vs) ∧ ARs xs vs
  | .scr xs, v => ∃ a vs, v = .ref a ∧ SqL K F a vs ∧ ARs xs vs
  | .id n, v => ∃ a, φ[n]? = some a ∧ v = .ref a
def ARs : List AV → List V → Prop
  | [], vs => vs = []
  | x :: xs, vs => ∃ v ws, vs = v :: ws ∧ AR x v ∧ ARs xs ws
end
end
section
variable {K : PySem.W.Frag} {Γ : Gm} {F F' H H' : Hp} {φ φ' : List Addr} {h h' : AH} {xs ys : List AV} {vs ws : List V} {x y : AV} {v w : V} {a p : Addr} {n : Nat}
theorem ARs.nil : ARs K F φ [] [] := by unfold ARs; rfl
theorem ARs.cons (h1 : AR K F φ x v) (h2 : ARs K F φ xs vs) : ARs K F φ (x :: xs) (v :: vs) := by unfold ARs; exact ⟨_, _, rfl, h1, h2⟩
theorem ARs.nil_inv (h : ARs K F φ [] vs) : vs = [] := by unfold ARs at h; exact h
theorem ARs.cons_inv (h : ARs K F φ (x :: xs) vs) : ∃ v ws, vs = v :: ws ∧ AR K F φ x v ∧ ARs K F φ xs ws := by unfold ARs at h; exact h
theorem ARs_iff : ∀ {xs : List AV} {vs : List V}, ARs K F φ xs vs ↔ xs.length = vs.length ∧ ∀ (i : Nat) (x : AV) (v : V), xs[i]? = some x → vs[i]? = some v → AR K F φ x v
  | [], vs => by
    constructor
    · intro h
      rw [h.nil_inv]
      exact ⟨rfl, fun i x v e => by simp at e⟩
    · intro ⟨h, _⟩
      have : vs = [] := List.length_eq_zero_iff.mp h.symm
      rw [this]
      exact .nil
  | x :: xs, vs => by
    constructor
    · intro h
      obtain ⟨v, ws, rfl, h1, h2⟩ := h.cons_inv
      obtain ⟨l, f⟩ := ARs_iff.mp h2
      refine ⟨by simp [l], fun i x' v' e e' => ?_⟩
      cases i with
      | zero => simp at e e'; subst e e'; exact h1
      | succ i => exact f i x' v' (by simpa using e) (by simpa using e')
    · intro ⟨l, f⟩
      cases vs with
      | nil => simp at l
      | cons v ws => exact .cons (f 0 x v rfl rfl) (ARs_iff.mpr ⟨by simpa using l, fun i x' v' e e' => f (i + 1) x' v' (by simpa using e) (by simpa using e')⟩)
theorem ARs.len (h : ARs K F φ xs vs) : xs.length = vs.length := (ARs_iff.mp h).1
theorem ARs.at (h : ARs K F φ xs vs) {i : Nat} (e : xs[i]? = some x) : ∃ v, vs[i]? = some v ∧ AR K F φ x v := by
  obtain ⟨l, f⟩ := ARs_iff.mp h
  have hi := (List.getElem?_eq_some_iff.mp e).1
  have e' := List.getElem?_eq_getElem (l ▸ hi)
  exact ⟨_, e', f i x _ e e'⟩
theorem ARs.app (h1 : ARs K F φ xs vs) (h2 : ARs K F φ ys ws) : ARs K F φ (xs ++ ys) (vs ++ ws) := by
  induction xs generalizing vs with
  | nil => rw [h1.nil_inv]; exact h2
  | cons x xs ih =>
    obtain ⟨v, ws, rfl, a, b⟩ := h1.cons_inv
    exact .cons a (ih b)
theorem ARs.one (h : AR K F φ x v) : ARs K F φ [x] [v] := .cons h .nil
theorem ARs.map2 (h : ARs K F φ xs vs) {m : Nat} (g : ∀ (i : Nat), i < m → ∃ (j : Nat), ys[i]? = xs[j]? ∧ ws[i]? = vs[j]?) (l1 : ys.length = m) (l2 : ws.length = m) : ARs K F φ ys ws := by
  refine ARs_iff.mpr ⟨by rw [l1, l2], fun i x v e e' => ?_⟩
  obtain ⟨j, g1, g2⟩ := g i (by rw [← l1]; exact (List.getElem?_eq_some_iff.mp e).1)
  exact (ARs_iff.mp h).2 j x v (g1 ▸ e) (g2 ▸ e')
theorem ARs.set (h : ARs K F φ xs vs) (hv : AR K F φ x v) {i : Nat} : ARs K F φ (xs.set i x) (vs.set i v) := by
  obtain ⟨l, f⟩ := ARs_iff.mp h
  refine ARs_iff.mpr ⟨by simp [l], fun j x' v' e e' => ?_⟩
  rw [List.getElem?_set] at e e'
  by_cases c : i = j
  · subst c
    by_cases c2 : i < xs.length
    · rw [if_pos rfl, if_pos c2] at e
      rw [if_pos rfl, if_pos (l ▸ c2)] at e'
      cases e
      cases e'
      exact hv
    · rw [if_pos rfl, if_neg c2] at e
      cases e
  · rw [if_neg c] at e e'
    exact f j x' v' e e'
theorem ARs.take (h : ARs K F φ xs vs) (n : Nat) : ARs K F φ (xs.take n) (vs.take n) := by
  obtain ⟨l, f⟩ := ARs_iff.mp h
  refine ARs_iff.mpr ⟨by simp [l], fun j x' v' e e' => ?_⟩
  rw [List.getElem?_take] at e e'
  by_cases c : j < n
  · rw [if_pos c] at e e'
    exact f j x' v' e e'
  · rw [if_neg c] at e
    cases e
theorem ARs.drop (h : ARs K F φ xs vs) (n : Nat) : ARs K F φ (xs.drop n) (vs.drop n) := by
  obtain ⟨l, f⟩ := ARs_iff.mp h
  refine ARs_iff.mpr ⟨by simp [l], fun j x' v' e e' => ?_⟩
  rw [List.getElem?_drop] at e e'
  exact f _ x' v' e e'
theorem ARs.rev (h : ARs K F φ xs vs) : ARs K F φ xs.reverse vs.reverse := by
  induction xs generalizing vs with
  | nil => rw [h.nil_inv]; exact .nil
  | cons x xs ih =>
    obtain ⟨v, ws, rfl, a, b⟩ := h.cons_inv
    rw [List.reverse_cons, List.reverse_cons]
    exact (ih b).app (.one a)
theorem ARs.snoc_inv (h : ARs K F φ (xs ++ [x]) vs) : ∃ v ws, vs = ws ++ [v] ∧ AR K F φ x v ∧ ARs K F φ xs ws := by
  induction xs generalizing vs with
  | nil =>
    obtain ⟨v, ws, rfl, a, b⟩ := h.cons_inv
    rw [b.nil_inv]
    exact ⟨v, [], rfl, a, .nil⟩
  | cons y xs ih =>
    obtain ⟨v, ws, rfl, a, b⟩ := ARs.cons_inv h
    obtain ⟨v2, ws2, rfl, a2, b2⟩ := ih b
    exact ⟨v2, v :: ws2, rfl, a2, .cons a b2⟩
/-! more stands, more cells -/
def Pre (φ φ' : List Addr) : Prop := ∀ (n : Nat) (a : Addr), φ[n]? = some a → φ'[n]? = some a
theorem Pre.refl : Pre φ φ := fun _ _ h => h
theorem Pre.trans {φ'' : List Addr} (a : Pre φ φ') (b : Pre φ' φ'') : Pre φ φ'' := fun n x h => b n x (a n x h)
theorem Pre.app {t : List Addr} : Pre φ (φ ++ t) := fun n a h => by
  have hi := (List.getElem?_eq_some_iff.mp h).1
  rw [List.getElem?_append_left hi]
  exact h
theorem Pre.nil : Pre [] φ := fun n a h => by simp at h
mutual
theorem AR.mono (s : Same F F') (p : Pre φ φ') : ∀ {x : AV} {v : V}, AR K F φ x v → AR K F' φ' x v
  | .non, _, h => by unfold AR at h ⊢; exact h
  | .bl _, _, h => by unfold AR at h ⊢; exact h
  | .int _, _, h => by unfold AR at h ⊢; exact h
  | .str _, _, h => by unfold AR at h ⊢; exact h
  | .tup xs, _, h => by
    unfold AR at h ⊢
    obtain ⟨a, vs, h1, h2, h3⟩ := h
    exact ⟨a, vs, h1, Same.sqT s h2, ARs.mono s p h3⟩
  | .lst xs, _, h => by
    unfold AR at h ⊢
    obtain ⟨a, vs, h1, h2, h3⟩ := h
    exact ⟨a, vs, h1, s _ _ h2, ARs.mono s p h3⟩
  | .scr xs, _, h => by
    unfold AR at h ⊢
    obtain ⟨a, vs, h1, h2, h3⟩ := h
    exact ⟨a, vs, h1, s.seq h2, ARs.mono s p h3⟩
  | .id n, _, h => by
    unfold AR at h ⊢
    obtain ⟨a, h1, h2⟩ := h
    exact ⟨a, p _ _ h1, h2⟩
theorem ARs.mono (s : Same F F') (p : Pre φ φ') : ∀ {xs : List AV} {vs : List V}, ARs K F φ xs vs → ARs K F' φ' xs vs
  | [], _, h => by rw [h.nil_inv]; exact .nil
  | x :: xs, _, h => by
    obtain ⟨v, ws, rfl, a, b⟩ := h.cons_inv
    exact .cons (AR.mono s p a) (ARs.mono s p b)
end
/-- entries of a dict, fields -/
def KRs {κ : Type} (K : PySem.W.Frag) (F : Hp) (φ : List Addr) (kx : List (κ × AV)) (kv : List (κ × V)) : Prop := kx.map (·.1) = kv.map (·.1) ∧ ARs K F φ (kx.map (·.2)) (kv.map (·.2))
theorem KRs.mono {κ : Type} {kx : List (κ × AV)} {kv : List (κ × V)} (s : Same F F') (p : Pre φ φ') (h : KRs K F φ kx kv) : KRs K F' φ' kx kv := ⟨h.1, h.2.mono s p⟩
def CR (K : PySem.W.Frag) (Γ : Gm) (F H : Hp) (φ : List Addr) (a : Addr) : AC → Prop
  | .lst xs => F a = none ∧ ∃ vs, H a = some (.lst vs) ∧ ARs K F φ xs vs
  | .fz xs => ∃ vs, F a = some (.lst vs) ∧ ARs K F φ xs vs
  | .dct kx => F a = none ∧ ∃ kv, H a = some (.dK kv) ∧ KRs K F φ kx kv
  | .fzd kx => ∃ o kv, F a = some (.frz o (.dK kv)) ∧ KRs K F φ kx kv
  | .ins c fs => F a = none ∧ ∃ dx fv, H a = some (.ins (Γ c) dx fv) ∧ KRs K F φ fs fv
  | .exc c p => ∃ dd v, F a = some (ExX (Γ c) (some dd) a) ∧ F dd = some (.xd [("place", v)]) ∧ AR K F φ p v
structure WR (K : PySem.W.Frag) (Γ : Gm) (F H : Hp) (φ : List Addr) (h : AH) : Prop where
  ff : Same F H
  nd : ∀ (i j : Nat) (a : Addr), φ[i]? = some a → φ[j]? = some a → i = j
  ln : φ.length = h.length
  cl : ∀ (n : Nat) (a : Addr) (c : AC), φ[n]? = some a → h[n]? = some c → CR K Γ F H φ a c
structure Ex (F H : Hp) (φ : List Addr) (F' H' : Hp) (φ' : List Addr) : Prop where
  ff : Same F F'
  pre : Pre φ φ'
  fr : ∀ a o, H a = some o → a ∉ φ → H' a = some o ∧ (F a = none → F' a = none)
  new : ∀ a, a ∈ φ' → a ∈ φ ∨ H a = none
theorem Ex.refl : Ex F H φ F H φ := ⟨Same.refl _, .refl, fun _ _ h _ => ⟨h, fun h => h⟩, fun _ h => .inl h⟩
theorem Ex.trans {F2 H2 : Hp} {φ2 : List Addr} (a : Ex F H φ F' H' φ') (b : Ex F' H' φ' F2 H2 φ2) : Ex F H φ F2 H2 φ2 := by
  refine ⟨a.ff.trans b.ff, a.pre.trans b.pre, fun x o h n => ?_, fun x hx => ?_⟩
  · obtain ⟨h1, h2⟩ := a.fr x o h n
    obtain ⟨h3, h4⟩ := b.fr x o h1 fun z => (a.new x z).elim n fun z => by rw [h] at z; cases z
    exact ⟨h3, fun z => h4 (h2 z)⟩
  · rcases b.new x hx with z | z
    · exact a.new x z
    · by_cases c : x ∈ φ
      · exact .inl c
      · cases e : H x with
        | none => exact .inr rfl
        | some o => rw [(a.fr x o e c).1] at z; cases z
theorem WR.mem (w : WR K Γ F H φ h) {n : Nat} {a : Addr} (e : φ[n]? = some a) : ∃ c, h[n]? = some c := by
  have hi := (List.getElem?_eq_some_iff.mp e).1
  rw [w.ln] at hi
  exact ⟨_, List.getElem?_eq_getElem hi⟩
theorem WR.mem' (w : WR K Γ F H φ h) {n : Nat} {c : AC} (e : h[n]? = some c) : ∃ a, φ[n]? = some a := by
  have hi := (List.getElem?_eq_some_iff.mp e).1
  rw [← w.ln] at hi
  exact ⟨_, List.getElem?_eq_getElem hi⟩
theorem CR.live (s : Same F H) {c : AC} (r : CR K Γ F H φ a c) : H a ≠ none := by
  cases c with
  | lst xs => obtain ⟨_, vs, e, _⟩ := r; rw [e]; simp
  | fz xs => obtain ⟨vs, e, _⟩ := r; rw [s _ _ e]; simp
  | dct xs => obtain ⟨_, vs, e, _⟩ := r; rw [e]; simp
  | fzd xs => obtain ⟨o, vs, e, _⟩ := r; rw [s _ _ e]; simp
  | ins c xs => obtain ⟨_, dx, vs, e, _⟩ := r; rw [e]; simp
  | exc c p => obtain ⟨dd, v, e, _⟩ := r; rw [s _ _ e]; simp
theorem WR.live (w : WR K Γ F H φ h) (e : a ∈ φ) : H a ≠ none := by
  obtain ⟨n, hn⟩ := List.getElem?_of_mem e
  obtain ⟨c, hc⟩ := w.mem hn
  exact (w.cl n a c hn hc).live w.ff
/-- a cell stays what it is where the heaps change elsewhere -/
theorem CR.mono {c : AC} (r : CR K Γ F H φ a c) (s : Same F F') (p : Pre φ φ') (eH : H' a = H a) (eF : F a = none → F' a = none) : CR K Γ F' H' φ' a c := by
  cases c with
  | lst xs => obtain ⟨n, vs, e, r⟩ := r; exact ⟨eF n, vs, eH ▸ e, r.mono s p⟩
  | fz xs => obtain ⟨vs, e, r⟩ := r; exact ⟨vs, s _ _ e, r.mono s p⟩
  | dct xs => obtain ⟨n, vs, e, r⟩ := r; exact ⟨eF n, vs, eH ▸ e, r.mono s p⟩
  | fzd xs => obtain ⟨o, vs, e, r⟩ := r; exact ⟨o, vs, s _ _ e, r.mono s p⟩
  | ins c xs => obtain ⟨n, dx, vs, e, r⟩ := r; exact ⟨eF n, dx, vs, eH ▸ e, r.mono s p⟩
  | exc c q => obtain ⟨dd, v, e1, e2, r⟩ := r; exact ⟨dd, v, s _ _ e1, s _ _ e2, r.mono s p⟩
/-- the cells of another, behind something that left them alone -/
theorem WR.carry {φ2 : List Addr} (w : WR K Γ F H φ h) (s : Same F' H') (e : Ex F H φ2 F' H' φ') (ap : ∀ a, a ∈ φ → a ∉ φ2) : WR K Γ F' H' φ h := by
  refine ⟨s, w.nd, w.ln, fun n a c h1 h2 => ?_⟩
  have r := w.cl n a c h1 h2
  have m := List.mem_of_getElem? h1
  cases eo : H a with
  | none => exact absurd eo (w.live m)
  | some o =>
    obtain ⟨g1, g2⟩ := e.fr a o eo (ap a m)
    exact r.mono e.ff .refl (by rw [g1, eo]) g2
/-- something new that is not written any more -/
theorem WR.new (w : WR K Γ F H φ h) {o : HO} (hp : H p = none) : WR K Γ (upd F p o) (upd H p o) φ h ∧ Ex F H φ (upd F p o) (upd H p o) φ := by
  have hF := Same.free w.ff hp
  have e : Ex F H φ (upd F p o) (upd H p o) φ := ⟨Same.new hF, .refl, fun b o' h1 _ => by
    have : b ≠ p := ne_of_none h1 hp
    rw [upd_ne this, upd_ne this]
    exact ⟨h1, fun h => h⟩, fun _ h => .inl h⟩
  refine ⟨⟨Same.both w.ff, w.nd, w.ln, fun n b c h1 h2 => ?_⟩, e⟩
  have m := w.live (List.mem_of_getElem? h1)
  have hb : b ≠ p := fun z => m (z ▸ hp)
  exact (w.cl n b c h1 h2).mono e.ff .refl (upd_ne hb) fun z => by rw [upd_ne hb]; exact z
/-- a new cell -/
theorem WR.alloc (w : WR K Γ F H φ h) {o : HO} {c : AC} (hp : H p = none) (hc : ∀ H', H' p = some o → F p = none → CR K Γ F H' (φ ++ [p]) p c) : WR K Γ F (upd H p o) (φ ++ [p]) (h ++ [c]) ∧ Ex F H φ F (upd H p o) (φ ++ [p]) := by
  have hF := Same.free w.ff hp
  have e : Ex F H φ F (upd H p o) (φ ++ [p]) := ⟨Same.refl _, .app, fun b o' h1 _ => by
    have : b ≠ p := ne_of_none h1 hp
    rw [upd_ne this]
    exact ⟨h1, fun h => h⟩, fun b hb => by
      rcases List.mem_append.mp hb with z | z
      · exact .inl z
      · rw [List.mem_singleton] at z; subst z; exact .inr hp⟩
  have np : ∀ (n : Nat) (b : Addr), φ[n]? = some b → b ≠ p := fun n b h1 z => w.live (List.mem_of_getElem? h1) (z ▸ hp)
  refine ⟨⟨Same.up w.ff hF, fun i j b h1 h2 => ?_, by simp [w.ln], fun n b c' h1 h2 => ?_⟩, e⟩
  · by_cases c1 : i < φ.length
    · rw [List.getElem?_append_left c1] at h1
      by_cases c2 : j < φ.length
      · rw [List.getElem?_append_left c2] at h2
        exact w.nd i j b h1 h2
      · rw [List.getElem?_append_right (by omega)] at h2
        have : b = p := by
          have := List.mem_of_getElem? h2
          simpa using this
        exact absurd this (np i b h1)
    · rw [List.getElem?_append_right (by omega)] at h1
      have e1 : b = p := by
        have := List.mem_of_getElem? h1
        simpa using this
      have l1 := (List.getElem?_eq_some_iff.mp h1).1
      by_cases c2 : j < φ.length
      · rw [List.getElem?_append_left c2] at h2
        exact absurd e1 (np j b h2)
      · rw [List.getElem?_append_right (by omega)] at h2
        have l2 := (List.getElem?_eq_some_iff.mp h2).1
        simp at l1 l2
        omega
  · by_cases c1 : n < φ.length
    · rw [List.getElem?_append_left c1] at h1
      rw [List.getElem?_append_left (w.ln ▸ c1)] at h2
      exact (w.cl n b c' h1 h2).mono (Same.refl _) .app (upd_ne (np n b h1)) fun z => z
    · rw [List.getElem?_append_right (by omega)] at h1
      have e1 : b = p := by
        have := List.mem_of_getElem? h1
        simpa using this
      have l1 := (List.getElem?_eq_some_iff.mp h1).1
      have l2 : n = h.length := by
        have l3 := w.ln
        simp at l1
        omega
      rw [l2, List.getElem?_append_right (Nat.le_refl _), Nat.sub_self] at h2
      cases h2
      subst e1
      exact hc _ upd_same hF
/-- a cell written -/
theorem WR.put (w : WR K Γ F H φ h) {o : HO} {c : AC} (hn : φ[n]? = some a) (hF : F a = none) (hc : ∀ H', H' a = some o → CR K Γ F H' φ a c) : WR K Γ F (upd H a o) φ (h.set n c) ∧ Ex F H φ F (upd H a o) φ := by
  have m := List.mem_of_getElem? hn
  refine ⟨⟨Same.up w.ff hF, w.nd, by simp [w.ln], fun i b c' h1 h2 => ?_⟩, ⟨Same.refl _, .refl, fun b o' h1 hb => ?_, fun _ h => .inl h⟩⟩
  · by_cases c1 : n = i
    · subst c1
      rw [hn] at h1
      cases h1
      have hi := (List.getElem?_eq_some_iff.mp hn).1
      rw [List.getElem?_set_self (w.ln ▸ hi)] at h2
      cases h2
      exact hc _ upd_same
    · rw [List.getElem?_set_ne c1] at h2
      have hb : b ≠ a := fun z => c1 (w.nd n i a hn (z ▸ h1))
      exact (w.cl i b c' h1 h2).mono (Same.refl _) .refl (upd_ne hb) fun z => z
  · have : b ≠ a := fun z => hb (z ▸ m)
    rw [upd_ne this]
    exact ⟨h1, fun h => h⟩
/-- a list that is not written any more -/
theorem WR.freeze (w : WR K Γ F H φ h) (hn : φ[n]? = some a) (hc : h[n]? = some (.lst xs)) : ∃ F', WR K Γ F' H φ (h.set n (.fz xs)) ∧ Ex F H φ F' H φ ∧ ∃ vs, F' a = some (.lst vs) ∧ ARs K F' φ xs vs := by
  obtain ⟨nF, vs, e, r⟩ := w.cl n a _ hn hc
  have m := List.mem_of_getElem? hn
  have s : Same F (upd F a (.lst vs)) := Same.new nF
  have ee : Ex F H φ (upd F a (.lst vs)) H φ := ⟨s, .refl, fun b o h1 hb => by
    have : b ≠ a := fun z => hb (z ▸ m)
    rw [upd_ne this]
    exact ⟨h1, fun h => h⟩, fun _ h => .inl h⟩
  refine ⟨upd F a (.lst vs), ⟨fun b o z => ?_, w.nd, by simp [w.ln], fun i b c' h1 h2 => ?_⟩, ee, vs, upd_same, r.mono s .refl⟩
  · by_cases c : b = a
    · subst c
      rw [upd_same] at z
      cases z
      exact e
    · rw [upd_ne c] at z
      exact w.ff _ _ z
  · by_cases c1 : n = i
    · subst c1
      rw [hn] at h1
      cases h1
      have hi := (List.getElem?_eq_some_iff.mp hn).1
      rw [List.getElem?_set_self (w.ln ▸ hi)] at h2
      cases h2
      exact ⟨vs, upd_same, r.mono s .refl⟩
    · rw [List.getElem?_set_ne c1] at h2
      have hb : b ≠ a := fun z => c1 (w.nd n i a hn (z ▸ h1))
      exact (w.cl i b c' h1 h2).mono s .refl rfl fun z => by rw [upd_ne hb]; exact z
end
end Hf
set_option Elab.async false
set_option linter.all false
set_option maxRecDepth 100000
set_option maxHeartbeats 4000000
namespace Hf
open PySem PySem.Spec L2 PyProof.Rows
def Ok {α β : Type} (K : PySem.W.Frag) (Γ : Gm) (E : XK) (R : Hp → List Addr → α → β → Prop) (F H : Hp) (φ : List Addr) (r : Rs α) (Q : β → Hp → Prop) : Prop := match r with
  | .ok x h' => ∀ F' H' φ' y, WR K Γ F' H' φ' h' → Ex F H φ F' H' φ' → R F' φ' x y → Q y H'
  | .ex c p h' => ∀ F' H' φ' d v, WR K Γ F' H' φ' h' → Ex F H φ F' H' φ' → F' d = some (.xd [("place", v)]) → AR K F' φ' p v → E (.ref (Γ c)) (some d) H'
  | .no => False
def SR (K : PySem.W.Frag) (F : Hp) (φ : List Addr) (S : AS) (σ : L2.St) : Prop := S.length = σ.length ∧ ∀ (i : Nat) (x : AV), S[i]? = some (some x) → ∃ v, σ[i]? = some (some v) ∧ AR K F φ x v
/-- .. of a source -/
def RL (K : PySem.W.Frag) (F : Hp) (φ : List Addr) (xs : List AV) (z : (Hp → Prop) × List V) : Prop := ARs K F φ xs z.2 ∧ ∀ H', Same F H' → z.1 H'
def RP (K : PySem.W.Frag) (F : Hp) (φ : List Addr) (xs : List (AV × AV)) (z : (Hp → Prop) × List (V × V)) : Prop := ARs K F φ (xs.map (·.1)) (z.2.map (·.1)) ∧ ARs K F φ (xs.map (·.2)) (z.2.map (·.2)) ∧ ∀ H', Same F H' → z.1 H'
def OkS (K : PySem.W.Frag) (Γ : Gm) (E : XK) (F H : Hp) (φ : List Addr) (r : Rs Ou) (D : Ends) : Prop := match r with
  | .ok o h' => ∀ F' H' φ', WR K Γ F' H' φ' h' → Ex F H φ F' H' φ' → match o with
    | .nx S => ∀ σ, SR K F' φ' S σ → D.nx σ H'
    | .bk S => ∀ σ, SR K F' φ' S σ → D.bk σ H'
    | .ct S => ∀ σ, SR K F' φ' S σ → D.ct σ H'
    | .rt x => ∀ v, AR K F' φ' x v → D.rt v H'
  | .ex c p h' => ∀ F' H' φ' d v, WR K Γ F' H' φ' h' → Ex F H φ F' H' φ' → F' d = some (.xd [("place", v)]) → AR K F' φ' p v → E (.ref (Γ c)) (some d) H'
  | .no => False
section
variable (K : PySem.W.Frag) (Γ : Gm) (E : XK)
structure SE (t : TE) (m : EV) : Prop where
  run : ∀ {F H : Hp} {φ : List Addr} {h : AH} {σ : L2.St} {S : AS} {Q : VK}, WR K Γ F H φ h → SR K F φ S σ → Ok K Γ E (AR K) F H φ (m S h) Q → t σ H Q
structure ST (t : TT) (m : TV) : Prop where
  run : ∀ {F H : Hp} {φ : List Addr} {h : AH} {σ : L2.St} {S : AS} {Q : Bool → Hp → Prop}, WR K Γ F H φ h → SR K F φ S σ → Ok K Γ E (fun _ _ a b => a = b) F H φ (m S h) Q → t σ H Q
structure SA (t : TA) (m : LV) : Prop where
  run : ∀ {F H : Hp} {φ : List Addr} {h : AH} {σ : L2.St} {S : AS} {Q : List V → Hp → Prop}, WR K Γ F H φ h → SR K F φ S σ → Ok K Γ E (ARs K) F H φ (m S h) Q → t σ H Q
/-- an optional bound -/
structure SB (t : TO) (m : AS → AH → Rs (Option Int)) : Prop where
  run : ∀ {F H : Hp} {φ : List Addr} {h : AH} {σ : L2.St} {S : AS} {Q : Option Int → Hp → Prop}, WR K Γ F H φ h → SR K F φ S σ → Ok K Γ E (fun _ _ a b => a = b) F H φ (m S h) Q → t σ H Q
structure SG (g : TG) (m : GV) : Prop where
  run : ∀ {F H : Hp} {φ : List Addr} {h : AH} {σ : L2.St} {S : AS} {x : AV} {v : V} {Q : L2.St → Hp → Prop}, WR K Γ F H φ h → SR K F φ S σ → AR K F φ x v → Ok K Γ E (SR K) F H φ (m x S h) Q → g v σ H Q
structure SL (src : SRC) (m : LV) : Prop where
  run : ∀ {F H : Hp} {φ : List Addr} {h : AH} {σ : L2.St} {S : AS} {R : (Hp → Prop) → List V → Hp → Prop}, WR K Γ F H φ h → SR K F φ S σ → Ok K Γ E (RL K) F H φ (m S h) (fun z => R z.1 z.2) → src σ H R
structure SP (src : SRP) (m : AS → AH → Rs (List (AV × AV))) : Prop where
  run : ∀ {F H : Hp} {φ : List Addr} {h : AH} {σ : L2.St} {S : AS} {R : (Hp → Prop) → List (V × V) → Hp → Prop}, WR K Γ F H φ h → SR K F φ S σ → Ok K Γ E (RP K) F H φ (m S h) (fun z => R z.1 z.2) → src σ H R
structure SS (t : TS) (m : SV) : Prop where
  run : ∀ {F H : Hp} {φ : List Addr} {h : AH} {σ : L2.St} {S : AS} {D : Ends}, WR K Γ F H φ h → SR K F φ S σ → OkS K Γ E F H φ (m S h) D → t D σ H
/-- operators -/
structure SO (r : R2) (f : AV → AV → AH → Rs AV) : Prop where
  run : ∀ {F H : Hp} {φ : List Addr} {h : AH} {x y : AV} {v u : V} {Q : VK}, WR K Γ F H φ h → AR K F φ x v → AR K F φ y u → Ok K Γ E (AR K) F H φ (f x y h) Q → r v u H Q
structure SO1 (r : V → Hp → VK → Prop) (f : AV → AH → Rs AV) : Prop where
  run : ∀ {F H : Hp} {φ : List Addr} {h : AH} {x : AV} {v : V} {Q : VK}, WR K Γ F H φ h → AR K F φ x v → Ok K Γ E (AR K) F H φ (f x h) Q → r v H Q
/-- built-ins -/
structure SC (r : List V → Hp → VK → Prop) (f : MF) : Prop where
  run : ∀ {F H : Hp} {φ : List Addr} {h : AH} {xs : List AV} {vs : List V} {Q : VK}, WR K Γ F H φ h → ARs K F φ xs vs → Ok K Γ E (AR K) F H φ (f xs h) Q → r vs H Q
/-- defs -/
structure SF (sp : Sp) (f : MF) : Prop where
  run : ∀ {F H : Hp} {φ : List Addr} {h : AH} {xs : List AV} {vs : List V} {Q : VK}, WR K Γ F H φ h → ARs K F φ xs vs → Ok K Γ E (AR K) F H φ (f xs h) Q → sp vs H Q E
end
section
variable {K : PySem.W.Frag} {Γ : Gm} {E : XK} {F F1 H H1 : Hp} {φ φ1 : List Addr} {h h1 : AH} {S : AS} {σ : L2.St} {Q : VK} {x y : AV} {v u : V} {xs ys : List AV} {vs us : List V}
theorem SR.mono (s : Same F F1) (p : Pre φ φ1) (r : SR K F φ S σ) : SR K F1 φ1 S σ := ⟨r.1, fun i x e => by
  obtain ⟨v, e', a⟩ := r.2 i x e
  exact ⟨v, e', a.mono s p⟩⟩
theorem SR.to (e : Ex F H φ F1 H1 φ1) (r : SR K F φ S σ) : SR K F1 φ1 S σ := r.mono e.ff e.pre
theorem AR.to (e : Ex F H φ F1 H1 φ1) (r : AR K F φ x v) : AR K F1 φ1 x v := r.mono e.ff e.pre
theorem ARs.to (e : Ex F H φ F1 H1 φ1) (r : ARs K F φ xs vs) : ARs K F1 φ1 xs vs := r.mono e.ff e.pre
theorem SR.set (r : SR K F φ S σ) (a : AR K F φ x v) {i : Nat} : SR K F φ (S.set i (some x)) (σ.set i (some v)) := ⟨by simp [r.1], fun j y e => by
  rw [List.getElem?_set] at e ⊢
  by_cases c : i = j
  · subst c
    by_cases c2 : i < S.length
    · rw [if_pos rfl, if_pos c2] at e
      rw [if_pos rfl, if_pos (r.1 ▸ c2)]
      cases e
      exact ⟨v, rfl, a⟩
    · rw [if_pos rfl, if_neg c2] at e
      cases e
  · rw [if_neg c] at e ⊢
    exact r.2 j y e⟩
section
variable {α β γ δ : Type} {R : Hp → List Addr → α → β → Prop} {R' : Hp → List Addr → γ → δ → Prop} {P : β → Hp → Prop} {P' : δ → Hp → Prop} {r : Rs α} {k : α → AH → Rs γ} {D : Ends}
theorem Ok.shift (e : Ex F H φ F1 H1 φ1) (o : Ok K Γ E R F H φ r P) : Ok K Γ E R F1 H1 φ1 r P := by
  cases r with
  | ok a h => exact fun F' H' φ' y w e' => o F' H' φ' y w (e.trans e')
  | ex c p h => exact fun F' H' φ' d v w e' => o F' H' φ' d v w (e.trans e')
  | no => exact o
theorem OkS.shift {r : Rs Ou} (e : Ex F H φ F1 H1 φ1) (o : OkS K Γ E F H φ r D) : OkS K Γ E F1 H1 φ1 r D := by
  cases r with
  | ok a h => exact fun F' H' φ' w e' => o F' H' φ' w (e.trans e')
  | ex c p h => exact fun F' H' φ' d v w e' => o F' H' φ' d v w (e.trans e')
  | no => exact o
theorem Ok.bnd (o : Ok K Γ E R' F H φ (r.bnd k) P') (q : ∀ a h1 F1 H1 φ1 y, WR K Γ F1 H1 φ1 h1 → Ex F H φ F1 H1 φ1 → R F1 φ1 a y → Ok K Γ E R' F1 H1 φ1 (k a h1) P' → P y H1) : Ok K Γ E R F H φ r P := by
  cases r with
  | ok a h => exact fun F' H' φ' y w e a1 => q a h F' H' φ' y w e a1 (Ok.shift e o)
  | ex c p h => exact o
  | no => exact o
theorem OkS.bnd {k : α → AH → Rs Ou} (o : OkS K Γ E F H φ (r.bnd k) D) (q : ∀ a h1 F1 H1 φ1 y, WR K Γ F1 H1 φ1 h1 → Ex F H φ F1 H1 φ1 → R F1 φ1 a y → OkS K Γ E F1 H1 φ1 (k a h1) D → P y H1) : Ok K Γ E R F H φ r P := by
  cases r with
  | ok a h => exact fun F' H' φ' y w e a1 => q a h F' H' φ' y w e a1 (OkS.shift e o)
  | ex c p h => exact o
  | no => exact o
theorem Ok.use {a : α} (o : Ok K Γ E R F H φ (.ok a h) P) {b : β} (w : WR K Γ F1 H1 φ1 h) (e : Ex F H φ F1 H1 φ1) (r : R F1 φ1 a b) : P b H1 := o F1 H1 φ1 b w e r
theorem Ok.here {a : α} (o : Ok K Γ E R F H φ (.ok a h) P) {b : β} (w : WR K Γ F H φ h) (r : R F φ a b) : P b H := o F H φ b w .refl r
end
/-! expressions -/
def mVar (i : Nat) : EV := fun S h => match S[i]? with
  | some (some x) => .ok x h
  | _ => .no
theorem vVar {i : Nat} : SE K Γ E (eVar i) (mVar i) := ⟨fun w r o => by
  unfold mVar at o
  unfold eVar
  split at o
  · rename_i x e
    obtain ⟨v, e', a⟩ := r.2 i x e
    rw [e']
    exact o.here w a
  · exact o.elim⟩
def mLit (x : AV) : EV := fun _ h => .ok x h
theorem vLit {x : AV} {v : V} (hx : ∀ F φ, AR K F φ x v) : SE K Γ E (eLit v) (mLit x) := ⟨fun w r o => o.here w (hx _ _)⟩
theorem aInt {i : Int} : AR K F φ (.int i) (.int i) := by unfold AR; rfl
theorem aBl {i : Bool} : AR K F φ (.bl i) (.bl i) := by unfold AR; rfl
theorem aStr {i : Str} : AR K F φ (.str i) (.str i) := by unfold AR; rfl
theorem aNon : AR K F φ .non .non := by unfold AR; rfl
theorem aTup {a : Addr} (h : SqT K F a vs) (r : ARs K F φ xs vs) : AR K F φ (.tup xs) (.ref a) := by unfold AR; exact ⟨a, vs, rfl, h, r⟩
theorem aLst {a : Addr} (h : F a = some (.lst vs)) (r : ARs K F φ xs vs) : AR K F φ (.lst xs) (.ref a) := by unfold AR; exact ⟨a, vs, rfl, h, r⟩
theorem aScr {a : Addr} (h : SqL K F a vs) (r : ARs K F φ xs vs) : AR K F φ (.scr xs) (.ref a) := by unfold AR; exact ⟨a, vs, rfl, h, r⟩
theorem aId {a : Addr} {n : Nat} (h : φ[n]? = some a) : AR K F φ (.id n) (.ref a) := by unfold AR; exact ⟨a, h, rfl⟩
theorem iInt {i : Int} (h : AR K F φ (.int i) v) : v = .int i := by unfold AR at h; exact h
theorem iBl {i : Bool} (h : AR K F φ (.bl i) v) : v = .bl i := by unfold AR at h; exact h
theorem iStr {i : Str} (h : AR K F φ (.str i) v) : v = .str i := by unfold AR at h; exact h
theorem iNon (h : AR K F φ .non v) : v = .non := by unfold AR at h; exact h
theorem iTup (h : AR K F φ (.tup xs) v) : ∃ a vs, v = .ref a ∧ SqT K F a vs ∧ ARs K F φ xs vs := by unfold AR at h; exact h
theorem iLst (h : AR K F φ (.lst xs) v) : ∃ a vs, v = .ref a ∧ F a = some (.lst vs) ∧ ARs K F φ xs vs := by unfold AR at h; exact h
theorem iScr (h : AR K F φ (.scr xs) v) : ∃ a vs, v = .ref a ∧ SqL K F a vs ∧ ARs K F φ xs vs := by unfold AR at h; exact h
theorem iId {n : Nat} (h : AR K F φ (.id n) v) : ∃ a, φ[n]? = some a ∧ v = .ref a := by unfold AR at h; exact h
def kBin (f : AV → AV → AH → Rs AV) (mb : EV) (S : AS) (x : AV) (h : AH) : Rs AV := (mb S h).bnd (f x)
def mBin (f : AV → AV → AH → Rs AV) (ma mb : EV) : EV := fun S h => (ma S h).bnd (kBin f mb S)
theorem vBin {r : R2} {f : AV → AV → AH → Rs AV} {ta tb : TE} {ma mb : EV} (ho : SO K Γ E r f) (ha : SE K Γ E ta ma) (hb : SE K Γ E tb mb) : SE K Γ E (eBin r ta tb) (mBin f ma mb) :=
  ⟨fun w r o => ha.run w r (o.bnd fun _ _ _ _ _ _ w1 e1 a1 o1 => hb.run w1 (r.to e1) (o1.bnd fun _ _ _ _ _ _ w2 e2 a2 o2 => ho.run w2 (a1.to e2) a2 o2))⟩
def mUn (f : AV → AH → Rs AV) (ma : EV) : EV := fun S h => (ma S h).bnd f
theorem vUn {r : V → Hp → VK → Prop} {f : AV → AH → Rs AV} {ta : TE} {ma : EV} (ho : SO1 K Γ E r f) (ha : SE K Γ E ta ma) : SE K Γ E (eUn r ta) (mUn f ma) :=
  ⟨fun w r o => ha.run w r (o.bnd fun _ _ _ _ _ _ w1 e1 a1 o1 => ho.run w1 a1 o1)⟩
/-! what stands at a value -/
def lsOf (h : AH) : AV → Option (List AV)
  | .lst xs => some xs
  | .scr xs => some xs
  | .id n => match h[n]? with
    | some (.lst xs) => some xs
    | some (.fz xs) => some xs
    | _ => none
  | _ => none
def sqOf (h : AH) : AV → Option (List AV)
  | .tup xs => some xs
  | x => lsOf h x
theorem lsOf_ok (w : WR K Γ F H φ h) (r : AR K F φ x v) (e : lsOf h x = some xs) : ∃ a vs, v = .ref a ∧ SqL K H a vs ∧ ARs K F φ xs vs := by
  unfold lsOf at e
  split at e
  · cases e
    obtain ⟨a, vs, rfl, h1, h2⟩ := iLst r
    exact ⟨a, vs, rfl, SqL.of (w.ff _ _ h1), h2⟩
  · cases e
    obtain ⟨a, vs, rfl, h1, h2⟩ := iScr r
    exact ⟨a, vs, rfl, w.ff.seq h1, h2⟩
  · obtain ⟨a, h1, rfl⟩ := iId r
    split at e
    · cases e
      rename_i e1
      obtain ⟨_, vs, h2, h3⟩ := w.cl _ _ _ h1 e1
      exact ⟨a, vs, rfl, SqL.of h2, h3⟩
    · cases e
      rename_i e1
      obtain ⟨vs, h2, h3⟩ := w.cl _ _ _ h1 e1
      exact ⟨a, vs, rfl, SqL.of (w.ff _ _ h2), h3⟩
    · cases e
  · cases e
theorem sqOf_ok (w : WR K Γ F H φ h) (r : AR K F φ x v) (e : sqOf h x = some xs) : ∃ a vs, v = .ref a ∧ (SqL K H a vs ∨ SqT K H a vs) ∧ ARs K F φ xs vs := by
  unfold sqOf at e
  split at e
  · cases e
    obtain ⟨a, vs, rfl, h1, h2⟩ := iTup r
    exact ⟨a, vs, rfl, .inr (Same.sqT w.ff h1), h2⟩
  · obtain ⟨a, vs, rfl, h1, h2⟩ := lsOf_ok w r e
    exact ⟨a, vs, rfl, .inl h1, h2⟩
theorem ARs.atI (r : ARs K F φ xs vs) {i : Int} (e : atI xs i = some x) : ∃ v, atI vs i = some v ∧ AR K F φ x v := by
  unfold L2.atI at e ⊢
  rw [← r.len]
  cases c : ixN xs.length i with
  | none => rw [c] at e; cases e
  | some j => rw [c] at e; exact r.at e
/-! operators -/
def opI2 (g : Int → Int → AV) (x y : AV) (h : AH) : Rs AV := match x, y with
  | .int i, .int j => .ok (g i j) h
  | _, _ => .no
theorem wI2 {g : Int → Int → AV} {g' : Int → Int → V} (hg : ∀ i j F φ, AR K F φ (g i j) (g' i j)) : SO K Γ E (uI2 g') (opI2 g) := ⟨fun w a b o => by
  unfold opI2 at o
  split at o
  · rw [iInt a, iInt b]
    exact o.here w (hg _ _ _ _)
  · exact o.elim⟩
open Classical in
noncomputable def opII (C : Int → Int → Prop) (g : Int → Int → AV) (x y : AV) (h : AH) : Rs AV := match x, y with
  | .int i, .int j => if C i j then .ok (g i j) h else .no
  | _, _ => .no
theorem wII {C : Int → Int → Prop} {g : Int → Int → AV} {g' : Int → Int → V} (hg : ∀ i j F φ, AR K F φ (g i j) (g' i j)) : SO K Γ E (uII C g') (opII C g) := ⟨fun w a b o => by
  unfold opII at o
  split at o
  · rw [iInt a, iInt b]
    split at o
    · rename_i c
      exact ⟨c, o.here w (hg _ _ _ _)⟩
    · exact o.elim
  · exact o.elim⟩
abbrev gI (f : Int → Int → Int) : Int → Int → AV := fun i j => .int (f i j)
def opSub := opI2 fun i j => .int (i - j)
noncomputable def opDiv := opII CDivW fun i j => .int (i / j)
noncomputable def opMod := opII (fun _ j => 0 < j) fun i j => .int (i % j)
noncomputable def opPow := opII CPow fun i j => .int (i ^ j.toNat)
def opAnd := opI2 fun i j => .int (Builtin.bitAnd i j)
def opOr := opI2 fun i j => .int (Builtin.bitOr i j)
def opXor := opI2 fun i j => .int (Builtin.bitXor i j)
def opLt := opI2 fun i j => .bl (decide (i < j))
def opLe := opI2 fun i j => .bl (decide (i ≤ j))
def opGt := opI2 fun i j => .bl (decide (j < i))
def opGe := opI2 fun i j => .bl (decide (j ≤ i))
theorem wSub : SO K Γ E rSub opSub := wI2 fun _ _ _ _ => aInt
theorem wDiv : SO K Γ E rDiv opDiv := wII fun _ _ _ _ => aInt
theorem wMod : SO K Γ E rMod opMod := wII fun _ _ _ _ => aInt
theorem wPow : SO K Γ E rPow opPow := wII fun _ _ _ _ => aInt
theorem wAnd : SO K Γ E rAnd opAnd := wI2 fun _ _ _ _ => aInt
theorem wOr : SO K Γ E rOr opOr := wI2 fun _ _ _ _ => aInt
theorem wXor : SO K Γ E rXor opXor := wI2 fun _ _ _ _ => aInt
theorem wLt : SO K Γ E rLt opLt := wI2 fun _ _ _ _ => aBl
theorem wLe : SO K Γ E rLe opLe := wI2 fun _ _ _ _ => aBl
theorem wGt : SO K Γ E rGt opGt := wI2 fun _ _ _ _ => aBl
theorem wGe : SO K Γ E rGe opGe := wI2 fun _ _ _ _ => aBl
open Classical in
noncomputable def opMul (x y : AV) (h : AH) : Rs AV := match x, y with
  | .int i, .int j => if IntMulOk i j then .ok (.int (i * j)) h else .no
  | .str z, .int k => if k ≤ 1000000 ∧ -1000000 ≤ k ∧ z.length ≤ 16 then .ok (.str (repS z k)) h else .no
  | _, _ => .no
theorem wMul : SO K Γ E uMul opMul := ⟨fun w a b o => by
  unfold opMul at o
  split at o
  · rw [iInt a, iInt b]
    split at o
    · rename_i c
      exact ⟨c, o.here w aInt⟩
    · exact o.elim
  · rw [iStr a, iInt b]
    split at o
    · rename_i c
      exact ⟨c.1, c.2.1, c.2.2, o.here w aStr⟩
    · exact o.elim
  · exact o.elim⟩
def opAddL (x y : AV) (h : AH) : Rs AV := match lsOf h x, lsOf h y with
  | some xs, some ys => if xs.length + ys.length ≤ 16777216 then .ok (.lst (xs ++ ys)) h else .no
  | _, _ => .no
def opAdd (x y : AV) (h : AH) : Rs AV := match x, y with
  | .int i, .int j => .ok (.int (i + j)) h
  | .str z, .str w => if z.length + w.length ≤ 16777216 then .ok (.str (z ++ w)) h else .no
  | .tup (a :: xs), .tup ys => if xs.length + 1 + ys.length ≤ 16777216 then .ok (.tup (a :: xs ++ ys)) h else .no
  | x, y => opAddL x y h
theorem wAddL (w : WR K Γ F H φ h) (a : AR K F φ x v) (b : AR K F φ y u) (o : Ok K Γ E (AR K) F H φ (opAddL x y h) Q) : uAdd K v u H Q := by
  have sz := sz
  unfold opAddL at o
  split at o
  · rename_i e1 e2
    obtain ⟨p, vs, rfl, h1, h2⟩ := lsOf_ok w a e1
    obtain ⟨q, ws, rfl, h3, h4⟩ := lsOf_ok w b e2
    split at o
    · rename_i c
      refine .inl ⟨vs, ws, h1, h3, by rw [← h2.len, ← h4.len, sz]; exact c, fun p hp => ?_⟩
      obtain ⟨w1, e1⟩ := w.new hp
      exact o.use w1 e1 (aLst upd_same ((h2.app h4).to e1))
    · exact o.elim
  · exact o.elim
theorem wAdd : SO K Γ E (uAdd K) opAdd := ⟨fun {F H φ h x y v u Q} w a b o => by
  have sz := sz
  unfold opAdd at o
  split at o
  · rw [iInt a, iInt b]
    exact o.here w aInt
  · rw [iStr a, iStr b]
    split at o
    · rename_i c
      exact ⟨by rw [sz]; exact c, o.here w aStr⟩
    · exact o.elim
  · obtain ⟨p, vs, rfl, h1, h2⟩ := iTup a
    obtain ⟨q, ws, rfl, h3, h4⟩ := iTup b
    split at o
    · rename_i c
      have l1 := h2.len
      have l2 := h4.len
      refine .inr ⟨vs, ws, Same.sqT w.ff h1, Same.sqT w.ff h3, fun z => by rw [z] at l1; simp at l1, by rw [← l1, ← l2, sz]; exact c, fun z => ?_, fun _ p hp => ?_⟩
      · subst z
        have : _ = [] := List.length_eq_zero_iff.mp l2
        subst this
        rw [List.append_nil] at o
        exact o.here w (aTup h1 h2)
      · obtain ⟨w1, e1⟩ := w.new hp
        exact o.use w1 e1 (aTup (SqT.of upd_same) ((h2.app h4).to e1))
    · exact o.elim
  · exact wAddL w a b o⟩
def opNeg (x : AV) (h : AH) : Rs AV := match x with
  | .int i => .ok (.int (-i)) h
  | _ => .no
theorem wNeg : SO1 K Γ E uNeg opNeg := ⟨fun w a o => by
  unfold opNeg at o
  split at o
  · rw [iInt a]; exact o.here w aInt
  · exact o.elim⟩
/-! data by what it tells -/
mutual
def pySub (r : Nat → Option PyData) : AV → Option PyData
  | .non => some .none
  | .bl b => some (.bool b)
  | .int i => some (.int i)
  | .str z => some (.str z)
  | .tup xs => (pySubs r xs).map PyData.tuple
  | .lst xs => (pySubs r xs).map PyData.list
  | .scr xs => (pySubs r xs).map PyData.list
  | .id n => r n
def pySubs (r : Nat → Option PyData) : List AV → Option (List PyData)
  | [] => some []
  | x :: xs => match pySub r x, pySubs r xs with
    | some d, some ds => some (d :: ds)
    | _, _ => none
end
def pyId (h : AH) : Nat → Nat → Option PyData
  | 0, _ => none
  | m + 1, n => match h[n]? with
    | some (.lst xs) => (pySubs (pyId h m) xs).map PyData.list
    | some (.fz xs) => (pySubs (pyId h m) xs).map PyData.list
    | _ => none
def pyOf (h : AH) (x : AV) : Option PyData := pySub (pyId h 30) x
mutual
theorem pySub_ok (w : WR K Γ F H φ h) {r : Nat → Option PyData} (hr : ∀ n a d, φ[n]? = some a → r n = some d → Dp K H (.ref a) d) : ∀ {x : AV} {v : V} {d : PyData}, AR K F φ x v → pySub r x = some d → Dp K H v d
  | .non, _, _, a, e => by rw [iNon a]; unfold pySub at e; cases e; exact .non
  | .bl _, _, _, a, e => by rw [iBl a]; unfold pySub at e; cases e; exact .bl _
  | .int _, _, _, a, e => by rw [iInt a]; unfold pySub at e; cases e; exact .int _
  | .str _, _, _, a, e => by rw [iStr a]; unfold pySub at e; cases e; exact .str _
  | .tup xs, _, _, a, e => by
    obtain ⟨p, vs, rfl, h1, h2⟩ := iTup a
    unfold pySub at e
    cases c : pySubs r xs with
    | none => rw [c] at e; cases e
    | some ds => rw [c] at e; cases e; exact .tup (Same.sqT w.ff h1) (pySubs_ok w hr h2 c)
  | .lst xs, _, _, a, e => by
    obtain ⟨p, vs, rfl, h1, h2⟩ := iLst a
    unfold pySub at e
    cases c : pySubs r xs with
    | none => rw [c] at e; cases e
    | some ds => rw [c] at e; cases e; exact .lst (SqL.of (w.ff _ _ h1)) (pySubs_ok w hr h2 c)
  | .scr xs, _, _, a, e => by
    obtain ⟨p, vs, rfl, h1, h2⟩ := iScr a
    unfold pySub at e
    cases c : pySubs r xs with
    | none => rw [c] at e; cases e
    | some ds => rw [c] at e; cases e; exact .lst (w.ff.seq h1) (pySubs_ok w hr h2 c)
  | .id n, _, _, a, e => by
    obtain ⟨p, h1, rfl⟩ := iId a
    unfold pySub at e
    exact hr _ _ _ h1 e
theorem pySubs_ok (w : WR K Γ F H φ h) {r : Nat → Option PyData} (hr : ∀ n a d, φ[n]? = some a → r n = some d → Dp K H (.ref a) d) : ∀ {xs : List AV} {vs : List V} {ds : List PyData}, ARs K F φ xs vs → pySubs r xs = some ds → DpAll K H vs ds
  | [], _, _, a, e => by rw [a.nil_inv]; unfold pySubs at e; cases e; exact .nil
  | x :: xs, _, _, a, e => by
    obtain ⟨v, ws, rfl, h1, h2⟩ := a.cons_inv
    unfold pySubs at e
    split at e
    · rename_i c1 c2
      cases e
      exact .cons (pySub_ok w hr h1 c1) (pySubs_ok w hr h2 c2)
    · cases e
end
theorem pyId_ok (w : WR K Γ F H φ h) : ∀ (m n : Nat) (a : Addr) (d : PyData), φ[n]? = some a → pyId h m n = some d → Dp K H (.ref a) d
  | 0, _, _, _, _, e => by unfold pyId at e; cases e
  | m + 1, n, a, d, hn, e => by
    unfold pyId at e
    split at e
    · rename_i xs c
      obtain ⟨_, vs, h1, h2⟩ := w.cl _ _ _ hn c
      cases c : pySubs (pyId h m) xs with
      | none => rw [c] at e; cases e
      | some ds => rw [c] at e; cases e; exact .lst (SqL.of h1) (pySubs_ok w (pyId_ok w m) h2 c)
    · rename_i xs c
      obtain ⟨vs, h1, h2⟩ := w.cl _ _ _ hn c
      cases c : pySubs (pyId h m) xs with
      | none => rw [c] at e; cases e
      | some ds => rw [c] at e; cases e; exact .lst (SqL.of (w.ff _ _ h1)) (pySubs_ok w (pyId_ok w m) h2 c)
    · cases e
theorem pyOf_ok (w : WR K Γ F H φ h) (a : AR K F φ x v) {d : PyData} (e : pyOf h x = some d) : Dp K H v d := pySub_ok w (pyId_ok w 30) a e
/-- scalars -/
def fv : AV → Option V
  | .non => some .non
  | .bl b => some (.bl b)
  | .int i => some (.int i)
  | .str z => some (.str z)
  | _ => none
theorem fv_ok (a : AR K F φ x v) {u : V} (e : fv x = some u) : v = u := by
  unfold fv at e
  split at e
  · cases e; exact iNon a
  · cases e; exact iBl a
  · cases e; exact iInt a
  · cases e; exact iStr a
  · cases e
theorem fv_no (a : AR K F φ x v) (e : fv x = none) : ∃ p, v = .ref p := by
  unfold fv at e
  split at e
  · cases e
  · cases e
  · cases e
  · cases e
  · cases x with
    | non => contradiction
    | bl b => simp at *
    | int b => simp at *
    | str b => simp at *
    | tup b => obtain ⟨p, _, e, _⟩ := iTup a; exact ⟨p, e⟩
    | lst b => obtain ⟨p, _, e, _⟩ := iLst a; exact ⟨p, e⟩
    | scr b => obtain ⟨p, _, e, _⟩ := iScr a; exact ⟨p, e⟩
    | id b => obtain ⟨p, _, e⟩ := iId a; exact ⟨p, e⟩
def eqDat (neg : Bool) (x y : AV) (h : AH) : Rs AV := match pyOf h x, pyOf h y with
  | some d, some e => if SeqAt.shaped d = true ∧ SeqAt.shaped e = true then .ok (.bl (if neg then !PyData.eqv d e else PyData.eqv d e)) h else .no
  | _, _ => .no
def opEqN (neg : Bool) (x y : AV) (h : AH) : Rs AV := match x, y with
  | .int i, .int j => .ok (.bl (if neg then !decide (i = j) else decide (i = j))) h
  | .str i, .str j => .ok (.bl (if neg then !decide (i = j) else decide (i = j))) h
  | .bl i, .bl j => .ok (.bl (if neg then !decide (i = j) else decide (i = j))) h
  | .non, .non => .ok (.bl (!neg)) h
  | .non, .int _ => .ok (.bl neg) h
  | .int _, .non => .ok (.bl neg) h
  | .non, .str _ => .ok (.bl neg) h
  | .str _, .non => .ok (.bl neg) h
  | .non, .bl _ => .ok (.bl neg) h
  | .bl _, .non => .ok (.bl neg) h
  | .str _, .int _ => .ok (.bl neg) h
  | .int _, .str _ => .ok (.bl neg) h
  | x, y => match fv x, fv y with
    | some _, some _ => .no
    | _, _ => eqDat neg x y h
def opEq := opEqN false
def opNe := opEqN true
theorem eqDat_ok {neg : Bool} (w : WR K Γ F H φ h) (a : AR K F φ x v) (b : AR K F φ y u) (o : Ok K Γ E (AR K) F H φ (eqDat neg x y h) Q) : eqD K v u H fun k => Q (.bl (if neg then !k else k)) H := by
  unfold eqDat at o
  split at o
  · rename_i c1 c2
    split at o
    · rename_i c
      exact ⟨_, _, pyOf_ok w a c1, pyOf_ok w b c2, c.1, c.2, o.here w aBl⟩
    · exact o.elim
  · exact o.elim
theorem ref_eq {a : Addr} {y : V} : uEq K (.ref a) y H Q = eqD K (.ref a) y H fun b => Q (.bl b) H := ec4
theorem eq_ref {a : Addr} {y : V} : uEq K y (.ref a) H Q = eqD K y (.ref a) H fun b => Q (.bl b) H := by cases y <;> rfl
theorem ref_ne {a : Addr} {y : V} : uNe K (.ref a) y H Q = eqD K (.ref a) y H fun b => Q (.bl (!b)) H := ec8
theorem ne_ref {a : Addr} {y : V} : uNe K y (.ref a) H Q = eqD K y (.ref a) H fun b => Q (.bl (!b)) H := by cases y <;> rfl
theorem wEq : SO K Γ E (uEq K) opEq := ⟨fun {F H φ h x y v u Q} w a b o => by
  unfold opEq opEqN at o
  split at o
  · rw [iInt a, iInt b]; exact o.here w aBl
  · rw [iStr a, iStr b]; exact o.here w aBl
  · rw [iBl a, iBl b]; exact o.here w aBl
  · rw [iNon a, iNon b]; exact ⟨rfl, o.here w aBl⟩
  · rw [iNon a, iInt b]; exact ⟨rfl, o.here w aBl⟩
  · rw [iInt a, iNon b]; exact ⟨rfl, o.here w aBl⟩
  · rw [iNon a, iStr b]; exact ⟨rfl, o.here w aBl⟩
  · rw [iStr a, iNon b]; exact ⟨rfl, o.here w aBl⟩
  · rw [iNon a, iBl b]; exact ⟨rfl, o.here w aBl⟩
  · rw [iBl a, iNon b]; exact ⟨rfl, o.here w aBl⟩
  · rw [iStr a, iInt b]; exact ⟨rfl, o.here w aBl⟩
  · rw [iInt a, iStr b]; exact ⟨rfl, o.here w aBl⟩
  · split at o
    · exact o.elim
    · rename_i nn
      have q := eqDat_ok w a b o
      cases c1 : fv x with
      | none =>
        obtain ⟨p, rfl⟩ := fv_no a c1
        rw [ref_eq]; exact q
      | some v1 =>
        cases c2 : fv y with
        | none =>
          obtain ⟨p, rfl⟩ := fv_no b c2
          rw [eq_ref]; exact q
        | some v2 => exact (nn _ _ c1 c2).elim⟩
theorem wNe : SO K Γ E (uNe K) opNe := ⟨fun {F H φ h x y v u Q} w a b o => by
  unfold opNe opEqN at o
  split at o
  · rw [iInt a, iInt b]; exact o.here w aBl
  · rw [iStr a, iStr b]; exact o.here w aBl
  · rw [iBl a, iBl b]; exact o.here w aBl
  · rw [iNon a, iNon b]; exact ⟨rfl, o.here w aBl⟩
  · rw [iNon a, iInt b]; exact ⟨rfl, o.here w aBl⟩
  · rw [iInt a, iNon b]; exact ⟨rfl, o.here w aBl⟩
  · rw [iNon a, iStr b]; exact ⟨rfl, o.here w aBl⟩
  · rw [iStr a, iNon b]; exact ⟨rfl, o.here w aBl⟩
  · rw [iNon a, iBl b]; exact ⟨rfl, o.here w aBl⟩
  · rw [iBl a, iNon b]; exact ⟨rfl, o.here w aBl⟩
  · rw [iStr a, iInt b]; exact ⟨rfl, o.here w aBl⟩
  · rw [iInt a, iStr b]; exact ⟨rfl, o.here w aBl⟩
  · split at o
    · exact o.elim
    · rename_i nn
      have q := eqDat_ok w a b o
      cases c1 : fv x with
      | none =>
        obtain ⟨p, rfl⟩ := fv_no a c1
        rw [ref_ne]; exact q
      | some v1 =>
        cases c2 : fv y with
        | none =>
          obtain ⟨p, rfl⟩ := fv_no b c2
          rw [ne_ref]; exact q
        | some v2 => exact (nn _ _ c1 c2).elim⟩
end
end Hf
set_option Elab.async false
set_option linter.all false
set_option maxRecDepth 100000
set_option maxHeartbeats 4000000
namespace Hf
open PySem PySem.Spec L2 PyProof.Rows
section
variable {K : PySem.W.Frag} {Γ : Gm} {E : XK} {F F1 H H1 : Hp} {φ φ1 : List Addr} {h h1 : AH} {S : AS} {σ : L2.St} {Q : VK} {x y : AV} {v u : V} {xs ys : List AV} {vs us : List V}
  {ta tb tc te to : TE} {ma mb mc me mo : EV} {tes : TA} {ms : LV}
/-! in, is -/
def fvs : List AV → Option (List V)
  | [] => some []
  | x :: xs => match fv x, fvs xs with
    | some v, some vs => some (v :: vs)
    | _, _ => none
theorem fv_flat {v : V} (e : fv x = some v) : flatV v = true := by
  unfold fv at e
  split at e <;> cases e <;> rfl
theorem fvs_ok : ∀ {xs : List AV} {vs us : List V}, ARs K F φ xs vs → fvs xs = some us → vs = us ∧ us.all flatV = true
  | [], _, _, a, e => by rw [a.nil_inv]; unfold fvs at e; cases e; exact ⟨rfl, rfl⟩
  | x :: xs, _, _, a, e => by
    obtain ⟨v, ws, rfl, h1, h2⟩ := a.cons_inv
    unfold fvs at e
    split at e
    · rename_i c1 c2
      cases e
      obtain ⟨rfl, f⟩ := fvs_ok h2 c2
      rw [fv_ok h1 c1]
      exact ⟨rfl, by rw [List.all_cons, fv_flat c1, f]; rfl⟩
    · cases e
def opInN (neg : Bool) (x y : AV) (h : AH) : Rs AV := match x, y with
  | .str w, .str z => .ok (.bl (if neg then !inTx w z else inTx w z)) h
  | x, y => match fv x, (sqOf h y).bind fvs with
    | some v, some vs => .ok (.bl (if neg then !inV v vs else inV v vs)) h
    | _, _ => .no
theorem wInN {neg : Bool} : SO K Γ E (uIn K neg) (opInN neg) := ⟨fun {F H φ h x y v u Q} w a b o => by
  unfold opInN at o
  split at o
  · rw [iStr a, iStr b]; exact o.here w aBl
  · split at o
    · rename_i c1 c2
      cases e : sqOf h y with
      | none => rw [e] at c2; cases c2
      | some ys =>
        rw [e] at c2
        obtain ⟨p, ws, rfl, h1, h2⟩ := sqOf_ok w b e
        obtain ⟨rfl, f⟩ := fvs_ok h2 c2
        have := fv_ok a c1
        subst this
        rw [ec10]
        exact ⟨_, h1, fv_flat c1, f, o.here w aBl⟩
    · exact o.elim⟩
def opIn := opInN false
def opNotIn := opInN true
def opIsN (neg : Bool) (x y : AV) (h : AH) : Rs AV := match y with
  | .non => .ok (.bl (match x with
    | .non => !neg
    | _ => neg)) h
  | _ => .no
theorem wIsN {neg : Bool} : SO K Γ E (uIs neg) (opIsN neg) := ⟨fun {F H φ h x y v u Q} w a b o => by
  unfold opIsN at o
  split at o
  · rw [iNon b]
    unfold uIs
    dsimp only
    have nz : ∀ p, decide ((V.ref p) = .non) = false := fun p => by simp
    split at o
    · rw [iNon a]
      have : (if neg = true then !decide (V.non = .non) else decide (V.non = .non)) = !neg := by cases neg <;> rfl
      rw [this]; exact o.here w aBl
    · rename_i nn
      have : (if neg = true then !decide (v = .non) else decide (v = .non)) = neg := by
        have : decide (v = .non) = false := by
          cases x with
          | non => exact (nn rfl).elim
          | bl b => rw [iBl a]; simp
          | int b => rw [iInt a]; simp
          | str b => rw [iStr a]; simp
          | tup b => obtain ⟨p, _, rfl, _⟩ := iTup a; simp
          | lst b => obtain ⟨p, _, rfl, _⟩ := iLst a; simp
          | scr b => obtain ⟨p, _, rfl, _⟩ := iScr a; simp
          | id b => obtain ⟨p, _, rfl⟩ := iId a; simp
        rw [this]; cases neg <;> rfl
      rw [this]; exact o.here w aBl
  · exact o.elim⟩
def opIs := opIsN false
def opIsNot := opIsN true
theorem wIn : SO K Γ E (uIn K false) opIn := wInN
theorem wNotIn : SO K Γ E (uIn K true) opNotIn := wInN
theorem wIs : SO K Γ E (uIs false) opIs := wIsN
theorem wIsNot : SO K Γ E (uIs true) opIsNot := wIsN
/-! tests -/
def mTru (x : AV) (h : AH) : Rs Bool := match x with
  | .bl b => .ok b h
  | .int i => .ok (i != 0) h
  | _ => .no
theorem tru_m {P : Bool → Hp → Prop} (w : WR K Γ F H φ h) (a : AR K F φ x v) (o : Ok K Γ E (fun _ _ a b => a = b) F H φ (mTru x h) P) : tru v H P := by
  unfold mTru at o
  split at o
  · rw [iBl a]; exact o.here w rfl
  · rw [iInt a]; exact o.here w rfl
  · exact o.elim
def mTst (ma : EV) : TV := fun S h => (ma S h).bnd mTru
theorem vTst (ha : SE K Γ E ta ma) : ST K Γ E (tTst ta) (mTst ma) := ⟨fun w r o => ha.run w r (o.bnd fun _ _ _ _ _ _ w1 e1 a1 o1 => tru_m w1 a1 o1)⟩
variable {tA tB : TT} {mA mB : TV}
def kTA (mb : TV) (S : AS) (b : Bool) (h : AH) : Rs Bool := if b = true then mb S h else .ok false h
def kTO (mb : TV) (S : AS) (b : Bool) (h : AH) : Rs Bool := if b = true then .ok true h else mb S h
def kTN (b : Bool) (h : AH) : Rs Bool := .ok (!b) h
def mTAnd (ma mb : TV) : TV := fun S h => (ma S h).bnd (kTA mb S)
def mTOr (ma mb : TV) : TV := fun S h => (ma S h).bnd (kTO mb S)
def mTNot (ma : TV) : TV := fun S h => (ma S h).bnd kTN
theorem vTAnd (ha : ST K Γ E tA mA) (hb : ST K Γ E tB mB) : ST K Γ E (tAnd tA tB) (mTAnd mA mB) := ⟨fun w r o => ha.run w r (o.bnd fun b h1 F1 H1 φ1 y w1 e1 a1 o1 => by
  subst a1
  unfold kTA at o1
  split at o1
  · rename_i c
    rw [if_pos c]
    exact hb.run w1 (r.to e1) o1
  · rename_i c
    rw [if_neg c]
    exact o1.here w1 rfl)⟩
theorem vTOr (ha : ST K Γ E tA mA) (hb : ST K Γ E tB mB) : ST K Γ E (tOr tA tB) (mTOr mA mB) := ⟨fun w r o => ha.run w r (o.bnd fun b h1 F1 H1 φ1 y w1 e1 a1 o1 => by
  subst a1
  unfold kTO at o1
  split at o1
  · rename_i c
    rw [if_pos c]
    exact o1.here w1 rfl
  · rename_i c
    rw [if_neg c]
    exact hb.run w1 (r.to e1) o1)⟩
theorem vTNot (ha : ST K Γ E tA mA) : ST K Γ E (tNot tA) (mTNot mA) := ⟨fun w r o => ha.run w r (o.bnd fun b h1 F1 H1 φ1 y w1 e1 a1 o1 => by
  subst a1
  exact Ok.here (a := !b) o1 w1 rfl)⟩
/-! and, or, not as values -/
def kEA (mb : EV) (S : AS) (x : AV) (h : AH) : Rs AV := match x with
  | .bl b => if b = true then mb S h else .ok (.bl false) h
  | _ => .no
def kEO (mb : EV) (S : AS) (x : AV) (h : AH) : Rs AV := match x with
  | .bl b => if b = true then .ok (.bl true) h else mb S h
  | _ => .no
def kEN (x : AV) (h : AH) : Rs AV := match x with
  | .bl b => .ok (.bl (!b)) h
  | _ => .no
def mAnd (ma mb : EV) : EV := fun S h => (ma S h).bnd (kEA mb S)
def mOr (ma mb : EV) : EV := fun S h => (ma S h).bnd (kEO mb S)
def mNot (ma : EV) : EV := fun S h => (ma S h).bnd kEN
theorem vAnd (ha : SE K Γ E ta ma) (hb : SE K Γ E tb mb) : SE K Γ E (eAnd ta tb) (mAnd ma mb) := ⟨fun w r o => ha.run w r (o.bnd fun b h1 F1 H1 φ1 y w1 e1 a1 o1 => by
  unfold kEA at o1
  split at o1
  · rw [iBl a1, eb1]
    split at o1
    · rename_i c
      rw [if_pos c]; exact hb.run w1 (r.to e1) o1
    · rename_i c
      rw [if_neg c]; exact o1.here w1 aBl
  · exact o1.elim)⟩
theorem vOr (ha : SE K Γ E ta ma) (hb : SE K Γ E tb mb) : SE K Γ E (eOr ta tb) (mOr ma mb) := ⟨fun w r o => ha.run w r (o.bnd fun b h1 F1 H1 φ1 y w1 e1 a1 o1 => by
  unfold kEO at o1
  split at o1
  · rw [iBl a1, eb1]
    split at o1
    · rename_i c
      rw [if_pos c]; exact o1.here w1 aBl
    · rename_i c
      rw [if_neg c]; exact hb.run w1 (r.to e1) o1
  · exact o1.elim)⟩
theorem vNot (ha : SE K Γ E ta ma) : SE K Γ E (eNot ta) (mNot ma) := ⟨fun w r o => ha.run w r (o.bnd fun b h1 F1 H1 φ1 y w1 e1 a1 o1 => by
  unfold kEN at o1
  split at o1
  · rw [iBl a1, eb1]; exact o1.here w1 aBl
  · exact o1.elim)⟩
def kIfE (ma mb : EV) (S : AS) (b : Bool) (h : AH) : Rs AV := if b = true then ma S h else mb S h
def mIf (mt : TV) (ma mb : EV) : EV := fun S h => (mt S h).bnd (kIfE ma mb S)
theorem vIf (ht : ST K Γ E tA mA) (ha : SE K Γ E ta ma) (hb : SE K Γ E tb mb) : SE K Γ E (eIf tA ta tb) (mIf mA ma mb) := ⟨fun w r o => ht.run w r (o.bnd fun b h1 F1 H1 φ1 y w1 e1 a1 o1 => by
  subst a1
  unfold kIfE at o1
  split at o1
  · rename_i c
    rw [if_pos c]; exact ha.run w1 (r.to e1) o1
  · rename_i c
    rw [if_neg c]; exact hb.run w1 (r.to e1) o1)⟩
/-- a op b op' c -/
def kC3 (f' : AV → AV → AH → Rs AV) (mc : EV) (S : AS) (y z : AV) (h : AH) : Rs AV := match z with
  | .bl k => if k = true then (mc S h).bnd (f' y) else .ok (.bl false) h
  | _ => .no
def kC2 (f f' : AV → AV → AH → Rs AV) (mc : EV) (S : AS) (x y : AV) (h : AH) : Rs AV := (f x y h).bnd (kC3 f' mc S y)
def kC1 (f f' : AV → AV → AH → Rs AV) (mb mc : EV) (S : AS) (x : AV) (h : AH) : Rs AV := (mb S h).bnd (kC2 f f' mc S x)
def mChain (f f' : AV → AV → AH → Rs AV) (ma mb mc : EV) : EV := fun S h => (ma S h).bnd (kC1 f f' mb mc S)
theorem vChain {r r' : R2} {f f' : AV → AV → AH → Rs AV} (ho : SO K Γ E r f) (ho' : SO K Γ E r' f') (ha : SE K Γ E ta ma) (hb : SE K Γ E tb mb) (hc : SE K Γ E tc mc) : SE K Γ E (eChain r r' ta tb tc) (mChain f f' ma mb mc) :=
  ⟨fun w s o => ha.run w s (o.bnd fun _ _ _ _ _ _ w1 e1 a1 o1 => hb.run w1 (s.to e1) (o1.bnd fun _ _ _ _ _ _ w2 e2 a2 o2 => ho.run w2 (a1.to e2) a2 (o2.bnd fun z h3 F3 H3 φ3 y3 w3 e3 a3 o3 => by
    unfold kC3 at o3
    split at o3
    · rw [iBl a3, eb1]
      split at o3
      · rename_i c
        rw [if_pos c]
        exact hc.run w3 (((s.to e1).to e2).to e3) (o3.bnd fun _ _ _ _ _ _ w4 e4 a4 o4 => ho'.run w4 ((a2.to e3).to e4) a4 o4)
      · rename_i c
        rw [if_neg c]; exact o3.here w3 aBl
    · exact o3.elim)))⟩
/-! arguments, displays -/
def mNil : LV := fun _ h => .ok [] h
def kCons2 (x : AV) (xs : List AV) (h : AH) : Rs (List AV) := .ok (x :: xs) h
def kCons1 (mr : LV) (S : AS) (x : AV) (h : AH) : Rs (List AV) := (mr S h).bnd (kCons2 x)
def mCons (ma : EV) (mr : LV) : LV := fun S h => (ma S h).bnd (kCons1 mr S)
theorem vNilA : SA K Γ E aNil mNil := ⟨fun w r o => o.here w .nil⟩
theorem vConsA (ha : SE K Γ E ta ma) (hr : SA K Γ E tes ms) : SA K Γ E (aCons ta tes) (mCons ma ms) :=
  ⟨fun w r o => ha.run w r (o.bnd fun _ _ _ _ _ _ w1 e1 a1 o1 => hr.run w1 (r.to e1) (o1.bnd fun _ _ _ _ _ _ w2 e2 a2 o2 => Ok.here o2 w2 (.cons (a1.to e2) a2)))⟩
def kTup (xs : List AV) (h : AH) : Rs AV := if xs.length ≤ 1000 then .ok (.tup xs) h else .no
def kLst (xs : List AV) (h : AH) : Rs AV := if xs.length ≤ 1000 then .ok (.id h.length) (h ++ [.lst xs]) else .no
def kLstF (xs : List AV) (h : AH) : Rs AV := if xs.length ≤ 1000 then .ok (.lst xs) h else .no
def mTup (ms : LV) : EV := fun S h => (ms S h).bnd kTup
def mLst (ms : LV) : EV := fun S h => (ms S h).bnd kLst
def mLstF (ms : LV) : EV := fun S h => (ms S h).bnd kLstF
theorem vTup (hs : SA K Γ E tes ms) : SE K Γ E (eTup tes) (mTup ms) := ⟨fun w r o => hs.run w r (o.bnd fun xs h1 F1 H1 φ1 vs w1 e1 a1 o1 => by
  have sz := sz
  unfold kTup at o1
  split at o1
  · rename_i c
    refine ⟨by rw [← a1.len]; omega, fun p hp => ?_⟩
    obtain ⟨w2, e2⟩ := w1.new hp
    exact o1.use w2 e2 (aTup (SqT.of upd_same) (a1.to e2))
  · exact o1.elim)⟩
theorem WR.cellL {p : Addr} (w : WR K Γ F H φ h) (a : ARs K F φ xs vs) (hp : H p = none) : WR K Γ F (upd H p (.lst vs)) (φ ++ [p]) (h ++ [.lst xs]) ∧ Ex F H φ F (upd H p (.lst vs)) (φ ++ [p]) ∧ AR K F (φ ++ [p]) (.id h.length) (.ref p) := by
  obtain ⟨w2, e2⟩ := w.alloc (c := .lst xs) hp fun H' e nF => ⟨nF, vs, e, a.mono (Same.refl _) .app⟩
  exact ⟨w2, e2, aId (by rw [← w.ln, List.getElem?_append_right (Nat.le_refl _), Nat.sub_self]; rfl)⟩
theorem vLst (hs : SA K Γ E tes ms) : SE K Γ E (eLst tes) (mLst ms) := ⟨fun w r o => hs.run w r (o.bnd fun xs h1 F1 H1 φ1 vs w1 e1 a1 o1 => by
  have sz := sz
  unfold kLst at o1
  split at o1
  · rename_i c
    refine ⟨by rw [← a1.len]; omega, fun p hp => ?_⟩
    obtain ⟨w2, e2, a2⟩ := w1.cellL a1 hp
    exact o1.use w2 e2 a2
  · exact o1.elim)⟩
theorem vLstF (hs : SA K Γ E tes ms) : SE K Γ E (eLst tes) (mLstF ms) := ⟨fun w r o => hs.run w r (o.bnd fun xs h1 F1 H1 φ1 vs w1 e1 a1 o1 => by
  have sz := sz
  unfold kLstF at o1
  split at o1
  · rename_i c
    refine ⟨by rw [← a1.len]; omega, fun p hp => ?_⟩
    obtain ⟨w2, e2⟩ := w1.new hp
    exact o1.use w2 e2 (aLst upd_same (a1.to e2))
  · exact o1.elim)⟩
/-! subscripts -/
def opIx (x y : AV) (h : AH) : Rs AV := match x, y with
  | .str z, .int i => if z.length ≤ 16777216 then match atI z.cps.toList i with
    | some c => .ok (.str ⟨#[c]⟩) h
    | none => .no else .no
  | x, .int i => match (sqOf h x).bind fun xs => atI xs i with
    | some y => .ok y h
    | none => .no
  | _, _ => .no
theorem wIx : SO K Γ E (uIx K) opIx := ⟨fun {F H φ h x y v u Q} w a b o => by
  have sz := sz
  unfold opIx at o
  split at o
  · rw [iStr a, iInt b]
    split at o
    · split at o
      · rename_i c1 _ c e
        exact ⟨by rw [sz]; exact c1, c, e, o.here w aStr⟩
      · exact o.elim
    · exact o.elim
  · rw [iInt b]
    split at o
    · rename_i e
      cases c : sqOf h x with
      | none => rw [c] at e; cases e
      | some xs =>
        rw [c] at e
        obtain ⟨p, vs, rfl, h1, h2⟩ := sqOf_ok w a c
        obtain ⟨v, h3, h4⟩ := h2.atI e
        exact ⟨vs, v, h1, h3, o.here w h4⟩
    · exact o.elim
  · exact o.elim⟩
variable {tl th : TO} {ml mh : AS → AH → Rs (Option Int)}
def mONone : AS → AH → Rs (Option Int) := fun _ h => .ok none h
def kOPart (x : AV) (h : AH) : Rs (Option Int) := match x with
  | .int i => .ok (some i) h
  | _ => .no
def mOPart (ma : EV) : AS → AH → Rs (Option Int) := fun S h => (ma S h).bnd kOPart
theorem vONone : SB K Γ E oNone mONone := ⟨fun w r o => o.here w rfl⟩
theorem vOPart (ha : SE K Γ E ta ma) : SB K Γ E (oPart ta) (mOPart ma) := ⟨fun w r o => ha.run w r (o.bnd fun _ _ _ _ _ _ w1 e1 a1 o1 => by
  unfold kOPart at o1
  split at o1
  · rw [iInt a1, eb2]; exact o1.here w1 rfl
  · exact o1.elim)⟩
def cutX (xs : List AV) (lo hi : Option Int) : List AV := (xs.drop (HT.sIx xs.length 0 lo)).take (HT.sIx xs.length xs.length hi - HT.sIx xs.length 0 lo)
theorem ARs.cut (r : ARs K F φ xs vs) {lo hi : Option Int} : ARs K F φ (cutX xs lo hi) (cutV vs lo hi) := by
  unfold cutX cutV
  rw [r.len]
  exact (r.drop _).take _
/-- a part of a text, of a list (new, not written) -/
def opSl (x : AV) (lo hi : Option Int) (h : AH) : Rs AV := match x with
  | .str z => if z.length ≤ 16777216 then .ok (.str (cutS z lo hi)) h else .no
  | x => match lsOf h x with
    | some xs => .ok (.lst (cutX xs lo hi)) h
    | none => .no
def opSlC (x : AV) (lo hi : Option Int) (h : AH) : Rs AV := match lsOf h x with
    | some xs => .ok (.id h.length) (h ++ [.lst (cutX xs lo hi)])
    | none => .no
def kSl2 (f : AV → Option Int → Option Int → AH → Rs AV) (x : AV) (lo hi : Option Int) (h : AH) : Rs AV := f x lo hi h
def kSl1 (f : AV → Option Int → Option Int → AH → Rs AV) (mh : AS → AH → Rs (Option Int)) (S : AS) (x : AV) (lo : Option Int) (h : AH) : Rs AV := (mh S h).bnd (kSl2 f x lo)
def kSl0 (f : AV → Option Int → Option Int → AH → Rs AV) (ml mh : AS → AH → Rs (Option Int)) (S : AS) (x : AV) (h : AH) : Rs AV := (ml S h).bnd (kSl1 f mh S x)
def mSl (f : AV → Option Int → Option Int → AH → Rs AV) (me : EV) (ml mh : AS → AH → Rs (Option Int)) : EV := fun S h => (me S h).bnd (kSl0 f ml mh S)
structure SO3 (K : PySem.W.Frag) (Γ : Gm) (E : XK) (r : V → Option Int → Option Int → Hp → VK → Prop) (f : AV → Option Int → Option Int → AH → Rs AV) : Prop where
  run : ∀ {F H : Hp} {φ : List Addr} {h : AH} {x : AV} {v : V} {lo hi : Option Int} {Q : VK}, WR K Γ F H φ h → AR K F φ x v → Ok K Γ E (AR K) F H φ (f x lo hi h) Q → r v lo hi H Q
theorem vSl {r : V → Option Int → Option Int → Hp → VK → Prop} {f : AV → Option Int → Option Int → AH → Rs AV} (ho : SO3 K Γ E r f) (he : SE K Γ E te me) (hl : SB K Γ E tl ml) (hh : SB K Γ E th mh) : SE K Γ E (eSl r te tl th) (mSl f me ml mh) :=
  ⟨fun w s o => he.run w s (o.bnd fun _ _ _ _ _ _ w1 e1 a1 o1 => hl.run w1 (s.to e1) (o1.bnd fun _ _ _ _ _ _ w2 e2 a2 o2 => by
    subst a2
    exact hh.run w2 ((s.to e1).to e2) (o2.bnd fun _ _ _ _ _ _ w3 e3 a3 o3 => by
      subst a3
      exact ho.run w3 ((a1.to e2).to e3) o3)))⟩
theorem wSl : SO3 K Γ E (uSl K) opSl := ⟨fun {F H φ h x v lo hi Q} w a o => by
  have sz := sz
  unfold opSl at o
  split at o
  · rw [iStr a]
    split at o
    · rename_i c
      exact ⟨by rw [sz]; exact c, o.here w aStr⟩
    · exact o.elim
  · split at o
    · rename_i c
      obtain ⟨p, vs, rfl, h1, h2⟩ := lsOf_ok w a c
      refine ⟨vs, h1, fun p hp => ?_⟩
      obtain ⟨w2, e2⟩ := w.new hp
      exact o.use w2 e2 (aLst upd_same (h2.cut.to e2))
    · exact o.elim⟩
theorem wSlC : SO3 K Γ E (uSl K) opSlC := ⟨fun {F H φ h x v lo hi Q} w a o => by
  unfold opSlC at o
  split at o
  · rename_i c
    obtain ⟨p, vs, rfl, h1, h2⟩ := lsOf_ok w a c
    refine ⟨vs, h1, fun p hp => ?_⟩
    obtain ⟨w2, e2, a2⟩ := w.cellL h2.cut hp
    exact o.use w2 e2 a2
  · exact o.elim⟩
/-! built-ins -/
def mBlt (f : MF) (ms : LV) : EV := fun S h => (ms S h).bnd f
theorem vBlt {r : List V → Hp → VK → Prop} {f : MF} (hf : SC K Γ E r f) (hs : SA K Γ E tes ms) : SE K Γ E (eBlt r tes) (mBlt f ms) := ⟨fun w s o => hs.run w s (o.bnd fun _ _ _ _ _ _ w1 e1 a1 o1 => hf.run w1 a1 o1)⟩
theorem one_inv (a : ARs K F φ [x] vs) : ∃ v, vs = [v] ∧ AR K F φ x v := by
  obtain ⟨v, ws, rfl, h1, h2⟩ := a.cons_inv
  rw [h2.nil_inv]
  exact ⟨v, rfl, h1⟩
theorem two_inv (a : ARs K F φ [x, y] vs) : ∃ v u, vs = [v, u] ∧ AR K F φ x v ∧ AR K F φ y u := by
  obtain ⟨v, ws, rfl, h1, h2⟩ := a.cons_inv
  obtain ⟨u, rfl, h3⟩ := one_inv h2
  exact ⟨v, u, rfl, h1, h3⟩
def fLen : MF := fun xs h => match xs with
  | [.str z] => if z.length ≤ 16777216 then .ok (.int z.length) h else .no
  | [x] => match sqOf h x with
    | some xs => .ok (.int xs.length) h
    | none => .no
  | _ => .no
theorem wLen : SC K Γ E (uLen K) fLen := ⟨fun w a o => by
  have sz := sz
  unfold fLen at o
  split at o
  · obtain ⟨v, rfl, a1⟩ := one_inv a; have a := a1
    rw [iStr a]
    split at o
    · rename_i c
      exact ⟨by rw [sz]; exact c, o.here w aInt⟩
    · exact o.elim
  · obtain ⟨v, rfl, a1⟩ := one_inv a; have a := a1
    split at o
    · rename_i c
      obtain ⟨p, vs, rfl, h1, h2⟩ := sqOf_ok w a c
      rw [el2]
      refine ⟨vs, h1, ?_⟩
      rw [h2.len] at o
      exact o.here w aInt
    · exact o.elim
  · exact o.elim⟩
open Classical in
noncomputable def fInt : MF := fun xs h => match xs with
  | [.int i] => .ok (.int i) h
  | [.bl b] => .ok (.int (if b then 1 else 0)) h
  | [.str z] => match PySem.intText? z with
    | some n => if z.length ≤ 640 then .ok (.int n) h else .no
    | none => .no
  | _ => .no
theorem wInt : SC K Γ E uInt fInt := ⟨fun w a o => by
  unfold fInt at o
  split at o
  · obtain ⟨v, rfl, a1⟩ := one_inv a; have a := a1
    rw [iInt a]; exact o.here w aInt
  · obtain ⟨v, rfl, a1⟩ := one_inv a; have a := a1
    rw [iBl a]; exact o.here w aInt
  · obtain ⟨v, rfl, a1⟩ := one_inv a; have a := a1
    rw [iStr a]
    split at o
    · rename_i c
      split at o
      · rename_i c2
        exact ⟨_, c, c2, o.here w aInt⟩
      · exact o.elim
    · exact o.elim
  · exact o.elim⟩
def fStr : MF := fun xs h => match xs with
  | [.int i] => if i.natAbs.log2 < 1920 then .ok (.str (toString i)) h else .no
  | [.str z] => .ok (.str z) h
  | _ => .no
theorem wStr : SC K Γ E uStr fStr := ⟨fun w a o => by
  unfold fStr at o
  split at o
  · obtain ⟨v, rfl, a1⟩ := one_inv a; have a := a1
    rw [iInt a]
    split at o
    · rename_i c
      exact ⟨c, o.here w aStr⟩
    · exact o.elim
  · obtain ⟨v, rfl, a1⟩ := one_inv a; have a := a1
    rw [iStr a]; exact o.here w aStr
  · exact o.elim⟩
def fMax : MF := fun xs h => match xs with
  | [.int i, .int j] => .ok (.int (if j > i then j else i)) h
  | _ => .no
def fMin : MF := fun xs h => match xs with
  | [.int i, .int j] => .ok (.int (if j < i then j else i)) h
  | _ => .no
theorem wMax : SC K Γ E uMax fMax := ⟨fun w a o => by
  unfold fMax at o
  split at o
  · obtain ⟨v, u, rfl, a1, b⟩ := two_inv a; have a := a1
    rw [iInt a, iInt b]; exact o.here w aInt
  · exact o.elim⟩
theorem wMin : SC K Γ E uMin fMin := ⟨fun w a o => by
  unfold fMin at o
  split at o
  · obtain ⟨v, u, rfl, a1, b⟩ := two_inv a; have a := a1
    rw [iInt a, iInt b]; exact o.here w aInt
  · exact o.elim⟩
/-- list(x), tuple(x): a list that is not written (C: that is) -/
def fList : MF := fun xs h => match xs with
  | [x] => match sqOf h x with
    | some ys => .ok (.lst ys) h
    | none => .no
  | _ => .no
def fListC : MF := fun xs h => match xs with
  | [x] => match sqOf h x with
    | some ys => .ok (.id h.length) (h ++ [.lst ys])
    | none => .no
  | _ => .no
theorem wList : SC K Γ E (uList K) fList := ⟨fun w a o => by
  unfold fList at o
  split at o
  · obtain ⟨v, rfl, a1⟩ := one_inv a; have a := a1
    split at o
    · rename_i c
      obtain ⟨p, vs, rfl, h1, h2⟩ := sqOf_ok w a c
      refine ⟨vs, h1, fun p hp => ?_⟩
      obtain ⟨w2, e2⟩ := w.new hp
      exact o.use w2 e2 (aLst upd_same (h2.to e2))
    · exact o.elim
  · exact o.elim⟩
theorem wListC : SC K Γ E (uList K) fListC := ⟨fun w a o => by
  unfold fListC at o
  split at o
  · obtain ⟨v, rfl, a1⟩ := one_inv a; have a := a1
    split at o
    · rename_i c
      obtain ⟨p, vs, rfl, h1, h2⟩ := sqOf_ok w a c
      refine ⟨vs, h1, fun p hp => ?_⟩
      obtain ⟨w2, e2, a2⟩ := w.cellL h2 hp
      exact o.use w2 e2 a2
    · exact o.elim
  · exact o.elim⟩
def fTuple : MF := fun xs h => match xs with
  | [.tup ys] => .ok (.tup ys) h
  | [x] => match lsOf h x with
    | some ys => .ok (.tup ys) h
    | none => .no
  | _ => .no
theorem wTuple : SC K Γ E (uTuple K) fTuple := ⟨fun w a o => by
  unfold fTuple at o
  split at o
  · obtain ⟨v, rfl, a1⟩ := one_inv a; have a := a1
    obtain ⟨p, vs, rfl, h1, h2⟩ := iTup a
    exact .inr ⟨vs, Same.sqT w.ff h1, o.here w a⟩
  · obtain ⟨v, rfl, a1⟩ := one_inv a; have a := a1
    split at o
    · rename_i c
      obtain ⟨p, vs, rfl, h1, h2⟩ := lsOf_ok w a c
      refine .inl ⟨vs, h1, fun p hp => ?_⟩
      obtain ⟨w2, e2⟩ := w.new hp
      exact o.use w2 e2 (aTup (SqT.of upd_same) (h2.to e2))
    · exact o.elim
  · exact o.elim⟩
/-- isinstance(x, T), T a built-in type -/
def tyName (h : AH) : AV → Option String
  | .non => some "NoneType"
  | .bl _ => some "bool"
  | .int _ => some "int"
  | .str _ => some "str"
  | .tup _ => some "tuple"
  | .lst _ => some "list"
  | .scr _ => some "list"
  | .id n => match h[n]? with
    | some (.lst _) => some "list"
    | some (.fz _) => some "list"
    | some (.dct _) => some "dict"
    | _ => none
def mIsi (t : String) (ma : EV) : EV := fun S h => (ma S h).bnd fun x h1 => match (tyName h1 x).bind fun n => kitB n t with
  | some b => .ok (.bl b) h1
  | none => .no
theorem tyName_ok {k : String → Prop} {n : String} (w : WR K Γ F H φ h) (a : AR K F φ x v) (e : tyName h x = some n) (q : k n) : tyN K v H k := by
  unfold tyName at e
  split at e
  · rw [iNon a]; cases e; exact q
  · rw [iBl a]; cases e; exact q
  · rw [iInt a]; cases e; exact q
  · rw [iStr a]; cases e; exact q
  · obtain ⟨p, vs, rfl, h1, h2⟩ := iTup a; cases e; exact .inr (.inl ⟨⟨_, Same.sqT w.ff h1⟩, q⟩)
  · obtain ⟨p, vs, rfl, h1, h2⟩ := iLst a; cases e; exact .inl ⟨⟨_, SqL.of (w.ff _ _ h1)⟩, q⟩
  · obtain ⟨p, vs, rfl, h1, h2⟩ := iScr a; cases e; exact .inl ⟨⟨_, w.ff.seq h1⟩, q⟩
  · obtain ⟨p, h1, rfl⟩ := iId a
    split at e
    · rename_i c
      obtain ⟨_, vs, h2, _⟩ := w.cl _ _ _ h1 c
      cases e; exact .inl ⟨⟨_, SqL.of h2⟩, q⟩
    · rename_i c
      obtain ⟨vs, h2, _⟩ := w.cl _ _ _ h1 c
      cases e; exact .inl ⟨⟨_, SqL.of (w.ff _ _ h2)⟩, q⟩
    · rename_i c
      obtain ⟨_, vs, h2, _⟩ := w.cl _ _ _ h1 c
      cases e; exact .inr (.inr ⟨⟨_, h2⟩, q⟩)
    · cases e
theorem vIsi {t : String} (ha : SE K Γ E ta ma) : SE K Γ E (eBlt (uIsi K) (aCons ta (aCons (eLit (.ty t)) aNil))) (mIsi t ma) := ⟨fun {F H φ h σ S Q} w s o => ha.run w s (o.bnd fun x h1 F1 H1 φ1 y w1 e1 a1 o1 => by
  have g : tyN K y H1 (fun m => ∃ b, kitB m t = some b ∧ Q (.bl b) H1) → aCons (eLit (V.ty t)) aNil σ H1 fun xs H2 => (fun vs H1 => uIsi K vs H1 Q) (y :: xs) H2 := fun h => h
  split at o1
  · rename_i b c
    cases c2 : tyName h1 x with
    | none => rw [c2] at c; cases c
    | some n =>
      rw [c2] at c
      exact g (tyName_ok w1 a1 c2 ⟨b, c, o1.here w1 aBl⟩)
  · exact o1.elim)⟩
/-! methods of texts and of lists -/
def kMt2 (f : AV → List AV → AH → Rs AV) (x : AV) (ys : List AV) (h : AH) : Rs AV := f x ys h
def kMs (f : AV → List AV → AH → Rs AV) (ms : LV) (S : AS) (x : AV) (h : AH) : Rs AV := match x with
  | .str _ => (ms S h).bnd (f x)
  | _ => .no
def kMl (f : AV → List AV → AH → Rs AV) (ms : LV) (S : AS) (x : AV) (h : AH) : Rs AV := match lsOf h x with
  | some _ => (ms S h).bnd (f x)
  | _ => .no
def mMs (f : AV → List AV → AH → Rs AV) (mo : EV) (ms : LV) : EV := fun S h => (mo S h).bnd (kMs f ms S)
def mMl (f : AV → List AV → AH → Rs AV) (mo : EV) (ms : LV) : EV := fun S h => (mo S h).bnd (kMl f ms S)
structure SM (K : PySem.W.Frag) (Γ : Gm) (E : XK) (r : Str → List V → Hp → VK → Prop) (f : AV → List AV → AH → Rs AV) : Prop where
  run : ∀ {F H : Hp} {φ : List Addr} {h : AH} {z : Str} {xs : List AV} {vs : List V} {Q : VK}, WR K Γ F H φ h → ARs K F φ xs vs → Ok K Γ E (AR K) F H φ (f (.str z) xs h) Q → r z vs H Q
structure SMl (K : PySem.W.Frag) (Γ : Gm) (E : XK) (r : Addr → List V → Hp → VK → Prop) (f : AV → List AV → AH → Rs AV) : Prop where
  run : ∀ {F H : Hp} {φ : List Addr} {h : AH} {x : AV} {a : Addr} {xs : List AV} {vs : List V} {Q : VK}, WR K Γ F H φ h → AR K F φ x (.ref a) → ARs K F φ xs vs → Ok K Γ E (AR K) F H φ (f x xs h) Q → r a vs H Q
theorem vMs {r : Str → List V → Hp → VK → Prop} {f : AV → List AV → AH → Rs AV} (hf : SM K Γ E r f) (ho : SE K Γ E to mo) (hs : SA K Γ E tes ms) : SE K Γ E (eMs r to tes) (mMs f mo ms) := ⟨fun w s o => ho.run w s (o.bnd fun x h1 F1 H1 φ1 y w1 e1 a1 o1 => by
  unfold kMs at o1
  split at o1
  · rw [iStr a1, eb6]
    exact hs.run w1 (s.to e1) (o1.bnd fun _ _ _ _ _ _ w2 e2 a2 o2 => hf.run w2 a2 o2)
  · exact o1.elim)⟩
theorem vMl {r : Addr → List V → Hp → VK → Prop} {f : AV → List AV → AH → Rs AV} (hf : SMl K Γ E r f) (ho : SE K Γ E to mo) (hs : SA K Γ E tes ms) : SE K Γ E (eMl K r to tes) (mMl f mo ms) := ⟨fun w s o => ho.run w s (o.bnd fun x h1 F1 H1 φ1 y w1 e1 a1 o1 => by
  unfold kMl at o1
  split at o1
  · rename_i c
    obtain ⟨p, vs, rfl, h1, h2⟩ := lsOf_ok w1 a1 c
    rw [eb3]
    exact ⟨⟨_, h1⟩, hs.run w1 (s.to e1) (o1.bnd fun _ _ _ _ _ _ w2 e2 a2 o2 => hf.run w2 (a1.to e2) a2 o2)⟩
  · exact o1.elim)⟩
def fFind (x : AV) (ys : List AV) (h : AH) : Rs AV := match x, ys with
  | .str z, [.str b] => .ok (.int (Txt.find z b)) h
  | _, _ => .no
theorem wFind : SM K Γ E uFind fFind := ⟨fun w a o => by
  unfold fFind at o
  split at o
  · rename_i e
    cases e
    obtain ⟨v, rfl, a1⟩ := one_inv a; have a := a1
    rw [iStr a]; exact o.here w aInt
  · exact o.elim⟩
def fStarts (x : AV) (ys : List AV) (h : AH) : Rs AV := match x, ys with
  | .str z, [.str b] => .ok (.bl (Txt.startswith z b)) h
  | _, _ => .no
theorem wStarts : SM K Γ E uStarts fStarts := ⟨fun w a o => by
  unfold fStarts at o
  split at o
  · rename_i e
    cases e
    obtain ⟨v, rfl, a1⟩ := one_inv a; have a := a1
    rw [iStr a]; exact o.here w aBl
  · exact o.elim⟩
def fSplit (x : AV) (ys : List AV) (h : AH) : Rs AV := match x, ys with
  | .str z, [.str b] => if (b.length == 0) = false ∧ z.length + 2 ≤ 16777216 then .ok (.lst ((Txt.split z b).map AV.str)) h else .no
  | _, _ => .no
theorem ARs.strs : ∀ {zs : List Str}, ARs K F φ (zs.map AV.str) (zs.map V.str)
  | [] => .nil
  | _ :: _ => .cons aStr ARs.strs
theorem ARs.ints : ∀ {zs : List Int}, ARs K F φ (zs.map AV.int) (zs.map V.int)
  | [] => .nil
  | _ :: _ => .cons aInt ARs.ints
theorem wSplit : SM K Γ E uSplit fSplit := ⟨fun w a o => by
  have sz := sz
  unfold fSplit at o
  split at o
  · rename_i e
    cases e
    obtain ⟨v, rfl, a1⟩ := one_inv a; have a := a1
    rw [iStr a]
    split at o
    · rename_i c
      refine ⟨c.1, by rw [sz]; exact c.2, fun p hp => ?_⟩
      obtain ⟨w2, e2⟩ := w.new hp
      exact o.use w2 e2 (aLst upd_same .strs)
    · exact o.elim
  · exact o.elim⟩
def fRstrip (x : AV) (ys : List AV) (h : AH) : Rs AV := match x, ys with
  | .str z, [] => if z.length ≤ 16777216 then .ok (.str (Txt.rstrip z)) h else .no
  | _, _ => .no
theorem wRstrip : SM K Γ E uRstrip fRstrip := ⟨fun w a o => by
  have sz := sz
  unfold fRstrip at o
  split at o
  · rename_i e
    cases e
    rw [a.nil_inv]
    split at o
    · rename_i c
      exact ⟨by rw [sz]; exact c, o.here w aStr⟩
    · exact o.elim
  · exact o.elim⟩
def fIsdigit (x : AV) (ys : List AV) (h : AH) : Rs AV := match x, ys with
  | .str z, [] => .ok (.bl (Txt.isdigit z)) h
  | _, _ => .no
theorem wIsdigit : SM K Γ E uIsdigit fIsdigit := ⟨fun w a o => by
  unfold fIsdigit at o
  split at o
  · rename_i e
    cases e
    rw [a.nil_inv]
    exact o.here w aBl
  · exact o.elim⟩
/-- a list written -/
theorem WR.putL {n : Nat} {a : Addr} (w : WR K Γ F H φ h) (hn : φ[n]? = some a) (hc : h[n]? = some (.lst xs)) (r : ARs K F φ ys us) : WR K Γ F (upd H a (.lst us)) φ (h.set n (.lst ys)) ∧ Ex F H φ F (upd H a (.lst us)) φ := by
  obtain ⟨nF, _, _⟩ := w.cl _ _ _ hn hc
  exact w.put hn nF fun H' e => ⟨nF, us, e, r⟩
def fAppend (x : AV) (ys : List AV) (h : AH) : Rs AV := match x, ys with
  | .id n, [y] => match h[n]? with
    | some (.lst xs) => if xs.length < 16777216 then .ok .non (h.set n (.lst (xs ++ [y]))) else .no
    | _ => .no
  | _, _ => .no
theorem wAppend : SMl K Γ E uAppend fAppend := ⟨fun w b a o => by
  have sz := sz
  unfold fAppend at o
  split at o
  · split at o
    · rename_i c
      obtain ⟨p, h1, e⟩ := iId b
      cases e
      obtain ⟨nF, vs, h2, h3⟩ := w.cl _ _ _ h1 c
      obtain ⟨v, rfl, a1⟩ := one_inv a; have a := a1
      split at o
      · rename_i l
        refine ⟨vs, h2, by rw [← h3.len, sz]; exact l, ?_⟩
        obtain ⟨w2, e2⟩ := w.putL h1 c (h3.app (.one a))
        exact o.use w2 e2 aNon
      · exact o.elim
    · exact o.elim
  · exact o.elim⟩
theorem dropLast_app {α : Type} {xs : List α} {y : α} (h : xs.getLast? = some y) : xs = xs.dropLast ++ [y] := by
  obtain ⟨ys, rfl⟩ := List.getLast?_eq_some_iff.mp h
  simp
def fPop (x : AV) (ys : List AV) (h : AH) : Rs AV := match x, ys with
  | .id n, [] => match h[n]? with
    | some (.lst xs) => match xs.getLast? with
      | some y => .ok y (h.set n (.lst xs.dropLast))
      | none => .no
    | _ => .no
  | _, _ => .no
theorem wPop : SMl K Γ E uPop fPop := ⟨fun w b a o => by
  unfold fPop at o
  split at o
  · split at o
    · rename_i c
      obtain ⟨p, h1, e⟩ := iId b
      cases e
      obtain ⟨nF, vs, h2, h3⟩ := w.cl _ _ _ h1 c
      rw [a.nil_inv]
      split at o
      · rename_i y l
        have e3 : _ = _ ++ [y] := dropLast_app l
        rw [e3] at h3
        obtain ⟨v, ws, rfl, h4, h5⟩ := h3.snoc_inv
        refine ⟨ws, v, h2, ?_⟩
        obtain ⟨w2, e2⟩ := w.putL h1 c h5
        exact o.use w2 e2 h4
      · exact o.elim
    · exact o.elim
  · exact o.elim⟩
def fPop0 (x : AV) (ys : List AV) (h : AH) : Rs AV := match x, ys with
  | .id n, [.int 0] => match h[n]? with
    | some (.lst (y :: xs)) => .ok y (h.set n (.lst xs))
    | _ => .no
  | _, _ => .no
theorem wPop0 : SMl K Γ E uPop0 fPop0 := ⟨fun w b a o => by
  unfold fPop0 at o
  split at o
  · split at o
    · rename_i c
      obtain ⟨p, h1, e⟩ := iId b
      cases e
      obtain ⟨nF, vs, h2, h3⟩ := w.cl _ _ _ h1 c
      obtain ⟨v, rfl, a1⟩ := one_inv a; have a := a1
      rw [iInt a]
      obtain ⟨u, ws, rfl, h4, h5⟩ := h3.cons_inv
      refine ⟨rfl, ws, u, h2, ?_⟩
      obtain ⟨w2, e2⟩ := w.putL h1 c h5
      exact o.use w2 e2 h4
    · exact o.elim
  · exact o.elim⟩
end
end Hf
set_option Elab.async false
set_option linter.all false
set_option maxRecDepth 100000
set_option maxHeartbeats 4000000
namespace Hf
open PySem PySem.Spec L2 PyProof.Rows
/-! what holds no cell -/
mutual
def cl : AV → Bool
  | .tup xs => cls xs
  | .lst xs => cls xs
  | .scr xs => cls xs
  | .id _ => false
  | _ => true
def cls : List AV → Bool
  | [] => true
  | x :: xs => cl x && cls xs
end
section
variable {K : PySem.W.Frag} {Γ : Gm} {E : XK} {F F1 H H1 : Hp} {φ φ1 : List Addr} {h h1 : AH} {S : AS} {σ : L2.St} {Q : VK} {x y : AV} {v u : V} {xs ys : List AV} {vs us : List V}
  {ta tb tc te to : TE} {ma mb mc me mo : EV} {tes : TA} {ms : LV}
mutual
theorem cl_ok : ∀ {x : AV} {v : V}, cl x = true → AR K F φ x v → AR K F φ1 x v
  | .non, _, _, a => by rw [iNon a]; exact aNon
  | .bl _, _, _, a => by rw [iBl a]; exact aBl
  | .int _, _, _, a => by rw [iInt a]; exact aInt
  | .str _, _, _, a => by rw [iStr a]; exact aStr
  | .tup xs, _, c, a => by
    obtain ⟨p, vs, rfl, h1, h2⟩ := iTup a
    exact aTup h1 (cls_ok (by unfold cl at c; exact c) h2)
  | .lst xs, _, c, a => by
    obtain ⟨p, vs, rfl, h1, h2⟩ := iLst a
    exact aLst h1 (cls_ok (by unfold cl at c; exact c) h2)
  | .scr xs, _, c, a => by
    obtain ⟨p, vs, rfl, h1, h2⟩ := iScr a
    exact aScr h1 (cls_ok (by unfold cl at c; exact c) h2)
  | .id n, _, c, a => by unfold cl at c; cases c
theorem cls_ok : ∀ {xs : List AV} {vs : List V}, cls xs = true → ARs K F φ xs vs → ARs K F φ1 xs vs
  | [], _, _, a => by rw [a.nil_inv]; exact .nil
  | x :: xs, _, c, a => by
    obtain ⟨v, ws, rfl, h1, h2⟩ := a.cons_inv
    unfold cls at c
    rw [Bool.and_eq_true] at c
    exact .cons (cl_ok c.1 h1) (cls_ok c.2 h2)
end
/-! .. by what its cells hold -/
mutual
def avSub (r : Nat → Option AV) : AV → Option AV
  | .non => some .non
  | .bl b => some (.bl b)
  | .int i => some (.int i)
  | .str z => some (.str z)
  | .tup xs => (avSubs r xs).map AV.tup
  | .lst xs => (avSubs r xs).map AV.lst
  | .scr xs => (avSubs r xs).map AV.scr
  | .id n => r n
def avSubs (r : Nat → Option AV) : List AV → Option (List AV)
  | [] => some []
  | x :: xs => match avSub r x, avSubs r xs with
    | some d, some ds => some (d :: ds)
    | _, _ => none
end
def avId (h : AH) : Nat → Nat → Option AV
  | 0, _ => none
  | m + 1, n => match h[n]? with
    | some (.lst xs) => (avSubs (avId h m) xs).map AV.lst
    | some (.fz xs) => (avSubs (avId h m) xs).map AV.lst
    | _ => none
def avOf (h : AH) (x : AV) : Option AV := avSub (avId h 30) x
/-- all lists are written no more -/
def shutF (F H : Hp) (φ : List Addr) : Hp := fun a => if a ∈ φ then (match H a with
  | some (.lst vs) => some (.lst vs)
  | _ => F a) else F a
theorem shut_out {a : Addr} (n : a ∉ φ) : shutF F H φ a = F a := by unfold shutF; rw [if_neg n]
theorem shut_ff (s : Same F H) : Same F (shutF F H φ) := fun a o e => by
  unfold shutF
  split
  · split
    · rename_i c
      rw [s _ _ e] at c
      cases c
      exact (s _ _ e).symm ▸ rfl
    · exact e
  · exact e
theorem shut_fh (s : Same F H) : Same (shutF F H φ) H := fun a o e => by
  unfold shutF at e
  split at e
  · split at e
    · rename_i c
      cases e
      exact c
    · exact s _ _ e
  · exact s _ _ e
mutual
theorem avSub_ok {r : Nat → Option AV} (s : Same F F1) (hr : ∀ n a y, φ[n]? = some a → r n = some y → AR K F1 [] y (.ref a)) : ∀ {x y : AV} {v : V}, AR K F φ x v → avSub r x = some y → AR K F1 [] y v
  | .non, _, _, a, e => by rw [iNon a]; unfold avSub at e; cases e; exact aNon
  | .bl _, _, _, a, e => by rw [iBl a]; unfold avSub at e; cases e; exact aBl
  | .int _, _, _, a, e => by rw [iInt a]; unfold avSub at e; cases e; exact aInt
  | .str _, _, _, a, e => by rw [iStr a]; unfold avSub at e; cases e; exact aStr
  | .tup xs, _, _, a, e => by
    obtain ⟨p, vs, rfl, h1, h2⟩ := iTup a
    unfold avSub at e
    cases c : avSubs r xs with
    | none => rw [c] at e; cases e
    | some ds => rw [c] at e; cases e; exact aTup (Same.sqT s h1) (avSubs_ok s hr h2 c)
  | .lst xs, _, _, a, e => by
    obtain ⟨p, vs, rfl, h1, h2⟩ := iLst a
    unfold avSub at e
    cases c : avSubs r xs with
    | none => rw [c] at e; cases e
    | some ds => rw [c] at e; cases e; exact aLst (s _ _ h1) (avSubs_ok s hr h2 c)
  | .scr xs, _, _, a, e => by
    obtain ⟨p, vs, rfl, h1, h2⟩ := iScr a
    unfold avSub at e
    cases c : avSubs r xs with
    | none => rw [c] at e; cases e
    | some ds => rw [c] at e; cases e; exact aScr (s.seq h1) (avSubs_ok s hr h2 c)
  | .id n, _, _, a, e => by
    obtain ⟨p, h1, rfl⟩ := iId a
    unfold avSub at e
    exact hr _ _ _ h1 e
theorem avSubs_ok {r : Nat → Option AV} (s : Same F F1) (hr : ∀ n a y, φ[n]? = some a → r n = some y → AR K F1 [] y (.ref a)) : ∀ {xs ys : List AV} {vs : List V}, ARs K F φ xs vs → avSubs r xs = some ys → ARs K F1 [] ys vs
  | [], _, _, a, e => by rw [a.nil_inv]; unfold avSubs at e; cases e; exact .nil
  | x :: xs, _, _, a, e => by
    obtain ⟨v, ws, rfl, h1, h2⟩ := a.cons_inv
    unfold avSubs at e
    split at e
    · rename_i c1 c2
      cases e
      exact .cons (avSub_ok s hr h1 c1) (avSubs_ok s hr h2 c2)
    · cases e
end
theorem avId_ok (w : WR K Γ F H φ h) : ∀ (m n : Nat) (a : Addr) (y : AV), φ[n]? = some a → avId h m n = some y → AR K (shutF F H φ) [] y (.ref a)
  | 0, _, _, _, _, e => by unfold avId at e; cases e
  | m + 1, n, a, d, hn, e => by
    have hm := List.mem_of_getElem? hn
    unfold avId at e
    split at e
    · rename_i xs c
      obtain ⟨_, vs, h1, h2⟩ := w.cl _ _ _ hn c
      cases c : avSubs (avId h m) xs with
      | none => rw [c] at e; cases e
      | some ds =>
        rw [c] at e; cases e
        exact aLst (by unfold shutF; rw [if_pos hm, h1]) (avSubs_ok (shut_ff w.ff) (avId_ok w m) h2 c)
    · rename_i xs c
      obtain ⟨vs, h1, h2⟩ := w.cl _ _ _ hn c
      cases c : avSubs (avId h m) xs with
      | none => rw [c] at e; cases e
      | some ds =>
        rw [c] at e; cases e
        exact aLst (by unfold shutF; rw [if_pos hm, w.ff _ _ h1]) (avSubs_ok (shut_ff w.ff) (avId_ok w m) h2 c)
    · cases e
theorem avOf_ok (w : WR K Γ F H φ h) (a : AR K F φ x v) (e : avOf h x = some y) : AR K (shutF F H φ) [] y v := avSub_ok (shut_ff w.ff) (avId_ok w 30) a e
/-! calls -/
def mCall (m : MF) (ms : LV) : EV := fun S h => (ms S h).bnd m
theorem vCall {sp : Sp} {m : MF} (hf : SF K Γ E sp m) (hs : SA K Γ E tes ms) : SE K Γ E (eCall sp E tes) (mCall m ms) := ⟨fun w s o => hs.run w s (o.bnd fun _ _ _ _ _ _ w1 e1 a1 o1 => hf.run w1 a1 o1)⟩
def clArg (h : AH) : AV → Option (AV × AH)
  | .id n => match h[n]? with
    | some (.lst xs) => if cls xs = true then some (.lst xs, h.set n (.fz xs)) else none
    | some (.fz xs) => if cls xs = true then some (.lst xs, h) else none
    | _ => none
  | x => if cl x = true then some (x, h) else none
def clArgs (h : AH) : List AV → Option (List AV × AH)
  | [] => some ([], h)
  | x :: xs => match clArg h x with
    | some (y, h1) => match clArgs h1 xs with
      | some (ys, h2) => some (y :: ys, h2)
      | none => none
    | none => none
theorem clArg_ok (w : WR K Γ F H φ h) (a : AR K F φ x v) (e : clArg h x = some (y, h1)) : ∃ F1, WR K Γ F1 H φ h1 ∧ Ex F H φ F1 H φ ∧ AR K F1 [] y v := by
  unfold clArg at e
  split at e
  · obtain ⟨p, hn, rfl⟩ := iId a
    split at e
    · rename_i c
      split at e
      · rename_i c1
        cases e
        obtain ⟨F1, w1, e1, vs, h2, h3⟩ := w.freeze hn c
        exact ⟨F1, w1, e1, aLst h2 (cls_ok c1 h3)⟩
      · cases e
    · rename_i c
      split at e
      · rename_i c1
        cases e
        obtain ⟨vs, h2, h3⟩ := w.cl _ _ _ hn c
        exact ⟨F, w, .refl, aLst h2 (cls_ok c1 h3)⟩
      · cases e
    · cases e
  · split at e
    · rename_i c1
      cases e
      exact ⟨F, w, .refl, cl_ok c1 a⟩
    · cases e
theorem clArgs_ok : ∀ {xs ys : List AV} {vs : List V} {F : Hp} {h h1 : AH}, WR K Γ F H φ h → ARs K F φ xs vs → clArgs h xs = some (ys, h1) → ∃ F1, WR K Γ F1 H φ h1 ∧ Ex F H φ F1 H φ ∧ ARs K F1 [] ys vs
  | [], _, _, F, h, _, w, a, e => by rw [a.nil_inv]; unfold clArgs at e; cases e; exact ⟨F, w, .refl, .nil⟩
  | x :: xs, _, _, F, h, _, w, a, e => by
    obtain ⟨v, ws, rfl, a1, a2⟩ := a.cons_inv
    unfold clArgs at e
    split at e
    · rename_i c1
      split at e
      · rename_i c2
        cases e
        obtain ⟨F1, w1, e1, b1⟩ := clArg_ok w a1 c1
        obtain ⟨F2, w2, e2, b2⟩ := clArgs_ok w1 (a2.to e1) c2
        exact ⟨F2, w2, e1.trans e2, .cons (b1.mono e2.ff .refl) b2⟩
      · cases e
    · cases e
/-- a def called on its own: what it makes is thrown away, but what it tells -/
def fin (h1 : AH) (r : Rs AV) : Rs AV := match r with
  | .ok x h' => match avOf h' x with
    | some y => .ok y h1
    | none => .no
  | .ex c p h' => match avOf h' p with
    | some y => .ex c y h1
    | none => .no
  | .no => .no
def kCallP (m : MF) (xs : List AV) (h : AH) : Rs AV := match clArgs h xs with
  | some (ys, h1) => fin h1 (m ys [])
  | none => .no
def mCallP (m : MF) (ms : LV) : EV := fun S h => (ms S h).bnd (kCallP m)
theorem Ex.shut {F' H' : Hp} {φ' : List Addr} (s : Same F' H') (e : Ex F H [] F' H' φ') : Ex F H φ (shutF F' H' φ') H' φ := by
  refine ⟨e.ff.trans (shut_ff s), .refl, fun a o h1 _ => ?_, fun _ h => .inl h⟩
  obtain ⟨g1, g2⟩ := e.fr a o h1 (by simp)
  refine ⟨g1, fun z => ?_⟩
  rw [shut_out (fun m => ?_)]
  · exact g2 z
  · rcases e.new a m with z | z
    · simp at z
    · rw [h1] at z; cases z
theorem kCallP_ok {sp : Sp} {m : MF} {F1 H1 : Hp} {φ1 : List Addr} {xs : List AV} {vs : List V} {h1 : AH} (hf : SF K Γ E sp m) (w1 : WR K Γ F1 H1 φ1 h1) (a1 : ARs K F1 φ1 xs vs) (o1 : Ok K Γ E (AR K) F1 H1 φ1 (kCallP m xs h1) Q) : sp vs H1 Q E := by
  unfold kCallP at o1
  split at o1
  · rename_i ys h2 c
    obtain ⟨F2, w2, e2, b⟩ := clArgs_ok w1 a1 c
    have w0 : WR K Γ F2 H1 [] [] := ⟨w2.ff, fun i j a h => by simp at h, rfl, fun n a c h => by simp at h⟩
    refine hf.run w0 b ?_
    have o2 := o1.shift e2
    cases r : m ys [] with
    | no => rw [r] at o2; exact o2
    | ok x h' =>
      rw [r] at o2
      unfold fin at o2
      dsimp only at o2
      intro F' H' φ' v w3 e3 a3
      split at o2
      · rename_i y cy
        have e4 := Ex.shut (φ := φ1) w3.ff e3
        have w4 : WR K Γ (shutF F' H' φ') H' φ1 h2 := w2.carry (shut_fh w3.ff) (φ' := []) (φ2 := []) ⟨e4.ff, .nil, fun a o h _ => by
          by_cases c : a ∈ φ1
          · obtain ⟨g1, g2⟩ := e3.fr a o h (by simp)
            refine ⟨g1, fun z => ?_⟩
            rw [shut_out (fun m => ?_)]
            · exact g2 z
            · rcases e3.new a m with z | z
              · simp at z
              · rw [h] at z; cases z
          · exact e4.fr a o h c, fun _ h => .inl h⟩ (fun _ _ => by simp)
        exact o2.use w4 e4 ((avOf_ok w3 a3 cy).mono (Same.refl _) .nil)
      · exact o2.elim
    | ex c p h' =>
      rw [r] at o2
      unfold fin at o2
      dsimp only at o2
      intro F' H' φ' d v w3 e3 hd a3
      split at o2
      · rename_i y cy
        have e4 := Ex.shut (φ := φ1) w3.ff e3
        have w4 : WR K Γ (shutF F' H' φ') H' φ1 h2 := w2.carry (shut_fh w3.ff) (φ' := []) (φ2 := []) ⟨e4.ff, .nil, fun a o h _ => by
          by_cases c : a ∈ φ1
          · obtain ⟨g1, g2⟩ := e3.fr a o h (by simp)
            refine ⟨g1, fun z => ?_⟩
            rw [shut_out (fun m => ?_)]
            · exact g2 z
            · rcases e3.new a m with z | z
              · simp at z
              · rw [h] at z; cases z
          · exact e4.fr a o h c, fun _ h => .inl h⟩ (fun _ _ => by simp)
        exact o2 _ _ _ d v w4 e4 (shut_ff w3.ff _ _ hd) ((avOf_ok w3 a3 cy).mono (Same.refl _) .nil)
      · exact o2.elim
  · exact o1.elim
theorem vCallP {sp : Sp} {m : MF} (hf : SF K Γ E sp m) (hs : SA K Γ E tes ms) : SE K Γ E (eCall sp E tes) (mCallP m ms) := ⟨fun w s o => hs.run w s (o.bnd fun xs h1 F1 H1 φ1 vs w1 e1 a1 o1 => kCallP_ok hf w1 a1 o1)⟩
/-! fields, methods, instances -/
theorem KRs.lookup {f : Str} : ∀ {fx : List (Str × AV)} {fs : List (Str × V)}, KRs K F φ fx fs → ∀ {x}, fx.lookup f = some x → ∃ v, fs.lookup f = some v ∧ AR K F φ x v
  | [], _, _, _, e => by simp at e
  | (g, y) :: fx, fs, r, x, e => by
    obtain ⟨r1, r2⟩ := r
    cases fs with
    | nil => simp at r1
    | cons p fs =>
      obtain ⟨g', v⟩ := p
      simp at r1
      obtain ⟨rfl, r1⟩ := r1
      obtain ⟨v', ws, e1, a1, a2⟩ := r2.cons_inv
      simp at e1
      obtain ⟨rfl, rfl⟩ := e1
      rw [List.lookup_cons] at e ⊢
      cases c : f == g with
      | true => rw [c] at e; cases e; exact ⟨v, rfl, a1⟩
      | false => rw [c] at e; exact KRs.lookup ⟨r1, a2⟩ e
theorem KRs.lookup_none {f : Str} : ∀ {fx : List (Str × AV)} {fs : List (Str × V)}, fx.map (·.1) = fs.map (·.1) → fx.lookup f = none → fs.lookup f = none
  | [], fs, r, _ => by
    have : fs = [] := by simpa using r.symm
    rw [this]; rfl
  | (g, y) :: fx, fs, r1, e => by
    cases fs with
    | nil => simp at r1
    | cons p fs =>
      obtain ⟨g', v⟩ := p
      simp at r1
      obtain ⟨rfl, r1⟩ := r1
      rw [List.lookup_cons] at e ⊢
      cases c : f == g with
      | true => rw [c] at e; cases e
      | false => rw [c] at e; exact KRs.lookup_none r1 e
def putX (f : Str) (v : AV) : List (Str × AV) → List (Str × AV)
  | [] => [(f, v)]
  | (g, x) :: r => if g = f then (g, v) :: r else (g, x) :: putX f v r
theorem KRs.put {f : Str} (a : AR K F φ x v) : ∀ {fx : List (Str × AV)} {fs : List (Str × V)}, KRs K F φ fx fs → KRs K F φ (putX f x fx) (putF f v fs)
  | [], fs, r => by
    have : fs = [] := by simpa using r.1.symm
    subst this
    exact ⟨rfl, .one a⟩
  | (g, y) :: fx, fs, r => by
    obtain ⟨r1, r2⟩ := r
    cases fs with
    | nil => simp at r1
    | cons p fs =>
      obtain ⟨g', u⟩ := p
      simp at r1
      obtain ⟨rfl, r1⟩ := r1
      obtain ⟨v', ws, e1, a1, a2⟩ := r2.cons_inv
      simp at e1
      obtain ⟨rfl, rfl⟩ := e1
      unfold putX putF
      split
      · exact ⟨by simp [r1], .cons a a2⟩
      · obtain ⟨q1, q2⟩ := KRs.put a (fx := fx) (fs := fs) ⟨r1, a2⟩
        exact ⟨by simp [q1], .cons a1 q2⟩
def kFld (cs : List Str) (f : Str) (x : AV) (h : AH) : Rs AV := match x with
  | .id n => match h[n]? with
    | some (.ins c fs) => if c ∈ cs then match fs.lookup f with
      | some y => .ok y h
      | none => .no else .no
    | _ => .no
  | _ => .no
def mFld (cs : List Str) (f : Str) (ma : EV) : EV := fun S h => (ma S h).bnd (kFld cs f)
theorem vFld {cs : List Str} {f : Str} (ha : SE K Γ E ta ma) : SE K Γ E (eFld Γ cs f ta) (mFld cs f ma) := ⟨fun w s o => ha.run w s (o.bnd fun x h1 F1 H1 φ1 v w1 e1 a1 o1 => by
  unfold kFld at o1
  split at o1
  · obtain ⟨p, hn, rfl⟩ := iId a1
    split at o1
    · rename_i c fs hc
      split at o1
      · rename_i m
        split at o1
        · rename_i y l
          obtain ⟨nF, dx, fv, h2, h3⟩ := w1.cl _ _ _ hn hc
          obtain ⟨v, h4, h5⟩ := h3.lookup l
          exact ⟨c, dx, fv, m, h2, v, h4, o1.here w1 h5⟩
        · exact o1.elim
      · exact o1.elim
    · exact o1.elim
  · exact o1.elim)⟩
structure STb (K : PySem.W.Frag) (Γ : Gm) (E : XK) (cs : List (Str × Sp)) (tab : List (Str × MF)) : Prop where
  run : ∀ c m, tab.lookup c = some m → ∃ sp, (c, sp) ∈ cs ∧ SF K Γ E sp m
theorem STb.nil : STb K Γ E [] [] := ⟨fun c m e => by simp at e⟩
theorem STb.cons {c : Str} {sp : Sp} {m : MF} {cs : List (Str × Sp)} {tab : List (Str × MF)} (f : SF K Γ E sp m) (t : STb K Γ E cs tab) : STb K Γ E ((c, sp) :: cs) ((c, m) :: tab) := ⟨fun d m' e => by
  rw [List.lookup_cons] at e
  cases b : d == c with
  | true =>
    rw [b] at e
    cases e
    have : d = c := by simpa using b
    subst this
    exact ⟨sp, List.mem_cons_self, f⟩
  | false =>
    rw [b] at e
    obtain ⟨sp', h1, h2⟩ := t.run d m' e
    exact ⟨sp', List.mem_cons_of_mem _ h1, h2⟩⟩
def kMth2 (m : MF) (x : AV) (ys : List AV) (h : AH) : Rs AV := m (x :: ys) h
def kMth (n : Str) (tab : List (Str × MF)) (ms : LV) (S : AS) (x : AV) (h : AH) : Rs AV := match x with
  | .id k => match h[k]? with
    | some (.ins c fs) => match tab.lookup c, fs.lookup n with
      | some m, none => (ms S h).bnd (kMth2 m x)
      | _, _ => .no
    | _ => .no
  | _ => .no
def mMth (n : Str) (tab : List (Str × MF)) (mo : EV) (ms : LV) : EV := fun S h => (mo S h).bnd (kMth n tab ms S)
theorem vMth {m : Str} {cs : List (Str × Sp)} {tab : List (Str × MF)} (ht : STb K Γ E cs tab) (ho : SE K Γ E ta ma) (hs : SA K Γ E tes ms) : SE K Γ E (eMth Γ m cs E ta tes) (mMth m tab ma ms) := ⟨fun w s o => ho.run w s (o.bnd fun x h1 F1 H1 φ1 v w1 e1 a1 o1 => by
  unfold kMth at o1
  split at o1
  · obtain ⟨p, hn, rfl⟩ := iId a1
    split at o1
    · rename_i c fs hc
      split at o1
      · rename_i m' l1 l2
        obtain ⟨nF, dx, fv, h2, h3⟩ := w1.cl _ _ _ hn hc
        obtain ⟨sp, h4, h5⟩ := ht.run _ _ l1
        refine ⟨(c, sp), h4, dx, fv, h2, KRs.lookup_none h3.1 l2, ?_⟩
        exact hs.run w1 (s.to e1) (o1.bnd fun ys h2 F2 H2 φ2 us w2 e2 a2 o2 => h5.run w2 (.cons (a1.to e2) a2) o2)
      · exact o1.elim
    · exact o1.elim
  · exact o1.elim)⟩
def kNew2 (n : Nat) (v : AV) (h : AH) : Rs AV := match v with
  | .non => .ok (.id n) h
  | _ => .no
def kNew (c : Str) (m : MF) (xs : List AV) (h : AH) : Rs AV := (m (.id h.length :: xs) (h ++ [.ins c []])).bnd (kNew2 h.length)
def mNew (c : Str) (m : MF) (ms : LV) : EV := fun S h => (ms S h).bnd (kNew c m)
theorem vNew {c : Str} {sp : Sp} {m : MF} (hf : SF K Γ E sp m) (hs : SA K Γ E tes ms) : SE K Γ E (eNew Γ c sp E tes) (mNew c m ms) := ⟨fun w s o => hs.run w s (o.bnd fun xs h1 F1 H1 φ1 vs w1 e1 a1 o1 x dx hx hd ne => by
  obtain ⟨w2, e2⟩ := w1.new (o := .own x) hd
  have hx2 : upd H1 dx (.own x) x = none := by rw [upd_ne (Ne.symm ne)]; exact hx
  obtain ⟨w3, e3⟩ := w2.alloc (o := .ins (Γ c) dx []) (c := .ins c []) hx2 fun H' e nF => ⟨nF, dx, [], e, rfl, .nil⟩
  have a3 : AR K (upd F1 dx (.own x)) (φ1 ++ [x]) (.id h1.length) (.ref x) := aId (by rw [← w1.ln, List.getElem?_append_right (Nat.le_refl _), Nat.sub_self]; rfl)
  have e4 := e2.trans e3
  unfold kNew at o1
  refine hf.run w3 (.cons a3 (a1.to e4)) ((o1.shift e4).bnd fun y h5 F5 H5 φ5 v w5 e5 a5 o5 => ?_)
  unfold kNew2 at o5
  split at o5
  · exact ⟨iNon a5, o5.here w5 (a3.to e5)⟩
  · exact o5.elim)⟩
def kIsC (tab : List (Str × Bool)) (x : AV) (h : AH) : Rs AV := match x with
  | .id n => match h[n]? with
    | some (.ins c fs) => match tab.find? (fun z => decide (z.1 = c)) with
      | some b => .ok (.bl b.2) h
      | none => .no
    | _ => .no
  | _ => .no
def mIsC (tab : List (Str × Bool)) (ma : EV) : EV := fun S h => (ma S h).bnd (kIsC tab)
theorem vIsC {tab : List (Str × Bool)} (ha : SE K Γ E ta ma) : SE K Γ E (eIsC Γ tab ta) (mIsC tab ma) := ⟨fun w s o => ha.run w s (o.bnd fun x h1 F1 H1 φ1 v w1 e1 a1 o1 => by
  unfold kIsC at o1
  split at o1
  · obtain ⟨p, hn, rfl⟩ := iId a1
    split at o1
    · rename_i c fs hc
      split at o1
      · rename_i b l
        obtain ⟨nF, dx, fv, h2, h3⟩ := w1.cl _ _ _ hn hc
        have m := List.mem_of_find?_eq_some l
        have m2 := List.find?_some l
        simp at m2
        subst m2
        exact ⟨b, m, dx, fv, h2, o1.here w1 aBl⟩
      · exact o1.elim
    · exact o1.elim
  · exact o1.elim)⟩
/-! targets -/
def mNm (i : Nat) : GV := fun x S h => .ok (S.set i (some x)) h
theorem vNm {i : Nat} : SG K Γ E (gNm i) (mNm i) := ⟨fun w s a o => Ok.here (R := SR K) o w (s.set a)⟩
def mPr (i j : Nat) : GV := fun x S h => match x with
  | .tup [x, y] => .ok ((S.set i (some x)).set j (some y)) h
  | _ => .no
theorem vPr {i j : Nat} : SG K Γ E (gPr K i j) (mPr i j) := ⟨fun w s a o => by
  unfold mPr at o
  split at o
  · obtain ⟨p, vs, rfl, h1, h2⟩ := iTup a
    obtain ⟨v, u, rfl, h3, h4⟩ := two_inv h2
    exact ⟨v, u, Same.sqT w.ff h1, Ok.here (R := SR K) o w ((s.set h3).set h4)⟩
  · exact o.elim⟩
def mTr (i j k : Nat) : GV := fun x S h => match x with
  | .tup [x, y, z] => .ok (((S.set i (some x)).set j (some y)).set k (some z)) h
  | _ => .no
theorem vTr {i j k : Nat} : SG K Γ E (gTr K i j k) (mTr i j k) := ⟨fun w s a o => by
  unfold mTr at o
  split at o
  · obtain ⟨p, vs, rfl, h1, h2⟩ := iTup a
    obtain ⟨v, ws, rfl, h3, h4⟩ := h2.cons_inv
    obtain ⟨u, z, rfl, h5, h6⟩ := two_inv h4
    exact ⟨v, u, z, Same.sqT w.ff h1, Ok.here (R := SR K) o w (((s.set h3).set h5).set h6)⟩
  · exact o.elim⟩
/-! sources -/
def kSqF (x : AV) (h : AH) : Rs (List AV) := match x with
  | .lst xs => .ok xs h
  | .scr xs => .ok xs h
  | .tup xs => .ok xs h
  | .id n => match h[n]? with
    | some (.lst xs) => .ok xs (h.set n (.fz xs))
    | some (.fz xs) => .ok xs h
    | _ => .no
  | _ => .no
def mSq (ma : EV) : LV := fun S h => (ma S h).bnd kSqF
theorem vSq (ha : SE K Γ E ta ma) : SL K Γ E (cSq K ta) (mSq ma) := ⟨fun w s o => ha.run w s (o.bnd fun x h1 F1 H1 φ1 v w1 e1 a1 o1 => by
  unfold kSqF at o1
  split at o1
  · obtain ⟨p, vs, rfl, h1, h2⟩ := iLst a1
    exact .inl ⟨vs, SqL.of (w1.ff _ _ h1), Ok.here (R := RL K) (b := (fun H => SqL K H p vs, vs)) o1 w1 ⟨h2, fun H' s' => SqL.of (s' _ _ h1)⟩⟩
  · obtain ⟨p, vs, rfl, h1, h2⟩ := iScr a1
    exact .inl ⟨vs, w1.ff.seq h1, Ok.here (R := RL K) (b := (fun H => SqL K H p vs, vs)) o1 w1 ⟨h2, fun H' s' => s'.seq h1⟩⟩
  · obtain ⟨p, vs, rfl, h1, h2⟩ := iTup a1
    exact .inr ⟨vs, Same.sqT w1.ff h1, Ok.here (R := RL K) (b := (fun H => SqT K H p vs, vs)) o1 w1 ⟨h2, fun H' s' => Same.sqT s' h1⟩⟩
  · obtain ⟨p, hn, rfl⟩ := iId a1
    split at o1
    · rename_i c
      obtain ⟨F2, w2, e2, vs, h2, h3⟩ := w1.freeze hn c
      exact .inl ⟨vs, SqL.of (w2.ff _ _ h2), Ok.use (R := RL K) (b := (fun H => SqL K H p vs, vs)) o1 w2 e2 ⟨h3, fun H' s' => SqL.of (s' _ _ h2)⟩⟩
    · rename_i c
      obtain ⟨vs, h2, h3⟩ := w1.cl _ _ _ hn c
      exact .inl ⟨vs, SqL.of (w1.ff _ _ h2), Ok.here (R := RL K) (b := (fun H => SqL K H p vs, vs)) o1 w1 ⟨h3, fun H' s' => SqL.of (s' _ _ h2)⟩⟩
    · exact o1.elim
  · exact o1.elim)⟩
def ktTx (x : AV) (h : AH) : Rs (List AV) := match x with
  | .str z => .ok (z.cps.toList.map fun c => .str ⟨#[c]⟩) h
  | _ => .no
def mTx (ma : EV) : LV := fun S h => (ma S h).bnd ktTx
theorem ARs.mapf {α : Type} {f : α → AV} {g : α → V} (hf : ∀ a, AR K F φ (f a) (g a)) : ∀ l : List α, ARs K F φ (l.map f) (l.map g)
  | [] => .nil
  | a :: l => .cons (hf a) (ARs.mapf hf l)
theorem vSTx (ha : SE K Γ E ta ma) : SL K Γ E (cTx ta) (mTx ma) := ⟨fun w s o => ha.run w s (o.bnd fun x h1 F1 H1 φ1 v w1 e1 a1 o1 => by
  unfold ktTx at o1
  split at o1
  · rw [iStr a1, eb6]
    exact Ok.here (R := RL K) (b := (fun _ => True, _)) o1 w1 ⟨ARs.mapf (fun c => aStr) _, fun _ _ => trivial⟩
  · exact o1.elim)⟩
def rgX (lo hi : Int) : List AV := (List.range (hi - lo).toNat).map fun (i : Nat) => .int (lo + i)
def ktR1 (x : AV) (h : AH) : Rs (List AV) := match x with
  | .int j => if -(2 ^ 62) ≤ j ∧ j < 2 ^ 62 then .ok (rgX 0 j) h else .no
  | _ => .no
def mR1 (ma : EV) : LV := fun S h => (ma S h).bnd ktR1
theorem vR1 (ha : SE K Γ E ta ma) : SL K Γ E (cR1 ta) (mR1 ma) := ⟨fun w s o => ha.run w s (o.bnd fun x h1 F1 H1 φ1 v w1 e1 a1 o1 => by
  unfold ktR1 at o1
  split at o1
  · rw [iInt a1, eb2]
    split at o1
    · rename_i c
      exact ⟨c, Ok.here (R := RL K) (b := (fun _ => True, _)) o1 w1 ⟨ARs.mapf (fun c => aInt) _, fun _ _ => trivial⟩⟩
    · exact o1.elim
  · exact o1.elim)⟩
def kR2b (x y : AV) (h : AH) : Rs (List AV) := match x, y with
  | .int i, .int j => if -(2 ^ 62) ≤ i ∧ i < 2 ^ 62 ∧ -(2 ^ 62) ≤ j ∧ j < 2 ^ 62 then .ok (rgX i j) h else .no
  | _, _ => .no
def ktR2 (mb : EV) (S : AS) (x : AV) (h : AH) : Rs (List AV) := (mb S h).bnd (kR2b x)
def mR2 (ma mb : EV) : LV := fun S h => (ma S h).bnd (ktR2 mb S)
theorem vR2 (ha : SE K Γ E ta ma) (hb : SE K Γ E tb mb) : SL K Γ E (cR2 ta tb) (mR2 ma mb) := ⟨fun w s o => ha.run w s (o.bnd fun x h1 F1 H1 φ1 v w1 e1 a1 o1 => hb.run w1 (s.to e1) (o1.bnd fun y h2 F2 H2 φ2 u w2 e2 a2 o2 => by
  unfold kR2b at o2
  split at o2
  · rw [iInt a1, iInt a2, eb2, eb2]
    split at o2
    · rename_i c
      exact ⟨c, Ok.here (R := RL K) (b := (fun _ => True, _)) o2 w2 ⟨ARs.mapf (fun c => aInt) _, fun _ _ => trivial⟩⟩
    · exact o2.elim
  · exact o2.elim))⟩
/-- reversed(xs), enumerate(xs): of a list that is written no more -/
def kFz (x : AV) (h : AH) : Rs (List AV) := match x with
  | .tup _ => .no
  | x => kSqF x h
theorem kFz_ok {P : List V → Hp → Prop} (w : WR K Γ F H φ h) (a : AR K F φ x v) {β : Type} {k : List AV → AH → Rs β} {R : Hp → List Addr → β → (Hp → Prop) × List V → Prop}
    (q : ∀ xs h1 F1 p vs, kFz x h = .ok xs h1 → v = .ref p → WR K Γ F1 H φ h1 → Ex F H φ F1 H φ → SqL K F1 p vs → ARs K F1 φ xs vs → P vs H) (hk : kFz x h ≠ .no) (he : ∀ c p h', kFz x h ≠ .ex c p h') : ∃ p vs, v = .ref p ∧ SqL K H p vs ∧ P vs H := by
  cases r : kFz x h with
  | no => exact (hk r).elim
  | ex c p h' => exact (he _ _ _ r).elim
  | ok xs h1 =>
    have r0 := r
    unfold kFz at r
    split at r
    · cases r
    · unfold kSqF at r
      split at r
      · cases r
        obtain ⟨p, vs, rfl, h1, h2⟩ := iLst a
        exact ⟨p, vs, rfl, SqL.of (w.ff _ _ h1), q _ _ F p vs r0 rfl w .refl (SqL.of h1) h2⟩
      · cases r
        obtain ⟨p, vs, rfl, h1, h2⟩ := iScr a
        exact ⟨p, vs, rfl, w.ff.seq h1, q _ _ F p vs r0 rfl w .refl h1 h2⟩
      · contradiction
      · obtain ⟨p, hn, rfl⟩ := iId a
        split at r
        · rename_i c
          cases r
          obtain ⟨F2, w2, e2, vs, h2, h3⟩ := w.freeze hn c
          exact ⟨p, vs, rfl, SqL.of (w2.ff _ _ h2), q _ _ F2 p vs r0 rfl w2 e2 (SqL.of h2) h3⟩
        · rename_i c
          cases r
          obtain ⟨vs, h2, h3⟩ := w.cl _ _ _ hn c
          exact ⟨p, vs, rfl, SqL.of (w.ff _ _ h2), q _ _ F p vs r0 rfl w .refl (SqL.of h2) h3⟩
        · cases r
      · cases r
def ktRv (xs : List AV) (h : AH) : Rs (List AV) := .ok xs.reverse h
def kFzR (x : AV) (h : AH) : Rs (List AV) := (kFz x h).bnd ktRv
def mRv (ma : EV) : LV := fun S h => (ma S h).bnd kFzR
theorem kFz_noex {c : Str} {p : AV} {h' : AH} : kFz x h ≠ .ex c p h' := by
  intro z
  unfold kFz kSqF at z
  split at z
  · cases z
  · split at z
    · cases z
    · cases z
    · cases z
    · split at z <;> cases z
    · cases z
theorem vRv (ha : SE K Γ E ta ma) : SL K Γ E (cRv K ta) (mRv ma) := ⟨fun {F H φ h σ S R} w s o => ha.run w s (o.bnd fun x h1 F1 H1 φ1 v w1 e1 a1 o1 => by
  unfold kFzR at o1
  obtain ⟨p, vs, rfl, h2, q⟩ := kFz_ok (P := fun vs H => ∀ p, v = .ref p → R (fun H => SqL K H p vs) vs.reverse H) (β := Unit) (k := fun _ _ => Rs.no) (R := fun _ _ _ _ => True) w1 a1 (fun xs h2 F2 p vs r ev w2 e2 l a p' ep => by
    rw [r] at o1
    rw [ev] at ep
    cases ep
    exact Ok.use (R := RL K) (b := (fun H => SqL K H p vs, vs.reverse)) o1 w2 e2 ⟨a.rev, fun H' s' => s'.seq l⟩) (fun z => by rw [z] at o1; exact o1) (fun _ _ _ => kFz_noex)
  exact ⟨vs, h2, q p rfl⟩)⟩
def enX (k : Nat) (xs : List AV) : List (AV × AV) := (xs.zipIdx k).map fun p => (.int (p.2 : Nat), p.1)
def ktEn (xs : List AV) (h : AH) : Rs (List (AV × AV)) := .ok (enX 0 xs) h
def kFzE (x : AV) (h : AH) : Rs (List (AV × AV)) := (kFz x h).bnd ktEn
def mEn (ma : EV) : AS → AH → Rs (List (AV × AV)) := fun S h => (ma S h).bnd kFzE
theorem enX_fst : ∀ {k : Nat} {xs : List AV} {vs : List V}, ARs K F φ xs vs → ARs K F φ ((enX k xs).map (·.1)) ((enumV k vs).map (·.1)) ∧ ARs K F φ ((enX k xs).map (·.2)) ((enumV k vs).map (·.2))
  | k, [], _, a => by rw [a.nil_inv]; exact ⟨.nil, .nil⟩
  | k, x :: xs, _, a => by
    obtain ⟨v, ws, rfl, a1, a2⟩ := a.cons_inv
    obtain ⟨b1, b2⟩ := enX_fst (k := k + 1) a2
    unfold enX enumV at *
    rw [List.zipIdx_cons, List.zipIdx_cons]
    exact ⟨.cons aInt b1, .cons a1 b2⟩
theorem vEn (ha : SE K Γ E ta ma) : SP K Γ E (cEn K ta) (mEn ma) := ⟨fun {F H φ h σ S R} w s o => ha.run w s (o.bnd fun x h1 F1 H1 φ1 v w1 e1 a1 o1 => by
  unfold kFzE at o1
  obtain ⟨p, vs, rfl, h2, q⟩ := kFz_ok (P := fun vs H => ∀ p, v = .ref p → R (fun H => SqL K H p vs) (enumV 0 vs) H) (β := Unit) (k := fun _ _ => Rs.no) (R := fun _ _ _ _ => True) w1 a1 (fun xs h2 F2 p vs r ev w2 e2 l a p' ep => by
    rw [r] at o1
    rw [ev] at ep
    cases ep
    exact Ok.use (R := RP K) (b := (fun H => SqL K H p vs, enumV 0 vs)) o1 w2 e2 ⟨(enX_fst a).1, (enX_fst a).2, fun H' s' => s'.seq l⟩) (fun z => by rw [z] at o1; exact o1) (fun _ _ _ => kFz_noex)
  exact ⟨vs, h2, q p rfl⟩)⟩
end
end Hf
set_option Elab.async false
set_option linter.all false
set_option maxRecDepth 100000
set_option maxHeartbeats 4000000
namespace Hf
open PySem PySem.Spec L2 PyProof.Rows
section
variable {K : PySem.W.Frag} {Γ : Gm} {E : XK} {F F0 F1 H H0 H1 : Hp} {φ φ0 φ1 : List Addr} {h h1 : AH} {S : AS} {σ : L2.St} {Q : VK} {x y : AV} {v u : V} {xs ys acc : List AV} {vs us : List V}
  {ta tb tc te to : TE} {ma mb mc me mo : EV} {tes : TA} {ms : LV} {tA tB : TT} {mA mB : TV} {g : TG} {mg : GV} {D : Ends}
/-! zip -/
def ktZp3 (xs ys : List AV) (h : AH) : Rs (List (AV × AV)) := .ok (xs.zip ys) h
def ktZp2 (y : AV) (xs : List AV) (h : AH) : Rs (List (AV × AV)) := (kFz y h).bnd (ktZp3 xs)
def ktZp1 (x y : AV) (h : AH) : Rs (List (AV × AV)) := match x, y with
  | .tup xs, .tup ys => .ok (xs.zip ys) h
  | x, y => (kFz x h).bnd (ktZp2 y)
def ktZp0 (mb : EV) (S : AS) (x : AV) (h : AH) : Rs (List (AV × AV)) := (mb S h).bnd (ktZp1 x)
def mZp (ma mb : EV) : AS → AH → Rs (List (AV × AV)) := fun S h => (ma S h).bnd (ktZp0 mb S)
theorem zip_maps {α β : Type} : ∀ {xs : List α} {ys : List β}, (xs.zip ys).map (·.1) = xs.take ys.length ∧ (xs.zip ys).map (·.2) = ys.take xs.length
  | [], ys => by simp
  | x :: xs, [] => by simp
  | x :: xs, y :: ys => by
    obtain ⟨a, b⟩ := zip_maps (xs := xs) (ys := ys)
    simp [a, b]
theorem ARs.zips (a : ARs K F φ xs vs) (b : ARs K F φ ys us) : ARs K F φ ((xs.zip ys).map (·.1)) ((vs.zip us).map (·.1)) ∧ ARs K F φ ((xs.zip ys).map (·.2)) ((vs.zip us).map (·.2)) := by
  rw [zip_maps.1, zip_maps.2, zip_maps.1, zip_maps.2, a.len, b.len]
  exact ⟨a.take _, b.take _⟩
theorem kFz_it {xs : List AV} (w : WR K Γ F H φ h) (a : AR K F φ x v) (r : kFz x h = .ok xs h1) : ∃ F1 p vs, v = .ref p ∧ WR K Γ F1 H φ h1 ∧ Ex F H φ F1 H φ ∧ SqL K F1 p vs ∧ ARs K F1 φ xs vs := by
  obtain ⟨p, vs, e, h2, F1, p', vs', q⟩ := kFz_ok (P := fun _ H => ∃ F1 p vs, v = .ref p ∧ WR K Γ F1 H φ h1 ∧ Ex F H φ F1 H φ ∧ SqL K F1 p vs ∧ ARs K F1 φ xs vs) (β := Unit) (k := fun _ _ => Rs.no) (R := fun _ _ _ _ => True) w a (fun xs h2 F2 p vs r2 ev w2 e2 l a => by
    rw [r] at r2
    cases r2
    exact ⟨F2, p, vs, ev, w2, e2, l, a⟩) (by rw [r]; simp) (fun _ _ _ => kFz_noex)
  exact ⟨F1, p', vs', q⟩
theorem vZp (ha : SE K Γ E ta ma) (hb : SE K Γ E tb mb) : SP K Γ E (cZp K ta tb) (mZp ma mb) := ⟨fun {F H φ h σ S R} w s o => ha.run w s (o.bnd fun x h1 F1 H1 φ1 v w1 e1 a1 o1 => hb.run w1 (s.to e1) (o1.bnd fun y h2 F2 H2 φ2 u w2 e2 a2 o2 => by
  have a1 := a1.to e2
  unfold ktZp1 at o2
  split at o2
  · obtain ⟨p, vs, rfl, h3, h4⟩ := iTup a1
    obtain ⟨q, us, rfl, h5, h6⟩ := iTup a2
    refine .inr ⟨vs, us, Same.sqT w2.ff h3, Same.sqT w2.ff h5, ?_⟩
    exact Ok.here (R := RP K) (b := (fun H => SqT K H p vs ∧ SqT K H q us, vs.zip us)) o2 w2 ⟨(h4.zips h6).1, (h4.zips h6).2, fun H' s' => ⟨Same.sqT s' h3, Same.sqT s' h5⟩⟩
  · cases r1 : kFz x h2 with
    | no => rw [r1] at o2; exact o2.elim
    | ex c p h' => exact (kFz_noex r1).elim
    | ok xs h3 =>
      rw [r1] at o2
      obtain ⟨F3, p, vs, rfl, w3, e3, l3, b3⟩ := kFz_it w2 a1 r1
      change Ok K Γ E (RP K) F2 H2 φ2 ((kFz y h3).bnd (ktZp3 xs)) _ at o2
      cases r2 : kFz y h3 with
      | no => rw [r2] at o2; exact o2.elim
      | ex c p h' => exact (kFz_noex r2).elim
      | ok ys h4 =>
        rw [r2] at o2
        obtain ⟨F4, q, us, rfl, w4, e4, l4, b4⟩ := kFz_it w3 (a2.to e3) r2
        refine .inl ⟨vs, us, w4.ff.seq (e4.ff.seq l3), w4.ff.seq l4, ?_⟩
        exact Ok.use (R := RP K) (b := (fun H => SqL K H p vs ∧ SqL K H q us, vs.zip us)) o2 w4 (e3.trans e4) ⟨((b3.to e4).zips b4).1, ((b3.to e4).zips b4).2, fun H' s' => ⟨s'.seq (e4.ff.seq l3), s'.seq l4⟩⟩))⟩
/-! comprehensions -/
def mwipe (S : AS) : List Nat → AS
  | [] => S
  | v :: vs => (mwipe S vs).set v none
theorem SR.wipe (r : SR K F φ S σ) : ∀ vs : List Nat, SR K F φ (mwipe S vs) (wipe σ vs)
  | [] => r
  | i :: vs => by
    have q := SR.wipe r vs
    unfold mwipe L2.wipe
    refine ⟨by simp [q.1], fun j y e => ?_⟩
    rw [List.getElem?_set] at e ⊢
    by_cases c : i = j
    · subst c
      by_cases c2 : i < (mwipe S vs).length
      · rw [if_pos rfl, if_pos c2] at e
        cases e
      · rw [if_pos rfl, if_neg c2] at e
        cases e
    · rw [if_neg c] at e ⊢
      exact q.2 j y e
def GW (g : TG) (vs : List Nat) : Prop := ∀ v σ H Q, g v (wipe σ vs) H Q → g v (wipe σ vs) H fun σ2 H2 => wipe σ2 vs = wipe σ vs ∧ Q σ2 H2
theorem GW.nm {i : Nat} : GW (gNm i) [i] := fun v σ H Q q => ⟨by simp only [L2.wipe, List.set_set], q⟩
theorem GW.pr {i j : Nat} : GW (gPr K i j) [i, j] := fun v σ H Q q => by
  unfold gPr at q ⊢
  obtain ⟨a, rfl, x, y, h1, q⟩ := asRef_of q
  refine ⟨x, y, h1, ?_, q⟩
  simp only [L2.wipe]
  apply List.ext_getElem?
  intro k
  simp only [List.getElem?_set, List.length_set]
  by_cases c1 : i = k <;> by_cases c2 : j = k <;> simp [c1, c2] <;> (first | omega | rfl | (split <;> simp_all) | simp_all)
def kLS (y : AV) (h : AH) : Rs (Option AV) := .ok (some y) h
def kLT (me : EV) (S : AS) (b : Bool) (h : AH) : Rs (Option AV) := if b = true then (me S h).bnd kLS else .ok none h
def kLG (mt : TV) (me : EV) (S : AS) (h : AH) : Rs (Option AV) := (mt S h).bnd (kLT me S)
/-- one turn: what it adds -/
def mTurn (mg : GV) (mt : TV) (me : EV) (vs : List Nat) (S : AS) (x : AV) (h : AH) : Rs (Option AV) := (mg x (mwipe S vs) h).bnd (kLG mt me)
def accX (acc : List AV) : Option AV → List AV
  | some y => acc ++ [y]
  | none => acc
def mLcL (turn : AV → AH → Rs (Option AV)) : List AV → List AV → AH → Rs (List AV)
  | [], acc, h => .ok acc h
  | x :: r, acc, h => (turn x h).bnd fun o h1 => mLcL turn r (accX acc o) h1
def mLcLP (turn : AV → AH → Rs (Option AV)) (xs : List (AV × AV)) : List AV → AH → Rs (List AV) := mLcL turn (xs.map fun p => .tup [p.1, p.2])
theorem Ok.bnd0 {α β γ δ : Type} {R : Hp → List Addr → α → β → Prop} {R' : Hp → List Addr → γ → δ → Prop} {P : β → Hp → Prop} {P' : δ → Hp → Prop} {r : Rs α} {k : α → AH → Rs γ} (o : Ok K Γ E R' F0 H0 φ0 (r.bnd k) P') (e0 : Ex F0 H0 φ0 F H φ)
    (q : ∀ a h1 F1 H1 φ1 y, WR K Γ F1 H1 φ1 h1 → Ex F H φ F1 H1 φ1 → R F1 φ1 a y → Ok K Γ E R' F0 H0 φ0 (k a h1) P' → P y H1) : Ok K Γ E R F H φ r P := by
  cases r with
  | ok a h => exact fun F' H' φ' y w e a1 => q a h F' H' φ' y w e a1 o
  | ex c p h => exact fun F' H' φ' d v w e => o F' H' φ' d v w (e0.trans e)
  | no => exact o
/-- a thing of no cell changes -/
theorem WR.out {a : Addr} {o : HO} (w : WR K Γ F H φ h) (nF : F a = none) (na : a ∉ φ) : WR K Γ F (upd H a o) φ h := ⟨Same.up w.ff nF, w.nd, w.ln, fun n b c h1 h2 => (w.cl n b c h1 h2).mono (Same.refl _) .refl (upd_ne fun z => na (z ▸ List.mem_of_getElem? h1)) fun z => z⟩
theorem Ex.out {a : Addr} {o : HO} (e : Ex F0 H0 φ0 F H φ) (n0 : H0 a = none) : Ex F0 H0 φ0 F (upd H a o) φ := ⟨e.ff, e.pre, fun b u h1 h2 => by
  have : b ≠ a := ne_of_none h1 n0
  rw [upd_ne this]
  exact e.fr b u h1 h2, e.new⟩
theorem walkC_ok {L : Hp → Prop} {vs : List Nat} {A : Addr} {P : List V → Hp → Prop} {k : List AV → AH → Rs AV} (hg : SG K Γ E g mg) (gw : GW g vs) (ht : ST K Γ E tA mA) (he : SE K Γ E te me) (s0 : SR K F0 φ0 S σ) (hA : H0 A = none)
    (fin : ∀ ys F' H' φ' h' ws, WR K Γ F' H' φ' h' → Ex F0 H0 φ0 F' H' φ' → ARs K F' φ' ys ws → H' A = some (.lst ws) → F' A = none → A ∉ φ' → Ok K Γ E (AR K) F0 H0 φ0 (k ys h') Q → Q (.ref A) H') :
    ∀ (xs : List AV) (acc : List AV) (avs items : List V) (F H : Hp) (φ : List Addr) (h : AH), WR K Γ F H φ h → Ex F0 H0 φ0 F H φ → ARs K F φ xs items → (∀ H', Same F H' → L H') → H A = some (.lst avs) → F A = none → A ∉ φ → ARs K F φ acc avs → acc.length + xs.length ≤ sizeLine →
      Ok K Γ E (AR K) F0 H0 φ0 ((mLcL (mTurn mg mA me vs S) xs acc h).bnd k) Q → walkC L g tA te vs σ A Q items H := by
  intro xs
  induction xs with
  | nil =>
    intro acc avs items F H φ h w e0 hx hL d dF dφ ha hl o
    rw [hx.nil_inv]
    exact ⟨hL _ w.ff, fin _ _ _ _ _ _ w e0 ha d dF dφ o⟩
  | cons x xs ih =>
    intro acc avs items F H φ h w e0 hx hL d dF dφ ha hl o
    obtain ⟨v, its, rfl, x1, x2⟩ := hx.cons_inv
    refine ⟨hL _ w.ff, gw _ _ _ _ ?_⟩
    have s := (s0.to e0).wipe vs
    have o' : Ok K Γ E (AR K) F0 H0 φ0 ((mTurn mg mA me vs S x h).bnd fun z h1 => (mLcL (mTurn mg mA me vs S) xs (accX acc z) h1).bnd k) Q := by
      have : (mLcL (mTurn mg mA me vs S) (x :: xs) acc h).bnd k = (mTurn mg mA me vs S x h).bnd fun z h1 => (mLcL (mTurn mg mA me vs S) xs (accX acc z) h1).bnd k := by
        show ((mTurn mg mA me vs S x h).bnd _).bnd k = _
        cases mTurn mg mA me vs S x h <;> rfl
      rw [← this]; exact o
    have cut : ∀ {α β : Type} (r : Rs α) (k1 : α → AH → Rs (Option AV)) (k2 : Option AV → AH → Rs β), (r.bnd k1).bnd k2 = r.bnd fun a h => (k1 a h).bnd k2 := fun r k1 k2 => by cases r <;> rfl
    unfold mTurn at o'
    rw [cut] at o'
    refine hg.run w s x1 (o'.bnd0 e0 fun S2 h2 F2 H2 φ2 σ2 w2 e2 s2 o2 => ?_)
    unfold kLG at o2
    rw [cut] at o2
    refine ht.run w2 s2 (o2.bnd0 (e0.trans e2) fun b h3 F3 H3 φ3 b' w3 e3 eb o3 => ?_)
    subst eb
    have up : ∀ {F' H' : Hp} {φ' : List Addr}, Ex F H φ F' H' φ' → H' A = some (.lst avs) ∧ F' A = none ∧ A ∉ φ' := fun e => ⟨(e.fr A _ d dφ).1, (e.fr A _ d dφ).2 dF, fun z => (e.new A z).elim dφ fun z => by rw [d] at z; cases z⟩
    unfold kLT at o3
    cases b with
    | true =>
      rw [if_pos rfl] at o3 ⊢
      rw [cut] at o3
      refine he.run w3 (s2.to e3) (o3.bnd0 ((e0.trans e2).trans e3) fun y h4 F4 H4 φ4 v4 w4 e4 a4 o4 => ?_)
      have ee := (e2.trans e3).trans e4
      obtain ⟨u1, u2, u3⟩ := up ee
      have l1 := ha.len
      rw [List.length_cons] at hl
      refine ⟨avs, u1, by omega, ?_⟩
      refine ih (acc ++ [y]) _ _ F4 _ φ4 h4 (w4.out u2 u3) ((e0.trans ee).out hA) (x2.to ee) (fun H' s' => hL H' (ee.ff.trans s')) upd_same u2 u3 ((ha.to ee).app (.one a4)) (by simp; omega) o4
    | false =>
      have o3 : Ok K Γ E (AR K) F0 H0 φ0 ((mLcL (mTurn mg mA me vs S) xs acc h3).bnd k) Q := o3
      rw [if_neg (by simp)]
      have ee := e2.trans e3
      obtain ⟨u1, u2, u3⟩ := up ee
      rw [List.length_cons] at hl
      exact ih acc _ _ F3 H3 φ3 h3 w3 (e0.trans ee) (x2.to ee) (fun H' s' => hL H' (ee.ff.trans s')) u1 u2 u3 (ha.to ee) (by omega) o3
theorem walkCP_ok {L : Hp → Prop} {vs : List Nat} {A : Addr} {P : List V → Hp → Prop} {k : List AV → AH → Rs AV} (hg : SG K Γ E g mg) (gw : GW g vs) (ht : ST K Γ E tA mA) (he : SE K Γ E te me) (s0 : SR K F0 φ0 S σ) (hA : H0 A = none)
    (fin : ∀ ys F' H' φ' h' ws, WR K Γ F' H' φ' h' → Ex F0 H0 φ0 F' H' φ' → ARs K F' φ' ys ws → H' A = some (.lst ws) → F' A = none → A ∉ φ' → Ok K Γ E (AR K) F0 H0 φ0 (k ys h') Q → Q (.ref A) H') :
    ∀ (xs : List (AV × AV)) (acc : List AV) (avs : List V) (items : List (V × V)) (F H : Hp) (φ : List Addr) (h : AH), WR K Γ F H φ h → Ex F0 H0 φ0 F H φ → ARs K F φ (xs.map (·.1)) (items.map (·.1)) → ARs K F φ (xs.map (·.2)) (items.map (·.2)) → (∀ H', Same F H' → L H') → H A = some (.lst avs) → F A = none → A ∉ φ → ARs K F φ acc avs → acc.length + xs.length ≤ sizeLine →
      Ok K Γ E (AR K) F0 H0 φ0 ((mLcLP (mTurn mg mA me vs S) xs acc h).bnd k) Q → walkCP L g tA te vs σ A Q items H := by
  intro xs
  induction xs with
  | nil =>
    intro acc avs items F H φ h w e0 hx _ hL d dF dφ ha hl o
    have : items = [] := by
      have := hx.nil_inv
      simpa using this
    rw [this]
    exact ⟨hL _ w.ff, fin _ _ _ _ _ _ w e0 ha d dF dφ o⟩
  | cons x xs ih =>
    intro acc avs items F H φ h w e0 hx hy hL d dF dφ ha hl o
    cases items with
    | nil => have := hx.len; simp at this
    | cons it its =>
    obtain ⟨v, its1, q1, x1, x2⟩ := hx.cons_inv
    obtain ⟨v', its2, q2, y1, y2⟩ := hy.cons_inv
    simp only [List.map_cons, List.cons.injEq] at q1 q2
    obtain ⟨rfl, rfl⟩ := q1
    obtain ⟨rfl, rfl⟩ := q2
    refine ⟨hL _ w.ff, fun T hT => gw _ _ _ _ ?_⟩
    have tA' : A ≠ T := ne_of_none d hT
    obtain ⟨wT, eT⟩ := w.new (o := .tup [it.1, it.2]) hT
    have aT : AR K (upd F T (.tup [it.1, it.2])) φ (.tup [x.1, x.2]) (.ref T) := aTup (SqT.of upd_same) (.cons (x1.to eT) (.cons (y1.to eT) .nil))
    have s := ((s0.to e0).to eT).wipe vs
    have o' : Ok K Γ E (AR K) F0 H0 φ0 ((mTurn mg mA me vs S (.tup [x.1, x.2]) h).bnd fun z h1 => (mLcLP (mTurn mg mA me vs S) xs (accX acc z) h1).bnd k) Q := by
      have : (mLcLP (mTurn mg mA me vs S) (x :: xs) acc h).bnd k = (mTurn mg mA me vs S (.tup [x.1, x.2]) h).bnd fun z h1 => (mLcLP (mTurn mg mA me vs S) xs (accX acc z) h1).bnd k := by
        show ((mTurn mg mA me vs S (.tup [x.1, x.2]) h).bnd _).bnd k = _
        cases mTurn mg mA me vs S (.tup [x.1, x.2]) h <;> rfl
      rw [← this]; exact o
    have cut : ∀ {α β : Type} (r : Rs α) (k1 : α → AH → Rs (Option AV)) (k2 : Option AV → AH → Rs β), (r.bnd k1).bnd k2 = r.bnd fun a h => (k1 a h).bnd k2 := fun r k1 k2 => by cases r <;> rfl
    unfold mTurn at o'
    rw [cut] at o'
    refine hg.run wT s aT (o'.bnd0 (e0.trans eT) fun S2 h2 F2 H2 φ2 σ2 w2 e2 s2 o2 => ?_)
    unfold kLG at o2
    rw [cut] at o2
    refine ht.run w2 s2 (o2.bnd0 ((e0.trans eT).trans e2) fun b h3 F3 H3 φ3 b' w3 e3 eb o3 => ?_)
    subst eb
    have up : ∀ {F' H' : Hp} {φ' : List Addr}, Ex F H φ F' H' φ' → H' A = some (.lst avs) ∧ F' A = none ∧ A ∉ φ' := fun e => ⟨(e.fr A _ d dφ).1, (e.fr A _ d dφ).2 dF, fun z => (e.new A z).elim dφ fun z => by rw [d] at z; cases z⟩
    unfold kLT at o3
    cases b with
    | true =>
      rw [if_pos rfl] at o3 ⊢
      rw [cut] at o3
      refine he.run w3 (s2.to e3) (o3.bnd0 (((e0.trans eT).trans e2).trans e3) fun y h4 F4 H4 φ4 v4 w4 e4 a4 o4 => ?_)
      have ee := ((eT.trans e2).trans e3).trans e4
      obtain ⟨u1, u2, u3⟩ := up ee
      have l1 := ha.len
      rw [List.length_cons] at hl
      refine ⟨avs, u1, by omega, ?_⟩
      refine ih (acc ++ [y]) _ _ F4 _ φ4 h4 (w4.out u2 u3) ((e0.trans ee).out hA) (x2.to ee) (y2.to ee) (fun H' s' => hL H' (ee.ff.trans s')) upd_same u2 u3 ((ha.to ee).app (.one a4)) (by simp; omega) o4
    | false =>
      have o3 : Ok K Γ E (AR K) F0 H0 φ0 ((mLcLP (mTurn mg mA me vs S) xs acc h3).bnd k) Q := o3
      rw [if_neg (by simp)]
      have ee := (eT.trans e2).trans e3
      obtain ⟨u1, u2, u3⟩ := up ee
      rw [List.length_cons] at hl
      exact ih acc _ _ F3 H3 φ3 h3 w3 (e0.trans ee) (x2.to ee) (y2.to ee) (fun H' s' => hL H' (ee.ff.trans s')) u1 u2 u3 (ha.to ee) (by omega) o3
def kF (ys : List AV) (h : AH) : Rs AV := .ok (.lst ys) h
def kC (ys : List AV) (h : AH) : Rs AV := .ok (.id h.length) (h ++ [.lst ys])
def kLc (k : List AV → AH → Rs AV) (turn : AV → AH → Rs (Option AV)) (xs : List AV) (h : AH) : Rs AV := if xs.length ≤ 16777216 then (mLcL turn xs [] h).bnd k else .no
def kLcP (k : List AV → AH → Rs AV) (turn : AV → AH → Rs (Option AV)) (xs : List (AV × AV)) (h : AH) : Rs AV := if xs.length ≤ 16777216 then (mLcLP turn xs [] h).bnd k else .no
def mLc (k : List AV → AH → Rs AV) (src : LV) (mg : GV) (mt : TV) (me : EV) (vs : List Nat) : EV := fun S h => (src S h).bnd (kLc k (mTurn mg mt me vs S))
def mLcP (k : List AV → AH → Rs AV) (src : AS → AH → Rs (List (AV × AV))) (mg : GV) (mt : TV) (me : EV) (vs : List Nat) : EV := fun S h => (src S h).bnd (kLcP k (mTurn mg mt me vs S))
/-- how the new list is told -/
structure KFin (K : PySem.W.Frag) (Γ : Gm) (E : XK) (k : List AV → AH → Rs AV) : Prop where
  run : ∀ {F0 H0 F H : Hp} {φ0 φ : List Addr} {h : AH} {ys : List AV} {ws : List V} {A : Addr} {Q : VK}, WR K Γ F H φ h → Ex F0 H0 φ0 F H φ → ARs K F φ ys ws → H0 A = none → H A = some (.lst ws) → F A = none → A ∉ φ → Ok K Γ E (AR K) F0 H0 φ0 (k ys h) Q → Q (.ref A) H
theorem KFin.f : KFin K Γ E kF := ⟨fun {F0 H0 F H φ0 φ h ys ws A Q} w e a hA d dF dφ o => by
  have hs : Same F (upd F A (.lst ws)) := Same.new dF
  refine Ok.use (R := AR K) o (F1 := upd F A (.lst ws)) (φ1 := φ) ⟨fun b u z => ?_, w.nd, w.ln, fun n b c h1 h2 => ?_⟩ ⟨e.ff.trans hs, e.pre, fun b u h1 h2 => ?_, e.new⟩ (aLst upd_same (a.mono hs .refl))
  · by_cases c : b = A
    · subst c
      rw [upd_same] at z
      cases z
      exact d
    · rw [upd_ne c] at z
      exact w.ff _ _ z
  · have hb : b ≠ A := fun z => dφ (z ▸ List.mem_of_getElem? h1)
    exact (w.cl n b c h1 h2).mono hs .refl rfl fun z => by rw [upd_ne hb]; exact z
  · obtain ⟨g1, g2⟩ := e.fr b u h1 h2
    have hb : b ≠ A := ne_of_none h1 hA
    exact ⟨g1, fun z => by rw [upd_ne hb]; exact g2 z⟩⟩
theorem KFin.c : KFin K Γ E kC := ⟨fun {F0 H0 F H φ0 φ h ys ws A Q} w e a hA d dF dφ o => by
  have np : ∀ (n : Nat) (b : Addr), φ[n]? = some b → b ≠ A := fun n b h1 z => dφ (z ▸ List.mem_of_getElem? h1)
  refine Ok.use (R := AR K) o (F1 := F) (φ1 := φ ++ [A]) ⟨w.ff, fun i j b h1 h2 => ?_, by simp [w.ln], fun n b c h1 h2 => ?_⟩ ⟨e.ff, e.pre.trans .app, fun b u h1 h2 => e.fr b u h1 h2, fun b hb => ?_⟩ (aId (by rw [← w.ln, List.getElem?_append_right (Nat.le_refl _), Nat.sub_self]; rfl))
  · have lem : ∀ (i : Nat) (b : Addr), (φ ++ [A])[i]? = some b → φ[i]? = some b ∨ (i = φ.length ∧ b = A) := fun i b h => by
      by_cases c1 : i < φ.length
      · rw [List.getElem?_append_left c1] at h
        exact .inl h
      · have l := (List.getElem?_eq_some_iff.mp h).1
        simp at l
        have : i = φ.length := by omega
        subst this
        rw [List.getElem?_append_right (Nat.le_refl _), Nat.sub_self] at h
        cases h
        exact .inr ⟨rfl, rfl⟩
    rcases lem i b h1 with z1 | ⟨z1, z1'⟩ <;> rcases lem j b h2 with z2 | ⟨z2, z2'⟩
    · exact w.nd i j b z1 z2
    · exact absurd z2' (np i b z1)
    · exact absurd z1' (np j b z2)
    · omega
  · by_cases c1 : n < φ.length
    · rw [List.getElem?_append_left c1] at h1
      rw [List.getElem?_append_left (w.ln ▸ c1)] at h2
      exact (w.cl n b c h1 h2).mono (Same.refl _) .app rfl fun z => z
    · have l := (List.getElem?_eq_some_iff.mp h1).1
      simp at l
      have : n = φ.length := by omega
      subst this
      rw [List.getElem?_append_right (Nat.le_refl _), Nat.sub_self] at h1
      rw [w.ln, List.getElem?_append_right (Nat.le_refl _), Nat.sub_self] at h2
      cases h1
      cases h2
      exact ⟨dF, ws, d, a.mono (Same.refl _) .app⟩
  · rcases List.mem_append.mp hb with z | z
    · exact e.new b z
    · rw [List.mem_singleton] at z
      subst z
      exact .inr hA⟩
theorem WR.drop {A : Addr} {o : HO} (w : WR K Γ F H φ h) (hA : H A = none) : WR K Γ F (upd H A o) φ h ∧ Ex F H φ F (upd H A o) φ ∧ F A = none ∧ A ∉ φ := by
  have nF := Same.free w.ff hA
  have na : A ∉ φ := fun z => w.live z hA
  exact ⟨w.out nF na, Ex.refl.out hA, nF, na⟩
theorem vLc {src : SRC} {msrc : LV} {k : List AV → AH → Rs AV} {vs : List Nat} (hk : KFin K Γ E k) (hs : SL K Γ E src msrc) (hg : SG K Γ E g mg) (gw : GW g vs) (ht : ST K Γ E tA mA) (he : SE K Γ E te me) : SE K Γ E (eLc src g tA te vs) (mLc k msrc mg mA me vs) := ⟨fun w s o => hs.run w s (o.bnd fun xs h1 F1 H1 φ1 z w1 e1 a1 o1 A hA => by
  have sz := sz
  unfold kLc at o1
  split at o1
  · rename_i c
    obtain ⟨w2, e2, nF, na⟩ := w1.drop (o := .lst []) hA
    exact walkC_ok (P := fun _ _ => True) hg gw ht he (s.to e1) hA (fun ys F' H' φ' h' ws w e a d dF dφ o => hk.run w e a hA d dF dφ o) xs [] [] z.2 F1 _ φ1 h1 w2 e2 a1.1 a1.2 upd_same nF na .nil (by simp; omega) o1
  · exact o1.elim)⟩
theorem vLcP {src : SRP} {msrc : AS → AH → Rs (List (AV × AV))} {k : List AV → AH → Rs AV} {vs : List Nat} (hk : KFin K Γ E k) (hs : SP K Γ E src msrc) (hg : SG K Γ E g mg) (gw : GW g vs) (ht : ST K Γ E tA mA) (he : SE K Γ E te me) : SE K Γ E (eLcP src g tA te vs) (mLcP k msrc mg mA me vs) := ⟨fun w s o => hs.run w s (o.bnd fun xs h1 F1 H1 φ1 z w1 e1 a1 o1 A hA => by
  have sz := sz
  unfold kLcP at o1
  split at o1
  · rename_i c
    obtain ⟨w2, e2, nF, na⟩ := w1.drop (o := .lst []) hA
    exact walkCP_ok (P := fun _ _ => True) hg gw ht he (s.to e1) hA (fun ys F' H' φ' h' ws w e a d dF dφ o => hk.run w e a hA d dF dφ o) xs [] [] z.2 F1 _ φ1 h1 w2 e2 a1.1 a1.2.1 a1.2.2 upd_same nF na .nil (by simp; omega) o1
  · exact o1.elim)⟩
def mTYes : TV := fun _ h => .ok true h
theorem vTYes : ST K Γ E tYes mTYes := ⟨fun w s o => o.here w rfl⟩
/-! statements -/
variable {t t' : TS} {m m' : SV}
def Rs.thn (r : Rs Ou) (k : SV) : Rs Ou := match r with
  | .ok (.nx S) h => k S h
  | .ok o h => .ok o h
  | .ex c p h => .ex c p h
  | .no => .no
def Rs.lp (r : Rs Ou) (k : SV) : Rs Ou := match r with
  | .ok (.nx S) h => k S h
  | .ok (.ct S) h => k S h
  | .ok (.bk S) h => .ok (.nx S) h
  | .ok (.rt v) h => .ok (.rt v) h
  | .ex c p h => .ex c p h
  | .no => .no
theorem OkS.thn {r : Rs Ou} {k : SV} {P : L2.St → Hp → Prop} (o : OkS K Γ E F H φ (r.thn k) D) (q : ∀ S h1 F1 H1 φ1 σ, WR K Γ F1 H1 φ1 h1 → Ex F H φ F1 H1 φ1 → SR K F1 φ1 S σ → OkS K Γ E F1 H1 φ1 (k S h1) D → P σ H1) : OkS K Γ E F H φ r { D with nx := P } := by
  cases r with
  | ok a h => cases a with
    | nx S => exact fun F' H' φ' w e σ s => q S h F' H' φ' σ w e s (OkS.shift e o)
    | bk S => exact o
    | ct S => exact o
    | rt v => exact o
  | ex c p h => exact o
  | no => exact o
theorem OkS.lp {r : Rs Ou} {k : SV} {P : L2.St → Hp → Prop} (o : OkS K Γ E F H φ (r.lp k) D) (q : ∀ S h1 F1 H1 φ1 σ, WR K Γ F1 H1 φ1 h1 → Ex F H φ F1 H1 φ1 → SR K F1 φ1 S σ → OkS K Γ E F1 H1 φ1 (k S h1) D → P σ H1) : OkS K Γ E F H φ r { D with nx := P, ct := P, bk := D.nx } := by
  cases r with
  | ok a h => cases a with
    | nx S => exact fun F' H' φ' w e σ s => q S h F' H' φ' σ w e s (OkS.shift e o)
    | bk S => exact o
    | ct S => exact fun F' H' φ' w e σ s => q S h F' H' φ' σ w e s (OkS.shift e o)
    | rt v => exact o
  | ex c p h => exact o
  | no => exact o
def mSeq (a b : SV) : SV := fun S h => (a S h).thn b
theorem vSeq (ha : SS K Γ E t m) (hb : SS K Γ E t' m') : SS K Γ E (sSeq t t') (mSeq m m') := ⟨fun w s o => ha.run w s (o.thn fun _ _ _ _ _ _ w1 e1 s1 o1 => hb.run w1 s1 o1)⟩
def mSkip : SV := fun S h => .ok (.nx S) h
theorem vSkip : SS K Γ E sNil mSkip := ⟨fun w s o => o _ _ _ w .refl _ s⟩
def mBrk : SV := fun S h => .ok (.bk S) h
theorem vBrk : SS K Γ E sBrk mBrk := ⟨fun w s o => o _ _ _ w .refl _ s⟩
def mCnt : SV := fun S h => .ok (.ct S) h
theorem vCnt : SS K Γ E sCnt mCnt := ⟨fun w s o => o _ _ _ w .refl _ s⟩
def kSet (i : Nat) (S : AS) (x : AV) (h : AH) : Rs Ou := .ok (.nx (S.set i (some x))) h
def mSet (i : Nat) (ma : EV) : SV := fun S h => (ma S h).bnd (kSet i S)
theorem vSet {i : Nat} (ha : SE K Γ E ta ma) : SS K Γ E (sSet i ta) (mSet i ma) := ⟨fun w s o => ha.run w s (o.bnd fun _ _ _ _ _ _ w1 e1 a1 o1 => o1 _ _ _ w1 .refl _ ((s.to e1).set a1))⟩
def kExp (S : AS) (_ : AV) (h : AH) : Rs Ou := .ok (.nx S) h
def mExp (ma : EV) : SV := fun S h => (ma S h).bnd (kExp S)
theorem vExp (ha : SE K Γ E ta ma) : SS K Γ E (sExp ta) (mExp ma) := ⟨fun w s o => ha.run w s (o.bnd fun _ _ _ _ _ _ w1 e1 a1 o1 => o1 _ _ _ w1 .refl _ (s.to e1))⟩
def kRet (x : AV) (h : AH) : Rs Ou := .ok (.rt x) h
def mRet (ma : EV) : SV := fun S h => (ma S h).bnd kRet
theorem vRet (ha : SE K Γ E ta ma) : SS K Γ E (sRet ta) (mRet ma) := ⟨fun w s o => ha.run w s (o.bnd fun _ _ _ _ _ _ w1 e1 a1 o1 => o1 _ _ _ w1 .refl _ a1)⟩
def mRetN : SV := fun _ h => .ok (.rt .non) h
theorem vRetN : SS K Γ E sRetN mRetN := ⟨fun w s o => o _ _ _ w .refl _ aNon⟩
def kIfS (a b : SV) (S : AS) (c : Bool) (h : AH) : Rs Ou := if c = true then a S h else b S h
def mIfS (mt : TV) (a b : SV) : SV := fun S h => (mt S h).bnd (kIfS a b S)
theorem vIfS (ht : ST K Γ E tA mA) (ha : SS K Γ E t m) (hb : SS K Γ E t' m') : SS K Γ E (sIf tA t t') (mIfS mA m m') := ⟨fun w s o => if_split (ht.run w s (o.bnd fun b _ _ _ _ _ w1 e1 a1 o1 => by
  subst a1
  unfold kIfS at o1
  cases b with
  | true => rw [if_pos rfl] at o1 ⊢; exact ha.run w1 (s.to e1) o1
  | false => rw [if_neg (by simp)] at o1 ⊢; exact hb.run w1 (s.to e1) o1))⟩
def mNever : SV := fun _ _ => .no
theorem vNever : SS K Γ E sNever mNever := ⟨fun w s o => o.elim⟩
/-! loops -/
def mForL (mg : GV) (b : SV) : List AV → SV
  | [], S, h => .ok (.nx S) h
  | x :: r, S, h => ((mg x S h).bnd b).lp (mForL mg b r)
def mForLP (mg : GV) (b : SV) : List (AV × AV) → SV
  | [], S, h => .ok (.nx S) h
  | x :: r, S, h => ((mg (.tup [x.1, x.2]) S h).bnd b).lp (mForLP mg b r)
def kFor (mg : GV) (b : SV) (S : AS) (xs : List AV) (h : AH) : Rs Ou := mForL mg b xs S h
def kForP (mg : GV) (b : SV) (S : AS) (xs : List (AV × AV)) (h : AH) : Rs Ou := mForLP mg b xs S h
def mFor (src : LV) (mg : GV) (b : SV) : SV := fun S h => (src S h).bnd (kFor mg b S)
def mForP (src : AS → AH → Rs (List (AV × AV))) (mg : GV) (b : SV) : SV := fun S h => (src S h).bnd (kForP mg b S)
theorem walk_ok {L : Hp → Prop} (hg : SG K Γ E g mg) (hb : SS K Γ E t m) : ∀ (xs : List AV) (items : List V) (F H : Hp) (φ : List Addr) (h : AH) (S : AS) (σ : L2.St), WR K Γ F H φ h → SR K F φ S σ → ARs K F φ xs items → (∀ H', Same F H' → L H') → OkS K Γ E F H φ (mForL mg m xs S h) D → walk L g t D items σ H := by
  intro xs
  induction xs with
  | nil =>
    intro items F H φ h S σ w s hx hL o
    rw [hx.nil_inv]
    exact ⟨hL _ w.ff, o _ _ _ w .refl _ s⟩
  | cons x xs ih =>
    intro items F H φ h S σ w s hx hL o
    obtain ⟨v, its, rfl, x1, x2⟩ := hx.cons_inv
    refine ⟨hL _ w.ff, hg.run w s x1 ?_⟩
    have o1 := OkS.lp (r := (mg x S h).bnd m) (k := mForL mg m xs) (P := walk L g t D its) o fun S1 h1 F1 H1 φ1 σ1 w1 e1 s1 o1 => ih its F1 H1 φ1 h1 S1 σ1 w1 s1 (x2.to e1) (fun H' s' => hL H' (e1.ff.trans s')) o1
    exact o1.bnd fun S1 h1 F1 H1 φ1 σ1 w1 e1 s1 o2 => hb.run w1 s1 o2
theorem walkP_ok {L : Hp → Prop} (hg : SG K Γ E g mg) (hb : SS K Γ E t m) : ∀ (xs : List (AV × AV)) (items : List (V × V)) (F H : Hp) (φ : List Addr) (h : AH) (S : AS) (σ : L2.St), WR K Γ F H φ h → SR K F φ S σ → ARs K F φ (xs.map (·.1)) (items.map (·.1)) → ARs K F φ (xs.map (·.2)) (items.map (·.2)) → (∀ H', Same F H' → L H') → OkS K Γ E F H φ (mForLP mg m xs S h) D → walkP L g t D items σ H := by
  intro xs
  induction xs with
  | nil =>
    intro items F H φ h S σ w s hx _ hL o
    have : items = [] := by
      have := hx.nil_inv
      simpa using this
    rw [this]
    exact ⟨hL _ w.ff, o _ _ _ w .refl _ s⟩
  | cons x xs ih =>
    intro items F H φ h S σ w s hx hy hL o
    cases items with
    | nil => have := hx.len; simp at this
    | cons it its =>
    obtain ⟨v, its1, q1, x1, x2⟩ := hx.cons_inv
    obtain ⟨v', its2, q2, y1, y2⟩ := hy.cons_inv
    simp only [List.map_cons, List.cons.injEq] at q1 q2
    obtain ⟨rfl, rfl⟩ := q1
    obtain ⟨rfl, rfl⟩ := q2
    refine ⟨hL _ w.ff, fun T hT => ?_⟩
    obtain ⟨wT, eT⟩ := w.new (o := .tup [it.1, it.2]) hT
    have aT : AR K (upd F T (.tup [it.1, it.2])) φ (.tup [x.1, x.2]) (.ref T) := aTup (SqT.of upd_same) (.cons (x1.to eT) (.cons (y1.to eT) .nil))
    refine hg.run wT (s.to eT) aT ?_
    have o1 := OkS.lp (r := (mg (.tup [x.1, x.2]) S h).bnd m) (k := mForLP mg m xs) (P := walkP L g t D its) (OkS.shift eT o) fun S1 h1 F1 H1 φ1 σ1 w1 e1 s1 o1 => ih its F1 H1 φ1 h1 S1 σ1 w1 s1 (x2.to (eT.trans e1)) (y2.to (eT.trans e1)) (fun H' s' => hL H' ((eT.trans e1).ff.trans s')) o1
    exact o1.bnd fun S1 h1 F1 H1 φ1 σ1 w1 e1 s1 o2 => hb.run w1 s1 o2
theorem vFor {src : SRC} {ms : LV} (hs : SL K Γ E src ms) (hg : SG K Γ E g mg) (hb : SS K Γ E t m) : SS K Γ E (sFor src g t) (mFor ms mg m) := ⟨fun w s o => hs.run w s (o.bnd fun xs h1 F1 H1 φ1 z w1 e1 a1 o1 => walk_ok hg hb xs z.2 F1 H1 φ1 h1 _ _ w1 (s.to e1) a1.1 a1.2 o1)⟩
theorem vForP {src : SRP} {ms : AS → AH → Rs (List (AV × AV))} (hs : SP K Γ E src ms) (hg : SG K Γ E g mg) (hb : SS K Γ E t m) : SS K Γ E (sForP src g t) (mForP ms mg m) := ⟨fun w s o => hs.run w s (o.bnd fun xs h1 F1 H1 φ1 z w1 e1 a1 o1 => walkP_ok hg hb xs z.2 F1 H1 φ1 h1 _ _ w1 (s.to e1) a1.1 a1.2.1 a1.2.2 o1)⟩
def kWh (b k : SV) (S : AS) (c : Bool) (h : AH) : Rs Ou := if c = true then (b S h).lp k else .ok (.nx S) h
def mWhN (c : TV) (b : SV) : Nat → SV
  | 0, _, _ => .no
  | n + 1, S, h => (c S h).bnd (kWh b (mWhN c b n) S)
def bigN : Nat := 1000000000000
def mWhile (c : TV) (b : SV) : SV := mWhN c b bigN
theorem whileN_ok (hc : ST K Γ E tA mA) (hb : SS K Γ E t m) : ∀ (n : Nat) (F H : Hp) (φ : List Addr) (h : AH) (S : AS) (σ : L2.St), WR K Γ F H φ h → SR K F φ S σ → OkS K Γ E F H φ (mWhN mA m n S h) D → whileN tA t D n σ H := by
  intro n
  induction n with
  | zero => intro F H φ h S σ w s o; exact o.elim
  | succ n ih =>
    intro F H φ h S σ w s o
    refine hc.run w s (OkS.bnd (r := mA S h) (k := kWh m (mWhN mA m n) S) o fun b h1 F1 H1 φ1 b' w1 e1 eb o1 => ?_)
    subst eb
    unfold kWh at o1
    cases b with
    | true =>
      rw [if_pos rfl] at o1 ⊢
      exact hb.run w1 (s.to e1) (OkS.lp o1 fun S2 h2 F2 H2 φ2 σ2 w2 e2 s2 o2 => ih F2 H2 φ2 h2 S2 σ2 w2 s2 o2)
    | false =>
      rw [if_neg (by simp)] at o1 ⊢
      exact o1 _ _ _ w1 .refl _ (s.to e1)
theorem vWhile (hc : ST K Γ E tA mA) (hb : SS K Γ E t m) : SS K Γ E (sWhile tA t) (mWhile mA m) := ⟨fun w s o => ⟨bigN, whileN_ok hc hb bigN _ _ _ _ _ _ w s o⟩⟩
/-! assignments -/
def kAs (mg : GV) (S : AS) (x : AV) (h : AH) : Rs Ou := (mg x S h).bnd fun S' h' => .ok (.nx S') h'
def mAsg (ma : EV) (mg : GV) : SV := fun S h => (ma S h).bnd (kAs mg S)
theorem vAsg (ha : SE K Γ E ta ma) (hg : SG K Γ E g mg) : SS K Γ E (sAsg ta g) (mAsg ma mg) := ⟨fun w s o => ha.run w s (o.bnd fun _ _ _ _ _ _ w1 e1 a1 o1 => hg.run w1 (s.to e1) a1 (OkS.bnd o1 fun S2 h2 F2 H2 φ2 σ2 w2 e2 s2 o2 => o2 _ _ _ w2 .refl _ s2))⟩
def kSub2 (v o : AV) (S : AS) (i : AV) (h : AH) : Rs Ou := match o, i with
  | .id n, .int k => match h[n]? with
    | some (.lst xs) => match ixN xs.length k with
      | some j => .ok (.nx S) (h.set n (.lst (xs.set j v)))
      | none => .no
    | _ => .no
  | _, _ => .no
def kSub1 (mi : EV) (S : AS) (v o : AV) (h : AH) : Rs Ou := (mi S h).bnd (kSub2 v o S)
def kSub0 (mo mi : EV) (S : AS) (v : AV) (h : AH) : Rs Ou := (mo S h).bnd (kSub1 mi S v)
def mSub (mo mi mv : EV) : SV := fun S h => (mv S h).bnd (kSub0 mo mi S)
theorem vSub {ti tv : TE} {mi mv : EV} (ho : SE K Γ E to mo) (hi : SE K Γ E ti mi) (hv : SE K Γ E tv mv) : SS K Γ E (sSub to ti tv) (mSub mo mi mv) := ⟨fun w s o => hv.run w s (o.bnd fun _ _ _ _ _ _ w1 e1 a1 o1 => ho.run w1 (s.to e1) (o1.bnd fun _ _ _ _ _ _ w2 e2 a2 o2 => hi.run w2 ((s.to e1).to e2) (o2.bnd fun i h3 F3 H3 φ3 iv w3 e3 a3 o3 => by
  unfold kSub2 at o3
  split at o3
  · obtain ⟨p, hn, rfl⟩ := iId (a2.to e3)
    rw [iInt a3, eb3, eb2]
    split at o3
    · rename_i c
      split at o3
      · rename_i j cj
        obtain ⟨nF, vs, h4, h5⟩ := w3.cl _ _ _ hn c
        refine ⟨vs, j, h4, by rw [← h5.len]; exact cj, ?_⟩
        obtain ⟨w4, e4⟩ := w3.putL hn c (h5.set ((a1.to e2).to e3))
        exact o3 _ _ _ w4 e4 _ ((((s.to e1).to e2).to e3).to e4)
      · exact o3.elim
    · exact o3.elim
  · exact o3.elim)))⟩
def kAug1 (i : Nat) (f : AV → AV → AH → Rs AV) (S : AS) (x y : AV) (h : AH) : Rs Ou := (f x y h).bnd (kSet i S)
def mAug (i : Nat) (f : AV → AV → AH → Rs AV) (me : EV) : SV := fun S h => match S[i]? with
  | some (some x) => (me S h).bnd (kAug1 i f S x)
  | _ => .no
theorem vAug {i : Nat} {r : R2} {f : AV → AV → AH → Rs AV} (hf : SO K Γ E r f) (he : SE K Γ E te me) : SS K Γ E (sAug i r te) (mAug i f me) := ⟨fun w s o => by
  unfold mAug at o
  unfold sAug eVar
  split at o
  · rename_i x e
    obtain ⟨v, e', a⟩ := s.2 i x e
    rw [e']
    exact he.run w s (OkS.bnd o fun y h1 F1 H1 φ1 u w1 e1 a1 o1 => hf.run w1 (a.to e1) a1 (OkS.bnd o1 fun z h2 F2 H2 φ2 v2 w2 e2 a2 o2 => o2 _ _ _ w2 .refl _ (((s.to e1).to e2).set a2)))
  · exact o.elim⟩
/-- o.f = e -/
theorem WR.putI {n : Nat} {a : Addr} {c f : Str} {fs : List (Str × AV)} (w : WR K Γ F H φ h) (hn : φ[n]? = some a) (hc : h[n]? = some (.ins c fs)) (b : AR K F φ x v) : ∃ dx fv, H a = some (.ins (Γ c) dx fv) ∧ KRs K F φ fs fv ∧ fs.length = fv.length ∧ WR K Γ F (upd H a (.ins (Γ c) dx (putF f v fv))) φ (h.set n (.ins c (putX f x fs))) ∧ Ex F H φ F (upd H a (.ins (Γ c) dx (putF f v fv))) φ := by
  obtain ⟨nF, dx, fv, h2, h3⟩ := w.cl _ _ _ hn hc
  have l : fs.length = fv.length := by have := congrArg List.length h3.1; simpa using this
  exact ⟨dx, fv, h2, h3, l, w.put hn nF fun H' e => ⟨nF, dx, _, e, h3.put b⟩⟩
def kFs (cs : List Str) (f : Str) (v : AV) (S : AS) (x : AV) (h : AH) : Rs Ou := match x with
  | .id n => match h[n]? with
    | some (.ins c fs) => if c ∈ cs ∧ fs.length < 1000 then .ok (.nx S) (h.set n (.ins c (putX f v fs))) else .no
    | _ => .no
  | _ => .no
def kFs0 (cs : List Str) (f : Str) (mo : EV) (S : AS) (v : AV) (h : AH) : Rs Ou := (mo S h).bnd (kFs cs f v S)
def mFldS (cs : List Str) (f : Str) (mo mv : EV) : SV := fun S h => (mv S h).bnd (kFs0 cs f mo S)
theorem vFldS {cs : List Str} {f : Str} {tv : TE} {mv : EV} (ho : SE K Γ E to mo) (hv : SE K Γ E tv mv) : SS K Γ E (sFld Γ cs f to tv) (mFldS cs f mo mv) := ⟨fun w s o => hv.run w s (o.bnd fun _ _ _ _ _ _ w1 e1 a1 o1 => ho.run w1 (s.to e1) (o1.bnd fun x h2 F2 H2 φ2 v2 w2 e2 a2 o2 => by
  unfold kFs at o2
  split at o2
  · obtain ⟨p, hn, rfl⟩ := iId a2
    split at o2
    · rename_i c fs hc
      split at o2
      · rename_i q
        obtain ⟨dx, fv, h3, h4, l, w3, e3⟩ := w2.putI (f := f) hn hc (a1.to e2)
        exact ⟨c, dx, fv, q.1, h3, by rw [← l]; exact q.2, o2 _ _ _ w3 e3 _ (((s.to e1).to e2).to e3)⟩
      · exact o2.elim
    · exact o2.elim
  · exact o2.elim))⟩
def kFa2 (c f : Str) (n : Nat) (S : AS) (z : AV) (h : AH) : Rs Ou := match h[n]? with
  | some (.ins c' fs) => if c' = c ∧ fs.length < 1000 then .ok (.nx S) (h.set n (.ins c' (putX f z fs))) else .no
  | _ => .no
def kFa1 (c f : Str) (op : AV → AV → AH → Rs AV) (n : Nat) (S : AS) (x y : AV) (h : AH) : Rs Ou := (op x y h).bnd (kFa2 c f n S)
def kFa0 (cs : List Str) (f : Str) (op : AV → AV → AH → Rs AV) (mv : EV) (S : AS) (x : AV) (h : AH) : Rs Ou := match x with
  | .id n => match h[n]? with
    | some (.ins c fs) => if c ∈ cs then match fs.lookup f with
      | some y => (mv S h).bnd (kFa1 c f op n S y)
      | none => .no else .no
    | _ => .no
  | _ => .no
def mFldA (cs : List Str) (f : Str) (op : AV → AV → AH → Rs AV) (mo mv : EV) : SV := fun S h => (mo S h).bnd (kFa0 cs f op mv S)
theorem vFldA {cs : List Str} {f : Str} {r : R2} {op : AV → AV → AH → Rs AV} {tv : TE} {mv : EV} (hf : SO K Γ E r op) (ho : SE K Γ E to mo) (hv : SE K Γ E tv mv) : SS K Γ E (sFldAug Γ cs f r to tv) (mFldA cs f op mo mv) := ⟨fun w s o => ho.run w s (o.bnd fun x h1 F1 H1 φ1 v1 w1 e1 a1 o1 => by
  unfold kFa0 at o1
  split at o1
  · obtain ⟨p, hn, rfl⟩ := iId a1
    split at o1
    · rename_i c fs hc
      split at o1
      · rename_i q
        split at o1
        · rename_i y ly
          obtain ⟨nF, dx, fv, h3, h4⟩ := w1.cl _ _ _ hn hc
          obtain ⟨v, h5, h6⟩ := h4.lookup ly
          refine ⟨c, dx, fv, q, h3, v, h5, hv.run w1 (s.to e1) (OkS.bnd o1 fun z h2 F2 H2 φ2 u w2 e2 a2 o2 => hf.run w2 (h6.to e2) a2 (OkS.bnd o2 fun z3 h3 F3 H3 φ3 u3 w3 e3 a3 o3 => ?_))⟩
          unfold kFa2 at o3
          split at o3
          · rename_i c' fs' hc'
            split at o3
            · rename_i q3
              obtain ⟨dx', fv', g3, g4, l, w4, e4⟩ := w3.putI (f := f) (e3.pre _ _ (e2.pre _ _ hn)) hc' a3
              obtain ⟨q3, q4⟩ := q3
              subst q3
              exact ⟨dx', fv', g3, by rw [← l]; exact q4, o3 _ _ _ w4 e4 _ ((((s.to e1).to e2).to e3).to e4)⟩
            · exact o3.elim
          · exact o3.elim
        · exact o1.elim
      · exact o1.elim
    · exact o1.elim
  · exact o1.elim)⟩
/-! the end of a def: from its block to its promise -/
def ouR (r : Rs Ou) : Rs AV := match r with
  | .ok (.nx _) h => .ok .non h
  | .ok (.rt v) h => .ok v h
  | .ok _ _ => .no
  | .ex c p h => .ex c p h
  | .no => .no
theorem OkS.def {r : Rs Ou} (o : Ok K Γ E (AR K) F H φ (ouR r) Q) : OkS K Γ E F H φ r { nx := fun _ H' => Q .non H', rt := Q } := by
  cases r with
  | ok a h => cases a with
    | nx S => exact fun F' H' φ' w e σ s => o F' H' φ' _ w e aNon
    | bk S => exact o.elim
    | ct S => exact o.elim
    | rt v => exact fun F' H' φ' w e v a => o F' H' φ' _ w e a
  | ex c p h => exact o
  | no => exact o.elim
/-- the slots at a def's beginning -/
def SR0 (K : PySem.W.Frag) (F : Hp) (φ : List Addr) : AS → L2.St → Prop
  | [], [] => True
  | some x :: S, some v :: σ => AR K F φ x v ∧ SR0 K F φ S σ
  | none :: S, _ :: σ => SR0 K F φ S σ
  | _, _ => False
theorem SR0.sr : ∀ {S : AS} {σ : L2.St}, SR0 K F φ S σ → SR K F φ S σ
  | [], [], _ => ⟨rfl, fun i x e => by simp at e⟩
  | [], _ :: _, h => by unfold SR0 at h; exact h.elim
  | some x :: S, [], h => by unfold SR0 at h; exact h.elim
  | none :: S, [], h => by unfold SR0 at h; exact h.elim
  | some x :: S, none :: σ, h => by unfold SR0 at h; exact h.elim
  | some x :: S, some v :: σ, h => by
    unfold SR0 at h
    obtain ⟨l, q⟩ := SR0.sr h.2
    refine ⟨by simp [l], fun i y e => ?_⟩
    cases i with
    | zero => simp at e; subst e; exact ⟨v, rfl, h.1⟩
    | succ i => exact q i y (by simpa using e)
  | none :: S, z :: σ, h => by
    unfold SR0 at h
    obtain ⟨l, q⟩ := SR0.sr h
    refine ⟨by simp [l], fun i y e => ?_⟩
    cases i with
    | zero => simp at e
    | succ i => exact q i y (by simpa using e)
end
end Hf
set_option Elab.async false
set_option linter.all false
set_option maxRecDepth 100000
set_option maxHeartbeats 4000000
namespace Hf
open PySem PySem.Spec L2 PyProof.Rows
/-! sets of texts: made of a list, put in order -/
abbrev kS (P : Program) (w : World) := PySem.strKind P w
def tKey (z : Int × Value) : Str := match z.2 with
  | .str y _ => y
  | _ => Str.empty
def TxE (P : Program) (w : World) (z : Int × Value) : Prop := ∃ y tok, z.2 = Value.str y tok ∧ z.1 = (kS P w).hash y
/-- the entries, the table: what a walk wants -/
structure TxT (P : Program) (w : World) (es : Array (Int × Value)) (t : SetTable) (M : Str → Bool) : Prop where
  all : ∀ z ∈ es.toList, TxE P w z
  nd : (es.toList.map tKey).Nodup
  mem : ∀ y, M y = true ↔ y ∈ es.toList.map tKey
  sz : es.size < scanBound
  fit : t.fits es.size = true
  ris : Ris t.place.toList
  led : w.params.followText "set-order" = true ∨ t.led = true
def TxS (P : Program) (w : World) (hp : Heap) (a : Addr) (M : Str → Bool) (n : Nat) : Prop := ∃ o es ep t, hp.get? a = some o ∧ o.ExactSet ∧ o.data = .set es ep t ∧ TxT P w es t M ∧ es.size = n
theorem TxE.is {P : Program} {w : World} {z : Int × Value} (g : TxE P w z) (y : Str) : (kS P w).is y z.2 = true ↔ tKey z = y := by
  obtain ⟨y0, tok, e1, _⟩ := g
  unfold tKey; rw [e1]
  constructor
  · intro q; exact (PySem.strKind P w).inj (.str y0 tok) _ _ (strKind_is P w y0 tok) q
  · intro q; subst q; exact strKind_is P w _ tok
theorem TxE.elems {P : Program} {w : World} {l : List (Int × Value)} (g : ∀ z ∈ l, TxE P w z) : ElemsOf (kS P w) l := fun z hz => by
  obtain ⟨y, tok, e1, e2⟩ := g z hz
  exact ⟨⟨y, e1 ▸ strKind_is P w y tok, e2⟩, e1 ▸ rfl⟩
theorem TxE.mem {P : Program} {w : World} {l : List (Int × Value)} (g : ∀ z ∈ l, TxE P w z) (y : Str) : y ∈ l.map tKey ↔ ∃ z ∈ l, (kS P w).is y z.2 = true := by
  rw [List.mem_map]
  exact ⟨fun ⟨z, hz, q⟩ => ⟨z, hz, ((g z hz).is y).mpr q⟩, fun ⟨z, hz, q⟩ => ⟨z, hz, ((g z hz).is y).mp q⟩⟩
theorem TxS.keep {P : Program} {w : World} {h1 h2 : Heap} {a : Addr} {M : Str → Bool} {n : Nat} (r : TxS P w h1 a M n) (k : ∀ o, h1.get? a = some o → h2.get? a = some o) : TxS P w h2 a M n := by
  obtain ⟨o, es, ep, t, e, rest⟩ := r
  exact ⟨o, es, ep, t, k o e, rest⟩
theorem TxS.congr {P : Program} {w : World} {h1 : Heap} {a : Addr} {M N : Str → Bool} {n m : Nat} (r : TxS P w h1 a M n) (e : ∀ y, N y = M y) (en : m = n) : TxS P w h1 a N m := by
  have : N = M := funext e
  rw [this, en]; exact r
section
variable {P : Program} {w : World} {A : Around} {E : Value → Shared → Prop} {s : Shared} {a : Addr} {M : Str → Bool} {n : Nat}
theorem tx_tail {gv : Bool → Sem Unit} (hgv : ∀ (b : Bool) (s1 : Shared) (R : Unit → Shared → Prop), R () s1 → wpAny (model P w) A (gv b) R E s1)
    {o : Obj} {es : Array (Int × Value)} {ep : Nat} {t : SetTable} (e0 : s.heap.get? a = some o) (ex : o.ExactSet) (ed : o.data = .set es ep t)
    {es1 : Array (Int × Value)} {t2 : SetTable} {N : Str → Bool} (T : TxT P w es1 t2 N) {dm : Bool} {R : Option Bool → Shared → Prop}
    (hR : ∀ hp, Heap.SameBut a s.heap hp → TxS P w hp a N es1.size → R (some true) { s with heap := hp }) :
    wpAny (model P w) A (do
        storeSet a es1 t2
        if (!dm && t2.tooFull) = true then do
            gv (relayAll t2 es1 (SetTable.grown es1.size)).2.2
            storeSet a (relayAll t2 es1 (SetTable.grown es1.size)).1 (relayAll t2 es1 (SetTable.grown es1.size)).2.1
            pure (some true)
          else pure (some true)) R E s := by
  refine wpAny_bind (wpAny_storeSet_of e0 ed ?_ (fits_of_scanBound T.sz))
  have e1 := store_at (es' := es1) (t' := t2) e0 ed; have b1 := Heap.SameBut.update s.heap a (Obj.putSet es1 t2)
  split
  · have p1 := relayAll_perm t2 es1 (SetTable.grown es1.size); have p2 := relayAll_fits t2 es1 (SetTable.grown es1.size)
    have p3 := relayAll_ris t2 es1 (SetTable.grown es1.size); have p4 := relayAll_led t2 es1 (SetTable.grown es1.size)
    generalize relayAll t2 es1 (SetTable.grown es1.size) = Y at p1 p2 p3 p4 ⊢
    obtain ⟨es2, t3, gw⟩ := Y
    dsimp only at p1 p2 p3 p4 ⊢
    have z2 : es2.size = es1.size := by rw [← Array.length_toList, p1.length_eq, Array.length_toList]
    refine wpAny_bind (hgv _ _ _ ?_)
    refine wpAny_bind (wpAny_storeSet_of e1 rfl ?_ (fits_of_scanBound (z2 ▸ T.sz)))
    have e2 := store_at (es' := es2) (t' := t3) e1 rfl
    refine wpAny_pure (hR _ (b1.trans (Heap.SameBut.update _ a _)) ⟨_, es2, _, t3, e2, ex, rfl, ⟨fun z hz => T.all z (p1.mem_iff.mp hz), (p1.map tKey).nodup_iff.mpr T.nd, fun y => (T.mem y).trans (p1.map tKey).mem_iff.symm, z2 ▸ T.sz, p2, p3, T.led.imp id fun q => p4 ▸ q⟩, z2⟩)
  · exact wpAny_pure (hR _ b1 ⟨_, es1, _, t2, e1, ex, rfl, T, rfl⟩)
theorem tx_add {y : Str} {tok : Tok} {Q : Bool → Shared → Prop} (r : TxS P w s.heap a M n) (room : n + 1 < scanBound)
    (hQ : ∀ hp, Heap.SameBut a s.heap hp → TxS P w hp a (fun j => M j || decide (j = y)) (if M y = true then n else n + 1) → Q (!M y) { s with heap := hp }) :
    wpAny (model P w) A (setAddHashed a (.str y tok) ((kS P w).hash y)) Q E s := by
  obtain ⟨o, es, ep, t, e0, ex, ed, T, hn⟩ := r
  have key : (kS P w).is y (.str y tok) = true := strKind_is P w y tok; have sc : (Value.str y tok).scannable = true := rfl
  have el := TxE.elems T.all
  unfold setAddHashed setAddHashedIn
  refine wpAny_holding (wpAny_bind (wpAny_setState_of e0 ed T.fit ?_)); dsimp only
  rw [byScan_of sc T.sz el]; simp only [↓reduceIte]
  unfold setAddByScan
  refine wpAny_bind (wpAny_bind (wpAny_rule (wpAny_bind (wpAny_setScan_of key e0 ed T.fit el ?_))))
  cases hfi : List.findIdx? (fun e => (kS P w).is y e.2) es.toList with
  | some j =>
    dsimp only
    obtain ⟨hj, pj, _⟩ := List.findIdx?_eq_some_iff_getElem.mp hfi
    have My : M y = true := (T.mem y).mpr ((TxE.mem T.all y).mpr ⟨es.toList[j], List.getElem_mem hj, pj⟩)
    have q := hQ s.heap (Heap.SameBut.refl a s.heap) ⟨o, es, ep, t, e0, ex, ed, ⟨T.all, T.nd, fun i => by
      rw [Bool.or_eq_true, decide_eq_true_eq, ← T.mem i]
      exact ⟨fun c => c.elim id fun c => c ▸ My, .inl⟩, T.sz, T.fit, T.ris, T.led⟩, by rw [if_pos My]; exact hn⟩
    rw [My] at q
    exact wpAny_pure (wpAny_pure q)
  | none =>
    dsimp only
    have ny : y ∉ es.toList.map tKey := fun c => by
      obtain ⟨z, hz, q⟩ := (TxE.mem T.all y).mp c
      have f := List.findIdx?_eq_none_iff.mp hfi z hz; rw [q] at f; cases f
    have My : M y = false := by
      cases q : M y with
      | false => rfl
      | true => exact absurd ((T.mem y).mp q) ny
    have gw : ∀ (b : Bool) {s1 : Shared} {R : Unit → Shared → Prop}, R () s1 → wpAny (model P w) A (match b with | true => rule "set.scan.the-table-gave-way" | false => pure ()) R E s1 := fun b s1 R q => by
      cases b <;> first | exact wpAny_pure q | exact wpAny_rule q
    have l1 := layNew_perm t es ((kS P w).hash y) (.str y tok); have l2 := layNew_fits t es ((kS P w).hash y) (.str y tok)
    have l3 := layNew_ris t es ((kS P w).hash y) (.str y tok) T.ris; have l4 := layNew_led t es ((kS P w).hash y) (.str y tok)
    generalize layNew t es ((kS P w).hash y) (.str y tok) = Y at l1 l2 l3 l4 ⊢
    obtain ⟨es1, t1, dm, gave⟩ := Y
    dsimp only at l1 l2 l3 l4 ⊢
    rw [Array.toList_push] at l1
    have c1 : es1.toList.Perm (((kS P w).hash y, Value.str y tok) :: es.toList) := l1.trans (List.perm_append_singleton _ _)
    have c2 : (es1.toList.map tKey).Perm (y :: es.toList.map tKey) := c1.map tKey
    have z1 : es1.size = n + 1 := by rw [← Array.length_toList, c1.length_eq, List.length_cons, Array.length_toList, hn]
    have T1 : ∀ t2 : SetTable, t2.fits es1.size = true → Ris t2.place.toList → t2.led = t1.led → TxT P w es1 t2 (fun i => M i || decide (i = y)) := fun t2 f1 f2 f3 => ⟨fun z hz => by
        rcases List.mem_cons.mp (c1.mem_iff.mp hz) with c | c
        · rw [c]; exact ⟨y, tok, rfl, rfl⟩
        · exact T.all z c, c2.nodup_iff.mpr (List.nodup_cons.mpr ⟨ny, T.nd⟩), fun i => by
        rw [Bool.or_eq_true, decide_eq_true_eq, T.mem i, c2.mem_iff, List.mem_cons]; exact Or.comm, z1 ▸ room, f1, f2, T.led.imp id fun q => by rw [f3, l4]; exact q⟩
    have fin : ∀ hp, Heap.SameBut a s.heap hp → TxS P w hp a (fun i => M i || decide (i = y)) es1.size → Q true { s with heap := hp } := fun hp sb r => by
      have q := hQ hp sb
      rw [My] at q; rw [z1] at r
      exact q r
    refine wpAny_bind (gw _ ?_)
    split
    · rw [hashByValue_scannable 8 sc]
      refine wpAny_bind (wpAny_pure (tx_tail (fun b s1 R q => by cases b <;> first | exact wpAny_pure q | exact wpAny_rule q) e0 ex ed (T1 _ ?_ ?_ ?_) fun hp sb r => ?_))
      · first | (split <;> first | exact l2 | exact SetTable.fits_plain_off l2) | exact l2
      · first | (split <;> exact l3) | exact l3
      · first | (split <;> rfl) | rfl
      · dsimp only; exact wpAny_pure (fin hp sb r)
    · refine wpAny_bind (wpAny_pure ?_)
      simp only [↓reduceIte]
      refine tx_tail (fun b s1 R q => by cases b <;> first | exact wpAny_pure q | exact wpAny_rule q) e0 ex ed (T1 _ l2 l3 rfl) fun hp sb r => ?_
      dsimp only; exact wpAny_pure (fin hp sb r)
/-- the texts met so far -/
def inTake (zs : List Str) (i : Nat) (y : Str) : Bool := decide (y ∈ zs.take i)
theorem tx_loop {R : Result → Shared → Prop} {I : Addr} {fp wr : List Addr} {G : Array GenState → Array GenState → Prop} {m : Nat} {Pv : Nat → Value → Prop} {St : Nat → Shared → Prop} (W : WalksS P w A.in1 I fp wr G m Pv St) (D : Addr) (hD : D ∉ fp)
    {zs : List Str} (hv : ∀ i v, Pv i v → ∃ z tok, zs[i]? = some z ∧ v = .str z tok) (hm : m + 1 < scanBound) :
    ∀ (k i : Nat) (s : Shared), m - i = k → i ≤ m → St i s → (∃ c, c ≤ i ∧ TxS P w s.heap D (inTake zs i) c) →
      (∀ s', Moved (D :: wr) G s s' → (∃ c, c ≤ m ∧ TxS P w s'.heap D (inTake zs m) c) → R (.ok (.ret .none)) s') → codeAny (model P w) A (.builtin "set.update.loop" ⟨[.ref D, .ref I], []⟩) R s := by
  have hDw : D ∉ wr := fun c => hD (W.sub _ c)
  have up : ∀ b ∈ wr, b ∈ D :: wr := fun b c => List.mem_cons_of_mem _ c
  intro k
  induction k with
  | zero =>
    intro i s e le st hS hR
    obtain rfl : i = m := by omega
    refine codeAny_builtin F.entry_set_update_loop ?_; rw [Around.under_plainId F.plain_set_update_loop _]
    show wpAny _ A.in1 (pyNext (.ref I) >>= _) _ _ s
    refine wpAny_bind (W.done s _ _ st fun s' mv => ?_); show wpAny _ A.in1 (ret Value.none) _ _ s'
    obtain ⟨c, hc, r⟩ := hS
    exact wpAny_pure (hR s' (mv.mono up) ⟨c, hc, r.keep fun o eo => mv.heap D _ hDw eo⟩)
  | succ k ih =>
    intro i s e le st hS hR
    have lt : i < m := by omega
    refine codeAny_builtin F.entry_set_update_loop ?_; rw [Around.under_plainId F.plain_set_update_loop _]
    show wpAny _ A.in1 (pyNext (.ref I) >>= _) _ _ s
    refine wpAny_bind (W.item i s _ _ lt st fun v s' pv st' mv => ?_)
    obtain ⟨z, tok, ez, rfl⟩ := hv i v pv
    obtain ⟨c, hc, r⟩ := hS
    have r' := r.keep (h2 := s'.heap) fun o eo => mv.heap D _ hDw eo
    show wpAny _ A.in1 (holding [Value.str z tok] (setAdd D (.str z tok)) >>= _) _ _ s'
    refine wpAny_bind (wpAny_holding ?_); unfold setAdd
    refine wpAny_holding (wpAny_bind ((kS P w).pyHash (k := z) (strKind_is _ _ _ _) ?_))
    refine tx_add (s := { s' with toks := s'.toks + 1 }) r' (by omega) fun hp sb r2 => ?_
    have r3 : TxS P w hp D (inTake zs (i + 1)) (if inTake zs i z = true then c else c + 1) := r2.congr (fun y => by
      unfold inTake
      have : zs.take (i + 1) = zs.take i ++ [z] := by rw [List.take_add_one, ez]; rfl
      rw [this]
      by_cases q : y ∈ zs.take i <;> by_cases q2 : y = z <;> simp [q, q2]) rfl
    refine wpAny_pure ⟨plainId_quiet F.plain_set_update_loop _, ih (i + 1) _ (by omega) lt (W.frame _ s' _ _ st' (Nat.le_succ _) fun b hb o eo => ?_) ⟨_, by split <;> omega, r3⟩ fun s2 mv2 hS2 => ?_⟩
    · rw [sb.2 b fun q : b = D => hD (q ▸ hb)]; exact eo
    · refine hR s2 (Moved.trans W.gtrans ((mv.mono up).then_heap (Nat.le_succ _) fun b o hb eo => ?_) mv2) hS2
      rw [sb.2 b fun q : b = D => hb (q ▸ List.mem_cons_self)]; exact eo
theorem tx_new1 (x : Value) {Q1 : Value → Shared → Prop} (q : Q1 (.ref s.heap.objs.size) { s with heap := s.heap.push { cls := .type "set", dict := none, data := .set #[] 0 (.fresh 0 0 (!w.params.followText "set-order")) } }) :
    codeAny (model P w) A (.call (.builtin "set.__new__") ⟨[.type "set", x], []⟩) (wants Q1 E) s := by
  refine codeAny_of_tree ?_; show wpAny _ A.in1 (do checkBuiltinCall "set.__new__" ⟨[.type "set", x], []⟩; again (.builtin "set.__new__" ⟨[.type "set", x], []⟩)) _ _ s
  refine wpAny_bind (wpAny_of_eq (F.newCall_set_1 x) (wpAny_pure ⟨plainId_quiet F.plain_set_new _, codeAny_builtin F.entry_set_new ?_⟩)); rw [Around.under_plainId F.plain_set_new _]
  unfold Builtin.«set.__new__» Builtin.Frozenset.newClass
  have sub := sub_set_self
  obtain ⟨hp, g, d, tk, os⟩ := s
  dsimp only; wp_walk
  refine wpAny_askSetting (wpAny_pure ?_); dsimp only; simp only [newObj]
  exact wpAny_bind (wpAny_alloc (wpAny_pure (wpAny_pure q)))
theorem tx_fresh {hp : Heap} : TxS P w (hp.push { cls := .type "set", dict := none, data := .set #[] 0 (.fresh 0 0 (!w.params.followText "set-order")) }) hp.objs.size (fun _ => false) 0 :=
  ⟨_, #[], 0, _, Heap.get?_push_size _ rfl, ⟨rfl, rfl, rfl⟩, rfl, ⟨(fun z hz => by simp at hz), (by simp), (fun y => by simp), (by decide), (by rfl), List.Pairwise.nil, by
    show _ ∨ (!w.params.followText "set-order") = true
    cases w.params.followText "set-order" <;> simp⟩, rfl⟩
theorem strs_at : ∀ {vs : List Value} {zs : List Str}, StrsAre vs zs → ∀ (i : Nat) (v : Value), vs[i]? = some v → ∃ z tok, zs[i]? = some z ∧ v = .str z tok
  | _, _, .nil, i, v, e => by simp at e
  | _, _, .cons z k r, 0, v, e => by simp at e; exact ⟨z, k, rfl, e.symm⟩
  | _, _, .cons z k r, i + 1, v, e => by
    obtain ⟨z', k', e1, e2⟩ := strs_at r i v (by simpa using e)
    exact ⟨z', k', by simpa using e1, e2⟩
theorem strs_len : ∀ {vs : List Value} {zs : List Str}, StrsAre vs zs → vs.length = zs.length
  | _, _, .nil => rfl
  | _, _, .cons z k r => by simp [strs_len r]
/-- set(xs), xs a list of texts -/
theorem tx_call {l : Addr} {items : Array Value} {zs : List Str} {Q : Value → Shared → Prop} (hh : A.handled = none) (hl : s.heap.IsList l items) (hi : StrsAre items.toList zs) (hb : items.size + 1 < scanBound)
    (q : ∀ (hp : Heap) (tk : Nat) (c : Nat), c ≤ zs.length → TxS P w hp s.heap.objs.size (fun y => decide (y ∈ zs)) c → (∀ b o, b < s.heap.objs.size → s.heap.get? b = some o → hp.get? b = some o) → Q (.ref s.heap.objs.size) { s with heap := hp, toks := tk }) :
    wpAny (model P w) A (call (.type "set") [.ref l]) Q E s := by
  obtain ⟨c, tl, hmro⟩ := F.called_set.mro
  have hmade := F.called_set.made; have hsub := F.called_set.sub
  refine wpAny_call (codeAny_of_tree ?_); show wpAny _ _ (callAny (.type "set") _) _ _ _
  refine wpAny_pure ⟨Code.quiet_builtin _ (by decide +kernel), codeAny_builtin F.entry_type_call ?_⟩; rw [Around.under_plain (weight_type_call_type "set" [.ref l] []) rfl]
  have h1 := F.called_set.notType; have h2 := F.called_set.canCreate; have hct := F.typeCall_set_1 (.ref l)
  repeat (any_goals (first | assumption | wp_step))
  let N : Heap := s.heap.push { cls := .type "set", dict := none, data := .set #[] 0 (.fresh 0 0 (!w.params.followText "set-order")) }
  refine codeAny_mono (tx_new1 (.ref l) (E := E) (Q1 := fun obj s₁ => obj = .ref s.heap.objs.size ∧ s₁ = { s with heap := N }) ⟨rfl, rfl⟩) fun r s₁ hr => ?_
  cases r with
  | error e => exact hr
  | ok fl =>
    cases fl with
    | ret obj =>
      obtain ⟨rfl, rfl⟩ := hr
      have hS : N.get? s.heap.objs.size = some { cls := .type "set", dict := none, data := .set #[] 0 (.fresh 0 0 (!w.params.followText "set-order")) } := Heap.get?_push_size _ rfl
      have hT : Shared.TypeIs { s with heap := N } (.ref s.heap.objs.size) "set" := ⟨_, hS, rfl⟩
      have hli := F.called_set.init.lookup; have hbi := F.called_set.init.bind (.ref s.heap.objs.size)
      repeat (any_goals (first | assumption | wp_step))
      refine codeAny_mono (codeAny_call_builtin (R := wants (fun r s₂ => r = .none ∧ ∃ hp tk c, s₂ = { s with heap := hp, toks := tk } ∧ c ≤ zs.length ∧ TxS P w hp s.heap.objs.size (fun y => decide (y ∈ zs)) c ∧
          (∀ b o, b < s.heap.objs.size → s.heap.get? b = some o → hp.get? b = some o)) E) F.called_set.init.plain F.entry_set_init (check_set_init_1 hT ?_)) fun r₂ s₂ hr₂ => ?_
      · obtain ⟨ol, hol, hcl, nl, hdl⟩ := hl
        obtain ⟨ocls, odict, odata, oslots⟩ := ol
        simp only at hcl hdl; subst hcl; subst hdl
        have hol' : N.get? l = some { cls := .type "list", dict := odict, data := .seq items nl, slots := oslots } := Heap.get?_push_of_some _ hol
        have hsls := F.sub_list_set; have hslf := F.sub_list_frozenset; have hne : (Value.type "list" == Value.type "dict") = false := by decide
        have hl1 : N.IsList l items := ⟨_, hol', rfl, nl, rfl⟩
        unfold Builtin.«set.__init__» noKeywords Builtin.Frozenset.updateFrom
        generalize hPI : pyIter = PI
        wp_walk
        subst hPI
        refine wpAny_pyIter_list hl1 (wpAny_bind (wpAny_runValue ?_))
        have hlS : l < s.heap.objs.size := Heap.lt_size hol
        have hh3 : A.in1.in1.in1.handled = none := by simp [hh]
        have zN : N.objs.size = s.heap.objs.size + 1 := Heap.size_push _ _
        have hneI : l ≠ N.objs.size := by rw [zN]; exact Nat.ne_of_lt (Nat.lt_succ_of_lt hlS)
        have hSf : s.heap.objs.size ∉ [N.objs.size, l] := fun c => by
          rcases List.mem_cons.mp c with c | c
          · rw [zN] at c; exact absurd c (Nat.ne_of_lt (Nat.lt_succ_self _))
          · exact absurd (List.mem_singleton.mp c) (Nat.ne_of_gt hlS)
        have zl : items.size = zs.length := by rw [← strs_len hi, Array.length_toList]
        refine tx_loop ((Walks.list hh3 _ l hneI items).toS) s.heap.objs.size hSf (zs := zs) (fun i v hv => strs_at hi i v (by rw [Array.getElem?_toList]; exact hv)) hb (items.size - 0) 0 _ (by omega) (Nat.zero_le _)
          ⟨⟨_, Heap.get?_push_size _ rfl, rfl, rfl⟩, (hl1.push _)⟩ ⟨0, Nat.zero_le _, (tx_fresh.keep fun o eo => Heap.get?_push_of_some _ eo).congr (fun y => by unfold inTake; simp) rfl⟩ ?_
        intro s' hm hS'
        obtain ⟨hp, g', d', tk', os'⟩ := s'
        have eg : g' = s.gens := hm.gens; have ed : d' = s.drawn := hm.drawn; have eo : os' = s.os := hm.os
        subst eg; subst ed; subst eo
        show wpAny _ _ _ _ _ _
        refine wpAny_pure ?_
        show wpAny _ _ (ret Value.none) _ _ _
        obtain ⟨c, hc, r⟩ := hS'
        refine wpAny_pure ⟨rfl, hp, tk', c, rfl, by omega, r.congr (fun y => by unfold inTake; rw [zl, List.take_length]) rfl, fun b o hb e => ?_⟩
        have b1 : b ≠ s.heap.objs.size := Nat.ne_of_lt hb
        have b2 : b ≠ N.objs.size := by rw [zN]; exact Nat.ne_of_lt (Nat.lt_succ_of_lt hb)
        exact hm.heap b o (by simp only [List.mem_cons, List.mem_singleton, List.not_mem_nil, or_false, not_or]; exact ⟨b1, b2⟩) (Heap.get?_push_of_some _ (Heap.get?_push_of_some _ e))
      · cases r₂ with
        | error e => exact hr₂
        | ok fl₂ =>
          cases fl₂ with
          | ret r =>
            obtain ⟨rfl, hp, tk, c, rfl, hc, hS', hk'⟩ := hr₂
            repeat (any_goals (first | assumption | wp_step))
            exact q _ _ _ hc hS' hk'
          | _ => exact hr₂.elim
    | _ => exact hr.elim
/-- sorted(such a set) -/
theorem tx_strs : ∀ (l : List Value), (∀ v ∈ l, ∃ y tok, v = Value.str y tok) → ∃ zs, StrsAre l zs ∧ zs = l.map fun v => tKey (0, v)
  | [], _ => ⟨[], .nil, rfl⟩
  | v :: l, g => by
    obtain ⟨y, tok, rfl⟩ := g v List.mem_cons_self
    obtain ⟨zs, r, e⟩ := tx_strs l fun u hu => g u (List.mem_cons_of_mem _ hu)
    exact ⟨y :: zs, .cons y tok r, by rw [e]; rfl⟩
theorem tx_sorted {Q : Value → Shared → Prop} (r : TxS P w s.heap a M n) (hh : A.handled = none)
    (hQ : ∀ s' p (out : Array Value) (c : Nat) (ys : List Str), (∀ b o, s.heap.get? b = some o → s'.heap.get? b = some o) → s'.gens = s.gens → s'.os = s.os → s.heap.objs.size ≤ p →
      s'.heap.get? p = some (seqObj "list" out c) → StrsAre out.toList ys → sortedS ys = true → ys.Nodup → (∀ y, y ∈ ys ↔ M y = true) → ys.length = n → n ≤ sizeLine → Q (.ref p) s') :
    wpAny (model P w) A (call (.builtin "sorted") [.ref a]) Q E s := by
  obtain ⟨o, es, ep, t, e0, ex, ed, T, hn⟩ := r
  refine Calls.call_function_entry kind_sorted plain_sorted entry_sorted (args_sorted1 _) ?_; unfold Builtin.«sorted»
  refine wpAny_bind (m := checkCount "sorted" 1 1 _) (wpAny_pure (wpAny_bind (collect_set (A := A.in1) hh ⟨o, e0, ex.1, ed⟩ T.fit T.sz T.ris T.led fun s1 vs k1 z1 g1 o1 pm => ?_)))
  have hvl : vs.length = n := by rw [pm.length_eq, List.length_map, Array.length_toList]; exact hn
  have hline : n ≤ sizeLine := by have := fits_of_scanBound T.sz; omega
  obtain ⟨zs, hS, ez⟩ := tx_strs vs fun v hv => by
    obtain ⟨z, hz, q⟩ := List.mem_map.mp (pm.mem_iff.mp hv)
    obtain ⟨y, tok, e1, _⟩ := T.all z hz
    exact ⟨y, tok, q ▸ e1⟩
  have pz : zs.Perm (es.toList.map tKey) := by
    have q := pm.map fun v => tKey (0, v)
    rw [List.map_map] at q
    rw [ez]; exact q
  refine wpAny_bind (wpAny_newList ?_ (by rw [hvl]; exact hline))
  have hoL : (s1.heap.push (seqObj "list" vs.toArray 0)).get? s1.heap.objs.size = some (seqObj "list" vs.toArray 0) := Heap.get?_push_size _ rfl
  refine wpAny_bind (wpAny_holding (wpAny_call_entry slot_list_sort ⟨_, hoL, rfl⟩ entry_list_sort (list_sort_treeKAny strKind_oneLt hoL hS.keysOf (fun v₁ v₂ rest e => keyKind_strs (by rw [← e]; exact hS)) (by rw [hvl]; exact hline) fun st' a1 a2 => ⟨_, rfl, ?_⟩) (args_list_sort _)))
  obtain ⟨ys, y1, y2, y3⟩ := sorted_out_str hS a1 a2
  obtain ⟨c, hc⟩ := sortedHeap_at (vs := vs) (out := (arrOf st').map (·.2)) hoL
  have py : ys.Perm (es.toList.map tKey) := y2.trans pz
  refine wpAny_pure ⟨_, rfl, hQ _ s1.heap.objs.size _ c ys (fun b u eb => ?_) g1 o1 z1 hc y1 y3 (py.nodup_iff.mpr T.nd) (fun y => by rw [py.mem_iff, ← T.mem y]) (by rw [py.length_eq, List.length_map, Array.length_toList]; exact hn) hline⟩
  have q := k1 b u eb; have lt := Heap.lt_size q
  show (sortedHeap (s1.heap.push (seqObj "list" vs.toArray 0)) s1.heap.objs.size vs _).get? b = some u
  rw [sortedHeap_old (Nat.ne_of_lt lt) (by rw [size_push']; exact Nat.lt_succ_of_lt lt)]
  exact Heap.get?_push_of_some _ q
end
end Hf
set_option Elab.async false
set_option linter.all false
set_option maxRecDepth 100000
set_option maxHeartbeats 4000000
namespace Hf
open PySem PySem.Spec L2 PyProof.Rows
/-! texts in order, each once -/
def ltT (a b : Str) : Bool := decide (a.cps.toList < b.cps.toList)
def insT (x : Str) : List Str → List Str
  | [] => [x]
  | y :: r => if ltT y x then y :: insT x r else x :: y :: r
def srtT : List Str → List Str
  | [] => []
  | x :: r => insT x (srtT r)
def ddT : List Str → List Str
  | [] => []
  | x :: r => if x ∈ r then ddT r else x :: ddT r
theorem insT_perm (x : Str) : ∀ l : List Str, (insT x l).Perm (x :: l)
  | [] => List.Perm.refl _
  | y :: r => by
    unfold insT
    split
    · exact ((insT_perm x r).cons y).trans (List.Perm.swap x y r)
    · exact List.Perm.refl _
theorem srtT_perm : ∀ l : List Str, (srtT l).Perm l
  | [] => List.Perm.refl _
  | x :: r => (insT_perm x _).trans ((srtT_perm r).cons x)
def leT (a b : Str) : Prop := ltT b a = false
theorem ltT_trans {a b c : Str} (h1 : ltT a b = true) (h2 : ltT b c = true) : ltT a c = true := by
  unfold ltT at *
  simp only [decide_eq_true_eq] at *
  exact List.lt_trans h1 h2
theorem ltT_asymm {a b : Str} (h : ltT a b = true) : ltT b a = false := by
  unfold ltT at *
  simp only [decide_eq_true_eq, decide_eq_false_iff_not] at *
  exact List.lt_asymm h
theorem leT_trans {a b c : Str} (h1 : leT a b) (h2 : leT b c) : leT a c := by
  unfold leT ltT at *
  simp only [decide_eq_false_iff_not, List.not_lt] at *
  exact List.le_trans h1 h2
theorem leT_total (a b : Str) : leT a b ∨ leT b a := by
  unfold leT
  cases h : ltT b a with
  | false => exact .inl rfl
  | true => exact .inr (ltT_asymm h)
theorem leT_anti {a b : Str} (h1 : leT a b) (h2 : leT b a) : a = b := by
  unfold leT ltT at *
  simp only [decide_eq_false_iff_not, List.not_lt] at *
  have e := List.le_antisymm h1 h2
  cases a; cases b
  simp only at e
  congr 1
  exact Array.toList_inj.mp e
theorem leT_refl (a : Str) : leT a a := by
  rcases leT_total a a with h | h <;> exact h
theorem insT_srt (x : Str) : ∀ l : List Str, l.Pairwise leT → (insT x l).Pairwise leT
  | [], _ => by unfold insT; exact List.pairwise_singleton _ _
  | y :: r, h => by
    obtain ⟨h1, h2⟩ := List.pairwise_cons.mp h
    unfold insT
    split
    · rename_i c
      refine List.pairwise_cons.mpr ⟨fun z hz => ?_, insT_srt x r h2⟩
      rcases List.mem_cons.mp ((insT_perm x r).mem_iff.mp hz) with rfl | hz
      · exact ltT_asymm c
      · exact h1 z hz
    · rename_i c
      have c : leT x y := by unfold leT; simpa using c
      refine List.pairwise_cons.mpr ⟨fun z hz => ?_, h⟩
      rcases List.mem_cons.mp hz with rfl | hz
      · exact c
      · exact leT_trans c (h1 z hz)
theorem srtT_srt : ∀ l : List Str, (srtT l).Pairwise leT
  | [] => List.Pairwise.nil
  | x :: r => insT_srt x _ (srtT_srt r)
theorem srt_unique : ∀ {l m : List Str}, l.Pairwise leT → m.Pairwise leT → l.Perm m → l = m
  | [], m, _, _, p => p.nil_eq
  | x :: l, m, h1, h2, p => by
    cases m with
    | nil => exact absurd p.length_eq (by simp)
    | cons y m =>
      obtain ⟨a1, a2⟩ := List.pairwise_cons.mp h1
      obtain ⟨b1, b2⟩ := List.pairwise_cons.mp h2
      have e : x = y := by
        have hx := p.mem_iff.mp (List.mem_cons_self (a := x) (l := l))
        have hy := p.mem_iff.mpr (List.mem_cons_self (a := y) (l := m))
        rcases List.mem_cons.mp hx with e | hx
        · exact e
        · rcases List.mem_cons.mp hy with e | hy
          · exact e.symm
          · exact leT_anti (a1 y hy) (b1 x hx)
      subst e
      rw [srt_unique a2 b2 (List.Perm.cons_inv p)]
theorem risingS_pw : ∀ {x : Str} {r : List Str}, risingS x r = true → (x :: r).Pairwise leT
  | x, [], _ => List.pairwise_singleton _ _
  | x, y :: r, h => by
    unfold risingS at h
    rw [Bool.and_eq_true] at h
    have q := risingS_pw h.2
    have c : leT x y := by
      unfold leT ltT
      have := h.1
      rw [ltCps_eq] at this
      simpa using this
    refine List.pairwise_cons.mpr ⟨fun z hz => ?_, q⟩
    rcases List.mem_cons.mp hz with rfl | hz
    · exact c
    · exact leT_trans c ((List.pairwise_cons.mp q).1 z hz)
theorem sortedS_pw : ∀ {l : List Str}, sortedS l = true → l.Pairwise leT
  | [], _ => List.Pairwise.nil
  | x :: r, h => risingS_pw h
theorem ddT_mem {y : Str} : ∀ {l : List Str}, y ∈ ddT l ↔ y ∈ l
  | [] => Iff.rfl
  | x :: r => by
    unfold ddT
    split
    · rename_i c
      rw [ddT_mem, List.mem_cons]
      exact ⟨.inr, fun h => h.elim (fun e => e ▸ c) id⟩
    · rw [List.mem_cons, List.mem_cons, ddT_mem]
theorem ddT_nodup : ∀ l : List Str, (ddT l).Nodup
  | [] => List.nodup_nil
  | x :: r => by
    unfold ddT
    split
    · exact ddT_nodup r
    · rename_i c
      exact List.nodup_cons.mpr ⟨fun h => c (ddT_mem.mp h), ddT_nodup r⟩
theorem ddT_len : ∀ l : List Str, (ddT l).length ≤ l.length
  | [] => Nat.le_refl _
  | x :: r => by
    unfold ddT
    split
    · exact Nat.le_trans (ddT_len r) (Nat.le_succ _)
    · simp [ddT_len r]
theorem perm_of_nodup : ∀ {l m : List Str}, l.Nodup → m.Nodup → (∀ y, y ∈ l ↔ y ∈ m) → l.Perm m
  | [], m, _, _, h => by
    cases m with
    | nil => exact List.Perm.refl _
    | cons y m => exact absurd ((h y).mpr List.mem_cons_self) (by simp)
  | x :: l, m, h1, h2, h => by
    obtain ⟨a1, a2⟩ := List.nodup_cons.mp h1
    have hx := (h x).mp List.mem_cons_self
    have p := List.perm_cons_erase hx
    refine (List.Perm.cons x (perm_of_nodup a2 (h2.erase x) fun y => ?_)).trans p.symm
    rw [List.Nodup.mem_erase_iff h2]
    constructor
    · intro q
      exact ⟨fun e => a1 (e ▸ q), (h y).mp (List.mem_cons_of_mem _ q)⟩
    · rintro ⟨n, q⟩
      rcases List.mem_cons.mp ((h y).mpr q) with e | e
      · exact absurd e n
      · exact e
/-- the texts of a list, sorted, each once -/
def srtU (l : List Str) : List Str := srtT (ddT l)
theorem srtU_mem {y : Str} {l : List Str} : y ∈ srtU l ↔ y ∈ l := (srtT_perm _).mem_iff.trans ddT_mem
theorem srtU_nodup (l : List Str) : (srtU l).Nodup := (srtT_perm _).nodup_iff.mpr (ddT_nodup l)
theorem srtU_srt (l : List Str) : (srtU l).Pairwise leT := srtT_srt _
theorem srtU_eq {ys l : List Str} (h1 : sortedS ys = true) (h2 : ys.Nodup) (h3 : ∀ y, y ∈ ys ↔ y ∈ l) : ys = srtU l :=
  srt_unique (sortedS_pw h1) (srtU_srt l) (perm_of_nodup h2 (srtU_nodup l) fun y => (h3 y).trans srtU_mem.symm)
theorem srtU_congr {l m : List Str} (h : ∀ y, y ∈ l ↔ y ∈ m) : srtU l = srtU m :=
  srt_unique (srtU_srt l) (srtU_srt m) (perm_of_nodup (srtU_nodup l) (srtU_nodup m) fun y => by rw [srtU_mem, srtU_mem]; exact h y)
/-! sorted, set -/
def TxO (P : Program) (w : World) (a : Addr) (M : Str → Bool) (n : Nat) : HO := .ext fun h => TxS P w h a M n
section
variable {X : Cx}
theorem txO_new {P : Program} {w : World} {H : Hp} {h : Heap} {a : Addr} {M : Str → Bool} {n : Nat} (r : TxS P w h a M n) : ObjOk P w H h a (TxO P w a M n) := by
  have ⟨o, _, _, _, e, _⟩ := r
  exact ⟨r, ⟨o, e⟩, fun h1 h2 p k => TxS.keep p k⟩
def rSetTx (X : Cx) : List V → Hp → VK → Prop := fun vs H Q => ∃ (l : Addr) (zs : List Str), vs = [.ref l] ∧ SqL X.K H l (zs.map V.str) ∧ zs.length < 4000 ∧ ∀ p M n, H p = none → (∀ y, M y = true ↔ y ∈ zs) → Q (.ref p) (upd H p (TxO X.prog X.w p M n))
theorem cr_setTx (hc : X.calm = true) : CallR X (.type "set") (rSetTx X) := by
  intro pins s σ H xs us Q I r h
  obtain ⟨l, zs, rfl, hs, hz, q⟩ := h
  obtain ⟨its, rv, hl, _⟩ := I.list hs
  rw [Vals.ref1 r]
  have hn := rv.length
  rw [List.length_map] at hn
  refine tx_call (I.ok.hd hc) hl.isList (by simpa using rv.strs) (by have : scanBound = 4096 := rfl; simp; omega) fun hp tk c hc r2 k => ?_
  refine ⟨.ref _, _, I.laid (t' := tk) (fun b u e => k b u (Heap.lt_size e) e) (Nat.le_refl _) (txO_new r2), rfl, q _ _ _ (I.hok.fresh (Nat.le_refl _)) fun y => by simp⟩
def rSrtTx (X : Cx) : List V → Hp → VK → Prop := fun vs H Q => ∃ (a : Addr) (M : Str → Bool) (n : Nat), vs = [.ref a] ∧ H a = some (TxO X.prog X.w a M n) ∧ ∀ ys p, sortedS ys = true → ys.Nodup → (∀ y, y ∈ ys ↔ M y = true) → H p = none → Q (.ref p) (upd H p (.lst (ys.map V.str)))
theorem vals_strs : ∀ {us : List Value} {ys : List Str}, StrsAre us ys → Vals (ys.map V.str) us
  | _, _, .nil => .nil
  | _, _, .cons y k r => .cons ⟨k, rfl⟩ (vals_strs r)
theorem cr_srtTx (hc : X.calm = true) : CallR X (.builtin "sorted") (rSrtTx X) := by
  intro pins s σ H vs us Q I r h
  obtain ⟨a, M, n, rfl, ha, q⟩ := h
  rw [Vals.ref1 r]
  have R : TxS X.prog X.w s.heap a M n := (I.hok a _ ha).1
  refine tx_sorted R (I.ok.hd hc) fun s' p out c ys k g o hp hg hS h1 h2 h3 h4 h5 => ?_
  have hlen : (ys.map V.str).length ≤ sizeLine := by rw [List.length_map, h4]; exact h5
  have hn : H p = none := I.hok.fresh hp
  have J : Inv X pins σ (upd H p (.lst (ys.map V.str))) { s with heap := s'.heap, gens := s'.gens, drawn := s'.drawn, toks := s'.toks } :=
    I.call (ch := []) (Un.laid k hp hn) (I.hok.laid k hp ⟨hlen, out.toList, c, vals_strs hS, hg⟩) (by rw [g]; exact I.bare) (fun _ z => nomatch z)
  have e : s' = { s with heap := s'.heap, gens := s'.gens, drawn := s'.drawn, toks := s'.toks } := by
    cases s'
    cases s
    cases o
    rfl
  rw [e]
  exact ⟨.ref p, _, J, rfl, q ys p h1 h2 h3 hn⟩
def rSrtAny (K : PySem.W.Frag) : List V → Hp → VK → Prop := fun vs H Q => ∃ (a : Addr) (zs : List Str), vs = [.ref a] ∧ SqL K H a (zs.map V.str) ∧ ∀ ys p, ys.Perm zs → sortedS ys = true → H p = none → Q (.ref p) (upd H p (.lst (ys.map V.str)))
theorem cr_srtAny : CallR X (.builtin "sorted") (rSrtAny X.K) := by
  intro pins s σ H vs us Q I r h
  obtain ⟨a, zs, rfl, hs, q⟩ := h
  obtain ⟨its, rv, hl, hz⟩ := I.list hs
  rw [Vals.ref1 r]
  have hn := rv.length
  refine sorted_strsAny hl.isList rv.strs (by rw [← hn]; exact hz) fun out ys h1 h2 h3 => ?_
  obtain ⟨ep, he⟩ := sortedAll_at s.heap its out
  have hlen : (ys.map V.str).length ≤ sizeLine := by rw [List.length_map, h2.length_eq]; rw [List.length_map] at hz; exact hz
  exact ⟨.ref _, upd H (s.heap.objs.size + 1) (.lst (ys.map V.str)), I.laid (t' := s.toks) (fun _ _ => sortedAll_old) (Nat.le_succ _) ⟨hlen, out.toList, ep, vals_strs h1, he⟩, rfl, q ys _ h2 h3 (I.hok.fresh (Nat.le_succ _))⟩
/-- sorted(d): its keys, texts, in order -/
def rSrtD : List V → Hp → VK → Prop := fun vs H Q => ∃ (a : Addr) (kvs : List (Key × V)) (ks : List Str), vs = [.ref a] ∧ Rd H a (.dK kvs) ∧ kvs.map (·.1) = ks.map Sum.inr ∧ ∀ ys p, ys.Perm ks → sortedS ys = true → H p = none → Q (.ref p) (upd H p (.lst (ys.map V.str)))
theorem cr_srtD (hc : X.calm = true) : CallR X (.builtin "sorted") rSrtD := by
  intro pins s σ H xs us Q I r q
  obtain ⟨a, kvs, ks, rfl, hd, hks, q⟩ := q
  obtain ⟨u, rfl, rx⟩ := vals1 r
  cases rx
  obtain ⟨z, lo, vs, rel, dd⟩ := dk_rd I.hok hd
  obtain ⟨ep, hat⟩ := dd.dictAt
  have e1 : vs.map (·.1) = ks.map Sum.inr := rel.keys.symm.trans hks
  have hl : vs.length = ks.length := by have e := congrArg List.length e1; simpa using e
  have hz : ks.length ≤ sizeLine := by
    have e := congrArg List.length hks
    simp only [List.length_map] at e
    omega
  refine Calls.call_function_entry kind_sorted plain_sorted entry_sorted (args_sorted1 _) ?_; unfold Builtin.«sorted»
  refine wpAny_bind (m := checkCount "sorted" 1 1 _) (wpAny_pure (wpAny_bind (PySem.W.kdu_collect (A := X.A.in1) (PySem.W.kdl_dict (knd := mixKind X.prog X.w) (kvs := vs) (ep := ep) lo) (I.ok.hd hc) hat (by rw [hl]; exact hz) fun h' tk acc hk hacc => ?_)))
  have hal : acc.toList.length = ks.length := by rw [Array.length_toList, hacc.1, hl]
  have hS : StrsAre acc.toList ks := L2.strs_at hal fun j v e => by
    obtain ⟨k, x, g1, g2⟩ := hacc.2 j v (by rw [← Array.getElem?_toList]; exact e)
    have g3 : (vs.map (·.1))[j]? = some k := by rw [List.getElem?_map, g1]; rfl
    rw [e1, List.getElem?_map] at g3
    cases g4 : ks[j]? with
    | none => rw [g4] at g3; cases g3
    | some y =>
      rw [g4] at g3
      have g5 : Sum.inr y = k := Option.some.inj g3
      subst g5
      obtain ⟨t, ev⟩ := Value.isStrOf_shape (x := y) (v := v) g2
      exact ⟨y, t, rfl, ev⟩
  have I1 : Inv X pins σ H { s with heap := h', toks := tk } := I.kept hk
  refine wpAny_bind (wpAny_newList ?_ (by rw [hal]; exact hz))
  have hoL : (h'.push (seqObj "list" acc.toList.toArray 0)).get? h'.objs.size = some (seqObj "list" acc.toList.toArray 0) := Heap.get?_push_size _ rfl
  show wpAny _ _ _ _ _ { s with heap := h'.push (seqObj "list" acc.toList.toArray 0), toks := tk }
  refine wpAny_bind (wpAny_holding (wpAny_call_entry slot_list_sort ⟨_, hoL, rfl⟩ entry_list_sort
    (list_sort_treeKAny strKind_oneLt (s := { s with heap := h'.push (seqObj "list" acc.toList.toArray 0), toks := tk }) hoL hS.keysOf (fun v1 v2 rest e => keyKind_strs (by rw [← e]; exact hS)) (by rw [hal]; exact hz) fun st' hp hs => ⟨_, rfl, ?_⟩) (args_list_sort _)))
  obtain ⟨ys, g1, g2, g3⟩ := sorted_out_str hS hp hs
  obtain ⟨e', he'⟩ := sortedHeap_at (vs := acc.toList) (out := (arrOf st').map (·.2)) hoL
  have hlen : (ys.map V.str).length ≤ sizeLine := by rw [List.length_map, g2.length_eq]; exact hz
  refine wpAny_pure ⟨_, rfl, .ref h'.objs.size, upd H h'.objs.size (.lst (ys.map V.str)), I1.laid (t' := tk) (fun b u e => ?_) (Nat.le_refl _)
    (show ObjOk X.prog X.w _ _ _ (.lst (ys.map V.str)) from ⟨hlen, ((arrOf st').map (·.2)).toList, e', vals_strs g1, by rw [Array.toArray_toList]; exact he'⟩), rfl, q ys _ g2 g3 (I1.hok.fresh (Nat.le_refl _))⟩
  have hb : b < h'.objs.size := Heap.lt_size e
  rw [sortedHeap_old (Nat.ne_of_lt hb) (by rw [size_push']; exact Nat.lt_succ_of_lt hb)]
  exact Heap.get?_push_of_some _ e
end
end Hf
set_option Elab.async false
set_option linter.all false
set_option maxRecDepth 100000
set_option maxHeartbeats 4000000
namespace Hf
open PySem PySem.Spec L2 PyProof.Rows
/-! dicts: readings -/
def asKey (x : V) (k : Key → Prop) : Prop := match x with
  | .int i => k (.inl i)
  | .str z => k (.inr z)
  | _ => False
theorem asKey_of {x : V} {p : Key → Prop} (h : asKey x p) : ∃ k, x = kV k ∧ p k := by
  unfold asKey at h
  split at h
  · exact ⟨.inl _, rfl, h⟩
  · exact ⟨.inr _, rfl, h⟩
  · exact h.elim
def eDnew : TE := fun _ H Q => ∀ p, H p = none → Q (.ref p) (upd H p (.dK []))
def eDget (td ty : TE) : TE := fun σ H Q => td σ H fun x H1 => ty σ H1 fun y H2 => asRef x fun a => asKey y fun k => ∃ kvs v, H2 a = some (.dK kvs) ∧ valV kvs k = some v ∧ Q v H2
def eInD (neg : Bool) (ty td : TE) : TE := fun σ H Q => ty σ H fun y H1 => td σ H1 fun x H2 => asRef x fun a => asKey y fun k => ∃ kvs, H2 a = some (.dK kvs) ∧ Q (.bl (if neg then !(valV kvs k).isSome else (valV kvs k).isSome)) H2
def eDget2 (td ty tx : TE) : TE := fun σ H Q => td σ H fun x H1 => asRef x fun a => (∃ kvs, H1 a = some (.dK kvs)) ∧ ty σ H1 fun y H2 => tx σ H2 fun z H3 => asKey y fun k => ∃ kvs, H3 a = some (.dK kvs) ∧ Q ((valV kvs k).getD z) H3
def eDsetd (td ty tx : TE) : TE := fun σ H Q => td σ H fun x H1 => asRef x fun a => (∃ kvs, H1 a = some (.dK kvs)) ∧ ty σ H1 fun y H2 => tx σ H2 fun z H3 => asKey y fun k => ∃ kvs, H3 a = some (.dK kvs) ∧ kvs.length < sizeLine ∧
  ((∃ v, valV kvs k = some v ∧ Q v H3) ∨ (valV kvs k = none ∧ Q z (upd H3 a (.dK (putK kvs k z)))))
def sDput (td ty tv : TE) : TS := fun D σ H => tv σ H fun v H1 => td σ H1 fun x H2 => ty σ H2 fun y H3 => asRef x fun a => asKey y fun k => ∃ kvs, H3 a = some (.dK kvs) ∧ kvs.length < sizeLine ∧ D.nx σ (upd H3 a (.dK (putK kvs k v)))
def sDaug (r : R2) (td ty tv : TE) : TS := fun D σ H => td σ H fun x H1 => ty σ H1 fun y H2 => asRef x fun a => asKey y fun k => ∃ kvs v, H2 a = some (.dK kvs) ∧ valV kvs k = some v ∧
  tv σ H2 fun y2 H3 => r v y2 H3 fun z H4 => ∃ kvs4, H4 a = some (.dK kvs4) ∧ kvs4.length < sizeLine ∧ D.nx σ (upd H4 a (.dK (putK kvs4 k z)))
section
variable {X : Cx} {o i e f value : Expr} {pos pos' tpos apos cpos : Pos} {td ty tv tx te : TE}
theorem dDnew : PE X (.Dict [] [] pos) eDnew := pe_dnewK
theorem dDget (hu : X.A.units + 1 < cLine) (ho : PE X o td) (hi : PE X i ty) (hs : NoSl i := by exact fun _ _ => rfl) : PE X (.Subscript o i pos) (eDget td ty) :=
  pe_w (pe_dget hu (pe_hat ho) (pe_hat hi) hs) fun σ H Q h => ⟨_, fun x H1 q => ⟨_, fun y H2 q => by
    obtain ⟨a, rfl, q1⟩ := asRef_of q
    have q := q1
    obtain ⟨k, rfl, kvs, v, h1, h2, q⟩ := asKey_of q
    exact ⟨a, v, rfl, h2 ▸ DGet.k h1, q⟩, q⟩, h⟩
theorem dInD (hu : X.A.units + 1 < cLine) (hi : PE X i ty) (ho : PE X o td) (hm : behindInMarks .In o = false := by first | rfl | exact nobehind _ (by decide) (by decide)) : PE X (.Compare i [.In] [o] pos) (eInD false ty td) :=
  pe_w (pe_cmp (pc_din hu (pe_hat hi) (pe_hat ho)) hm) fun σ H Q h => ⟨_, fun x H1 q => ⟨_, fun y H2 q => by
    obtain ⟨a, rfl, q1⟩ := asRef_of q
    have q := q1
    obtain ⟨k, rfl, kvs, h1, q⟩ := asKey_of q
    exact ⟨a, _, rfl, DGet.k h1, q⟩, q⟩, h⟩
theorem dInDN (hu : X.A.units + 1 < cLine) (hi : PE X i ty) (ho : PE X o td) (hm : behindInMarks .NotIn o = false := by first | rfl | exact nobehind _ (by decide) (by decide)) : PE X (.Compare i [.NotIn] [o] pos) (eInD true ty td) :=
  pe_w (pe_cmp (pc_dnotin hu (pe_hat hi) (pe_hat ho)) hm) fun σ H Q h => ⟨_, fun x H1 q => ⟨_, fun y H2 q => by
    obtain ⟨a, rfl, q1⟩ := asRef_of q
    have q := q1
    obtain ⟨k, rfl, kvs, h1, q⟩ := asKey_of q
    exact ⟨a, _, rfl, DGet.k h1, q⟩, q⟩, h⟩
theorem qInD (hu : X.A.units + 1 < cLine) (hi : PE X i ty) (ho : PE X o td) (hm : behindInMarks .In o = false := by first | rfl | exact nobehind _ (by decide) (by decide)) : PT X (.Compare i [.In] [o] pos) (tTst (eInD false ty td)) :=
  pt_w (pt_cmp (pc_din hu (pe_hat hi) (pe_hat ho)) hm) fun σ H Q h => ⟨_, fun x H1 q => ⟨_, fun y H2 q => by
    obtain ⟨a, rfl, q1⟩ := asRef_of q
    have q := q1
    obtain ⟨k, rfl, kvs, h1, q⟩ := asKey_of q
    exact ⟨a, _, rfl, DGet.k h1, _, rfl, q⟩, q⟩, h⟩
theorem qInDN (hu : X.A.units + 1 < cLine) (hi : PE X i ty) (ho : PE X o td) (hm : behindInMarks .NotIn o = false := by first | rfl | exact nobehind _ (by decide) (by decide)) : PT X (.Compare i [.NotIn] [o] pos) (tTst (eInD true ty td)) :=
  pt_w (pt_cmp (pc_dnotin hu (pe_hat hi) (pe_hat ho)) hm) fun σ H Q h => ⟨_, fun x H1 q => ⟨_, fun y H2 q => by
    obtain ⟨a, rfl, q1⟩ := asRef_of q
    have q := q1
    obtain ⟨k, rfl, kvs, h1, q⟩ := asKey_of q
    exact ⟨a, _, rfl, DGet.k h1, _, rfl, q⟩, q⟩, h⟩
theorem dDget2 (hu : X.A.units + 1 < cLine) (ho : PE X o td) (he : PE X e ty) (hf : PE X f tx) (m : M2 X o "get" apos e f cpos) : PE X (.Call (.Attribute o "get" apos) [e, f] [] cpos) (eDget2 td ty tx) :=
  pe_w (pe_dget2 hu (pe_hat ho) (pe_hat he) (pe_hat hf) m) fun σ H Q h => ⟨_, fun x H1 q => by
    obtain ⟨a, rfl, ⟨kvs0, h0⟩, q⟩ := asRef_of q
    exact ⟨a, rfl, .inl ⟨kvs0, .inl h0⟩, _, fun y H2 q => ⟨_, fun z H3 q => by
      obtain ⟨k, rfl, kvs, h1, q⟩ := asKey_of q
      exact ⟨_, DGet.k h1, q⟩, q⟩, q⟩, h⟩
theorem dDsetd (ho : PE X o td) (he : PE X e ty) (hf : PE X f tx) (m : M2 X o "setdefault" apos e f cpos) : PE X (.Call (.Attribute o "setdefault" apos) [e, f] [] cpos) (eDsetd td ty tx) :=
  pe_w (pe_dsetd (pe_hat ho) (pe_hat he) (pe_hat hf) m) fun σ H Q h => ⟨_, fun x H1 q => by
    obtain ⟨a, rfl, ⟨kvs0, h0⟩, q⟩ := asRef_of q
    exact ⟨a, rfl, .inl ⟨kvs0, .inl h0⟩, _, fun y H2 q => ⟨_, fun z H3 q => by
      obtain ⟨k, rfl, kvs, h1, h2, q⟩ := asKey_of q
      refine ⟨kvs, k, h1, rfl, h2, fun v ev => ?_, fun ev => ?_⟩
      · rcases q with ⟨v', e', q⟩ | ⟨e', _⟩
        · rw [ev] at e'; cases e'; exact q
        · rw [ev] at e'; cases e'
      · rcases q with ⟨v', e', q⟩ | ⟨_, q⟩
        · rw [ev] at e'; cases e'
        · exact q, q⟩, q⟩, h⟩
theorem zDput (hu : X.A.units + 1 < cLine) (ho : PE X o td) (hi : PE X i ty) (hv : PE X value tv) (hs : swapsWith value (some (.Subscript o i pos')) pos.line X.env = pure false := by rfl) : PS X (.Assign [.Subscript o i pos'] value pos) (sDput td ty tv) :=
  ps_w (ps_dput hu (pe_hat ho) (pe_hat hi) (pe_hat hv) hs) fun D σ H h => ⟨_, fun v H1 q => ⟨_, fun x H2 q => ⟨_, fun y H3 q => by
    obtain ⟨a, rfl, q1⟩ := asRef_of q
    have q := q1
    obtain ⟨k, rfl, kvs, h1, h2, q⟩ := asKey_of q
    exact ⟨a, _, rfl, DPut.k h1 h2, q⟩, q⟩, q⟩, h⟩
theorem zDaug {op : Operator} {r : R2} (hu : X.A.units + 1 < cLine) (ho : PE X o td) (hi : PE X i ty) (hv : PE X value tv) (hop : OpR X (inplaceOp op) r)
    (ha : ∀ ov iv new, augStore i ov iv new = (do holding [new, ov, iv] (setItem ov iv new); release [new, ov, iv] []; pure .next) := by exact fun _ _ _ => rfl) : PS X (.AugAssign (.Subscript o i tpos) op value pos) (sDaug r td ty tv) := by
  have hin : InOp X op fun v y H Q => ∃ Q0 : VK, (∀ z H', Q0 z H' → Q z H') ∧ r v y H Q0 := fun pins s σ H x y u v Q I rx ry ⟨Q0, w, q⟩ => thn (hop pins s σ H x y u v Q0 I rx ry q) fun _ _ ⟨z, H', I', r', q'⟩ => ⟨z, H', I', r', w _ _ q'⟩
  exact ps_w (ps_daug hu (pe_hat ho) (pe_hat hi) (pe_hat hv) hin ha) fun D σ H h => ⟨_, fun x H1 q => ⟨_, fun y H2 q => by
    obtain ⟨a, rfl, q1⟩ := asRef_of q
    have q := q1
    obtain ⟨k, rfl, kvs, v, h1, h2, q⟩ := asKey_of q
    refine ⟨a, v, rfl, h2 ▸ DGet.k h1, _, fun y2 H3 q => ⟨_, fun z H4 q => ?_, q⟩, q⟩
    obtain ⟨kvs4, h3, h4, q⟩ := q
    exact ⟨_, DPut.k h3 h4, q⟩, q⟩, h⟩
/-- sorted(set(e)), sorted(e), sorted(d) -/
def eSrtSet (K : PySem.W.Frag) (te : TE) : TE := fun σ H Q => te σ H fun x H1 => asRef x fun a => ∃ zs : List Str, SqL K H1 a (zs.map V.str) ∧ zs.length < 4000 ∧ ∀ p q o, H1 p = none → (upd H1 p o) q = none → Q (.ref q) (upd (upd H1 p o) q (.lst ((srtU zs).map V.str)))
def eSrt (K : PySem.W.Frag) (te : TE) : TE := fun σ H Q => te σ H fun x H1 => asRef x fun a => ∃ zs : List Str, SqL K H1 a (zs.map V.str) ∧ ∀ q, H1 q = none → Q (.ref q) (upd H1 q (.lst ((srtT zs).map V.str)))
def eSrtD (te : TE) : TE := fun σ H Q => te σ H fun x H1 => asRef x fun a => ∃ (kvs : List (Key × V)) (ks : List Str), H1 a = some (.dK kvs) ∧ kvs.map (·.1) = ks.map Sum.inr ∧ ∀ q, H1 q = none → Q (.ref q) (upd H1 q (.lst ((srtT ks).map V.str)))
variable {p p2 : Pos}
theorem dSrtSet (hc : X.calm = true) (hg : Gl X "sorted") (hm : X.mg "sorted" = none) (hg2 : Gl X "set") (hm2 : X.mg "set" = none) (he : PE X e te) (hs0 : starEach [e] X.env = (false, eval e X.env) :: starEach [] X.env := by rfl) (hpl : (backTo cpos (starEach [] X.env)).any (·.1) = false := by rfl)
    (hs1 : starEach [.Call (.Name "set" p2) [e] [] cpos] X.env = (false, eval (.Call (.Name "set" p2) [e] [] cpos) X.env) :: starEach [] X.env := by rfl) (hpl1 : (backTo pos (starEach [] X.env)).any (·.1) = false := by rfl) :
    PE X (.Call (.Name "sorted" p) [.Call (.Name "set" p2) [e] [] cpos] [] pos) (eSrtSet X.K te) :=
  pe_w (dBlt (cr_srtTx hc) hg hm (by decide +kernel) (kCons (dBty (cr_setTx hc) hg2 hm2 (by decide +kernel) (kCons (pe_hat he) kNil hs0) (by decide) (by decide) hs0 hpl) kNil hs1) (by decide) (by decide) hs1 hpl1) fun σ H Q h => by
    refine ⟨_, fun x H1 q => ?_, h⟩
    obtain ⟨a, rfl, zs, h1, h2, q⟩ := asRef_of q
    refine ⟨a, zs, rfl, h1, h2, fun p M n hp hM => ⟨p, M, n, rfl, upd_same, fun ys q' s1 s2 s3 hq => ?_⟩⟩
    rw [srtU_eq s1 s2 fun y => (s3 y).trans (hM y)]
    exact q p q' _ hp hq
theorem dSrt (hg : Gl X "sorted") (hm : X.mg "sorted" = none) (he : PE X e te) (hs0 : starEach [e] X.env = (false, eval e X.env) :: starEach [] X.env := by rfl) (hpl : (backTo pos (starEach [] X.env)).any (·.1) = false := by rfl) :
    PE X (.Call (.Name "sorted" p) [e] [] pos) (eSrt X.K te) :=
  pe_w (dBlt cr_srtAny hg hm (by decide +kernel) (kCons (pe_hat he) kNil hs0) (by decide) (by decide) hs0 hpl) fun σ H Q h => by
    refine ⟨_, fun x H1 q => ?_, h⟩
    obtain ⟨a, rfl, zs, h1, q⟩ := asRef_of q
    refine ⟨a, zs, rfl, h1, fun ys q' s1 s2 hq => ?_⟩
    rw [srt_unique (sortedS_pw s2) (srtT_srt zs) (s1.trans (srtT_perm zs).symm)]
    exact q q' hq
theorem dSrtD (hc : X.calm = true) (hg : Gl X "sorted") (hm : X.mg "sorted" = none) (he : PE X e te) (hs0 : starEach [e] X.env = (false, eval e X.env) :: starEach [] X.env := by rfl) (hpl : (backTo pos (starEach [] X.env)).any (·.1) = false := by rfl) :
    PE X (.Call (.Name "sorted" p) [e] [] pos) (eSrtD te) :=
  pe_w (dBlt (cr_srtD hc) hg hm (by decide +kernel) (kCons (pe_hat he) kNil hs0) (by decide) (by decide) hs0 hpl) fun σ H Q h => by
    refine ⟨_, fun x H1 q => ?_, h⟩
    obtain ⟨a, rfl, kvs, zs, h1, h2, q⟩ := asRef_of q
    refine ⟨a, kvs, zs, rfl, .inl h1, h2, fun ys q' s1 s2 hq => ?_⟩
    rw [srt_unique (sortedS_pw s2) (srtT_srt zs) (s1.trans (srtT_perm zs).symm)]
    exact q q' hq
/-- methods -/
def uJoin (K : PySem.W.Frag) (z : Str) (vs : List V) (H : Hp) (Q : VK) : Prop := vRef vs fun a => ∃ ys : List Str, (SqL K H a (ys.map V.str) ∨ SqT K H a (ys.map V.str)) ∧ (ys.map (·.length)).sum + ys.length * z.length ≤ 16777216 ∧ Q (.str (Txt.join z ys)) H
theorem mJoin : MsR X "str.join" (uJoin X.K) := fun pins s σ H x vs v us Q I rx rs ⟨z, e, q⟩ => by
  subst e
  obtain ⟨a, rfl, ys, h1, h2, q⟩ := vRef_of q
  exact mt_join pins s σ H _ _ v us Q I rx rs ⟨z, a, ys, rfl, rfl, h1, h2, q⟩
def uIndex (K : PySem.W.Frag) (l : Addr) (vs : List V) (H : Hp) (Q : VK) : Prop := vOne vs fun y => ∃ xs j z, SqL K H l xs ∧ flatV y = true ∧ xs.all flatV = true ∧ xs[j]? = some z ∧ eqV z y = true ∧ (∀ (m : Nat) (z' : V), m < j → xs[m]? = some z' → eqV z' y = false) ∧ Q (.int (j : Nat)) H
theorem mIndex : MlR X "list.index" (uIndex X.K) := fun pins s σ H x vs v us Q I rx rs ⟨z, e, q⟩ => by
  subst e
  obtain ⟨y, rfl, xs, j, z', h1, h2, h3, h4, h5, h6, q⟩ := vOne_of q
  exact mt_index pins s σ H _ _ v us Q I rx rs ⟨_, xs, y, j, z', rfl, rfl, h1, h2, h3, h4, h5, h6, q⟩
def uFindTx (z : Str) (vs : List V) (H : Hp) (Q : VK) : Prop := False
/-- xs.extend(ys), xs += ys: ys a list that is read -/
theorem ext_ok {pins : List (Addr × Obj)} {s : Shared} {σ : L2.St} {H : Hp} {l b : Addr} {xs zs : List V} (I : Inv X pins σ H s) (h1 : H l = some (.lst xs)) (h2 : SqL X.K H b zs) (hz : xs.length + zs.length ≤ sizeLine) :
    ∃ its n its2 n2 dd2 sl2, s.heap.get? l = some (seqObj "list" (its : List Value).toArray n) ∧ s.heap.get? b = some { cls := .type "list", dict := dd2, data := .seq (its2 : List Value).toArray n2, slots := sl2 } ∧ Vals xs its ∧ Vals zs its2 ∧ its.length + its2.length ≤ sizeLine := by
  obtain ⟨z, its, n, r, hl, e⟩ := I.lstM h1
  obtain ⟨its2, r2, ⟨⟨cls, dd, data, sl⟩, m, ho, hc, _, hd⟩, _⟩ := I.list h2
  simp only at hc hd
  subst hc hd
  exact ⟨its, n, its2, m, dd, sl, e, ho, r, r2, by rw [← r.length, ← r2.length]; exact hz⟩
end
end Hf
set_option Elab.async false
set_option linter.all false
set_option maxRecDepth 100000
set_option maxHeartbeats 4000000
namespace Hf
open PySem PySem.Spec L2 PyProof.Rows
def asK : AV → Option Key
  | .int i => some (.inl i)
  | .str z => some (.inr z)
  | _ => none
def valX (kvs : List (Key × AV)) (k : Key) : Option AV := (kvs.find? fun kv => decide (kv.1 = k)).map (·.2)
def putXK (kvs : List (Key × AV)) (k : Key) (v : AV) : List (Key × AV) :=
  if (kvs.any fun kv => decide (kv.1 = k)) = true then kvs.map (fun kv => if kv.1 = k then (kv.1, v) else kv) else kvs ++ [(k, v)]
section
variable {K : PySem.W.Frag} {Γ : Gm} {E : XK} {F F1 H H1 : Hp} {φ φ1 : List Addr} {h h1 : AH} {S : AS} {σ : L2.St} {Q : VK} {x y : AV} {v u : V} {xs ys : List AV} {vs us : List V}
  {ta tb tc td te to tx ty tv : TE} {ma mb mc md me mo mx my mv : EV} {tes : TA} {ms : LV}
theorem asK_ok {k : Key} (a : AR K F φ x v) (e : asK x = some k) : v = kV k := by
  unfold asK at e
  split at e
  · cases e; exact iInt a
  · cases e; exact iStr a
  · cases e
theorem asKey_kV {k : Key} {P : Key → Prop} (h : P k) : asKey (kV k) P := by
  cases k <;> exact h
theorem KRs.cons_inv {κ : Type} {p : κ × AV} {kx : List (κ × AV)} {kv : List (κ × V)} (r : KRs K F φ (p :: kx) kv) : ∃ v ks, kv = (p.1, v) :: ks ∧ AR K F φ p.2 v ∧ KRs K F φ kx ks := by
  obtain ⟨r1, r2⟩ := r
  cases kv with
  | nil => simp at r1
  | cons q ks =>
    obtain ⟨q1, q2⟩ := q
    simp at r1
    obtain ⟨e1, r1⟩ := r1
    obtain ⟨v', ws, e2, a1, a2⟩ := r2.cons_inv
    simp at e2
    obtain ⟨rfl, rfl⟩ := e2
    subst e1
    exact ⟨_, ks, rfl, a1, r1, a2⟩
theorem KRs.nil_inv {κ : Type} {kv : List (κ × V)} (r : KRs K F φ [] kv) : kv = [] := by simpa using r.1.symm
theorem KRs.cons {κ : Type} {k : κ} {kx : List (κ × AV)} {kv : List (κ × V)} (a : AR K F φ x v) (r : KRs K F φ kx kv) : KRs K F φ ((k, x) :: kx) ((k, v) :: kv) := ⟨by simp [r.1], .cons a r.2⟩
theorem KRs.len {κ : Type} {kx : List (κ × AV)} {kv : List (κ × V)} (r : KRs K F φ kx kv) : kx.length = kv.length := by simpa using congrArg List.length r.1
theorem KRs.val {k : Key} : ∀ {kx : List (Key × AV)} {kv : List (Key × V)}, KRs K F φ kx kv → (∀ {x}, valX kx k = some x → ∃ v, valV kv k = some v ∧ AR K F φ x v) ∧ (valX kx k = none → valV kv k = none)
  | [], kv, r => by rw [r.nil_inv]; exact ⟨fun h => by simp [valX] at h, fun _ => rfl⟩
  | p :: kx, kv, r => by
    obtain ⟨v, ks, rfl, a, r⟩ := r.cons_inv
    obtain ⟨i1, i2⟩ := KRs.val (k := k) r
    by_cases c : p.1 = k
    · rw [valV_pos (p := (p.1, v)) c]
      have e : valX (p :: kx) k = some p.2 := by simp [valX, List.find?_cons, c]
      rw [e]
      exact ⟨fun h => by cases h; exact ⟨v, rfl, a⟩, fun h => by cases h⟩
    · rw [valV_neg (p := (p.1, v)) c]
      have e : valX (p :: kx) k = valX kx k := by simp [valX, List.find?_cons, c]
      rw [e]
      exact ⟨i1, i2⟩
theorem any_key {κ : Type} [DecidableEq κ] {α : Type} (k : κ) (kv : List (κ × α)) : (kv.any fun p => decide (p.1 = k)) = (kv.map (·.1)).any fun q => decide (q = k) := by
  rw [List.any_map]; rfl
theorem KRs.putk {k : Key} {kx : List (Key × AV)} {kv : List (Key × V)} (r : KRs K F φ kx kv) (a : AR K F φ x v) : KRs K F φ (putXK kx k x) (putK kv k v) := by
  unfold putXK putK
  have e : (kx.any fun p => decide (p.1 = k)) = (kv.any fun p => decide (p.1 = k)) := by rw [any_key, any_key, r.1]
  rw [e]
  split
  · rename_i hh
    clear e hh
    induction kx generalizing kv with
    | nil => rw [r.nil_inv]; exact ⟨rfl, .nil⟩
    | cons p kx ih =>
      obtain ⟨p1, p2⟩ := p
      obtain ⟨u, ks, rfl, b, r'⟩ := r.cons_inv
      have r := r'
      by_cases c : p1 = k
      · simp only [List.map_cons, c, ↓reduceIte]
        exact KRs.cons a (ih r)
      · simp only [List.map_cons, c, ↓reduceIte]
        exact KRs.cons b (ih r)
  · refine ⟨by simp [r.1], ?_⟩
    rw [List.map_append, List.map_append]
    exact r.2.app (.one a)
theorem valX_nil {k : Key} : valX [] k = none := rfl
/-- a dict at a value -/
def dcOf (h : AH) : AV → Option (List (Key × AV))
  | .id n => match h[n]? with
    | some (.dct kvs) => some kvs
    | _ => none
  | _ => none
theorem dcOf_ok {kx : List (Key × AV)} (w : WR K Γ F H φ h) (a : AR K F φ x v) (e : dcOf h x = some kx) : ∃ p kv, v = .ref p ∧ H p = some (.dK kv) ∧ KRs K F φ kx kv := by
  unfold dcOf at e
  split at e
  · obtain ⟨p, hn, rfl⟩ := iId a
    split at e
    · rename_i c
      cases e
      obtain ⟨_, kv, h1, h2⟩ := w.cl _ _ _ hn c
      exact ⟨p, kv, rfl, h1, h2⟩
    · cases e
  · cases e
def mDnew : EV := fun _ h => .ok (.id h.length) (h ++ [.dct []])
theorem vDnew : SE K Γ E eDnew mDnew := ⟨fun w s o p hp => by
  obtain ⟨w2, e2⟩ := w.alloc (c := .dct []) hp fun H' e nF => ⟨nF, [], e, rfl, .nil⟩
  exact o.use w2 e2 (aId (by rw [← w.ln, List.getElem?_append_right (Nat.le_refl _), Nat.sub_self]; rfl))⟩
def opDget (x y : AV) (h : AH) : Rs AV := match dcOf h x, asK y with
  | some kvs, some k => match valX kvs k with
    | some v => .ok v h
    | none => .no
  | _, _ => .no
theorem vDget (ho : SE K Γ E td md) (hi : SE K Γ E ty my) : SE K Γ E (eDget td ty) (mBin opDget md my) := ⟨fun w s o => ho.run w s (o.bnd fun _ _ _ _ _ _ w1 e1 a1 o1 => hi.run w1 (s.to e1) (o1.bnd fun _ _ _ _ _ _ w2 e2 a2 o2 => by
  unfold opDget at o2
  split at o2
  · rename_i c1 c2
    obtain ⟨p, kv, rfl, h1, h2⟩ := dcOf_ok w2 (a1.to e2) c1
    have := asK_ok a2 c2
    subst this
    split at o2
    · rename_i c3
      obtain ⟨v, h3, h4⟩ := h2.val.1 c3
      rw [eb3]
      exact asKey_kV ⟨kv, v, h1, h3, o2.here w2 h4⟩
    · exact o2.elim
  · exact o2.elim))⟩
def opInD (neg : Bool) (y x : AV) (h : AH) : Rs AV := match dcOf h x, asK y with
  | some kvs, some k => .ok (.bl (if neg then !(valX kvs k).isSome else (valX kvs k).isSome)) h
  | _, _ => .no
theorem vInD {neg : Bool} (hi : SE K Γ E ty my) (ho : SE K Γ E td md) : SE K Γ E (eInD neg ty td) (mBin (opInD neg) my md) := ⟨fun w s o => hi.run w s (o.bnd fun _ _ _ _ _ _ w1 e1 a1 o1 => ho.run w1 (s.to e1) (o1.bnd fun _ _ _ _ _ _ w2 e2 a2 o2 => by
  unfold opInD at o2
  split at o2
  · rename_i kx k c1 c2
    obtain ⟨p, kv, rfl, h1, h2⟩ := dcOf_ok w2 a2 c1
    have := asK_ok (a1.to e2) c2
    subst this
    rw [eb3]
    have e : (valX kx k).isSome = (valV kv k).isSome := by
      obtain ⟨i1, i2⟩ := h2.val (k := k)
      cases c : valX kx k with
      | none => rw [i2 c]; rfl
      | some z => obtain ⟨v, e, _⟩ := i1 c; rw [e]; rfl
    rw [e] at o2
    exact asKey_kV ⟨kv, h1, o2.here w2 aBl⟩
  · exact o2.elim))⟩
def kDg2 (x y z : AV) (h : AH) : Rs AV := match dcOf h x, asK y with
  | some kvs, some k => .ok ((valX kvs k).getD z) h
  | _, _ => .no
def kDg1 (f : AV → AV → AV → AH → Rs AV) (mx : EV) (S : AS) (x y : AV) (h : AH) : Rs AV := (mx S h).bnd (f x y)
def kDg0 (f : AV → AV → AV → AH → Rs AV) (my mx : EV) (S : AS) (x : AV) (h : AH) : Rs AV := match dcOf h x with
  | some _ => (my S h).bnd (kDg1 f mx S x)
  | none => .no
def mD3 (f : AV → AV → AV → AH → Rs AV) (md my mx : EV) : EV := fun S h => (md S h).bnd (kDg0 f my mx S)
theorem vDget2 (hd : SE K Γ E td md) (hy : SE K Γ E ty my) (hx : SE K Γ E tx mx) : SE K Γ E (eDget2 td ty tx) (mD3 kDg2 md my mx) := ⟨fun w s o => hd.run w s (o.bnd fun _ _ _ _ _ _ w1 e1 a1 o1 => by
  unfold kDg0 at o1
  split at o1
  · rename_i c0
    obtain ⟨p, kv, rfl, h1, h2⟩ := dcOf_ok w1 a1 c0
    rw [eb3]
    refine ⟨⟨kv, h1⟩, hy.run w1 (s.to e1) (o1.bnd fun _ _ _ _ _ _ w2 e2 a2 o2 => hx.run w2 ((s.to e1).to e2) (o2.bnd fun z _ F3 H3 φ3 _ w3 e3 a3 o3 => ?_))⟩
    unfold kDg2 at o3
    split at o3
    · rename_i kx k c1 c2
      obtain ⟨p', kv', ep, h3, h4⟩ := dcOf_ok w3 ((a1.to e2).to e3) c1
      cases ep
      have := asK_ok (a2.to e3) c2
      subst this
      refine asKey_kV ⟨kv', h3, ?_⟩
      obtain ⟨i1, i2⟩ := h4.val (k := k)
      cases c : valX kx k with
      | none => rw [c] at o3; rw [i2 c]; exact o3.here w3 a3
      | some z => obtain ⟨v, e, g⟩ := i1 c; rw [c] at o3; rw [e]; exact o3.here w3 g
    · exact o3.elim
  · exact o1.elim)⟩
theorem WR.putD {n : Nat} {p : Addr} {kx ky : List (Key × AV)} {kv : List (Key × V)} (w : WR K Γ F H φ h) (hn : φ[n]? = some p) (hc : h[n]? = some (.dct kx)) (r : KRs K F φ ky kv) : WR K Γ F (upd H p (.dK kv)) φ (h.set n (.dct ky)) ∧ Ex F H φ F (upd H p (.dK kv)) φ := by
  obtain ⟨nF, _, _⟩ := w.cl _ _ _ hn hc
  exact w.put hn nF fun H' e => ⟨nF, kv, e, r⟩
/-- d[k] = v in the cells -/
def dput (x : AV) (k : Key) (v : AV) (h : AH) : Option AH := match x with
  | .id n => match h[n]? with
    | some (.dct kvs) => if kvs.length < 16777216 then some (h.set n (.dct (putXK kvs k v))) else none
    | _ => none
  | _ => none
theorem dput_ok {k : Key} {z : AV} (w : WR K Γ F H φ h) (a : AR K F φ x v) (b : AR K F φ z u) (e : dput x k z h = some h1) : ∃ p kv, v = .ref p ∧ H p = some (.dK kv) ∧ kv.length < sizeLine ∧ WR K Γ F (upd H p (.dK (putK kv k u))) φ h1 ∧ Ex F H φ F (upd H p (.dK (putK kv k u))) φ := by
  have sz := sz
  unfold dput at e
  split at e
  · obtain ⟨p, hn, rfl⟩ := iId a
    split at e
    · rename_i c
      split at e
      · rename_i l
        cases e
        obtain ⟨_, kv, h1, h2⟩ := w.cl _ _ _ hn c
        obtain ⟨w2, e2⟩ := w.putD hn c (h2.putk (k := k) b)
        exact ⟨p, kv, rfl, h1, by rw [← h2.len, sz]; exact l, w2, e2⟩
      · cases e
    · cases e
  · cases e
def kDs2 (x y z : AV) (h : AH) : Rs AV := match dcOf h x, asK y with
  | some kvs, some k => match valX kvs k with
    | some v => if kvs.length < 16777216 then .ok v h else .no
    | none => match dput x k z h with
      | some h1 => .ok z h1
      | none => .no
  | _, _ => .no
theorem vDsetd (hd : SE K Γ E td md) (hy : SE K Γ E ty my) (hx : SE K Γ E tx mx) : SE K Γ E (eDsetd td ty tx) (mD3 kDs2 md my mx) := ⟨fun w s o => hd.run w s (o.bnd fun _ _ _ _ _ _ w1 e1 a1 o1 => by
  have sz := sz
  unfold kDg0 at o1
  split at o1
  · rename_i c0
    obtain ⟨p, kv, rfl, h1, h2⟩ := dcOf_ok w1 a1 c0
    rw [eb3]
    refine ⟨⟨kv, h1⟩, hy.run w1 (s.to e1) (o1.bnd fun _ _ _ _ _ _ w2 e2 a2 o2 => hx.run w2 ((s.to e1).to e2) (o2.bnd fun z _ F3 H3 φ3 _ w3 e3 a3 o3 => ?_))⟩
    unfold kDs2 at o3
    split at o3
    · rename_i kx k c1 c2
      obtain ⟨p', kv', ep, h3, h4⟩ := dcOf_ok w3 ((a1.to e2).to e3) c1
      cases ep
      have := asK_ok (a2.to e3) c2
      subst this
      obtain ⟨i1, i2⟩ := h4.val (k := k)
      split at o3
      · rename_i v c
        obtain ⟨v', e, g⟩ := i1 c
        split at o3
        · rename_i l
          exact asKey_kV ⟨kv', h3, by rw [← h4.len, sz]; exact l, .inl ⟨v', e, o3.here w3 g⟩⟩
        · exact o3.elim
      · rename_i c
        split at o3
        · rename_i d
          obtain ⟨p2, kv2, ep, h5, h6, w4, e4⟩ := dput_ok w3 ((a1.to e2).to e3) a3 d
          cases ep
          rw [h3] at h5
          cases h5
          exact asKey_kV ⟨kv', h3, h6, .inr ⟨i2 c, o3.use w4 e4 (a3.to e4)⟩⟩
        · exact o3.elim
    · exact o3.elim
  · exact o1.elim)⟩
def kDp2 (v x : AV) (S : AS) (y : AV) (h : AH) : Rs Ou := match asK y with
  | some k => match dput x k v h with
    | some h1 => .ok (.nx S) h1
    | none => .no
  | none => .no
def kDp1 (my : EV) (S : AS) (v x : AV) (h : AH) : Rs Ou := (my S h).bnd (kDp2 v x S)
def kDp0 (md my : EV) (S : AS) (v : AV) (h : AH) : Rs Ou := (md S h).bnd (kDp1 my S v)
def mDput (md my mv : EV) : SV := fun S h => (mv S h).bnd (kDp0 md my S)
theorem vDput (hd : SE K Γ E td md) (hy : SE K Γ E ty my) (hv : SE K Γ E tv mv) : SS K Γ E (sDput td ty tv) (mDput md my mv) := ⟨fun w s o => hv.run w s (o.bnd fun _ _ _ _ _ _ w1 e1 a1 o1 => hd.run w1 (s.to e1) (o1.bnd fun _ _ _ _ _ _ w2 e2 a2 o2 => hy.run w2 ((s.to e1).to e2) (o2.bnd fun _ _ _ _ _ _ w3 e3 a3 o3 => by
  unfold kDp2 at o3
  split at o3
  · rename_i k c
    have := asK_ok a3 c
    subst this
    split at o3
    · rename_i d
      obtain ⟨p, kv, rfl, h5, h6, w4, e4⟩ := dput_ok w3 (a2.to e3) ((a1.to e2).to e3) d
      rw [eb3]
      exact asKey_kV ⟨kv, h5, h6, o3 _ _ _ w4 e4 _ ((((s.to e1).to e2).to e3).to e4)⟩
    · exact o3.elim
  · exact o3.elim)))⟩
def kDa3 (x : AV) (k : Key) (S : AS) (z : AV) (h : AH) : Rs Ou := match dput x k z h with
  | some h1 => .ok (.nx S) h1
  | none => .no
def kDa2 (f : AV → AV → AH → Rs AV) (x : AV) (k : Key) (S : AS) (v y2 : AV) (h : AH) : Rs Ou := (f v y2 h).bnd (kDa3 x k S)
def kDa1 (f : AV → AV → AH → Rs AV) (mv : EV) (S : AS) (x y : AV) (h : AH) : Rs Ou := match dcOf h x, asK y with
  | some kvs, some k => match valX kvs k with
    | some v => (mv S h).bnd (kDa2 f x k S v)
    | none => .no
  | _, _ => .no
def kDa0 (f : AV → AV → AH → Rs AV) (my mv : EV) (S : AS) (x : AV) (h : AH) : Rs Ou := (my S h).bnd (kDa1 f mv S x)
def mDaug (f : AV → AV → AH → Rs AV) (md my mv : EV) : SV := fun S h => (md S h).bnd (kDa0 f my mv S)
theorem vDaug {r : R2} {f : AV → AV → AH → Rs AV} (hf : SO K Γ E r f) (hd : SE K Γ E td md) (hy : SE K Γ E ty my) (hv : SE K Γ E tv mv) : SS K Γ E (sDaug r td ty tv) (mDaug f md my mv) := ⟨fun w s o => hd.run w s (o.bnd fun _ _ _ _ _ _ w1 e1 a1 o1 => hy.run w1 (s.to e1) (o1.bnd fun _ _ _ _ _ _ w2 e2 a2 o2 => by
  unfold kDa1 at o2
  split at o2
  · rename_i k c1 c2
    obtain ⟨p, kv, rfl, h1, h2⟩ := dcOf_ok w2 (a1.to e2) c1
    have := asK_ok a2 c2
    subst this
    split at o2
    · rename_i c3
      obtain ⟨v, h3, h4⟩ := h2.val.1 c3
      rw [eb3]
      refine asKey_kV ⟨kv, v, h1, h3, hv.run w2 ((s.to e1).to e2) (OkS.bnd o2 fun _ _ _ _ _ _ w3 e3 a3 o3 => hf.run w3 (h4.to e3) a3 (OkS.bnd o3 fun _ _ _ _ _ _ w4 e4 a4 o4 => ?_))⟩
      unfold kDa3 at o4
      split at o4
      · rename_i d
        obtain ⟨p2, kv2, ep, h5, h6, w5, e5⟩ := dput_ok w4 (((a1.to e2).to e3).to e4) a4 d
        cases ep
        exact ⟨kv2, h5, h6, o4 _ _ _ w5 e5 _ (((((s.to e1).to e2).to e3).to e4).to e5)⟩
      · exact o4.elim
    · exact o2.elim
  · exact o2.elim))⟩
/-! sorted -/
def strsOf : List AV → Option (List Str)
  | [] => some []
  | .str z :: xs => (strsOf xs).map (z :: ·)
  | _ :: _ => none
theorem strsOf_ok : ∀ {xs : List AV} {vs : List V} {zs : List Str}, ARs K F φ xs vs → strsOf xs = some zs → vs = zs.map V.str
  | [], _, _, a, e => by rw [a.nil_inv]; unfold strsOf at e; cases e; rfl
  | x :: xs, _, _, a, e => by
    obtain ⟨v, ws, rfl, a1, a2⟩ := a.cons_inv
    unfold strsOf at e
    split at e
    · rename_i e'; cases e'
    · rename_i z xs' e'
      cases e'
      cases c : strsOf xs with
      | none => rw [c] at e; cases e
      | some zs =>
        rw [c] at e
        cases e
        rw [iStr a1, strsOf_ok a2 c]
        rfl
    · cases e
theorem strsOf_map : ∀ zs : List Str, strsOf (zs.map AV.str) = some zs
  | [] => rfl
  | z :: zs => by
    show (strsOf (zs.map AV.str)).map (z :: ·) = _
    rw [strsOf_map zs]; rfl
def kSrtSet (x : AV) (h : AH) : Rs AV := match (lsOf h x).bind strsOf with
  | some zs => if zs.length < 4000 then .ok (.lst ((srtU zs).map AV.str)) h else .no
  | none => .no
def mSrtSet (ma : EV) : EV := fun S h => (ma S h).bnd kSrtSet
theorem vSrtSet (ha : SE K Γ E te me) : SE K Γ E (eSrtSet K te) (mSrtSet me) := ⟨fun w s o => ha.run w s (o.bnd fun x h1 F1 H1 φ1 v w1 e1 a1 o1 => by
  unfold kSrtSet at o1
  split at o1
  · rename_i zs c
    cases c1 : lsOf h1 x with
    | none => rw [c1] at c; cases c
    | some xs =>
      rw [c1] at c
      obtain ⟨p, vs, rfl, h2, h3⟩ := lsOf_ok w1 a1 c1
      have := strsOf_ok h3 c
      subst this
      split at o1
      · rename_i l
        rw [eb3]
        refine ⟨zs, h2, l, fun p q o hp hq => ?_⟩
        obtain ⟨w2, e2⟩ := w1.new (o := o) hp
        obtain ⟨w3, e3⟩ := w2.new (o := .lst ((srtU zs).map V.str)) hq
        exact o1.use w3 (e2.trans e3) (aLst upd_same .strs)
      · exact o1.elim
  · exact o1.elim)⟩
def kSrt (x : AV) (h : AH) : Rs AV := match (lsOf h x).bind strsOf with
  | some zs => .ok (.lst ((srtT zs).map AV.str)) h
  | none => .no
def mSrt (ma : EV) : EV := fun S h => (ma S h).bnd kSrt
theorem vSrt (ha : SE K Γ E te me) : SE K Γ E (eSrt K te) (mSrt me) := ⟨fun w s o => ha.run w s (o.bnd fun x h1 F1 H1 φ1 v w1 e1 a1 o1 => by
  unfold kSrt at o1
  split at o1
  · rename_i zs c
    cases c1 : lsOf h1 x with
    | none => rw [c1] at c; cases c
    | some xs =>
      rw [c1] at c
      obtain ⟨p, vs, rfl, h2, h3⟩ := lsOf_ok w1 a1 c1
      have := strsOf_ok h3 c
      subst this
      rw [eb3]
      refine ⟨zs, h2, fun q hq => ?_⟩
      obtain ⟨w2, e2⟩ := w1.new (o := .lst ((srtT zs).map V.str)) hq
      exact o1.use w2 e2 (aLst upd_same .strs)
  · exact o1.elim)⟩
def keysT : List (Key × AV) → Option (List Str)
  | [] => some []
  | (.inr z, _) :: r => (keysT r).map (z :: ·)
  | (.inl _, _) :: _ => none
theorem keysT_ok : ∀ {kx : List (Key × AV)} {zs : List Str}, keysT kx = some zs → kx.map (·.1) = zs.map Sum.inr
  | [], _, e => by unfold keysT at e; cases e; rfl
  | (.inl _, _) :: _, _, e => by unfold keysT at e; cases e
  | (.inr z, _) :: r, _, e => by
    unfold keysT at e
    cases c : keysT r with
    | none => rw [c] at e; cases e
    | some zs => rw [c] at e; cases e; simp [keysT_ok c]
def kSrtD (x : AV) (h : AH) : Rs AV := match (dcOf h x).bind keysT with
  | some zs => .ok (.lst ((srtT zs).map AV.str)) h
  | none => .no
def mSrtD (ma : EV) : EV := fun S h => (ma S h).bnd kSrtD
theorem vSrtD (ha : SE K Γ E te me) : SE K Γ E (eSrtD te) (mSrtD me) := ⟨fun w s o => ha.run w s (o.bnd fun x h1 F1 H1 φ1 v w1 e1 a1 o1 => by
  unfold kSrtD at o1
  split at o1
  · rename_i zs c
    cases c1 : dcOf h1 x with
    | none => rw [c1] at c; cases c
    | some kx =>
      rw [c1] at c
      obtain ⟨p, kv, rfl, h2, h3⟩ := dcOf_ok w1 a1 c1
      rw [eb3]
      refine ⟨kv, zs, h2, h3.1.symm.trans (keysT_ok c), fun q hq => ?_⟩
      obtain ⟨w2, e2⟩ := w1.new (o := .lst ((srtT zs).map V.str)) hq
      exact o1.use w2 e2 (aLst upd_same .strs)
  · exact o1.elim)⟩
/-! methods -/
def fJoin (x : AV) (ys : List AV) (h : AH) : Rs AV := match x, ys with
  | .str z, [y] => match (sqOf h y).bind strsOf with
    | some zs => if (zs.map (·.length)).sum + zs.length * z.length ≤ 16777216 then .ok (.str (Txt.join z zs)) h else .no
    | none => .no
  | _, _ => .no
theorem wJoin : SM K Γ E (uJoin K) fJoin := ⟨fun {F H φ h z xs vs Q} w a o => by
  unfold fJoin at o
  split at o
  · rename_i e
    cases e
    rename_i y
    obtain ⟨v, rfl, a1⟩ := one_inv a
    split at o
    · rename_i zs c
      cases c1 : sqOf h y with
      | none => rw [c1] at c; cases c
      | some xs =>
        rw [c1] at c
        obtain ⟨p, vs, rfl, h2, h3⟩ := sqOf_ok w a1 c1
        have := strsOf_ok h3 c
        subst this
        split at o
        · rename_i l
          exact ⟨zs, h2, l, o.here w aStr⟩
        · exact o.elim
    · exact o.elim
  · exact o.elim⟩
def idxV (y : V) (xs : List V) : Option Nat := xs.findIdx? fun z => eqV z y
def fIndex (x : AV) (ys : List AV) (h : AH) : Rs AV := match ys with
  | [y] => match (lsOf h x).bind fvs, fv y with
    | some vs, some v => match idxV v vs with
      | some j => .ok (.int (j : Nat)) h
      | none => .no
    | _, _ => .no
  | _ => .no
theorem wIndex : SMl K Γ E (uIndex K) fIndex := ⟨fun {F H φ h x p xs vs Q} w b a o => by
  unfold fIndex at o
  split at o
  · rename_i y
    obtain ⟨v, rfl, a1⟩ := one_inv a
    split at o
    · rename_i us u c1 c2
      cases c3 : lsOf h x with
      | none => rw [c3] at c1; cases c1
      | some zs =>
        rw [c3] at c1
        obtain ⟨p', ws, ep, h2, h3⟩ := lsOf_ok w b c3
        cases ep
        obtain ⟨rfl, f⟩ := fvs_ok h3 c1
        have := fv_ok a1 c2
        subst this
        split at o
        · rename_i j cj
          obtain ⟨hj, q1, q2⟩ := List.findIdx?_eq_some_iff_getElem.mp cj
          refine ⟨ws, j, ws[j], h2, fv_flat c2, f, List.getElem?_eq_getElem hj, q1, fun m z' hm ez => ?_, o.here w aInt⟩
          have hm' := (List.getElem?_eq_some_iff.mp ez)
          have := q2 m hm
          rw [hm'.2] at this
          simpa using this
        · exact o.elim
    · exact o.elim
  · exact o.elim⟩
/-- a list that may be read by extend -/
def exOf (h : AH) : AV → Option (List AV)
  | .lst xs => some xs
  | .id n => match h[n]? with
    | some (.lst xs) => some xs
    | some (.fz xs) => some xs
    | _ => none
  | _ => none
theorem exOf_ok (w : WR K Γ F H φ h) (r : AR K F φ x v) (e : exOf h x = some xs) : ∃ a vs, v = .ref a ∧ H a = some (.lst vs) ∧ ARs K F φ xs vs := by
  unfold exOf at e
  split at e
  · cases e
    obtain ⟨a, vs, rfl, h1, h2⟩ := iLst r
    exact ⟨a, vs, rfl, w.ff _ _ h1, h2⟩
  · obtain ⟨a, h1, rfl⟩ := iId r
    split at e
    · cases e
      rename_i e1
      obtain ⟨_, vs, h2, h3⟩ := w.cl _ _ _ h1 e1
      exact ⟨a, vs, rfl, h2, h3⟩
    · cases e
      rename_i e1
      obtain ⟨vs, h2, h3⟩ := w.cl _ _ _ h1 e1
      exact ⟨a, vs, rfl, w.ff _ _ h2, h3⟩
    · cases e
  · cases e
/-- the cells behind x.extend(ys) -/
def lext (x y : AV) (h : AH) : Option AH := match x, exOf h y with
  | .id n, some ys => match h[n]? with
    | some (.lst xs) => if xs.length + ys.length ≤ 16777216 then some (h.set n (.lst (xs ++ ys))) else none
    | _ => none
  | _, _ => none
theorem lext_ok (w : WR K Γ F H φ h) (a : AR K F φ x v) (b : AR K F φ y u) (e : lext x y h = some h1) : ∃ p q vs us, v = .ref p ∧ u = .ref q ∧ H p = some (.lst vs) ∧ H q = some (.lst us) ∧ vs.length + us.length ≤ sizeLine ∧ WR K Γ F (upd H p (.lst (vs ++ us))) φ h1 ∧ Ex F H φ F (upd H p (.lst (vs ++ us))) φ := by
  have sz := sz
  unfold lext at e
  split at e
  · rename_i c
    obtain ⟨p, hn, rfl⟩ := iId a
    obtain ⟨q, us, rfl, h2, h3⟩ := exOf_ok w b c
    split at e
    · rename_i c2
      obtain ⟨_, vs, h4, h5⟩ := w.cl _ _ _ hn c2
      split at e
      · rename_i l
        cases e
        obtain ⟨w2, e2⟩ := w.putL hn c2 (h5.app h3)
        exact ⟨p, q, vs, us, rfl, rfl, h4, h2, by rw [← h5.len, ← h3.len, sz]; exact l, w2, e2⟩
      · cases e
    · cases e
  · cases e
def fExtend (x : AV) (ys : List AV) (h : AH) : Rs AV := match ys with
  | [y] => match lext x y h with
    | some h1 => .ok .non h1
    | none => .no
  | _ => .no
theorem wExtend : SMl K Γ E uExtend fExtend := ⟨fun {F H φ h x p xs vs Q} w b a o => by
  unfold fExtend at o
  split at o
  · obtain ⟨v, rfl, a1⟩ := one_inv a
    split at o
    · rename_i c
      obtain ⟨p', q, vs, us, ep, rfl, h2, h3, h4, w2, e2⟩ := lext_ok w b a1 c
      cases ep
      exact ⟨vs, us, h2, h3, h4, o.use w2 e2 aNon⟩
    · exact o.elim
  · exact o.elim⟩
/-- x += y -/
def uIAdd (x y : V) (H : Hp) (Q : VK) : Prop := match x, y with
  | .int i, .int j => Q (.int (i + j)) H
  | .str i, .str j => i.length + j.length ≤ sizeLine ∧ Q (.str (i ++ j)) H
  | .ref a, .ref b => ∃ xs zs, H a = some (.lst xs) ∧ H b = some (.lst zs) ∧ xs.length + zs.length ≤ sizeLine ∧ Q (.ref a) (upd H a (.lst (xs ++ zs)))
  | _, _ => False
theorem ioAdd {X : Cx} : OpR X (inplaceOp .Add) uIAdd := by
  intro pins s σ H x y v u Q I rx ry h
  unfold uIAdd at h
  split at h
  · exact iop_add pins s σ H _ _ v u Q I rx ry ⟨_, _, rfl, rfl, h⟩
  · exact iop_add_str pins s σ H _ _ v u Q I rx ry ⟨_, _, rfl, rfl, h.1, h.2⟩
  · obtain ⟨xs, zs, h1, h2, h3, q⟩ := h
    exact iop_ext pins s σ H _ _ v u Q I rx ry ⟨_, _, xs, zs, rfl, rfl, h1, h2, h3, q⟩
  · exact h.elim
def opIAdd (x y : AV) (h : AH) : Rs AV := match x, y with
  | .int i, .int j => .ok (.int (i + j)) h
  | .str z, .str w => if z.length + w.length ≤ 16777216 then .ok (.str (z ++ w)) h else .no
  | x, y => match lext x y h with
    | some h1 => .ok x h1
    | none => .no
theorem wIAdd : SO K Γ E uIAdd opIAdd := ⟨fun {F H φ h x y v u Q} w a b o => by
  have sz := sz
  unfold opIAdd at o
  split at o
  · rw [iInt a, iInt b]; exact o.here w aInt
  · rw [iStr a, iStr b]
    split at o
    · rename_i c
      exact ⟨by rw [sz]; exact c, o.here w aStr⟩
    · exact o.elim
  · split at o
    · rename_i c
      obtain ⟨p', q, vs, us, rfl, rfl, h2, h3, h4, w2, e2⟩ := lext_ok w a b c
      exact ⟨vs, us, h2, h3, h4, o.use w2 e2 (a.to e2)⟩
    · exact o.elim⟩
end
end Hf
set_option Elab.async false
set_option linter.all false
set_option maxRecDepth 100000
set_option maxHeartbeats 4000000
namespace Hf
open PySem PySem.Spec L2 PyProof.Rows
/-! calls where defaults fill up -/
def FnD (P : Program) (w : World) (K : PySem.W.Frag) (mg : Str → Option Value) (base : Heap) (CX : CXT) (k : Nat) (x : Str) (ps : List Str) (dvs : List V) (sp : Sp) : Prop :=
  ∃ f fd, mg x = some (.ref f) ∧ PySem.W.keepIn K (.ref f) = true ∧ (∃ ds, Vals dvs ds ∧ Binds K fd ps ds) ∧ FnOk P w K mg base CX k f fd ps sp
def eCallD (sp : Sp) (E : XK) (dvs : List V) (t : TA) (σ : L2.St) (H : Hp) (Q : VK) : Prop := t σ H fun vs H1 => sp (vs ++ dvs) H1 Q E
theorem dFnD {X : Cx} {CX : CXT} {k : Nat} {x : Str} {ps : List Str} {dvs : List V} {sp : Sp} {E : XK} {e : Expr} {es : List Expr} {p pos : Pos} {tes : TA} (F : FnD X.prog X.w X.K X.mg X.base CX k x ps dvs sp) (hr : Room k X.A) (hg : Gl X x) (hx : Passes CX X E)
    (ha : PA X (e :: es) tes) (hdb : (x == ("__debug__" : Str)) = false := by decide) (he : starEach (e :: es) X.env = (false, eval e X.env) :: starEach es X.env := by rfl) (hpl : (backTo pos (starEach es X.env)).any (·.1) = false := by rfl) :
    PE X (.Call (.Name x p) (e :: es) [] pos) (eCallD sp E dvs tes) := by
  obtain ⟨f, fd, g1, g2, ⟨ds, g3, g4⟩, g5⟩ := F
  exact pe_w (pe_call g5 hr hg g1 g2 g4 g3 hx ha hdb he hpl) fun σ H Q q => q
section
variable {K : PySem.W.Frag} {Γ : Gm} {E : XK} {F F1 H H1 : Hp} {φ φ1 : List Addr} {h h1 : AH} {S : AS} {σ : L2.St} {Q : VK} {x y : AV} {v u : V} {xs ys : List AV} {vs us : List V}
  {ta tb tc td te to tx ty tv : TE} {ma mb mc md me mo mx my mv : EV} {tes : TA} {ms : LV}
theorem SR.nil : SR K F φ [] [] := ⟨rfl, fun i x e => by simp at e⟩
theorem SR.put (a : AR K F φ x v) (r : SR K F φ S σ) : SR K F φ (some x :: S) (some v :: σ) := ⟨by simp [r.1], fun i y e => by
  cases i with
  | zero => simp at e; subst e; exact ⟨v, rfl, a⟩
  | succ i => exact r.2 i y (by simpa using e)⟩
theorem SR.skip (r : SR K F φ S σ) : SR K F φ (none :: S) (none :: σ) := ⟨by simp [r.1], fun i y e => by
  cases i with
  | zero => simp at e
  | succ i => exact r.2 i y (by simpa using e)⟩
def kAppD (m : List AV → AH → Rs AV) (ds xs : List AV) (h : AH) : Rs AV := m (xs ++ ds) h
def mCallD (m : MF) (ds : List AV) (ms : LV) : EV := fun S h => (ms S h).bnd (kAppD m ds)
def mCallDP (m : MF) (ds : List AV) (ms : LV) : EV := fun S h => (ms S h).bnd (kAppD (kCallP m) ds)
theorem vCallD {sp : Sp} {m : MF} {dvs : List V} {ds : List AV} (hf : SF K Γ E sp m) (hd : ∀ F φ, ARs K F φ ds dvs) (hs : SA K Γ E tes ms) : SE K Γ E (eCallD sp E dvs tes) (mCallD m ds ms) :=
  ⟨fun w s o => hs.run w s (o.bnd fun _ _ _ _ _ _ w1 e1 a1 o1 => hf.run w1 (a1.app (hd _ _)) o1)⟩
theorem vCallDP {sp : Sp} {m : MF} {dvs : List V} {ds : List AV} (hf : SF K Γ E sp m) (hd : ∀ F φ, ARs K F φ ds dvs) (hs : SA K Γ E tes ms) : SE K Γ E (eCallD sp E dvs tes) (mCallDP m ds ms) :=
  ⟨fun w s o => hs.run w s (o.bnd fun _ _ _ _ _ _ w1 e1 a1 o1 => kCallP_ok hf w1 (a1.app (hd _ _)) o1)⟩
/-! comprehensions, their turn by its name -/
def mLc2 (k : List AV → AH → Rs AV) (src : LV) (turn : AS → AV → AH → Rs (Option AV)) : EV := fun S h => (src S h).bnd (kLc k (turn S))
def mLcP2 (k : List AV → AH → Rs AV) (src : AS → AH → Rs (List (AV × AV))) (turn : AS → AV → AH → Rs (Option AV)) : EV := fun S h => (src S h).bnd (kLcP k (turn S))
theorem vLc2 {tA : TT} {mA : TV} {g : TG} {mg : GV} {src : SRC} {msrc : LV} {k : List AV → AH → Rs AV} {vs : List Nat} {turn : AS → AV → AH → Rs (Option AV)} (hk : KFin K Γ E k) (hs : SL K Γ E src msrc) (hg : SG K Γ E g mg) (gw : GW g vs) (ht : ST K Γ E tA mA) (he : SE K Γ E te me) (e : turn = mTurn mg mA me vs) :
    SE K Γ E (eLc src g tA te vs) (mLc2 k msrc turn) := by subst e; exact vLc hk hs hg gw ht he
theorem vLcP2 {tA : TT} {mA : TV} {g : TG} {mg : GV} {src : SRP} {msrc : AS → AH → Rs (List (AV × AV))} {k : List AV → AH → Rs AV} {vs : List Nat} {turn : AS → AV → AH → Rs (Option AV)} (hk : KFin K Γ E k) (hs : SP K Γ E src msrc) (hg : SG K Γ E g mg) (gw : GW g vs) (ht : ST K Γ E tA mA) (he : SE K Γ E te me) (e : turn = mTurn mg mA me vs) :
    SE K Γ E (eLcP src g tA te vs) (mLcP2 k msrc turn) := by subst e; exact vLcP hk hs hg gw ht he
/-- list(reversed(xs)) -/
def kLstRev (x : AV) (h : AH) : Rs AV := match lsOf h x with
  | some xs => .ok (.lst xs.reverse) h
  | none => .no
def mLstRev (ma : EV) : EV := fun S h => (ma S h).bnd kLstRev
theorem vLstRev (ha : SE K Γ E te me) : SE K Γ E (eLstRev K te) (mLstRev me) := ⟨fun w s o => ha.run w s (o.bnd fun x h1 F1 H1 φ1 v w1 e1 a1 o1 => by
  unfold kLstRev at o1
  split at o1
  · rename_i c
    obtain ⟨p, vs, rfl, h2, h3⟩ := lsOf_ok w1 a1 c
    rw [eb3]
    refine ⟨vs, h2, fun p hp => ?_⟩
    obtain ⟨w2, e2⟩ := w1.new hp
    exact o1.use w2 e2 (aLst upd_same (h3.rev.to e2))
  · exact o1.elim)⟩
/-- xs + ys, a list that is written -/
def opAddC (x y : AV) (h : AH) : Rs AV := match lsOf h x, lsOf h y with
  | some xs, some ys => if xs.length + ys.length ≤ 16777216 then .ok (.id h.length) (h ++ [.lst (xs ++ ys)]) else .no
  | _, _ => .no
theorem wAddC : SO K Γ E (uAdd K) opAddC := ⟨fun {F H φ h x y v u Q} w a b o => by
  have sz := sz
  unfold opAddC at o
  split at o
  · rename_i e1 e2
    obtain ⟨p, vs, rfl, h1, h2⟩ := lsOf_ok w a e1
    obtain ⟨q, ws, rfl, h3, h4⟩ := lsOf_ok w b e2
    split at o
    · rename_i c
      refine .inl ⟨vs, ws, h1, h3, by rw [← h2.len, ← h4.len, sz]; exact c, fun p hp => ?_⟩
      obtain ⟨w2, e2, a2⟩ := w.cellL (h2.app h4) hp
      exact o.use w2 e2 a2
    · exact o.elim
  · exact o.elim⟩
theorem GW.tr {i j k : Nat} : GW (gTr K i j k) [i, j, k] := fun v σ H Q q => by
  unfold gTr at q ⊢
  obtain ⟨a, rfl, x, y, z, h1, q⟩ := asRef_of q
  refine ⟨x, y, z, h1, ?_, q⟩
  simp only [L2.wipe]
  apply List.ext_getElem?
  intro l
  simp only [List.getElem?_set, List.length_set]
  by_cases c1 : i = l <;> by_cases c2 : j = l <;> by_cases c3 : k = l <;> simp [c1, c2, c3] <;> (first | omega | rfl | (split <;> simp_all) | simp_all)
end
end Hf
set_option Elab.async false
set_option linter.all false
set_option maxRecDepth 100000
set_option maxHeartbeats 4000000
namespace Hf
open PySem PySem.Spec L2 PyProof.Rows
theorem x_mLit {x : AV} {S : AS} {h : AH} : mLit x S h = .ok x h := rfl
theorem x_mBin {f : AV → AV → AH → Rs AV} {ma mb : EV} {S : AS} {h : AH} : mBin f ma mb S h = (ma S h).bnd (kBin f mb S) := rfl
theorem x_mUn {f : AV → AH → Rs AV} {ma : EV} {S : AS} {h : AH} : mUn f ma S h = (ma S h).bnd f := rfl
theorem x_mTst {ma : EV} {S : AS} {h : AH} : mTst ma S h = (ma S h).bnd mTru := rfl
theorem x_mTAnd {ma mb : TV} {S : AS} {h : AH} : mTAnd ma mb S h = (ma S h).bnd (kTA mb S) := rfl
theorem x_mTOr {ma mb : TV} {S : AS} {h : AH} : mTOr ma mb S h = (ma S h).bnd (kTO mb S) := rfl
theorem x_mTNot {ma : TV} {S : AS} {h : AH} : mTNot ma S h = (ma S h).bnd kTN := rfl
theorem x_mAnd {ma mb : EV} {S : AS} {h : AH} : mAnd ma mb S h = (ma S h).bnd (kEA mb S) := rfl
theorem x_mOr {ma mb : EV} {S : AS} {h : AH} : mOr ma mb S h = (ma S h).bnd (kEO mb S) := rfl
theorem x_mNot {ma : EV} {S : AS} {h : AH} : mNot ma S h = (ma S h).bnd kEN := rfl
theorem x_mIf {mt : TV} {ma mb : EV} {S : AS} {h : AH} : mIf mt ma mb S h = (mt S h).bnd (kIfE ma mb S) := rfl
theorem x_mChain {f f' : AV → AV → AH → Rs AV} {ma mb mc : EV} {S : AS} {h : AH} : mChain f f' ma mb mc S h = (ma S h).bnd (kC1 f f' mb mc S) := rfl
theorem x_mNil  {S : AS} {h : AH} : mNil  S h = .ok [] h := rfl
theorem x_mCons {ma : EV} {mr : LV} {S : AS} {h : AH} : mCons ma mr S h = (ma S h).bnd (kCons1 mr S) := rfl
theorem x_mTup {ms : LV} {S : AS} {h : AH} : mTup ms S h = (ms S h).bnd kTup := rfl
theorem x_mLst {ms : LV} {S : AS} {h : AH} : mLst ms S h = (ms S h).bnd kLst := rfl
theorem x_mLstF {ms : LV} {S : AS} {h : AH} : mLstF ms S h = (ms S h).bnd kLstF := rfl
theorem x_mONone  {S : AS} {h : AH} : mONone  S h = .ok none h := rfl
theorem x_mOPart {ma : EV} {S : AS} {h : AH} : mOPart ma S h = (ma S h).bnd kOPart := rfl
theorem x_mSl {f : AV → Option Int → Option Int → AH → Rs AV} {me : EV} {ml mh : AS → AH → Rs (Option Int)} {S : AS} {h : AH} : mSl f me ml mh S h = (me S h).bnd (kSl0 f ml mh S) := rfl
theorem x_mBlt {f : MF} {ms : LV} {S : AS} {h : AH} : mBlt f ms S h = (ms S h).bnd f := rfl
theorem x_mMs {f : AV → List AV → AH → Rs AV} {mo : EV} {ms : LV} {S : AS} {h : AH} : mMs f mo ms S h = (mo S h).bnd (kMs f ms S) := rfl
theorem x_mMl {f : AV → List AV → AH → Rs AV} {mo : EV} {ms : LV} {S : AS} {h : AH} : mMl f mo ms S h = (mo S h).bnd (kMl f ms S) := rfl
theorem x_mCall {m : MF} {ms : LV} {S : AS} {h : AH} : mCall m ms S h = (ms S h).bnd m := rfl
theorem x_mCallP {m : MF} {ms : LV} {S : AS} {h : AH} : mCallP m ms S h = (ms S h).bnd (kCallP m) := rfl
theorem x_mFld {cs : List Str} {f : Str} {ma : EV} {S : AS} {h : AH} : mFld cs f ma S h = (ma S h).bnd (kFld cs f) := rfl
theorem x_mMth {n : Str} {tab : List (Str × MF)} {mo : EV} {ms : LV} {S : AS} {h : AH} : mMth n tab mo ms S h = (mo S h).bnd (kMth n tab ms S) := rfl
theorem x_mNew {c : Str} {m : MF} {ms : LV} {S : AS} {h : AH} : mNew c m ms S h = (ms S h).bnd (kNew c m) := rfl
theorem x_mIsC {tab : List (Str × Bool)} {ma : EV} {S : AS} {h : AH} : mIsC tab ma S h = (ma S h).bnd (kIsC tab) := rfl
theorem x_mSq {ma : EV} {S : AS} {h : AH} : mSq ma S h = (ma S h).bnd kSqF := rfl
theorem x_mTx {ma : EV} {S : AS} {h : AH} : mTx ma S h = (ma S h).bnd ktTx := rfl
theorem x_mR1 {ma : EV} {S : AS} {h : AH} : mR1 ma S h = (ma S h).bnd ktR1 := rfl
theorem x_mR2 {ma mb : EV} {S : AS} {h : AH} : mR2 ma mb S h = (ma S h).bnd (ktR2 mb S) := rfl
theorem x_mRv {ma : EV} {S : AS} {h : AH} : mRv ma S h = (ma S h).bnd kFzR := rfl
theorem x_mEn {ma : EV} {S : AS} {h : AH} : mEn ma S h = (ma S h).bnd kFzE := rfl
theorem x_mZp {ma mb : EV} {S : AS} {h : AH} : mZp ma mb S h = (ma S h).bnd (ktZp0 mb S) := rfl
theorem x_mLc {k : List AV → AH → Rs AV} {src : LV} {mg : GV} {mt : TV} {me : EV} {vs : List Nat} {S : AS} {h : AH} : mLc k src mg mt me vs S h = (src S h).bnd (kLc k (mTurn mg mt me vs S)) := rfl
theorem x_mLcP {k : List AV → AH → Rs AV} {src : AS → AH → Rs (List (AV × AV))} {mg : GV} {mt : TV} {me : EV} {vs : List Nat} {S : AS} {h : AH} : mLcP k src mg mt me vs S h = (src S h).bnd (kLcP k (mTurn mg mt me vs S)) := rfl
theorem x_mTYes  {S : AS} {h : AH} : mTYes  S h = .ok true h := rfl
theorem x_mSeq {a b : SV} {S : AS} {h : AH} : mSeq a b S h = (a S h).thn b := rfl
theorem x_mSkip  {S : AS} {h : AH} : mSkip  S h = .ok (.nx S) h := rfl
theorem x_mBrk  {S : AS} {h : AH} : mBrk  S h = .ok (.bk S) h := rfl
theorem x_mCnt  {S : AS} {h : AH} : mCnt  S h = .ok (.ct S) h := rfl
theorem x_mSet {i : Nat} {ma : EV} {S : AS} {h : AH} : mSet i ma S h = (ma S h).bnd (kSet i S) := rfl
theorem x_mExp {ma : EV} {S : AS} {h : AH} : mExp ma S h = (ma S h).bnd (kExp S) := rfl
theorem x_mRet {ma : EV} {S : AS} {h : AH} : mRet ma S h = (ma S h).bnd kRet := rfl
theorem x_mRetN  {S : AS} {h : AH} : mRetN  S h = .ok (.rt .non) h := rfl
theorem x_mIfS {mt : TV} {a b : SV} {S : AS} {h : AH} : mIfS mt a b S h = (mt S h).bnd (kIfS a b S) := rfl
theorem x_mFor {src : LV} {mg : GV} {b : SV} {S : AS} {h : AH} : mFor src mg b S h = (src S h).bnd (kFor mg b S) := rfl
theorem x_mForP {src : AS → AH → Rs (List (AV × AV))} {mg : GV} {b : SV} {S : AS} {h : AH} : mForP src mg b S h = (src S h).bnd (kForP mg b S) := rfl
theorem x_mAsg {ma : EV} {mg : GV} {S : AS} {h : AH} : mAsg ma mg S h = (ma S h).bnd (kAs mg S) := rfl
theorem x_mSub {mo mi mv : EV} {S : AS} {h : AH} : mSub mo mi mv S h = (mv S h).bnd (kSub0 mo mi S) := rfl
theorem x_mFldS {cs : List Str} {f : Str} {mo mv : EV} {S : AS} {h : AH} : mFldS cs f mo mv S h = (mv S h).bnd (kFs0 cs f mo S) := rfl
theorem x_mFldA {cs : List Str} {f : Str} {op : AV → AV → AH → Rs AV} {mo mv : EV} {S : AS} {h : AH} : mFldA cs f op mo mv S h = (mo S h).bnd (kFa0 cs f op mv S) := rfl
theorem x_mDnew  {S : AS} {h : AH} : mDnew  S h = .ok (.id h.length) (h ++ [.dct []]) := rfl
theorem x_mD3 {f : AV → AV → AV → AH → Rs AV} {md my mx : EV} {S : AS} {h : AH} : mD3 f md my mx S h = (md S h).bnd (kDg0 f my mx S) := rfl
theorem x_mDput {md my mv : EV} {S : AS} {h : AH} : mDput md my mv S h = (mv S h).bnd (kDp0 md my S) := rfl
theorem x_mDaug {f : AV → AV → AH → Rs AV} {md my mv : EV} {S : AS} {h : AH} : mDaug f md my mv S h = (md S h).bnd (kDa0 f my mv S) := rfl
theorem x_mSrtSet {ma : EV} {S : AS} {h : AH} : mSrtSet ma S h = (ma S h).bnd kSrtSet := rfl
theorem x_mSrt {ma : EV} {S : AS} {h : AH} : mSrt ma S h = (ma S h).bnd kSrt := rfl
theorem x_mSrtD {ma : EV} {S : AS} {h : AH} : mSrtD ma S h = (ma S h).bnd kSrtD := rfl
theorem x_mCallD {m : MF} {ds : List AV} {ms : LV} {S : AS} {h : AH} : mCallD m ds ms S h = (ms S h).bnd (kAppD m ds) := rfl
theorem x_mCallDP {m : MF} {ds : List AV} {ms : LV} {S : AS} {h : AH} : mCallDP m ds ms S h = (ms S h).bnd (kAppD (kCallP m) ds) := rfl
theorem x_mLc2 {k : List AV → AH → Rs AV} {src : LV} {turn : AS → AV → AH → Rs (Option AV)} {S : AS} {h : AH} : mLc2 k src turn S h = (src S h).bnd (kLc k (turn S)) := rfl
theorem x_mLcP2 {k : List AV → AH → Rs AV} {src : AS → AH → Rs (List (AV × AV))} {turn : AS → AV → AH → Rs (Option AV)} {S : AS} {h : AH} : mLcP2 k src turn S h = (src S h).bnd (kLcP k (turn S)) := rfl
theorem x_mLstRev {ma : EV} {S : AS} {h : AH} : mLstRev ma S h = (ma S h).bnd kLstRev := rfl
theorem x_mNever {S : AS} {h : AH} : mNever S h = .no := rfl
/-! what a reckoning comes to -/
def Rs.is {α : Type} (r : Rs α) (P : α → AH → Prop) : Prop := match r with
  | .ok a h => P a h
  | _ => False
section
variable {α β : Type} {P : α → AH → Prop} {r r' : Rs α} {k : α → AH → Rs β} {a : α} {h h1 : AH} {c : Prop} [Decidable c] {S : AS} {x y : AV} {xs ys : List AV} {i j : Int} {z w : Str} {n : Nat} {m : SV} {ro : Rs Ou}
theorem is_ok : (Rs.ok a h).is P = P a h := rfl
theorem is_no : (Rs.no : Rs α).is P = False := rfl
theorem is_ite : (if c then r else .no).is P = (c ∧ r.is P) := by
  by_cases hc : c <;> simp [hc, Rs.is]
theorem is_eq {b : α} (e : r.is fun v h' => v = b ∧ h' = h) : r = .ok b h := by
  cases r with
  | ok v h' => obtain ⟨rfl, rfl⟩ := e; rfl
  | ex c p h' => exact e.elim
  | no => exact e.elim
theorem is_ex (e : r.is P) : ∃ v h', r = .ok v h' ∧ P v h' := by
  cases r with
  | ok v h' => exact ⟨v, h', rfl, e⟩
  | ex c p h' => exact e.elim
  | no => exact e.elim
theorem is_mono {P' : α → AH → Prop} (e : r.is P) (w : ∀ v h', P v h' → P' v h') : r.is P' := by
  cases r with
  | ok v h' => exact w _ _ e
  | ex c p h' => exact e.elim
  | no => exact e.elim
theorem is_of (e : r = .ok a h) (q : P a h) : r.is P := by rw [e]; exact q
theorem b_ok : (Rs.ok a h).bnd k = k a h := rfl
theorem b_no : (Rs.no : Rs α).bnd k = .no := rfl
theorem b_ite : (if c then r else .no).bnd k = if c then r.bnd k else .no := by split <;> rfl
theorem t_nx : (Rs.ok (Ou.nx S) h).thn m = m S h := rfl
theorem t_bk : (Rs.ok (Ou.bk S) h).thn m = .ok (.bk S) h := rfl
theorem t_ct : (Rs.ok (Ou.ct S) h).thn m = .ok (.ct S) h := rfl
theorem t_rt : (Rs.ok (Ou.rt x) h).thn m = .ok (.rt x) h := rfl
theorem t_no : Rs.no.thn m = .no := rfl
theorem t_ite : (if c then ro else .no).thn m = if c then ro.thn m else .no := by split <;> rfl
theorem l_nx : (Rs.ok (Ou.nx S) h).lp m = m S h := rfl
theorem l_bk : (Rs.ok (Ou.bk S) h).lp m = .ok (.nx S) h := rfl
theorem l_ct : (Rs.ok (Ou.ct S) h).lp m = m S h := rfl
theorem l_rt : (Rs.ok (Ou.rt x) h).lp m = .ok (.rt x) h := rfl
theorem l_no : Rs.no.lp m = .no := rfl
theorem l_ite : (if c then ro else .no).lp m = if c then ro.lp m else .no := by split <;> rfl
theorem o_nx : ouR (.ok (.nx S) h) = .ok .non h := rfl
theorem o_rt : ouR (.ok (.rt x) h) = .ok x h := rfl
theorem o_no : ouR .no = .no := rfl
theorem o_ite : ouR (if c then ro else .no) = if c then ouR ro else .no := by split <;> rfl
/-- an if in the midst: the whole by its ways -/
theorem b_if {c : Prop} [Decidable c] : (if c then r else r').bnd k = if c then r.bnd k else r'.bnd k := by split <;> rfl
theorem t_if {ro' : Rs Ou} : (if c then ro else ro').thn m = if c then ro.thn m else ro'.thn m := by split <;> rfl
theorem l_if {ro' : Rs Ou} : (if c then ro else ro').lp m = if c then ro.lp m else ro'.lp m := by split <;> rfl
theorem o_if {ro' : Rs Ou} : ouR (if c then ro else ro') = if c then ouR ro else ouR ro' := by split <;> rfl
theorem is_if : (if c then r else r').is P = if c then r.is P else r'.is P := by split <;> rfl
/-! names, operators at values -/
def vget (o : Option (Option AV)) (h : AH) : Rs AV := match o with
  | some (some x) => .ok x h
  | _ => .no
theorem x_mVar : mVar n S h = vget S[n]? h := rfl
theorem vg_some : vget (some (some x)) h = .ok x h := rfl
theorem x_sub : opSub (.int i) (.int j) h = .ok (.int (i - j)) h := rfl
theorem x_and : opAnd (.int i) (.int j) h = .ok (.int (Builtin.bitAnd i j)) h := rfl
theorem x_or : opOr (.int i) (.int j) h = .ok (.int (Builtin.bitOr i j)) h := rfl
theorem x_xor : opXor (.int i) (.int j) h = .ok (.int (Builtin.bitXor i j)) h := rfl
theorem x_lt : opLt (.int i) (.int j) h = .ok (.bl (decide (i < j))) h := rfl
theorem x_le : opLe (.int i) (.int j) h = .ok (.bl (decide (i ≤ j))) h := rfl
theorem x_gt : opGt (.int i) (.int j) h = .ok (.bl (decide (j < i))) h := rfl
theorem x_ge : opGe (.int i) (.int j) h = .ok (.bl (decide (j ≤ i))) h := rfl
theorem x_neg : opNeg (.int i) h = .ok (.int (-i)) h := rfl
theorem x_addi : opAdd (.int i) (.int j) h = .ok (.int (i + j)) h := rfl
theorem x_adds : opAdd (.str z) (.str w) h = if z.length + w.length ≤ 16777216 then .ok (.str (z ++ w)) h else .no := rfl
theorem x_addt : opAdd (.tup (x :: xs)) (.tup ys) h = if xs.length + 1 + ys.length ≤ 16777216 then .ok (.tup (x :: xs ++ ys)) h else .no := rfl
theorem x_addl : opAdd (.lst xs) y h = opAddL (.lst xs) y h := by unfold opAdd; rfl
theorem x_addd : opAdd (.id n) y h = opAddL (.id n) y h := by unfold opAdd; rfl
theorem x_addL (e1 : lsOf h x = some xs) (e2 : lsOf h y = some ys) : opAddL x y h = if xs.length + ys.length ≤ 16777216 then .ok (.lst (xs ++ ys)) h else .no := by unfold opAddL; rw [e1, e2]
theorem x_mod : opMod (.int i) (.int j) h = if 0 < j then .ok (.int (i % j)) h else .no := by unfold opMod opII; dsimp only; congr
theorem x_div : opDiv (.int i) (.int j) h = if 0 < j ∧ j.natAbs.log2 < 9000 then .ok (.int (i / j)) h else .no := by unfold opDiv opII CDivW; dsimp only; congr
theorem x_dlit (h0 : 0 < j) (h1 : j < 18446744073709551616) : opDiv (.int i) (.int j) h = .ok (.int (i / j)) h := by
  have q : j.natAbs.log2 < 64 := (Nat.log2_lt (by omega)).mpr (by omega)
  have q2 : 0 < j ∧ j.natAbs.log2 < 9000 := ⟨h0, by omega⟩
  rw [x_div, if_pos q2]
theorem x_pow (e : CPow i j) : opPow (.int i) (.int j) h = .ok (.int (i ^ j.toNat)) h := by unfold opPow opII; exact if_pos e
theorem x_mul (e : IntMulOk i j) : opMul (.int i) (.int j) h = .ok (.int (i * j)) h := by unfold opMul; exact if_pos e
open Classical in
theorem x_muli : opMul (.int i) (.int j) h = if IntMulOk i j then .ok (.int (i * j)) h else .no := rfl
theorem x_muls : opMul (.str z) (.int j) h = if j ≤ 1000000 ∧ -1000000 ≤ j ∧ z.length ≤ 16 then .ok (.str (repS z j)) h else .no := by unfold opMul; dsimp only
theorem x_eqi : opEq (.int i) (.int j) h = .ok (.bl (decide (i = j))) h := rfl
theorem x_eqs : opEq (.str z) (.str w) h = .ok (.bl (decide (z = w))) h := rfl
theorem x_eqb {a b : Bool} : opEq (.bl a) (.bl b) h = .ok (.bl (decide (a = b))) h := rfl
theorem x_nei : opNe (.int i) (.int j) h = .ok (.bl (!decide (i = j))) h := rfl
theorem x_nes : opNe (.str z) (.str w) h = .ok (.bl (!decide (z = w))) h := rfl
theorem x_neb {a b : Bool} : opNe (.bl a) (.bl b) h = .ok (.bl (!decide (a = b))) h := rfl
theorem x_eqsi : opEq (.str z) (.int j) h = .ok (.bl false) h := rfl
theorem x_eqis : opEq (.int j) (.str z) h = .ok (.bl false) h := rfl
theorem x_eqD {d e : PyData} (n1 : fv x = none ∨ fv y = none) (e1 : pyOf h x = some d) (e2 : pyOf h y = some e) (s1 : SeqAt.shaped d = true) (s2 : SeqAt.shaped e = true) : opEq x y h = .ok (.bl (PyData.eqv d e)) h ∧ opNe x y h = .ok (.bl (!PyData.eqv d e)) h := by
  have q : ∀ neg, eqDat neg x y h = .ok (.bl (if neg then !PyData.eqv d e else PyData.eqv d e)) h := fun neg => by
    unfold eqDat; rw [e1, e2]; exact if_pos ⟨s1, s2⟩
  constructor
  · unfold opEq opEqN
    cases x <;> cases y <;> simp [fv] at n1 <;> simp [fv, q]
  · unfold opNe opEqN
    cases x <;> cases y <;> simp [fv] at n1 <;> simp [fv, q]
theorem x_isN : opIs .non .non h = .ok (.bl true) h := rfl
theorem x_isi : opIs (.int i) .non h = .ok (.bl false) h := rfl
theorem x_iss : opIs (.str z) .non h = .ok (.bl false) h := rfl
theorem x_isb {b : Bool} : opIs (.bl b) .non h = .ok (.bl false) h := rfl
theorem x_ist : opIs (.tup xs) .non h = .ok (.bl false) h := rfl
theorem x_isl : opIs (.lst xs) .non h = .ok (.bl false) h := rfl
theorem x_isd : opIs (.id n) .non h = .ok (.bl false) h := rfl
theorem x_inN : opIsNot .non .non h = .ok (.bl false) h := rfl
theorem x_ini : opIsNot (.int i) .non h = .ok (.bl true) h := rfl
theorem x_ins : opIsNot (.str z) .non h = .ok (.bl true) h := rfl
theorem x_int : opIsNot (.tup xs) .non h = .ok (.bl true) h := rfl
theorem x_inl : opIsNot (.lst xs) .non h = .ok (.bl true) h := rfl
theorem x_ind : opIsNot (.id n) .non h = .ok (.bl true) h := rfl
theorem x_intx : opIn (.str w) (.str z) h = .ok (.bl (inTx w z)) h := rfl
theorem x_nintx : opNotIn (.str w) (.str z) h = .ok (.bl (!inTx w z)) h := rfl
theorem x_in {v : V} {vs : List V} (e1 : fv x = some v) (e2 : (sqOf h y).bind fvs = some vs) (ny : ∀ z, y ≠ .str z) : opIn x y h = .ok (.bl (inV v vs)) h ∧ opNotIn x y h = .ok (.bl (!inV v vs)) h := by
  constructor
  · unfold opIn opInN
    cases x <;> cases y <;> first | (exact absurd rfl (ny _)) | (simp [e1, e2])
  · unfold opNotIn opInN
    cases x <;> cases y <;> first | (exact absurd rfl (ny _)) | (simp [e1, e2])
/-! lists, tuples, texts by their places -/
def oget (o : Option AV) (h : AH) : Rs AV := match o with
  | some y => .ok y h
  | none => .no
theorem og_some : oget (some x) h = .ok x h := rfl
theorem s_lst : sqOf h (.lst xs) = some xs := rfl
theorem s_tup : sqOf h (.tup xs) = some xs := rfl
theorem s_scr : sqOf h (.scr xs) = some xs := rfl
theorem s_id (e : h[n]? = some (.lst xs)) : sqOf h (.id n) = some xs := by show lsOf h (.id n) = _; unfold lsOf; dsimp only; rw [e]
theorem s_idf (e : h[n]? = some (.fz xs)) : sqOf h (.id n) = some xs := by show lsOf h (.id n) = _; unfold lsOf; dsimp only; rw [e]
theorem ls_lst : lsOf h (.lst xs) = some xs := rfl
theorem ls_scr : lsOf h (.scr xs) = some xs := rfl
theorem ls_id (e : h[n]? = some (.lst xs)) : lsOf h (.id n) = some xs := by unfold lsOf; dsimp only; rw [e]
theorem ls_idf (e : h[n]? = some (.fz xs)) : lsOf h (.id n) = some xs := by unfold lsOf; dsimp only; rw [e]
theorem x_ixl : opIx (.lst xs) (.int i) h = oget (atI xs i) h := by unfold opIx oget; rfl
theorem x_ixt : opIx (.tup xs) (.int i) h = oget (atI xs i) h := by unfold opIx oget; rfl
theorem x_ixc : opIx (.scr xs) (.int i) h = oget (atI xs i) h := by unfold opIx oget; rfl
theorem x_ixd (e : h[n]? = some (.lst xs)) : opIx (.id n) (.int i) h = oget (atI xs i) h := by unfold opIx oget; dsimp only; rw [s_id e]; rfl
theorem x_ixf (e : h[n]? = some (.fz xs)) : opIx (.id n) (.int i) h = oget (atI xs i) h := by unfold opIx oget; dsimp only; rw [s_idf e]; rfl
theorem x_ixs {c : Nat} (e : atI z.cps.toList i = some c) (l : z.length ≤ 16777216) : opIx (.str z) (.int i) h = .ok (.str ⟨#[c]⟩) h := by unfold opIx; dsimp only; rw [if_pos l, e]
theorem at_0 {α : Type} {a : α} {l : List α} : atI (a :: l) 0 = some a := by unfold atI ixN; simp
theorem at_k {α : Type} {l : List α} {k : Nat} {b : α} (e : l[k]? = some b) : atI l (k : Int) = some b := atI_nat e
theorem at_1 {α : Type} {a b : α} {l : List α} : atI (a :: b :: l) 1 = some b := at_k (k := 1) rfl
theorem at_2 {α : Type} {a b c : α} {l : List α} : atI (a :: b :: c :: l) 2 = some c := at_k (k := 2) rfl
theorem at_3 {α : Type} {a b c d : α} {l : List α} : atI (a :: b :: c :: d :: l) 3 = some d := at_k (k := 3) rfl
theorem at_4 {α : Type} {a b c d e : α} {l : List α} : atI (a :: b :: c :: d :: e :: l) 4 = some e := at_k (k := 4) rfl
theorem at_5 {α : Type} {a b c d e f : α} {l : List α} : atI (a :: b :: c :: d :: e :: f :: l) 5 = some f := at_k (k := 5) rfl
theorem at_last {α : Type} {a : α} {l : List α} : atI (l ++ [a]) (-1) = some a := by
  unfold atI ixN
  have : -((l ++ [a]).length : Int) ≤ -1 := by simp; omega
  rw [if_neg (by decide), if_pos this]
  have e : (-1 + ((l ++ [a]).length : Int)).toNat = l.length := by simp; omega
  show (l ++ [a])[(-1 + ((l ++ [a]).length : Int)).toNat]? = _
  rw [e, List.getElem?_append_right (Nat.le_refl _), Nat.sub_self]; rfl
theorem x_lenl : fLen [.lst xs] h = .ok (.int xs.length) h := rfl
theorem x_lent : fLen [.tup xs] h = .ok (.int xs.length) h := rfl
theorem x_lenc : fLen [.scr xs] h = .ok (.int xs.length) h := rfl
theorem x_lend (e : h[n]? = some (.lst xs)) : fLen [.id n] h = .ok (.int xs.length) h := by unfold fLen; dsimp only; rw [s_id e]
theorem x_lenf (e : h[n]? = some (.fz xs)) : fLen [.id n] h = .ok (.int xs.length) h := by unfold fLen; dsimp only; rw [s_idf e]
theorem x_lens : fLen [.str z] h = if z.length ≤ 16777216 then .ok (.int z.length) h else .no := rfl
theorem x_fint : fInt [.int i] h = .ok (.int i) h := rfl
theorem x_fbl {b : Bool} : fInt [.bl b] h = .ok (.int (if b then 1 else 0)) h := rfl
theorem x_fmax : fMax [.int i, .int j] h = .ok (.int (if j > i then j else i)) h := rfl
theorem x_fmin : fMin [.int i, .int j] h = .ok (.int (if j < i then j else i)) h := rfl
theorem x_fstr : fStr [.str z] h = .ok (.str z) h := rfl
theorem x_fstri : fStr [.int i] h = if i.natAbs.log2 < 1920 then .ok (.str (toString i)) h else .no := rfl
theorem x_listl (e : sqOf h x = some xs) : fList [x] h = .ok (.lst xs) h := by unfold fList; dsimp only; rw [e]
theorem x_listC (e : sqOf h x = some xs) : fListC [x] h = .ok (.id h.length) (h ++ [.lst xs]) := by unfold fListC; dsimp only; rw [e]
theorem x_tupt : fTuple [.tup xs] h = .ok (.tup xs) h := rfl
theorem x_tupl : fTuple [.lst xs] h = .ok (.tup xs) h := rfl
theorem x_tupd (e : h[n]? = some (.lst xs)) : fTuple [.id n] h = .ok (.tup xs) h := by unfold fTuple; dsimp only; rw [ls_id e]
theorem x_isi' {t : String} {ma : EV} : mIsi t ma S h = (ma S h).bnd fun x h1 => match (tyName h1 x).bind fun n => kitB n t with
  | some b => .ok (.bl b) h1
  | none => .no := rfl
theorem x_app (e : h[n]? = some (.lst xs)) : fAppend (.id n) [y] h = if xs.length < 16777216 then .ok .non (h.set n (.lst (xs ++ [y]))) else .no := by unfold fAppend; dsimp only; rw [e]
theorem x_pop (e : h[n]? = some (.lst (xs ++ [x]))) : fPop (.id n) [] h = .ok x (h.set n (.lst xs)) := by unfold fPop; dsimp only; rw [e]; simp
theorem x_pop0 (e : h[n]? = some (.lst (x :: xs))) : fPop0 (.id n) [.int 0] h = .ok x (h.set n (.lst xs)) := by simp [fPop0, e]
theorem x_ext (e : h[n]? = some (.lst xs)) (e2 : exOf h y = some ys) (l : xs.length + ys.length ≤ 16777216) : fExtend (.id n) [y] h = .ok .non (h.set n (.lst (xs ++ ys))) := by
  simp [fExtend, lext, e2, e, l]
theorem x_iext (e : h[n]? = some (.lst xs)) (e2 : exOf h y = some ys) (l : xs.length + ys.length ≤ 16777216) : opIAdd (.id n) y h = .ok (.id n) (h.set n (.lst (xs ++ ys))) := by
  simp [opIAdd, lext, e2, e, l]
theorem ex_lst : exOf h (.lst xs) = some xs := rfl
theorem x_iaddi : opIAdd (.int i) (.int j) h = .ok (.int (i + j)) h := rfl
theorem x_adds' : opIAdd (.str z) (.str w) h = if z.length + w.length ≤ 16777216 then .ok (.str (z ++ w)) h else .no := rfl
theorem x_aug {f : AV → AV → AH → Rs AV} {me : EV} : mAug n f me S h = (vget S[n]? h).bnd fun x _ => (me S h).bnd (kAug1 n f S x) := by
  unfold mAug vget
  cases e : S[n]? with
  | none => rfl
  | some o => cases o <;> rfl
theorem x_pr {k l : Nat} {a b : AV} : mPr k l (.tup [a, b]) S h = .ok ((S.set k (some a)).set l (some b)) h := rfl
theorem x_tr {k l q : Nat} {a b d : AV} : mTr k l q (.tup [a, b, d]) S h = .ok (((S.set k (some a)).set l (some b)).set q (some d)) h := rfl
theorem x_nm : mNm n x S h = .ok (S.set n (some x)) h := rfl
theorem x_sll {lo hi : Option Int} : opSl (.lst xs) lo hi h = .ok (.lst (cutX xs lo hi)) h := rfl
theorem x_slc {lo hi : Option Int} : opSl (.scr xs) lo hi h = .ok (.lst (cutX xs lo hi)) h := rfl
theorem x_sld {lo hi : Option Int} (e : lsOf h (.id n) = some xs) : opSl (.id n) lo hi h = .ok (.lst (cutX xs lo hi)) h := by unfold opSl; dsimp only; rw [e]
theorem x_sls {lo hi : Option Int} : opSl (.str z) lo hi h = if z.length ≤ 16777216 then .ok (.str (cutS z lo hi)) h else .no := rfl
theorem x_slC {lo hi : Option Int} (e : lsOf h x = some xs) : opSlC x lo hi h = .ok (.id h.length) (h ++ [.lst (cutX xs lo hi)]) := by unfold opSlC; rw [e]
/-! dicts -/
theorem d_id {kvs : List (Key × AV)} (e : h[n]? = some (.dct kvs)) : dcOf h (.id n) = some kvs := by unfold dcOf; dsimp only; rw [e]
theorem x_dget {kvs : List (Key × AV)} {kk : Key} (e : dcOf h x = some kvs) (ek : asK y = some kk) {v : AV} (ev : valX kvs kk = some v) : opDget x y h = .ok v h := by unfold opDget; rw [e, ek]; dsimp only; rw [ev]
theorem x_inD {kvs : List (Key × AV)} {kk : Key} {neg : Bool} (e : dcOf h x = some kvs) (ek : asK y = some kk) : opInD neg y x h = .ok (.bl (if neg then !(valX kvs kk).isSome else (valX kvs kk).isSome)) h := by unfold opInD; rw [e, ek]
theorem dput_id {kvs : List (Key × AV)} {kk : Key} {v : AV} (e : h[n]? = some (.dct kvs)) (l : kvs.length < 16777216) : dput (.id n) kk v h = some (h.set n (.dct (putXK kvs kk v))) := by unfold dput; dsimp only; rw [e]; exact if_pos l
/-! loops -/
theorem f_nil {mg : GV} {b : SV} : mForL mg b [] S h = .ok (.nx S) h := rfl
theorem f_cons {mg : GV} {b : SV} : mForL mg b (x :: xs) S h = ((mg x S h).bnd b).lp (mForL mg b xs) := rfl
theorem fp_nil {mg : GV} {b : SV} : mForLP mg b [] S h = .ok (.nx S) h := rfl
theorem fp_cons {mg : GV} {b : SV} {p : AV × AV} {ps : List (AV × AV)} : mForLP mg b (p :: ps) S h = ((mg (.tup [p.1, p.2]) S h).bnd b).lp (mForLP mg b ps) := rfl
theorem c_nil {t : AV → AH → Rs (Option AV)} : mLcL t [] xs h = .ok xs h := rfl
theorem c_cons {t : AV → AH → Rs (Option AV)} {acc : List AV} : mLcL t (x :: xs) acc h = (t x h).bnd fun o h1 => mLcL t xs (accX acc o) h1 := rfl
/-- a comprehension that changes nothing -/
theorem lc_map {γ : Type} {t : AV → AH → Rs (Option AV)} {enc : γ → AV} {g : γ → AV} {h : AH} : ∀ (l : List γ) (acc : List AV), (∀ a ∈ l, t (enc a) h = .ok (some (g a)) h) → mLcL t (l.map enc) acc h = .ok (acc ++ l.map g) h
  | [], acc, _ => by simp [c_nil]
  | a :: l, acc, q => by
    rw [List.map_cons, c_cons, q a List.mem_cons_self]
    show mLcL t (l.map enc) (acc ++ [g a]) h = _
    rw [lc_map l _ fun b hb => q b (List.mem_cons_of_mem _ hb)]
    simp
theorem lc_filter {γ : Type} {t : AV → AH → Rs (Option AV)} {enc : γ → AV} {g : γ → Option AV} {h : AH} : ∀ (l : List γ) (acc : List AV), (∀ a ∈ l, t (enc a) h = .ok (g a) h) → mLcL t (l.map enc) acc h = .ok (acc ++ l.filterMap g) h
  | [], acc, _ => by simp [c_nil]
  | a :: l, acc, q => by
    rw [List.map_cons, c_cons, q a List.mem_cons_self]
    show mLcL t (l.map enc) (accX acc (g a)) h = _
    rw [lc_filter l _ fun b hb => q b (List.mem_cons_of_mem _ hb)]
    cases e : g a with
    | none => simp [accX, e]
    | some y => simp [accX, e]
theorem x_kLc {k : List AV → AH → Rs AV} {t : AV → AH → Rs (Option AV)} (l : xs.length ≤ 16777216) (e : mLcL t xs [] h = .ok ys h1) : kLc k t xs h = k ys h1 := by unfold kLc; rw [if_pos l, e]; rfl
theorem x_kLcP {k : List AV → AH → Rs AV} {t : AV → AH → Rs (Option AV)} {ps : List (AV × AV)} (l : ps.length ≤ 16777216) (e : mLcL t (ps.map fun p => .tup [p.1, p.2]) [] h = .ok ys h1) : kLcP k t ps h = k ys h1 := by unfold kLcP mLcLP; rw [if_pos l, e]; rfl
/-! calls on their own -/
theorem x_callP {m : MF} {h0 h1 : AH} {y v : AV} (e1 : clArgs h xs = some (ys, h1)) (e2 : m ys [] = .ok y h0) (e3 : avOf h0 y = some v) : kCallP m xs h = .ok v h1 := by unfold kCallP; rw [e1]; dsimp only; rw [e2]; unfold fin; dsimp only; rw [e3]
theorem ca_nil : clArgs h [] = some ([], h) := rfl
theorem ca_cons {h1 : AH} {y : AV} (e : clArg h x = some (y, h1)) {h2 : AH} (e2 : clArgs h1 xs = some (ys, h2)) : clArgs h (x :: xs) = some (y :: ys, h2) := by
  rw [clArgs, e]; dsimp only; rw [e2]
theorem ca_cl (e : cl x = true) : clArg h x = some (x, h) := by
  cases x with
  | id n => simp [cl] at e
  | _ => unfold clArg; exact if_pos e
theorem ca_id (e : h[n]? = some (.lst xs)) (q : cls xs = true) : clArg h (.id n) = some (.lst xs, h.set n (.fz xs)) := by unfold clArg; dsimp only; rw [e]; exact if_pos q
theorem ca_fz (e : h[n]? = some (.fz xs)) (q : cls xs = true) : clArg h (.id n) = some (.lst xs, h) := by unfold clArg; dsimp only; rw [e]; exact if_pos q
theorem ca_all : ∀ {xs : List AV}, cls xs = true → clArgs h xs = some (xs, h)
  | [], _ => rfl
  | x :: xs, q => by
    unfold cls at q
    rw [Bool.and_eq_true] at q
    exact ca_cons (ca_cl q.1) (ca_all q.2)
mutual
theorem av_cl {r : Nat → Option AV} : ∀ {x : AV}, cl x = true → avSub r x = some x
  | .non, _ => by unfold avSub; rfl
  | .bl _, _ => by unfold avSub; rfl
  | .int _, _ => by unfold avSub; rfl
  | .str _, _ => by unfold avSub; rfl
  | .tup xs, q => by unfold avSub; unfold cl at q; rw [av_cls q]; rfl
  | .lst xs, q => by unfold avSub; unfold cl at q; rw [av_cls q]; rfl
  | .scr xs, q => by unfold avSub; unfold cl at q; rw [av_cls q]; rfl
  | .id _, q => by unfold cl at q; cases q
theorem av_cls {r : Nat → Option AV} : ∀ {xs : List AV}, cls xs = true → avSubs r xs = some xs
  | [], _ => by unfold avSubs; rfl
  | x :: xs, q => by
    unfold cls at q
    rw [Bool.and_eq_true] at q
    unfold avSubs
    rw [av_cl q.1, av_cls q.2]
end
theorem avOf_cl (q : cl x = true) : avOf h x = some x := av_cl q
theorem avOf_id (e : h[n]? = some (.lst xs)) (q : cls xs = true) : avOf h (.id n) = some (.lst xs) := by
  unfold avOf avSub avId
  rw [e]
  dsimp only
  rw [av_cls q]; rfl
theorem avOf_fz (e : h[n]? = some (.fz xs)) (q : cls xs = true) : avOf h (.id n) = some (.lst xs) := by
  unfold avOf avSub avId
  rw [e]
  dsimp only
  rw [av_cls q]; rfl
/-- a def called on its own, all closed -/
theorem x_pure {m : MF} {h0 : AH} {y : AV} (q : cls xs = true) (e2 : m xs [] = .ok y h0) (q2 : cl y = true) : kCallP m xs h = .ok y h := x_callP (ca_all q) e2 (avOf_cl q2)
theorem cl_int : cl (.int i) = true := rfl
theorem cl_str : cl (.str z) = true := rfl
theorem cl_bl {b : Bool} : cl (.bl b) = true := rfl
theorem cl_non : cl .non = true := rfl
theorem cl_lst : cl (.lst xs) = cls xs := by rw [cl]
theorem cl_tup : cl (.tup xs) = cls xs := by rw [cl]
theorem cl_scr : cl (.scr xs) = cls xs := by rw [cl]
theorem cls_nil : cls [] = true := rfl
theorem cls_cons : cls (x :: xs) = (cl x && cls xs) := by rw [cls]
theorem cls_app : ∀ {xs ys : List AV}, cls (xs ++ ys) = (cls xs && cls ys)
  | [], ys => by simp [cls_nil]
  | x :: xs, ys => by rw [List.cons_append, cls_cons, cls_cons, cls_app, Bool.and_assoc]
theorem cls_all : ∀ {xs : List AV}, (∀ x ∈ xs, cl x = true) → cls xs = true
  | [], _ => rfl
  | x :: xs, q => by rw [cls_cons, q x List.mem_cons_self, cls_all fun y hy => q y (List.mem_cons_of_mem _ hy)]; rfl
theorem cls_map {γ : Type} {f : γ → AV} {l : List γ} (q : ∀ a, cl (f a) = true) : cls (l.map f) = true := cls_all fun x hx => by
  obtain ⟨a, _, rfl⟩ := List.mem_map.mp hx
  exact q a
theorem cls_mem (q : cls xs = true) (m : x ∈ xs) : cl x = true := by
  induction xs with
  | nil => cases m
  | cons y xs ih =>
    rw [cls_cons, Bool.and_eq_true] at q
    rcases List.mem_cons.mp m with rfl | m
    · exact q.1
    · exact ih q.2 m
theorem cls_strs {l : List Str} : cls (l.map AV.str) = true := cls_map fun _ => rfl
theorem cls_ints {l : List Int} : cls (l.map AV.int) = true := cls_map fun _ => rfl
end
end Hf
set_option Elab.async false
set_option linter.all false
set_option maxRecDepth 100000
set_option maxHeartbeats 4000000
namespace Hf
open PySem PySem.Spec L2 PyProof.Rows
/-! dicts whose keys are texts: the keys in order, what stands at each -/
def dE (ks : List Str) (f : Str → AV) : AC := .dct (ks.map fun x => (Sum.inr x, f x))
def upE {γ : Type} (f : Str → γ) (x : Str) (v : γ) : Str → γ := fun y => if y = x then v else f y
def addK (ks : List Str) (x : Str) : List Str := if x ∈ ks then ks else ks ++ [x]
theorem upE_same {γ : Type} {f : Str → γ} {x : Str} {v : γ} : upE f x v x = v := if_pos rfl
theorem upE_ne {γ : Type} {f : Str → γ} {x y : Str} {v : γ} (h : y ≠ x) : upE f x v y = f y := if_neg h
theorem addK_mem {ks : List Str} {x y : Str} : y ∈ addK ks x ↔ y ∈ ks ∨ y = x := by
  unfold addK
  split
  · rename_i h
    exact ⟨.inl, fun z => z.elim id fun e => e ▸ h⟩
  · simp
theorem addK_nodup {ks : List Str} {x : Str} (h : ks.Nodup) : (addK ks x).Nodup := by
  unfold addK
  split
  · exact h
  · rename_i n
    rw [List.nodup_append]
    exact ⟨h, List.pairwise_singleton _ _, fun a ha b hb e => by
      rw [List.mem_singleton] at hb
      exact n (hb ▸ e ▸ ha)⟩
theorem addK_len {ks : List Str} {x : Str} : (addK ks x).length ≤ ks.length + 1 := by
  unfold addK; split <;> simp
theorem valX_dE {ks : List Str} {f : Str → AV} {x : Str} : valX (ks.map fun x => (Sum.inr x, f x)) (.inr x) = if x ∈ ks then some (f x) else none := by
  induction ks with
  | nil => rfl
  | cons y ks ih =>
    unfold valX at ih ⊢
    rw [List.map_cons, List.find?_cons]
    by_cases h : y = x
    · subst h; simp
    · have e : decide ((Sum.inr y : Key) = Sum.inr x) = false := by simp [h]
      have h2 : ¬ x = y := fun e => h e.symm
      simp only [e]
      rw [ih]
      simp [h2]
theorem putXK_dE {ks : List Str} {f : Str → AV} {x : Str} {v : AV} : putXK (ks.map fun x => (Sum.inr x, f x)) (.inr x) v = (addK ks x).map fun y => (Sum.inr y, upE f x v y) := by
  unfold putXK addK
  have e : ((ks.map fun x => ((Sum.inr x : Key), f x)).any fun kv => decide (kv.1 = Sum.inr x)) = decide (x ∈ ks) := by
    rw [List.any_map]
    induction ks with
    | nil => rfl
    | cons y ks ih =>
      rw [List.any_cons, ih]
      by_cases h : y = x
      · subst h; simp
      · have h2 : ¬ x = y := fun e => h e.symm
        simp [h, h2]
  rw [e]
  by_cases h : x ∈ ks
  · simp only [h, decide_true, ↓reduceIte, List.map_map]
    apply List.map_congr_left
    intro y hy
    by_cases c : y = x
    · subst c; simp [upE]
    · simp [upE, c]
  · simp only [h, decide_false, ↓reduceIte, Bool.false_eq_true, List.map_append, List.map_cons, List.map_nil]
    congr 1
    · apply List.map_congr_left
      intro y hy
      have c : y ≠ x := fun e => h (e ▸ hy)
      simp [upE, c]
    · simp [upE]
theorem keysT_dE {ks : List Str} {f : Str → AV} : keysT (ks.map fun x => (Sum.inr x, f x)) = some ks := by
  induction ks with
  | nil => rfl
  | cons y ks ih => rw [List.map_cons, keysT, ih]; rfl
section
variable {h : AH} {n : Nat} {ks : List Str} {f : Str → AV} {x : Str} {v : AV}
theorem e_dget (e : h[n]? = some (dE ks f)) (m : x ∈ ks) : opDget (.id n) (.str x) h = .ok (f x) h := x_dget (kk := .inr x) (d_id e) rfl (by rw [valX_dE, if_pos m])
theorem e_in (e : h[n]? = some (dE ks f)) {neg : Bool} : opInD neg (.str x) (.id n) h = .ok (.bl (if neg then !decide (x ∈ ks) else decide (x ∈ ks))) h := by
  rw [x_inD (kk := .inr x) (d_id e) rfl, valX_dE]
  by_cases m : x ∈ ks <;> simp [m]
theorem e_get2 (e : h[n]? = some (dE ks f)) : kDg2 (.id n) (.str x) v h = .ok (if x ∈ ks then f x else v) h := by
  unfold kDg2
  rw [d_id e]
  show Rs.ok ((valX _ (Sum.inr x)).getD v) h = _
  rw [valX_dE]
  by_cases m : x ∈ ks <;> simp [m]
theorem e_put (e : h[n]? = some (dE ks f)) (l : ks.length < 16777216) : dput (.id n) (.inr x) v h = some (h.set n (dE (addK ks x) (upE f x v))) := by
  rw [dput_id e (by simpa using l), putXK_dE]; rfl
theorem e_setd (e : h[n]? = some (dE ks f)) (l : ks.length < 16777216) : kDs2 (.id n) (.str x) v h = if x ∈ ks then .ok (f x) h else .ok v (h.set n (dE (addK ks x) (upE f x v))) := by
  unfold kDs2
  rw [d_id e]
  show (match valX _ (Sum.inr x) with
    | some v => if (ks.map fun x => ((Sum.inr x : Key), f x)).length < 16777216 then Rs.ok v h else .no
    | none => match dput (.id n) (.inr x) v h with
      | some h1 => .ok v h1
      | none => .no) = _
  rw [valX_dE, e_put e l]
  by_cases m : x ∈ ks
  · simp [m, l]
  · simp [m]
theorem e_srt (e : h[n]? = some (dE ks f)) : kSrtD (.id n) h = .ok (.lst ((srtT ks).map AV.str)) h := by
  unfold kSrtD
  rw [d_id e]
  show (match keysT _ with
    | some zs => Rs.ok (AV.lst ((srtT zs).map AV.str)) h
    | none => .no) = _
  rw [keysT_dE]
theorem e_new {S : AS} : mDnew S h = .ok (.id h.length) (h ++ [dE [] f]) := rfl
end
theorem srtT_mem {y : Str} {l : List Str} : y ∈ srtT l ↔ y ∈ l := (srtT_perm l).mem_iff
theorem srtT_congr {l m : List Str} (h1 : l.Nodup) (h2 : m.Nodup) (h : ∀ y, y ∈ l ↔ y ∈ m) : srtT l = srtT m :=
  srt_unique (srtT_srt l) (srtT_srt m) (perm_of_nodup ((srtT_perm l).nodup_iff.mpr h1) ((srtT_perm m).nodup_iff.mpr h2) fun y => by rw [srtT_mem, srtT_mem]; exact h y)
theorem srtT_len (l : List Str) : (srtT l).length = l.length := (srtT_perm l).length_eq
/-! closed values that can be compared: n their depth at most -/
inductive Okv : Nat → AV → Prop
  | non {n : Nat} : Okv n .non
  | bl {n : Nat} {b : Bool} : Okv n (.bl b)
  | int {n : Nat} {i : Int} : Okv n (.int i)
  | str {n : Nat} {z : Str} (h : PyData.strOk z = true) : Okv n (.str z)
  | tup {n : Nat} {xs : List AV} (h : ∀ x ∈ xs, Okv n x) : Okv (n + 1) (.tup xs)
  | lst {n : Nat} {xs : List AV} (h : ∀ x ∈ xs, Okv n x) : Okv (n + 1) (.lst xs)
theorem Okv.up {n : Nat} {x : AV} (h : Okv n x) : ∀ {m : Nat}, n ≤ m → Okv m x := by
  induction h with
  | non => intro m _; exact .non
  | bl => intro m _; exact .bl
  | int => intro m _; exact .int
  | str h => intro m _; exact .str h
  | tup h ih =>
    intro m hm
    obtain ⟨k, rfl⟩ : ∃ k, m = k + 1 := ⟨m - 1, by omega⟩
    exact .tup fun x hx => ih x hx (by omega)
  | lst h ih =>
    intro m hm
    obtain ⟨k, rfl⟩ : ∃ k, m = k + 1 := ⟨m - 1, by omega⟩
    exact .lst fun x hx => ih x hx (by omega)
theorem Okv.cl {n : Nat} {x : AV} (h : Okv n x) : cl x = true := by
  induction h with
  | non => rfl
  | bl => rfl
  | int => rfl
  | str h => rfl
  | tup h ih => rw [cl_tup]; exact cls_all ih
  | lst h ih => rw [cl_lst]; exact cls_all ih
/-- data that can be laid -/
def Lay (n : Nat) (d : PyData) : Prop := d.canLay0 = true ∧ d.depth ≤ n
theorem lay_all {n : Nat} : ∀ {ds : List PyData}, (∀ d ∈ ds, Lay n d) → PyData.canLayAll0 ds = true ∧ PyData.depthAll ds ≤ n
  | [], _ => ⟨by rw [PyData.canLayAll0], by rw [PyData.depthAll]; omega⟩
  | d :: ds, h => by
    obtain ⟨a, b⟩ := lay_all fun x hx => h x (List.mem_cons_of_mem _ hx)
    obtain ⟨c, e⟩ := h d List.mem_cons_self
    refine ⟨by rw [PyData.canLayAll0, c, a]; rfl, ?_⟩
    rw [PyData.depthAll]
    omega
theorem pys_all {n : Nat} {r : Nat → Option PyData} : ∀ {xs : List AV}, (∀ x ∈ xs, ∃ d, (∀ r, pySub r x = some d) ∧ Lay n d) → ∃ ds, (∀ r, pySubs r xs = some ds) ∧ ∀ d ∈ ds, Lay n d
  | [], _ => ⟨[], fun r => by rw [pySubs], fun d h => by cases h⟩
  | x :: xs, h => by
    obtain ⟨ds, a, b⟩ := pys_all (r := r) fun y hy => h y (List.mem_cons_of_mem _ hy)
    obtain ⟨d, c, e⟩ := h x List.mem_cons_self
    exact ⟨d :: ds, fun r => by rw [pySubs, c, a], fun z hz => by
      rcases List.mem_cons.mp hz with rfl | hz
      · exact e
      · exact b z hz⟩
theorem Okv.py {n : Nat} {x : AV} (h : Okv n x) : ∃ d, (∀ r, pySub r x = some d) ∧ Lay n d := by
  induction h with
  | non => exact ⟨.none, fun r => by rw [pySub], by decide, by rw [PyData.depth]; omega⟩
  | bl => exact ⟨.bool _, fun r => by rw [pySub], by rw [PyData.canLay0], by rw [PyData.depth]; omega⟩
  | int => exact ⟨.int _, fun r => by rw [pySub], by rw [PyData.canLay0], by rw [PyData.depth]; omega⟩
  | str h => exact ⟨.str _, fun r => by rw [pySub], by rw [PyData.canLay0]; exact h, by rw [PyData.depth]; omega⟩
  | tup h ih =>
    obtain ⟨ds, a, b⟩ := pys_all (r := fun _ => none) ih
    obtain ⟨c, e⟩ := lay_all b
    exact ⟨.tuple ds, fun r => by rw [pySub, a]; rfl, by rw [PyData.canLay0]; exact c, by rw [PyData.depth]; omega⟩
  | lst h ih =>
    obtain ⟨ds, a, b⟩ := pys_all (r := fun _ => none) ih
    obtain ⟨c, e⟩ := lay_all b
    exact ⟨.list ds, fun r => by rw [pySub, a]; rfl, by rw [PyData.canLay0]; exact c, by rw [PyData.depth]; omega⟩
theorem Lay.shaped {n : Nat} {d : PyData} (h : Lay n d) (hn : n ≤ 64) : SeqAt.shaped d = true := by
  rw [SeqAt.shaped, h.1, Bool.true_and, decide_eq_true (by have := h.2; omega)]
/-- the same data on both sides -/
theorem eq_data {h : AH} {x y : AV} {d : PyData} {n : Nat} (e1 : pyOf h x = some d) (e2 : pyOf h y = some d) (l : Lay n d) (hn : n ≤ 64) (nf : fv x = none ∨ fv y = none) : opEq x y h = .ok (.bl true) h ∧ opNe x y h = .ok (.bl false) h := by
  obtain ⟨a, b⟩ := x_eqD nf e1 e2 (l.shaped hn) (l.shaped hn)
  rw [a, b, SeqAt.eqv_refl d l.1]
  exact ⟨rfl, rfl⟩
theorem eq_same {h : AH} {x : AV} {n : Nat} (o : Okv n x) (hn : n ≤ 64) (nf : fv x = none) : opEq x x h = .ok (.bl true) h ∧ opNe x x h = .ok (.bl false) h := by
  obtain ⟨d, e, l⟩ := o.py
  exact eq_data (e _) (e _) l hn (.inl nf)
theorem py_id {h : AH} {k n : Nat} {xs : List AV} {d : PyData} (e : h[k]? = some (.lst xs)) (o : Okv n (.lst xs)) (ed : ∀ r, pySub r (.lst xs) = some d) : pyOf h (.id k) = some d := by
  unfold pyOf
  rw [pySub, pyId, e]
  have := ed (pyId h 29)
  rw [pySub] at this
  exact this
theorem py_idf {h : AH} {k n : Nat} {xs : List AV} {d : PyData} (e : h[k]? = some (.fz xs)) (o : Okv n (.lst xs)) (ed : ∀ r, pySub r (.lst xs) = some d) : pyOf h (.id k) = some d := by
  unfold pyOf
  rw [pySub, pyId, e]
  have := ed (pyId h 29)
  rw [pySub] at this
  exact this
/-- a list in a cell, and the same list -/
theorem eq_cell {h : AH} {k n : Nat} {xs : List AV} (e : h[k]? = some (.lst xs) ∨ h[k]? = some (.fz xs)) (o : Okv n (.lst xs)) (hn : n ≤ 64) : opEq (.id k) (.lst xs) h = .ok (.bl true) h ∧ opNe (.id k) (.lst xs) h = .ok (.bl false) h ∧ opEq (.lst xs) (.id k) h = .ok (.bl true) h ∧ opNe (.lst xs) (.id k) h = .ok (.bl false) h := by
  obtain ⟨d, ed, l⟩ := o.py
  have e1 : pyOf h (.id k) = some d := e.elim (fun e => py_id e o ed) fun e => py_idf e o ed
  have a := eq_data (x := .id k) (y := .lst xs) e1 (ed _) l hn (.inl rfl)
  have b := eq_data (x := .lst xs) (y := .id k) (ed _) e1 l hn (.inl rfl)
  exact ⟨a.1, a.2, b.1, b.2⟩
/-! places -/
theorem at_map {α β : Type} (f : α → β) (l : List α) (i : Int) : atI (l.map f) i = (atI l i).map f := by
  unfold atI
  rw [List.length_map]
  cases ixN l.length i with
  | none => rfl
  | some j => simp
theorem at_nn {α : Type} {l : List α} {i : Int} (h0 : 0 ≤ i) : atI l i = l[i.toNat]? := by
  unfold atI ixN
  rw [if_pos h0]
  by_cases h : i < l.length
  · rw [if_pos h]; rfl
  · rw [if_neg h, List.getElem?_eq_none (by omega)]; rfl
theorem at_some {α : Type} {l : List α} {i : Int} (h0 : 0 ≤ i) (h1 : i < l.length) : ∃ a, atI l i = some a ∧ a ∈ l := by
  rw [at_nn h0]
  have : i.toNat < l.length := by omega
  exact ⟨l[i.toNat], List.getElem?_eq_getElem this, List.getElem_mem this⟩
/-! texts that can be laid -/
theorem sOk_app {a b : Str} (h1 : PyData.strOk a = true) (h2 : PyData.strOk b = true) : PyData.strOk (a ++ b) = true := by
  unfold PyData.strOk at *
  show (a.cps ++ b.cps).all _ = true
  rw [Array.all_append, h1, h2]; rfl
theorem sOk_one {z : Str} {i : Int} {c : Nat} (h : PyData.strOk z = true) (e : atI z.cps.toList i = some c) : PyData.strOk ⟨#[c]⟩ = true := by
  unfold PyData.strOk at *
  have m := atI_mem e
  rw [Array.all_eq_true_iff_forall_mem] at h ⊢
  intro x hx
  have : x = c := by simpa using hx
  subst this
  exact h x (by simpa using m)
theorem sOk_rep {z : Str} {k : Int} (h : PyData.strOk z = true) : PyData.strOk (repS z k) = true := by
  unfold PyData.strOk at *
  rw [Array.all_eq_true_iff_forall_mem] at h ⊢
  intro x hx
  unfold repS at hx
  have hx : x ∈ (List.replicate k.toNat z.cps.toList).flatten := by simpa using hx
  obtain ⟨l, hl, hx⟩ := List.mem_flatten.mp hx
  have := List.eq_of_mem_replicate hl
  subst this
  exact h x (by simpa using hx)
theorem sOk_cut {z : Str} {lo hi : Option Int} (h : PyData.strOk z = true) : PyData.strOk (cutS z lo hi) = true := by
  unfold PyData.strOk at *
  rw [Array.all_eq_true_iff_forall_mem] at h ⊢
  intro x hx
  unfold cutS at hx
  have hx := List.mem_of_mem_drop (List.mem_of_mem_take (by simpa using hx))
  exact h x (by simpa using hx)
end Hf
set_option Elab.async false
set_option linter.all false
set_option maxRecDepth 100000
set_option maxHeartbeats 4000000
namespace Hf
open PySem PySem.Spec L2 PyProof.Rows
def kIsi (t : String) (x : AV) (h : AH) : Rs AV := match (tyName h x).bind fun n => kitB n t with
  | some b => .ok (.bl b) h
  | none => .no
section
variable {h : AH} {b : Bool} {i : Int} {z : Str} {xs : List AV} {n : Nat} {x y v : AV} {S : AS}
theorem x_mIsi {t : String} {ma : EV} : mIsi t ma S h = (ma S h).bnd (kIsi t) := rfl
theorem isi_of {t n : String} {b : Bool} (e : tyName h x = some n) (q : kitB n t = some b) : kIsi t x h = .ok (.bl b) h := by
  unfold kIsi; rw [e]; simp only [Option.bind_some]; rw [q]
theorem i_non_bool : kIsi "bool" (.non) h = .ok (.bl false) h := isi_of rfl (by decide +kernel)
theorem i_non_int : kIsi "int" (.non) h = .ok (.bl false) h := isi_of rfl (by decide +kernel)
theorem i_non_str : kIsi "str" (.non) h = .ok (.bl false) h := isi_of rfl (by decide +kernel)
theorem i_non_list : kIsi "list" (.non) h = .ok (.bl false) h := isi_of rfl (by decide +kernel)
theorem i_non_tuple : kIsi "tuple" (.non) h = .ok (.bl false) h := isi_of rfl (by decide +kernel)
theorem i_non_dict : kIsi "dict" (.non) h = .ok (.bl false) h := isi_of rfl (by decide +kernel)
theorem i_bl_bool : kIsi "bool" (.bl b) h = .ok (.bl true) h := isi_of rfl (by decide +kernel)
theorem i_bl_int : kIsi "int" (.bl b) h = .ok (.bl true) h := isi_of rfl (by decide +kernel)
theorem i_bl_str : kIsi "str" (.bl b) h = .ok (.bl false) h := isi_of rfl (by decide +kernel)
theorem i_bl_list : kIsi "list" (.bl b) h = .ok (.bl false) h := isi_of rfl (by decide +kernel)
theorem i_bl_tuple : kIsi "tuple" (.bl b) h = .ok (.bl false) h := isi_of rfl (by decide +kernel)
theorem i_bl_dict : kIsi "dict" (.bl b) h = .ok (.bl false) h := isi_of rfl (by decide +kernel)
theorem i_int_bool : kIsi "bool" (.int i) h = .ok (.bl false) h := isi_of rfl (by decide +kernel)
theorem i_int_int : kIsi "int" (.int i) h = .ok (.bl true) h := isi_of rfl (by decide +kernel)
theorem i_int_str : kIsi "str" (.int i) h = .ok (.bl false) h := isi_of rfl (by decide +kernel)
theorem i_int_list : kIsi "list" (.int i) h = .ok (.bl false) h := isi_of rfl (by decide +kernel)
theorem i_int_tuple : kIsi "tuple" (.int i) h = .ok (.bl false) h := isi_of rfl (by decide +kernel)
theorem i_int_dict : kIsi "dict" (.int i) h = .ok (.bl false) h := isi_of rfl (by decide +kernel)
theorem i_str_bool : kIsi "bool" (.str z) h = .ok (.bl false) h := isi_of rfl (by decide +kernel)
theorem i_str_int : kIsi "int" (.str z) h = .ok (.bl false) h := isi_of rfl (by decide +kernel)
theorem i_str_str : kIsi "str" (.str z) h = .ok (.bl true) h := isi_of rfl (by decide +kernel)
theorem i_str_list : kIsi "list" (.str z) h = .ok (.bl false) h := isi_of rfl (by decide +kernel)
theorem i_str_tuple : kIsi "tuple" (.str z) h = .ok (.bl false) h := isi_of rfl (by decide +kernel)
theorem i_str_dict : kIsi "dict" (.str z) h = .ok (.bl false) h := isi_of rfl (by decide +kernel)
theorem i_tup_bool : kIsi "bool" (.tup xs) h = .ok (.bl false) h := isi_of rfl (by decide +kernel)
theorem i_tup_int : kIsi "int" (.tup xs) h = .ok (.bl false) h := isi_of rfl (by decide +kernel)
theorem i_tup_str : kIsi "str" (.tup xs) h = .ok (.bl false) h := isi_of rfl (by decide +kernel)
theorem i_tup_list : kIsi "list" (.tup xs) h = .ok (.bl false) h := isi_of rfl (by decide +kernel)
theorem i_tup_tuple : kIsi "tuple" (.tup xs) h = .ok (.bl true) h := isi_of rfl (by decide +kernel)
theorem i_tup_dict : kIsi "dict" (.tup xs) h = .ok (.bl false) h := isi_of rfl (by decide +kernel)
theorem i_lst_bool : kIsi "bool" (.lst xs) h = .ok (.bl false) h := isi_of rfl (by decide +kernel)
theorem i_lst_int : kIsi "int" (.lst xs) h = .ok (.bl false) h := isi_of rfl (by decide +kernel)
theorem i_lst_str : kIsi "str" (.lst xs) h = .ok (.bl false) h := isi_of rfl (by decide +kernel)
theorem i_lst_list : kIsi "list" (.lst xs) h = .ok (.bl true) h := isi_of rfl (by decide +kernel)
theorem i_lst_tuple : kIsi "tuple" (.lst xs) h = .ok (.bl false) h := isi_of rfl (by decide +kernel)
theorem i_lst_dict : kIsi "dict" (.lst xs) h = .ok (.bl false) h := isi_of rfl (by decide +kernel)
theorem i_scr_bool : kIsi "bool" (.scr xs) h = .ok (.bl false) h := isi_of rfl (by decide +kernel)
theorem i_scr_int : kIsi "int" (.scr xs) h = .ok (.bl false) h := isi_of rfl (by decide +kernel)
theorem i_scr_str : kIsi "str" (.scr xs) h = .ok (.bl false) h := isi_of rfl (by decide +kernel)
theorem i_scr_list : kIsi "list" (.scr xs) h = .ok (.bl true) h := isi_of rfl (by decide +kernel)
theorem i_scr_tuple : kIsi "tuple" (.scr xs) h = .ok (.bl false) h := isi_of rfl (by decide +kernel)
theorem i_scr_dict : kIsi "dict" (.scr xs) h = .ok (.bl false) h := isi_of rfl (by decide +kernel)
theorem i_idlst_bool {kvs : List (Key × AV)} (e : h[n]? = some (.lst xs)) : kIsi "bool" (.id n) h = .ok (.bl false) h := isi_of (n := "list") (by unfold tyName; dsimp only; rw [e]) (by decide +kernel)
theorem i_idlst_int {kvs : List (Key × AV)} (e : h[n]? = some (.lst xs)) : kIsi "int" (.id n) h = .ok (.bl false) h := isi_of (n := "list") (by unfold tyName; dsimp only; rw [e]) (by decide +kernel)
theorem i_idlst_str {kvs : List (Key × AV)} (e : h[n]? = some (.lst xs)) : kIsi "str" (.id n) h = .ok (.bl false) h := isi_of (n := "list") (by unfold tyName; dsimp only; rw [e]) (by decide +kernel)
theorem i_idlst_list {kvs : List (Key × AV)} (e : h[n]? = some (.lst xs)) : kIsi "list" (.id n) h = .ok (.bl true) h := isi_of (n := "list") (by unfold tyName; dsimp only; rw [e]) (by decide +kernel)
theorem i_idlst_tuple {kvs : List (Key × AV)} (e : h[n]? = some (.lst xs)) : kIsi "tuple" (.id n) h = .ok (.bl false) h := isi_of (n := "list") (by unfold tyName; dsimp only; rw [e]) (by decide +kernel)
theorem i_idlst_dict {kvs : List (Key × AV)} (e : h[n]? = some (.lst xs)) : kIsi "dict" (.id n) h = .ok (.bl false) h := isi_of (n := "list") (by unfold tyName; dsimp only; rw [e]) (by decide +kernel)
theorem i_idfz_bool {kvs : List (Key × AV)} (e : h[n]? = some (.fz xs)) : kIsi "bool" (.id n) h = .ok (.bl false) h := isi_of (n := "list") (by unfold tyName; dsimp only; rw [e]) (by decide +kernel)
theorem i_idfz_int {kvs : List (Key × AV)} (e : h[n]? = some (.fz xs)) : kIsi "int" (.id n) h = .ok (.bl false) h := isi_of (n := "list") (by unfold tyName; dsimp only; rw [e]) (by decide +kernel)
theorem i_idfz_str {kvs : List (Key × AV)} (e : h[n]? = some (.fz xs)) : kIsi "str" (.id n) h = .ok (.bl false) h := isi_of (n := "list") (by unfold tyName; dsimp only; rw [e]) (by decide +kernel)
theorem i_idfz_list {kvs : List (Key × AV)} (e : h[n]? = some (.fz xs)) : kIsi "list" (.id n) h = .ok (.bl true) h := isi_of (n := "list") (by unfold tyName; dsimp only; rw [e]) (by decide +kernel)
theorem i_idfz_tuple {kvs : List (Key × AV)} (e : h[n]? = some (.fz xs)) : kIsi "tuple" (.id n) h = .ok (.bl false) h := isi_of (n := "list") (by unfold tyName; dsimp only; rw [e]) (by decide +kernel)
theorem i_idfz_dict {kvs : List (Key × AV)} (e : h[n]? = some (.fz xs)) : kIsi "dict" (.id n) h = .ok (.bl false) h := isi_of (n := "list") (by unfold tyName; dsimp only; rw [e]) (by decide +kernel)
theorem i_iddct_bool {kvs : List (Key × AV)} (e : h[n]? = some (.dct kvs)) : kIsi "bool" (.id n) h = .ok (.bl false) h := isi_of (n := "dict") (by unfold tyName; dsimp only; rw [e]) (by decide +kernel)
theorem i_iddct_int {kvs : List (Key × AV)} (e : h[n]? = some (.dct kvs)) : kIsi "int" (.id n) h = .ok (.bl false) h := isi_of (n := "dict") (by unfold tyName; dsimp only; rw [e]) (by decide +kernel)
theorem i_iddct_str {kvs : List (Key × AV)} (e : h[n]? = some (.dct kvs)) : kIsi "str" (.id n) h = .ok (.bl false) h := isi_of (n := "dict") (by unfold tyName; dsimp only; rw [e]) (by decide +kernel)
theorem i_iddct_list {kvs : List (Key × AV)} (e : h[n]? = some (.dct kvs)) : kIsi "list" (.id n) h = .ok (.bl false) h := isi_of (n := "dict") (by unfold tyName; dsimp only; rw [e]) (by decide +kernel)
theorem i_iddct_tuple {kvs : List (Key × AV)} (e : h[n]? = some (.dct kvs)) : kIsi "tuple" (.id n) h = .ok (.bl false) h := isi_of (n := "dict") (by unfold tyName; dsimp only; rw [e]) (by decide +kernel)
theorem i_iddct_dict {kvs : List (Key × AV)} (e : h[n]? = some (.dct kvs)) : kIsi "dict" (.id n) h = .ok (.bl true) h := isi_of (n := "dict") (by unfold tyName; dsimp only; rw [e]) (by decide +kernel)
theorem y_nei {i j : Int} : opNe (.int i) (.int j) h = .ok (.bl (!decide (i = j))) h := by rw [x_nei]
theorem y_nes {z w : Str} : opNe (.str z) (.str w) h = .ok (.bl (!decide (z = w))) h := by rw [x_nes]
theorem y_neb {a b : Bool} : opNe (.bl a) (.bl b) h = .ok (.bl (!decide (a = b))) h := by rw [x_neb]
theorem y_eqi {i j : Int} : opEq (.int i) (.int j) h = .ok (.bl (decide (i = j))) h := by rw [x_eqi]
theorem y_eqs {z w : Str} : opEq (.str z) (.str w) h = .ok (.bl (decide (z = w))) h := by rw [x_eqs]
theorem y_eqb {a b : Bool} : opEq (.bl a) (.bl b) h = .ok (.bl (decide (a = b))) h := by rw [x_eqb]
theorem mw_nil : mwipe S [] = S := rfl
theorem mw_cons {k : Nat} {r : List Nat} : mwipe S (k :: r) = (mwipe S r).set k none := rfl
theorem q_lst : kSqF (.lst xs) h = .ok xs h := rfl
theorem q_tup : kSqF (.tup xs) h = .ok xs h := rfl
theorem q_scr : kSqF (.scr xs) h = .ok xs h := rfl
theorem ofS_inj {a b : String} : Str.ofString a = Str.ofString b ↔ a = b := by
  constructor
  · intro h
    rw [Str.ofString_eq_toList, Str.ofString_eq_toList] at h
    have h := congrArg (fun x : Str => x.cps.toList) h
    dsimp only at h
    exact String.ext ((List.map_inj_right (fun x y h => Char.toNat_inj.mp h)).mp h)
  · rintro rfl; rfl
/-! fields -/
variable {c f : Str} {cs : List Str} {fs : List (Str × AV)}
theorem x_fld (e : h[n]? = some (.ins c fs)) (m : c ∈ cs) (l : fs.lookup f = some y) : kFld cs f (.id n) h = .ok y h := by unfold kFld; dsimp only; rw [e]; dsimp only; rw [if_pos m, l]
theorem x_fs (e : h[n]? = some (.ins c fs)) (m : c ∈ cs) (l : fs.length < 1000) : kFs cs f v S (.id n) h = .ok (.nx S) (h.set n (.ins c (putX f v fs))) := by unfold kFs; dsimp only; rw [e]; exact if_pos ⟨m, l⟩
theorem x_fa0 {op : AV → AV → AH → Rs AV} {mv : EV} (e : h[n]? = some (.ins c fs)) (m : c ∈ cs) (l : fs.lookup f = some y) : kFa0 cs f op mv S (.id n) h = (mv S h).bnd (kFa1 c f op n S y) := by unfold kFa0; dsimp only; rw [e]; dsimp only; rw [if_pos m, l]
theorem x_fa2 (e : h[n]? = some (.ins c fs)) (l : fs.length < 1000) : kFa2 c f n S v h = .ok (.nx S) (h.set n (.ins c (putX f v fs))) := by unfold kFa2; rw [e]; exact if_pos ⟨rfl, l⟩
theorem x_mth {w : Str} {tab : List (Str × MF)} {ms : LV} {m : MF} (e : h[n]? = some (.ins c fs)) (q : tab.lookup c = some m) (l : fs.lookup w = none) : kMth w tab ms S (.id n) h = (ms S h).bnd (kMth2 m (.id n)) := by unfold kMth; dsimp only; rw [e]; dsimp only; rw [q, l]
theorem x_new {m : MF} {h1 : AH} (e : m (.id h.length :: xs) (h ++ [.ins c []]) = .ok .non h1) : kNew c m xs h = .ok (.id h.length) h1 := by unfold kNew; rw [e]; rfl
theorem x_isc {tab : List (Str × Bool)} {t : Str × Bool} (e : h[n]? = some (.ins c fs)) (q : tab.find? (fun z => decide (z.1 = c)) = some t) : kIsC tab (.id n) h = .ok (.bl t.2) h := by unfold kIsC; dsimp only; rw [e]; dsimp only; rw [q]
theorem x_ml {g : AV → List AV → AH → Rs AV} {ms : LV} (e : lsOf h x = some xs) : kMl g ms S x h = (ms S h).bnd (g x) := by unfold kMl; rw [e]
theorem x_dp2 {ks : List Str} {g : Str → AV} (e : h[n]? = some (dE ks g)) (l : ks.length < 16777216) : kDp2 v (.id n) S (.str z) h = .ok (.nx S) (h.set n (dE (addK ks z) (upE g z v))) := by
  unfold kDp2
  show (match dput (.id n) (.inr z) v h with
    | some h1 => Rs.ok (Ou.nx S) h1
    | none => .no) = _
  rw [e_put e l]
/-! rows walked -/
theorem q_id (e : h[n]? = some (.lst xs)) : kSqF (.id n) h = .ok xs (h.set n (.fz xs)) := by unfold kSqF; dsimp only; rw [e]
theorem q_idf (e : h[n]? = some (.fz xs)) : kSqF (.id n) h = .ok xs h := by unfold kSqF; dsimp only; rw [e]
theorem for_fold {γ σ : Type} {mg : GV} {b : SV} {enc : γ → AV} {g : σ → γ → σ} {P : σ → AS → AH → Prop} : ∀ (l : List γ) (s : σ) (S : AS) (h : AH), P s S h → (∀ a ∈ l, ∀ s S h, P s S h → ((mg (enc a) S h).bnd b).is fun o h' => ∃ S', o = .nx S' ∧ P (g s a) S' h') → ∃ S' h', mForL mg b (l.map enc) S h = .ok (.nx S') h' ∧ P (l.foldl g s) S' h'
  | [], s, S, h, p, _ => ⟨S, h, rfl, p⟩
  | a :: l, s, S, h, p, q => by
    obtain ⟨o, h', e, S', rfl, p'⟩ := is_ex (q a List.mem_cons_self s S h p)
    obtain ⟨S2, h2, e2, p2⟩ := for_fold l (g s a) S' h' p' fun b hb => q b (List.mem_cons_of_mem _ hb)
    exact ⟨S2, h2, by rw [List.map_cons, f_cons, e]; exact e2, p2⟩
theorem for_inv {mg : GV} {b : SV} {P : AS → AH → Prop} : ∀ (l : List AV) (S : AS) (h : AH), P S h → (∀ a ∈ l, ∀ S h, P S h → ((mg a S h).bnd b).is fun o h' => ∃ S', o = .nx S' ∧ P S' h') → ∃ S' h', mForL mg b l S h = .ok (.nx S') h' ∧ P S' h'
  | [], S, h, p, _ => ⟨S, h, rfl, p⟩
  | a :: l, S, h, p, q => by
    obtain ⟨o, h', e, S', rfl, p'⟩ := is_ex (q a List.mem_cons_self S h p)
    obtain ⟨S2, h2, e2, p2⟩ := for_inv l S' h' p' fun b hb => q b (List.mem_cons_of_mem _ hb)
    exact ⟨S2, h2, by rw [f_cons, e]; exact e2, p2⟩
theorem fop_fold {γ σ : Type} {mg : GV} {b : SV} {enc : γ → AV × AV} {g : σ → γ → σ} {P : σ → AS → AH → Prop} : ∀ (l : List γ) (s : σ) (S : AS) (h : AH), P s S h → (∀ a ∈ l, ∀ s S h, P s S h → ((mg (.tup [(enc a).1, (enc a).2]) S h).bnd b).is fun o h' => ∃ S', o = .nx S' ∧ P (g s a) S' h') → ∃ S' h', mForLP mg b (l.map enc) S h = .ok (.nx S') h' ∧ P (l.foldl g s) S' h'
  | [], s, S, h, p, _ => ⟨S, h, rfl, p⟩
  | a :: l, s, S, h, p, q => by
    obtain ⟨o, h', e, S', rfl, p'⟩ := is_ex (q a List.mem_cons_self s S h p)
    obtain ⟨S2, h2, e2, p2⟩ := fop_fold l (g s a) S' h' p' fun b hb => q b (List.mem_cons_of_mem _ hb)
    exact ⟨S2, h2, by rw [List.map_cons, fp_cons, e]; exact e2, p2⟩
theorem e62 : (2 : Int) ^ 62 = 4611686018427387904 := by decide
theorem rg_ok {n : Nat} (h : n ≤ 16777216) : -4611686018427387904 ≤ (n : Int) ∧ (n : Int) < 4611686018427387904 := by omega
theorem x_r1 {j : Int} : ktR1 (.int j) h = if -4611686018427387904 ≤ j ∧ j < 4611686018427387904 then .ok (rgX 0 j) h else .no := by
  unfold ktR1; dsimp only; rw [e62]
theorem x_r2 {i j : Int} : kR2b (.int i) (.int j) h = if -4611686018427387904 ≤ i ∧ i < 4611686018427387904 ∧ -4611686018427387904 ≤ j ∧ j < 4611686018427387904 then .ok (rgX i j) h else .no := by
  unfold kR2b; dsimp only; rw [e62]
theorem x_rg {n : Nat} (l : n ≤ 16777216) : ktR1 (.int n) h = .ok (rgX 0 n) h := by rw [x_r1, if_pos (rg_ok l)]
theorem x_rgi {j : Int} (l : -4611686018427387904 ≤ j ∧ j < 4611686018427387904) : ktR1 (.int j) h = .ok (rgX 0 j) h := by rw [x_r1, if_pos l]
theorem x_r2i {i j : Int} (l : -4611686018427387904 ≤ i ∧ i < 4611686018427387904 ∧ -4611686018427387904 ≤ j ∧ j < 4611686018427387904) : kR2b (.int i) (.int j) h = .ok (rgX i j) h := by rw [x_r2, if_pos l]
theorem for_rest {γ σ : Type} {mg : GV} {b : SV} {enc : γ → AV} {g : σ → γ → σ} {P : List γ → σ → AS → AH → Prop} : ∀ (l : List γ) (s : σ) (S : AS) (h : AH), P l s S h → (∀ a l s S h, P (a :: l) s S h → ((mg (enc a) S h).bnd b).is fun o h' => ∃ S', o = .nx S' ∧ P l (g s a) S' h') → ∃ S' h', mForL mg b (l.map enc) S h = .ok (.nx S') h' ∧ P [] (l.foldl g s) S' h'
  | [], s, S, h, p, _ => ⟨S, h, rfl, p⟩
  | a :: l, s, S, h, p, q => by
    obtain ⟨o, h', e, S', rfl, p'⟩ := is_ex (q a l s S h p)
    obtain ⟨S2, h2, e2, p2⟩ := for_rest l (g s a) S' h' p' q
    exact ⟨S2, h2, by rw [List.map_cons, f_cons, e]; exact e2, p2⟩
theorem lc_ex {γ δ : Type} {t : AV → AH → Rs (Option AV)} {enc : γ → AV} {g : δ → AV} {P : δ → Prop} {h : AH} : ∀ (l : List γ) (acc : List AV), (∀ a ∈ l, ∃ d, P d ∧ t (enc a) h = .ok (some (g d)) h) → ∃ ds : List δ, ds.length = l.length ∧ (∀ d ∈ ds, P d) ∧ mLcL t (l.map enc) acc h = .ok (acc ++ ds.map g) h
  | [], acc, _ => ⟨[], rfl, fun _ q => (by cases q), by simp [c_nil]⟩
  | a :: l, acc, q => by
    obtain ⟨d, p, e⟩ := q a List.mem_cons_self
    obtain ⟨ds, hl, hp, e2⟩ := lc_ex l (acc ++ [g d]) fun b hb => q b (List.mem_cons_of_mem _ hb)
    refine ⟨d :: ds, by rw [List.length_cons, hl, List.length_cons], fun x hx => ?_, ?_⟩
    · rcases List.mem_cons.mp hx with rfl | hx
      · exact p
      · exact hp x hx
    · rw [List.map_cons, c_cons, e]
      show mLcL t (l.map enc) (acc ++ [g d]) h = _
      rw [e2]; simp
theorem cut_map {γ : Type} {f : γ → AV} {l : List γ} {lo hi : Option Int} : ∃ m : List γ, cutX (l.map f) lo hi = m.map f ∧ m.length ≤ l.length ∧ ∀ a ∈ m, a ∈ l := by
  unfold cutX
  rw [← List.map_drop, ← List.map_take]
  exact ⟨_, rfl, by rw [List.length_take, List.length_drop]; omega, fun a h => List.mem_of_mem_drop (List.mem_of_mem_take h)⟩
theorem en_map {γ : Type} {f : γ → AV} {l : List γ} : enX 0 (l.map f) = l.zipIdx.map fun p => (.int (p.2 : Nat), f p.1) := by
  unfold enX
  rw [List.zipIdx_map, List.map_map]
  rfl
theorem fop_rest {γ σ : Type} {mg : GV} {b : SV} {enc : γ → AV × AV} {g : σ → γ → σ} {P : List γ → σ → AS → AH → Prop} : ∀ (l : List γ) (s : σ) (S : AS) (h : AH), P l s S h → (∀ a l s S h, P (a :: l) s S h → ((mg (.tup [(enc a).1, (enc a).2]) S h).bnd b).is fun o h' => ∃ S', o = .nx S' ∧ P l (g s a) S' h') → ∃ S' h', mForLP mg b (l.map enc) S h = .ok (.nx S') h' ∧ P [] (l.foldl g s) S' h'
  | [], s, S, h, p, _ => ⟨S, h, rfl, p⟩
  | a :: l, s, S, h, p, q => by
    obtain ⟨o, h', e, S', rfl, p'⟩ := is_ex (q a l s S h p)
    obtain ⟨S2, h2, e2, p2⟩ := fop_rest l (g s a) S' h' p' q
    exact ⟨S2, h2, by rw [List.map_cons, fp_cons, e]; exact e2, p2⟩
theorem bnd_for {k : AS → AH → Rs Ou} {r : Rs Ou} {S : AS} (e : r = .ok (.nx S) h) {m : SV} : r.thn m = m S h := by rw [e]; rfl
theorem rg_map {j : Int} : rgX 0 j = (List.range j.toNat).map fun k => AV.int (k : Nat) := by
  unfold rgX
  simp
theorem rg_mem {j : Int} {a : AV} (m : a ∈ rgX 0 j) : ∃ k : Nat, a = .int k ∧ (k : Int) < j := by
  rw [rg_map] at m
  obtain ⟨k, hk, rfl⟩ := List.mem_map.mp m
  exact ⟨k, rfl, by have := List.mem_range.mp hk; omega⟩
/-- values that tell alike -/
inductive Alk : Nat → AV → Prop
  | non {n : Nat} : Alk n .non
  | bl {n : Nat} {b : Bool} : Alk n (.bl b)
  | int {n : Nat} {i : Int} : Alk n (.int i)
  | str {n : Nat} {z : Str} (h : PyData.strOk z = true) : Alk n (.str z)
  | tup {n : Nat} {xs : List AV} (l : xs.length ≤ 16777216) (h : ∀ x ∈ xs, Alk n x) : Alk (n + 1) (.tup xs)
  | lst {n : Nat} {xs : List AV} (l : xs.length ≤ 16777216) (h : ∀ x ∈ xs, Alk n x) : Alk (n + 1) (.lst xs)
theorem Alk.okv {n : Nat} {x : AV} (h : Alk n x) : Okv n x := by
  induction h with
  | non => exact .non
  | bl => exact .bl
  | int => exact .int
  | str h => exact .str h
  | tup _ _ ih => exact .tup ih
  | lst _ _ ih => exact .lst ih
theorem Alk.up {n : Nat} {x : AV} (h : Alk n x) : ∀ {m : Nat}, n ≤ m → Alk m x := by
  induction h with
  | non => intro m _; exact .non
  | bl => intro m _; exact .bl
  | int => intro m _; exact .int
  | str h => intro m _; exact .str h
  | tup l h ih =>
    intro m hm
    obtain ⟨k, rfl⟩ : ∃ k, m = k + 1 := ⟨m - 1, by omega⟩
    exact .tup l fun x hx => ih x hx (by omega)
  | lst l h ih =>
    intro m hm
    obtain ⟨k, rfl⟩ : ∃ k, m = k + 1 := ⟨m - 1, by omega⟩
    exact .lst l fun x hx => ih x hx (by omega)
theorem Alk.map {γ : Type} {n : Nat} {f : γ → AV} {l : List γ} (h : ∀ a ∈ l, Alk n (f a)) : ∀ x ∈ l.map f, Alk n x := fun x hx => by
  obtain ⟨a, ha, rfl⟩ := List.mem_map.mp hx
  exact h a ha
end
end Hf
set_option Elab.async false
set_option linter.all false
set_option maxRecDepth 100000
set_option maxHeartbeats 4000000
namespace Hf
open PySem PySem.Spec L2 PyProof.Rows
/-! displays of dicts -/
def ePrs : List (TE × TE) → L2.St → Hp → (List (V × V) → Hp → Prop) → Prop
  | [], _, H, Q => Q [] H
  | t :: r, σ, H, Q => t.1 σ H fun x H1 => t.2 σ H1 fun y H2 => ePrs r σ H2 fun ps H3 => Q ((x, y) :: ps) H3
theorem prs_hat : ∀ {trs : List (TE × TE)} {σ : L2.St} {H : Hp} {Q : List (V × V) → Hp → Prop}, ePrs trs σ H Q → tPairs (trs.map fun t => (hat t.1, hat t.2)) σ H Q
  | [], _, _, _, h => h
  | t :: r, _, _, _, h => ⟨_, fun _ _ q => ⟨_, fun _ _ q => prs_hat q, q⟩, h⟩
def eDisp (trs : List (TE × TE)) : TE := fun σ H Q => ∀ p, H p = none → ePrs trs σ (upd H p (.dK [])) fun ps H2 => H2 p = some (.dK []) ∧ ∃ kvs : List (Key × V), ps = kvs.map (fun kv => (kV kv.1, kv.2)) ∧ kvs.length ≤ 15 ∧ Q (.ref p) (upd H2 p (.dK (mergeK [] kvs)))
theorem dDisp {X : Cx} {pos : Pos} {keys : List (Option Expr)} {values : List Expr} {trs : List (TE × TE)} (h : PPs X pos keys values (trs.map fun t => (hat t.1, hat t.2))) (hall : keys.all (·.isSome) = true) (hl : keys.length = values.length) (h0 : keys ≠ []) (h15 : keys.length ≤ 15) : PE X (.Dict keys values pos) (eDisp trs) :=
  pe_w (pe_disp h hall hl h0 h15) fun _ _ _ q p hp => prs_hat (q p hp)
def kPr2 (mr : AS → AH → Rs (List (AV × AV))) (S : AS) (x y : AV) (h : AH) : Rs (List (AV × AV)) := (mr S h).bnd fun l h1 => .ok ((x, y) :: l) h1
def kPr1 (mb : EV) (mr : AS → AH → Rs (List (AV × AV))) (S : AS) (x : AV) (h : AH) : Rs (List (AV × AV)) := (mb S h).bnd (kPr2 mr S x)
def mPrs : List (EV × EV) → AS → AH → Rs (List (AV × AV))
  | [], _, h => .ok [] h
  | t :: r, S, h => (t.1 S h).bnd (kPr1 t.2 (mPrs r) S)
def keysK : List (AV × AV) → Option (List (Key × AV))
  | [] => some []
  | p :: r => match asK p.1, keysK r with
    | some k, some l => some ((k, p.2) :: l)
    | _, _ => none
def mergeX (kvs more : List (Key × AV)) : List (Key × AV) := more.foldl (fun acc kv => putXK acc kv.1 kv.2) kvs
def kDisp (n : Nat) (l : List (AV × AV)) (h : AH) : Rs AV := match h[n]?, keysK l with
  | some (.dct []), some kxs => if kxs.length ≤ 15 then .ok (.id n) (h.set n (.dct (mergeX [] kxs))) else .no
  | _, _ => .no
def mDisp (ps : List (EV × EV)) : EV := fun S h => (mPrs ps S (h ++ [.dct []])).bnd (kDisp h.length)
section
variable {K : PySem.W.Frag} {Γ : Gm} {E : XK} {F F1 H H1 : Hp} {φ φ1 : List Addr} {h h1 : AH} {S : AS} {σ : L2.St} {Q : VK} {x y : AV} {v u : V}
  {ta tb : TE} {ma mb : EV} {trs : List (TE × TE)} {mps : List (EV × EV)}
def RPr (K : PySem.W.Frag) (F : Hp) (φ : List Addr) (l : List (AV × AV)) (ps : List (V × V)) : Prop := ARs K F φ (l.map (·.1)) (ps.map (·.1)) ∧ ARs K F φ (l.map (·.2)) (ps.map (·.2))
structure SPP (K : PySem.W.Frag) (Γ : Gm) (E : XK) (trs : List (TE × TE)) (mps : List (EV × EV)) : Prop where
  run : ∀ {F H : Hp} {φ : List Addr} {h : AH} {S : AS} {σ : L2.St} {Q : List (V × V) → Hp → Prop}, WR K Γ F H φ h → SR K F φ S σ → Ok K Γ E (RPr K) F H φ (mPrs mps S h) Q → ePrs trs σ H Q
theorem vPnil : SPP K Γ E [] [] := ⟨fun w s o => o.here w ⟨.nil, .nil⟩⟩
theorem vPcons (ha : SE K Γ E ta ma) (hb : SE K Γ E tb mb) (hr : SPP K Γ E trs mps) : SPP K Γ E ((ta, tb) :: trs) ((ma, mb) :: mps) :=
  ⟨fun w s o => ha.run w s (Ok.bnd o fun _ _ _ _ _ _ w1 e1 a1 o1 => hb.run w1 (s.to e1) (Ok.bnd o1 fun _ _ _ _ _ _ w2 e2 a2 o2 => hr.run w2 ((s.to e1).to e2) (Ok.bnd o2 fun _ _ _ _ _ _ w3 e3 a3 o3 => o3.here w3 ⟨.cons ((a1.to e2).to e3) a3.1, .cons (a2.to e3) a3.2⟩)))⟩
theorem keysK_ok : ∀ {l : List (AV × AV)} {ps : List (V × V)} {kx : List (Key × AV)}, RPr K F φ l ps → keysK l = some kx → ∃ kv : List (Key × V), ps = kv.map (fun q => (kV q.1, q.2)) ∧ KRs K F φ kx kv
  | [], [], kx, _, e => by
    unfold keysK at e; cases e
    exact ⟨[], rfl, rfl, .nil⟩
  | [], p :: ps, _, a, _ => by
    obtain ⟨a, _⟩ := a
    cases a.nil_inv
  | p :: l, ps, kx, a, e => by
    obtain ⟨a, b⟩ := a
    obtain ⟨v1, r1, e1, x1, y1⟩ := a.cons_inv
    cases ps with
    | nil => simp at e1
    | cons q ps =>
      obtain ⟨q1, q2⟩ := q
      simp at e1
      obtain ⟨rfl, rfl⟩ := e1
      obtain ⟨v2, r2, e2, x2, y2⟩ := b.cons_inv
      simp at e2
      obtain ⟨rfl, rfl⟩ := e2
      unfold keysK at e
      split at e
      · rename_i k l2 c1 c2
        cases e
        obtain ⟨kv, e3, r⟩ := keysK_ok (l := l) (ps := ps) ⟨y1, y2⟩ c2
        have := asK_ok x1 c1
        subst this
        subst e3
        exact ⟨(k, q2) :: kv, rfl, .cons x2 r⟩
      · cases e
theorem KRs.merge : ∀ {more : List (Key × AV)} {mv : List (Key × V)} {kx : List (Key × AV)} {kv : List (Key × V)}, KRs K F φ more mv → KRs K F φ kx kv → KRs K F φ (mergeX kx more) (mergeK kv mv)
  | [], mv, kx, kv, r, q => by rw [r.nil_inv]; exact q
  | p :: more, mv, kx, kv, r, q => by
    obtain ⟨v, ks, rfl, a, r⟩ := r.cons_inv
    exact KRs.merge (kx := putXK kx p.1 p.2) (kv := putK kv p.1 v) r (q.putk a)
theorem vDisp (hp : SPP K Γ E trs mps) : SE K Γ E (eDisp trs) (mDisp mps) := ⟨fun {F H φ h S σ Q} w s o p hn => by
  obtain ⟨w2, e2⟩ := w.alloc (c := .dct []) hn fun H' e nF => ⟨nF, [], e, rfl, .nil⟩
  have a2 : AR K F (φ ++ [p]) (.id h.length) (.ref p) := aId (by rw [← w.ln, List.getElem?_append_right (Nat.le_refl _), Nat.sub_self]; rfl)
  refine hp.run w2 (s.to e2) (Ok.bnd (Ok.shift e2 o) fun l h3 F3 H3 φ3 ps w3 e3 a3 o3 => ?_)
  unfold kDisp at o3
  split at o3
  · rename_i kx c1 c2
    split at o3
    · rename_i c3
      obtain ⟨p', hp', ep⟩ := iId (a2.to e3)
      cases ep
      obtain ⟨_, kv0, g1, g2⟩ := w3.cl _ _ _ hp' c1
      cases g2.nil_inv
      obtain ⟨kv, rfl, r⟩ := keysK_ok a3 c2
      obtain ⟨w4, e4⟩ := w3.putD hp' c1 (KRs.merge r g2)
      exact ⟨g1, kv, rfl, by rw [← r.len]; exact c3, o3.use w4 e4 ((a2.to e3).to e4)⟩
    · exact o3.elim
  · exact o3.elim⟩
end
theorem x_mDisp {ps : List (EV × EV)} {S : AS} {h : AH} : mDisp ps S h = (mPrs ps S (h ++ [.dct []])).bnd (kDisp h.length) := rfl
theorem x_mPrs0 {S : AS} {h : AH} : mPrs [] S h = .ok [] h := rfl
theorem x_mPrs1 {t : EV × EV} {r : List (EV × EV)} {S : AS} {h : AH} : mPrs (t :: r) S h = (t.1 S h).bnd (kPr1 t.2 (mPrs r) S) := rfl
theorem x_kDisp {l : List (AV × AV)} {kxs : List (Key × AV)} {h : AH} {n : Nat} (e : h[n]? = some (.dct [])) (ek : keysK l = some kxs) (hl : kxs.length ≤ 15) : kDisp n l h = .ok (.id n) (h.set n (.dct (mergeX [] kxs))) := by
  unfold kDisp; rw [e, ek]; exact if_pos hl
/-! a part of a tuple -/
def uSlT (K : PySem.W.Frag) : V → Option Int → Option Int → Hp → VK → Prop := rSlA K
theorem dSlT {X : Cx} {e : Expr} {lo hi : Option Expr} {pos p2 : Pos} {te : TE} {tl th : TO} (he : PE X e te) (hl : PO X lo tl) (hu : PO X hi th) : PE X (.Subscript e (.Slice lo hi none p2) pos) (eSl (uSlT X.K) te tl th) := pe_slice sl_tupA he hl hu
def opSlT (x : AV) (lo hi : Option Int) (h : AH) : Rs AV := match x with
  | .tup xs => .ok (.tup (cutX xs lo hi)) h
  | _ => .no
theorem wSlT {K : PySem.W.Frag} {Γ : Gm} {E : XK} : SO3 K Γ E (uSlT K) opSlT := ⟨fun {F H φ h x v lo hi Q} w a o => by
  unfold opSlT at o
  split at o
  · rename_i xs
    obtain ⟨p, vs, rfl, h1, h2⟩ := iTup a
    have l := h2.len
    refine ⟨p, vs, rfl, Same.sqT w.ff h1, fun hw => ?_, fun _ q hq => ?_⟩
    · have e : cutX xs lo hi = xs := by
        unfold cutX
        rw [l, hw.1, hw.2, List.drop_zero, Nat.sub_zero, ← l, List.take_length]
      rw [e] at o
      exact o.here w (aTup h1 h2)
    · obtain ⟨w1, e1⟩ := w.new hq
      exact o.use w1 e1 (aTup (SqT.of upd_same) (h2.cut.to e1))
  · exact o.elim⟩
theorem x_slt {xs : List AV} {lo hi : Option Int} {h : AH} : opSlT (.tup xs) lo hi h = .ok (.tup (cutX xs lo hi)) h := rfl
/-! where a text stands in a text -/
def uSindex (z : Str) (vs : List V) (H : Hp) (Q : VK) : Prop := vTx vs fun b => ∃ i rest, Builtin.Str.occurrences z b 0 z.length 1 = i :: rest ∧ Q (.int (i : Nat)) H
theorem mSindex {X : Cx} : MsR X "str.index" uSindex := fun pins s σ H x vs v us Q I rx rs ⟨z, e, q⟩ => by
  subst e
  obtain ⟨b, rfl, i, rest, h1, q⟩ := vTx_of q
  exact mt_sindex pins s σ H _ _ v us Q I rx rs ⟨z, b, i, rest, rfl, rfl, h1, q⟩
def fSindex (x : AV) (ys : List AV) (h : AH) : Rs AV := match x, ys with
  | .str z, [.str b] => match Builtin.Str.occurrences z b 0 z.length 1 with
    | i :: _ => .ok (.int (i : Nat)) h
    | [] => .no
  | _, _ => .no
theorem wSindex {K : PySem.W.Frag} {Γ : Gm} {E : XK} : SM K Γ E uSindex fSindex := ⟨fun w a o => by
  unfold fSindex at o
  split at o
  · rename_i e
    cases e
    obtain ⟨v, rfl, a1⟩ := one_inv a; have a := a1
    rw [iStr a]
    split at o
    · rename_i c
      exact ⟨_, _, c, o.here w aInt⟩
    · exact o.elim
  · exact o.elim⟩
theorem x_sidx {z b : Str} {i : Nat} {rest : List Nat} {h : AH} (e : Builtin.Str.occurrences z b 0 z.length 1 = i :: rest) : fSindex (.str z) [.str b] h = .ok (.int (i : Nat)) h := by
  unfold fSindex; dsimp only; rw [e]
/-! in, for rows of texts, of numbers -/
theorem fvs_str : ∀ ks : List Str, fvs (ks.map AV.str) = some (ks.map V.str)
  | [] => rfl
  | k :: ks => by
    show (match fv (.str k), fvs (ks.map AV.str) with | some v, some vs => some (v :: vs) | _, _ => none) = _
    rw [fvs_str ks]; rfl
theorem fvs_int : ∀ ks : List Int, fvs (ks.map AV.int) = some (ks.map V.int)
  | [] => rfl
  | k :: ks => by
    show (match fv (.int k), fvs (ks.map AV.int) with | some v, some vs => some (v :: vs) | _, _ => none) = _
    rw [fvs_int ks]; rfl
theorem x_inS {w : Str} {ks : List Str} {ys : List AV} {h : AH} (e : ys = ks.map AV.str) : opIn (.str w) (.tup ys) h = .ok (.bl (decide (w ∈ ks))) h ∧ opNotIn (.str w) (.tup ys) h = .ok (.bl (!decide (w ∈ ks))) h := by
  subst e
  have i : inV (.str w) (ks.map V.str) = decide (w ∈ ks) := by
    unfold inV
    rw [List.any_map]
    induction ks with
    | nil => rfl
    | cons k ks ih =>
      rw [List.any_cons, ih]
      show (k == w || decide (w ∈ ks)) = _
      by_cases c : k = w
      · subst c; simp
      · have c2 : ¬ w = k := fun q => c q.symm
        simp [c, c2]
  have := x_in (h := h) (x := .str w) (y := .tup (ks.map AV.str)) (v := .str w) (vs := ks.map V.str) rfl (by show fvs (ks.map AV.str) = _; exact fvs_str ks) (fun _ q => by cases q)
  rw [i] at this
  exact this
theorem x_inI {w : Int} {ks : List Int} {ys : List AV} {h : AH} (e : ys = ks.map AV.int) : opIn (.int w) (.tup ys) h = .ok (.bl (decide (w ∈ ks))) h ∧ opNotIn (.int w) (.tup ys) h = .ok (.bl (!decide (w ∈ ks))) h := by
  subst e
  have i : inV (.int w) (ks.map V.int) = decide (w ∈ ks) := by
    unfold inV
    rw [List.any_map]
    induction ks with
    | nil => rfl
    | cons k ks ih =>
      rw [List.any_cons, ih]
      show (k == w || decide (w ∈ ks)) = _
      by_cases c : k = w
      · subst c; simp
      · have c2 : ¬ w = k := fun q => c q.symm
        simp [c, c2]
  have := x_in (h := h) (x := .int w) (y := .tup (ks.map AV.int)) (v := .int w) (vs := ks.map V.int) rfl (by show fvs (ks.map AV.int) = _; exact fvs_int ks) (fun _ q => by cases q)
  rw [i] at this
  exact this
end Hf
set_option Elab.async false
set_option linter.all false
set_option maxRecDepth 100000
set_option maxHeartbeats 4000000
namespace Hf
open PySem PySem.Spec L2 PyProof.Rows
/-! list times int -/
def repL {α : Type} (xs : List α) (i : Int) : List α := (List.replicate i.toNat xs).flatten
theorem vals_app : ∀ {xs ys : List V} {us vs : List Value}, Vals xs us → Vals ys vs → Vals (xs ++ ys) (us ++ vs)
  | _, _, _, _, .nil, q => q
  | _, _, _, _, .cons r t, q => .cons r (vals_app t q)
theorem op_mul_li {X : Cx} : OpR X (binaryOp .Mult) (fun x y H Q => ∃ a xs i, x = V.ref a ∧ y = V.int i ∧ SqL X.K H a xs ∧ -1000000 ≤ i ∧ i ≤ 1000000 ∧ xs.length * i.toNat ≤ 16777216 ∧ ∀ p, H p = none → Q (.ref p) (upd H p (.lst (repL xs i)))) := by
  intro pins s σ H x y v u Q I rx ry h
  obtain ⟨a, xs, i, rfl, rfl, hs, i0, i1, lm, q⟩ := h
  obtain rfl : v = Value.ref a := rx
  obtain ⟨t, rfl⟩ : ∃ t, u = Value.int i t := ry
  obtain ⟨its, rv, ⟨⟨cls, dd, data, sl⟩, n, ho, hc, hdn, hd⟩, hlen⟩ := I.list hs
  have hc1 : cls = Value.type "list" := hc
  have hd1 : data = Data.seq its.toArray n := hd
  subst hc1 hd1
  have hl : its.length = xs.length := rv.length.symm
  have hm : its.toArray.size * i.toNat ≤ 16777216 := by rw [List.size_toArray, hl]; exact lm
  have hsl := sizeLine_eq
  refine wpAny_binaryOp_repeat_ref (T := "list") (U := "int") (by decide) ⟨_, ho, rfl⟩ (fun s' => rfl) noFill_list_mul F.fills_int_mul F.slot_int_rmul repeat_list F.slot_int_index.lookup
    (call_meets F.slot_int_rmul rfl F.entry_int_rmul (F.args_int_rmul_2 _ _) (lm_int_rmul_list_any i t a its.toArray n dd sl)
      ⟨ho, rfl, ⟨_, ho, rfl⟩, call_meets F.slot_list_mul ⟨_, ho, rfl⟩ F.entry_list_mul (F.args_list_mul_2 _ _)
        (lm_list_mul_any a its.toArray n dd sl i t (by simp only [Builtin.List.listFitsIndex]; simp; omega) (by omega) (by simp only [Builtin.List.listTooLong, decide_eq_true_eq]; omega))
        ⟨ho, ?_⟩⟩)
  have e : List.foldl (fun x1 x2 => x1 ++ x2) #[] (List.replicate (if its.toArray.isEmpty = true then 0 else i.toNat) its.toArray) = (repL its i).toArray := by
    rw [listMul_foldl_if]
    unfold repL
    simp
  rw [e]
  have rep : ∀ n : Nat, Vals ((List.replicate n xs).flatten) ((List.replicate n its).flatten) := fun n => by
    induction n with
    | zero => exact .nil
    | succ n ih =>
      rw [List.replicate_succ, List.replicate_succ, List.flatten_cons, List.flatten_cons]
      exact vals_app rv ih
  have ll : (repL xs i).length ≤ sizeLine := by
    unfold repL
    rw [List.length_flatten, List.map_replicate, List.sum_replicate_nat]
    rw [hsl, Nat.mul_comm]; exact lm
  exact ⟨.ref s.heap.objs.size, upd H s.heap.objs.size (.lst (repL xs i)), I.laid (t' := s.toks) (fun b o e => Heap.get?_push_of_some _ e) (Nat.le_refl _) ⟨ll, _, 0, rep _, Heap.get?_push_size _ rfl⟩, rfl, q _ (I.hok.fresh (Nat.le_refl _))⟩
def uMulL (K : PySem.W.Frag) (x y : V) (H : Hp) (Q : VK) : Prop := ∃ a xs i, x = V.ref a ∧ y = V.int i ∧ SqL K H a xs ∧ -1000000 ≤ i ∧ i ≤ 1000000 ∧ xs.length * i.toNat ≤ 16777216 ∧ ∀ p, H p = none → Q (.ref p) (upd H p (.lst (repL xs i)))
theorem oMulL {X : Cx} : OpR X (binaryOp .Mult) (uMulL X.K) := op_mul_li
def opMulL (x y : AV) (h : AH) : Rs AV := match lsOf h x, y with
  | some xs, .int i => if -1000000 ≤ i ∧ i ≤ 1000000 ∧ xs.length * i.toNat ≤ 16777216 then .ok (.lst (repL xs i)) h else .no
  | _, _ => .no
section
variable {K : PySem.W.Frag} {Γ : Gm} {E : XK}
theorem ARs.rep {F : Hp} {φ : List Addr} {xs : List AV} {vs : List V} (r : ARs K F φ xs vs) (i : Int) : ARs K F φ (repL xs i) (repL vs i) := by
  unfold repL
  induction i.toNat with
  | zero => exact .nil
  | succ n ih =>
    rw [List.replicate_succ, List.replicate_succ, List.flatten_cons, List.flatten_cons]
    exact r.app ih
theorem wMulL : SO K Γ E (uMulL K) opMulL := ⟨fun {F H φ h x y v u Q} w a b o => by
  unfold opMulL at o
  split at o
  · rename_i xs i c
    split at o
    · rename_i c2
      obtain ⟨p, vs, rfl, h1, h2⟩ := lsOf_ok w a c
      rw [iInt b]
      refine ⟨p, vs, i, rfl, rfl, h1, c2.1, c2.2.1, by rw [← h2.len]; exact c2.2.2, fun q hq => ?_⟩
      obtain ⟨w1, e1⟩ := w.new hq
      exact o.use w1 e1 (aLst upd_same ((h2.rep i).to e1))
    · exact o.elim
  · exact o.elim⟩
end
theorem x_mull {xs : List AV} {i : Int} {h : AH} {x : AV} (e : lsOf h x = some xs) : opMulL x (.int i) h = if -1000000 ≤ i ∧ i ≤ 1000000 ∧ xs.length * i.toNat ≤ 16777216 then .ok (.lst (repL xs i)) h else .no := by unfold opMulL; rw [e]
end Hf
set_option Elab.async false
set_option linter.all false
set_option maxRecDepth 100000
set_option maxHeartbeats 4000000
namespace Hf
open PySem PySem.Spec L2 PyProof.Rows
/-! a def that only reads what it is lent, and tells no cell -/
def flatA : AV → Bool
  | .non => true
  | .bl _ => true
  | .int _ => true
  | .str _ => true
  | _ => false
def finL (h : AH) (r : Rs AV) : Rs AV := match r with
  | .ok x _ => if flatA x = true then .ok x h else .no
  | .ex _ _ _ => .no
  | .no => .no
def kCallL (m : MF) (xs : List AV) (h : AH) : Rs AV := match clArgs h xs with
  | some (ys, _) => finL h (m ys [])
  | none => .no
def mCallL (m : MF) (ms : LV) : EV := fun S h => (ms S h).bnd (kCallL m)
section
variable {K : PySem.W.Frag} {Γ : Gm} {E : XK} {F F1 H H1 : Hp} {φ φ1 : List Addr} {h h1 : AH} {S : AS} {Q : VK} {x y : AV} {v u : V} {xs ys : List AV} {vs us : List V} {tes : TA} {ms : LV}
theorem flat_to {F2 : Hp} {φ2 : List Addr} (f : flatA x = true) (a : AR K F φ x v) : AR K F2 φ2 x v := by
  unfold flatA at f
  split at f
  · rw [iNon a]; exact aNon
  · rw [iBl a]; exact aBl
  · rw [iInt a]; exact aInt
  · rw [iStr a]; exact aStr
  · cases f
theorem WR.lent {H' : Hp} (w : WR K Γ F H φ h) (g : ∀ a o, H a = some o → H' a = some o) : WR K Γ F H' φ h ∧ Ex F H φ F H' φ := by
  have e : Ex F H φ F H' φ := ⟨Same.refl _, .refl, fun a o e _ => ⟨g a o e, fun z => z⟩, fun _ h => .inl h⟩
  refine ⟨?_, e⟩
  refine w.carry (fun a o q => g a o (w.ff a o q)) (φ' := []) (φ2 := []) ⟨Same.refl _, .nil, fun a o e _ => ⟨g a o e, fun z => z⟩, fun a m => by simp at m⟩ (fun _ _ => by simp)
theorem kCallL_ok {sp : Sp} {m : MF} {F1 H1 : Hp} {φ1 : List Addr} {xs : List AV} {vs : List V} {h1 : AH} (hf : SF K Γ E sp m) (w1 : WR K Γ F1 H1 φ1 h1) (a1 : ARs K F1 φ1 xs vs) (o1 : Ok K Γ E (AR K) F1 H1 φ1 (kCallL m xs h1) Q) : sp vs H1 Q E := by
  unfold kCallL at o1
  split at o1
  · rename_i ys h2 c
    obtain ⟨F2, w2, e2, b⟩ := clArgs_ok w1 a1 c
    have w0 : WR K Γ F2 H1 [] [] := ⟨w2.ff, fun i j a h => by simp at h, rfl, fun n a c h => by simp at h⟩
    refine hf.run w0 b ?_
    cases r : m ys [] with
    | no => rw [r] at o1; exact o1
    | ok x h' =>
      rw [r] at o1
      unfold finL at o1
      dsimp only at o1
      intro F' H' φ' v w3 e3 a3
      split at o1
      · rename_i f
        obtain ⟨w4, e4⟩ := w1.lent fun a o q => (e3.fr a o q (by simp)).1
        exact o1.use w4 e4 (flat_to f a3)
      · exact o1.elim
    | ex c p h' =>
      rw [r] at o1
      exact o1.elim
  · exact o1.elim
theorem vCallL {sp : Sp} {m : MF} (hf : SF K Γ E sp m) (hs : SA K Γ E tes ms) : SE K Γ E (eCall sp E tes) (mCallL m ms) := ⟨fun w s o => hs.run w s (o.bnd fun xs h1 F1 H1 φ1 vs w1 e1 a1 o1 => kCallL_ok hf w1 a1 o1)⟩
end
theorem x_mCallL {m : MF} {ms : LV} {S : AS} {h : AH} : mCallL m ms S h = (ms S h).bnd (kCallL m) := rfl
theorem x_lendL {m : MF} {xs ys : List AV} {y : AV} {h h1 h2 : AH} (a : clArgs h xs = some (ys, h1)) (e : m ys [] = .ok y h2) (f : flatA y = true) : kCallL m xs h = .ok y h := by
  unfold kCallL
  rw [a]
  dsimp only
  rw [e]
  unfold finL
  dsimp only
  rw [if_pos f]
theorem caL_id {h : AH} {n : Nat} {xs : List AV} (e : h[n]? = some (.lst xs)) (c : cls xs = true) : clArgs h [.id n] = some ([.lst xs], h.set n (.fz xs)) := by
  unfold clArgs clArg
  dsimp only
  rw [e]
  dsimp only
  rw [if_pos c]
  rfl
end Hf
set_option Elab.async false
set_option linter.all false
set_option maxRecDepth 100000
set_option maxHeartbeats 4000000
namespace Hf
open PySem PySem.Spec L2 PyProof.Rows
/-! try: n = d[k] / except KeyError: return e / else: .. -/
def sTryKey (i : Nat) (td ty te : TE) (u : TS) : TS := fun D σ H => td σ H fun x H1 => ty σ H1 fun y H2 => asRef x fun a => asKey y fun k => ∃ kvs, H2 a = some (.dK kvs) ∧ match valV kvs k with
  | some v => u D (σ.set i (some v)) H2
  | none => te σ H2 D.rt
section
variable {X : Cx} {b r : Stmt} {orelse : List Stmt} {u : TS} {i : Nat} {td ty te : TE} {np pos pos' : Pos}
theorem zTryKey (hs : X.stack = X.env :: X.outer) (hf : X.env.frame = some X.env.locals) (hg : Gl X "KeyError") (hm : X.mg "KeyError" = none)
    (hb : ∀ (W : WX) (pn : List (Addr × Obj)) (xe : Value → Shared → Prop), Takes (X.tr pn xe) W → PSs (X.tr pn xe) [b] (sSet i (tDGetX W (hat td) (hat ty))))
    (hr : ∀ (a : Addr) (oe : Obj) (pn : List (Addr × Obj)), PSs (X.suite a ((a, oe) :: pn)) [r] (sRet te)) (ho : PSs X orelse u) :
    PS X (.Try [b] [.ExceptHandler (some (.Name "KeyError" np)) none [r] pos'] orelse [] pos) (sTryKey i td ty te u) :=
  ps_w (ps_try_onlyE ho hs hf ⟨hg, by decide, .inr ⟨hm, boot_KeyError, by decide⟩⟩ (takes_none5 (X := X)) (fun W pn xe tk _ => hb W pn xe tk) (fun a oe _ _ pn _ _ => hr a oe pn)) fun D σ H h => by
    refine ⟨_, fun x H1 q => ⟨_, fun y H2 q => ?_, q⟩, h⟩
    obtain ⟨a, rfl, q1⟩ := asRef_of q
    have q := q1
    obtain ⟨k, rfl, kvs, h1, q2⟩ := asKey_of q
    have q := q2
    refine ⟨a, _, rfl, DGet.k h1, fun v ev => ?_, fun ev d => ⟨true, exm_KE, fun _ a' _ => ?_, fun z => nomatch z⟩⟩
    · rw [ev] at q; exact q
    · rw [ev] at q; exact q
end
def kTk2 (i : Nat) (me : EV) (mu : SV) (S : AS) (x y : AV) (h : AH) : Rs Ou := match dcOf h x, asK y with
  | some kvs, some k => match valX kvs k with
    | some v => mu (S.set i (some v)) h
    | none => mRet me S h
  | _, _ => .no
def kTk1 (i : Nat) (my me : EV) (mu : SV) (S : AS) (x : AV) (h : AH) : Rs Ou := (my S h).bnd (kTk2 i me mu S x)
def mTryKey (i : Nat) (md my me : EV) (mu : SV) : SV := fun S h => (md S h).bnd (kTk1 i my me mu S)
section
variable {K : PySem.W.Frag} {Γ : Gm} {E : XK} {i : Nat} {td ty te : TE} {md my me : EV} {u : TS} {mu : SV}
theorem vTryKey (hd : SE K Γ E td md) (hy : SE K Γ E ty my) (he : SE K Γ E te me) (hu : SS K Γ E u mu) : SS K Γ E (sTryKey i td ty te u) (mTryKey i md my me mu) := ⟨fun w s o => hd.run w s (o.bnd fun _ _ _ _ _ _ w1 e1 a1 o1 => hy.run w1 (s.to e1) (o1.bnd fun _ _ _ _ _ _ w2 e2 a2 o2 => by
  unfold kTk2 at o2
  split at o2
  · rename_i kx k c1 c2
    obtain ⟨p, kv, rfl, h1, h2⟩ := dcOf_ok w2 (a1.to e2) c1
    have := asK_ok a2 c2
    subst this
    rw [eb3]
    refine asKey_kV ⟨kv, h1, ?_⟩
    obtain ⟨i1, i2⟩ := h2.val (k := k)
    cases c : valX kx k with
    | some z =>
      rw [c] at o2
      obtain ⟨v, e, a⟩ := i1 c
      rw [e]
      exact hu.run w2 (((s.to e1).to e2).set a) o2
    | none =>
      rw [c] at o2
      rw [i2 c]
      exact (vRet he).run w2 ((s.to e1).to e2) o2
  · exact o2.elim))⟩
end
theorem x_mTryKey {i : Nat} {md my me : EV} {mu : SV} {S : AS} {h : AH} : mTryKey i md my me mu S h = (md S h).bnd (kTk1 i my me mu S) := rfl
theorem x_kTk1 {i : Nat} {my me : EV} {mu : SV} {S : AS} {x : AV} {h : AH} : kTk1 i my me mu S x h = (my S h).bnd (kTk2 i me mu S x) := rfl
theorem e_tk2 {i : Nat} {me : EV} {mu : SV} {S : AS} {h : AH} {n : Nat} {ks : List Str} {f : Str → AV} {x : Str} (e : h[n]? = some (dE ks f)) : kTk2 i me mu S (.id n) (.str x) h = if x ∈ ks then mu (S.set i (some (f x))) h else mRet me S h := by
  unfold kTk2
  rw [d_id e]
  show (match valX _ (.inr x) with | some v => _ | none => _) = _
  rw [valX_dE]
  by_cases c : x ∈ ks
  · rw [if_pos c, if_pos c]
  · rw [if_neg c, if_neg c]
/-! a def called on the caller's cells, which it leaves as they are; what it makes is thrown away, but what it tells -/
def avIdN (k : Nat) (h : AH) : Nat → Nat → Option AV
  | 0, _ => none
  | m + 1, n => match h[n]? with
    | some (.lst xs) => if k ≤ n then (avSubs (avIdN k h m) xs).map AV.lst else none
    | some (.fz xs) => (avSubs (avIdN k h m) xs).map AV.lst
    | _ => none
def avOfN (k : Nat) (h : AH) (x : AV) : Option AV := avSub (avIdN k h 30) x
open Classical in
noncomputable def finG (h h' : AH) (y : AV) (f : AV → Rs AV) : Rs AV := if h'.take h.length = h then (match avOfN h.length h' y with
  | some v => f v
  | none => .no) else .no
noncomputable def kCallG (m : MF) (xs : List AV) (h : AH) : Rs AV := match m xs h with
  | .ok y h' => finG h h' y fun v => .ok v h
  | .ex c p h' => finG h h' p fun v => .ex c v h
  | .no => .no
noncomputable def mCallG (m : MF) (ms : LV) : EV := fun S h => (ms S h).bnd (kCallG m)
section
variable {K : PySem.W.Frag} {Γ : Gm} {E : XK} {F F1 F2 H H1 : Hp} {φ φ1 φ2 : List Addr} {h h1 : AH} {S : AS} {Q : VK}
theorem avIdN_ok {k : Nat} (w : WR K Γ F H φ h) : ∀ (m n : Nat) (a : Addr) (y : AV), φ[n]? = some a → avIdN k h m n = some y → AR K (shutF F H (φ.drop k)) [] y (.ref a) := by
  intro m
  induction m with
  | zero => intro n a y _ e; unfold avIdN at e; cases e
  | succ m ih =>
    intro n a y hn e
    unfold avIdN at e
    split at e
    · rename_i xs c
      split at e
      · rename_i hk
        obtain ⟨_, vs, g1, g2⟩ := w.cl _ _ _ hn c
        have hm : a ∈ φ.drop k := List.mem_of_getElem? (i := n - k) (by rw [List.getElem?_drop, show k + (n - k) = n by omega]; exact hn)
        cases q : avSubs (avIdN k h m) xs with
        | none => rw [q] at e; cases e
        | some ds =>
          rw [q] at e
          cases e
          exact aLst (by unfold shutF; rw [if_pos hm, g1]) (avSubs_ok (shut_ff w.ff) ih g2 q)
      · cases e
    · rename_i xs c
      obtain ⟨vs, g1, g2⟩ := w.cl _ _ _ hn c
      cases q : avSubs (avIdN k h m) xs with
      | none => rw [q] at e; cases e
      | some ds =>
        rw [q] at e
        cases e
        exact aLst (shut_ff w.ff _ _ g1) (avSubs_ok (shut_ff w.ff) ih g2 q)
    · cases e
mutual
theorem AR.back (s : Same F1 F2) (p : Pre φ φ1) : ∀ {x : AV} {v u : V}, AR K F φ x v → AR K F1 φ1 x u → AR K F2 φ x u
  | .non, _, _, _, b => by rw [iNon b]; exact aNon
  | .bl _, _, _, _, b => by rw [iBl b]; exact aBl
  | .int _, _, _, _, b => by rw [iInt b]; exact aInt
  | .str _, _, _, _, b => by rw [iStr b]; exact aStr
  | .tup xs, _, _, a, b => by
    obtain ⟨_, _, _, _, a2⟩ := iTup a
    obtain ⟨q, us, rfl, b1, b2⟩ := iTup b
    exact aTup (Same.sqT s b1) (ARs.back s p a2 b2)
  | .lst xs, _, _, a, b => by
    obtain ⟨_, _, _, _, a2⟩ := iLst a
    obtain ⟨q, us, rfl, b1, b2⟩ := iLst b
    exact aLst (s _ _ b1) (ARs.back s p a2 b2)
  | .scr xs, _, _, a, b => by
    obtain ⟨_, _, _, _, a2⟩ := iScr a
    obtain ⟨q, us, rfl, b1, b2⟩ := iScr b
    exact aScr (s.seq b1) (ARs.back s p a2 b2)
  | .id n, _, _, a, b => by
    obtain ⟨q, a1, _⟩ := iId a
    obtain ⟨r, b1, rfl⟩ := iId b
    have e := p _ _ a1
    rw [b1] at e
    cases e
    exact aId a1
theorem ARs.back (s : Same F1 F2) (p : Pre φ φ1) : ∀ {xs : List AV} {vs us : List V}, ARs K F φ xs vs → ARs K F1 φ1 xs us → ARs K F2 φ xs us
  | [], _, _, _, b => by rw [b.nil_inv]; exact .nil
  | x :: xs, _, _, a, b => by
    obtain ⟨_, _, _, a1, a2⟩ := a.cons_inv
    obtain ⟨_, _, rfl, b1, b2⟩ := b.cons_inv
    exact .cons (AR.back s p a1 b1) (ARs.back s p a2 b2)
end
theorem WR.guest {F' H' : Hp} {φ' : List Addr} {h' : AH} (w : WR K Γ F H φ h) (w3 : WR K Γ F' H' φ' h') (e3 : Ex F H φ F' H' φ') (eh : h'.take h.length = h) :
    WR K Γ (shutF F' H' (φ'.drop h.length)) H' φ h ∧ Ex F H φ (shutF F' H' (φ'.drop h.length)) H' φ := by
  have s3 := shut_ff (φ := φ'.drop h.length) w3.ff
  have out : ∀ (n : Nat) (a : Addr), φ[n]? = some a → a ∉ φ'.drop h.length := fun n a hn hm => by
    obtain ⟨j, hj⟩ := List.getElem?_of_mem hm
    rw [List.getElem?_drop] at hj
    have := w3.nd _ _ _ (e3.pre _ _ hn) hj
    have ln := w.ln
    have : n < φ.length := by
      by_cases q : n < φ.length
      · exact q
      · rw [List.getElem?_eq_none (by omega)] at hn; cases hn
    omega
  refine ⟨⟨shut_fh w3.ff, w.nd, w.ln, fun n a c hn hc => ?_⟩, ⟨e3.ff.trans s3, .refl, fun a o ho na => ?_, fun _ hm => .inl hm⟩⟩
  · have hc3 : h'[n]? = some c := by
      have : n < h.length := by
        by_cases q : n < h.length
        · exact q
        · rw [List.getElem?_eq_none (by omega)] at hc; cases hc
      rw [← eh, List.getElem?_take_of_lt this] at hc
      exact hc
    have r1 := w.cl n a c hn hc
    have r3 := w3.cl n a c (e3.pre _ _ hn) hc3
    cases c with
    | lst xs =>
      obtain ⟨_, _, _, a1⟩ := r1
      obtain ⟨b0, vs, b1, b2⟩ := r3
      exact ⟨by rw [shut_out (out n a hn)]; exact b0, vs, b1, ARs.back s3 e3.pre a1 b2⟩
    | fz xs =>
      obtain ⟨_, _, a1⟩ := r1
      obtain ⟨vs, b1, b2⟩ := r3
      exact ⟨vs, s3 _ _ b1, ARs.back s3 e3.pre a1 b2⟩
    | dct kx =>
      obtain ⟨_, _, _, _, a1⟩ := r1
      obtain ⟨b0, kv, b1, b3, b2⟩ := r3
      exact ⟨by rw [shut_out (out n a hn)]; exact b0, kv, b1, b3, ARs.back s3 e3.pre a1 b2⟩
    | fzd kx =>
      obtain ⟨_, _, _, _, a1⟩ := r1
      obtain ⟨o, kv, b1, b3, b2⟩ := r3
      exact ⟨o, kv, s3 _ _ b1, b3, ARs.back s3 e3.pre a1 b2⟩
    | ins cc fs =>
      obtain ⟨_, _, _, _, _, a1⟩ := r1
      obtain ⟨b0, dx, fv, b1, b3, b2⟩ := r3
      exact ⟨by rw [shut_out (out n a hn)]; exact b0, dx, fv, b1, b3, ARs.back s3 e3.pre a1 b2⟩
    | exc cc p =>
      obtain ⟨_, _, _, _, a1⟩ := r1
      obtain ⟨dd, v, b1, b3, b2⟩ := r3
      exact ⟨dd, v, s3 _ _ b1, s3 _ _ b3, AR.back s3 e3.pre a1 b2⟩
  · obtain ⟨g1, g2⟩ := e3.fr a o ho na
    refine ⟨g1, fun z => ?_⟩
    rw [shut_out (fun hm => ?_)]
    · exact g2 z
    · rcases e3.new a (List.mem_of_mem_drop hm) with q | q
      · exact na q
      · rw [ho] at q; cases q
theorem kCallG_ok {sp : Sp} {m : MF} {xs : List AV} {vs : List V} (hf : SF K Γ E sp m) (w1 : WR K Γ F1 H1 φ1 h1) (a1 : ARs K F1 φ1 xs vs) (o1 : Ok K Γ E (AR K) F1 H1 φ1 (kCallG m xs h1) Q) : sp vs H1 Q E := by
  refine hf.run w1 a1 ?_
  unfold kCallG at o1
  cases r : m xs h1 with
  | no => rw [r] at o1; exact o1
  | ok y h' =>
    rw [r] at o1
    dsimp only at o1
    unfold finG at o1
    intro F' H' φ' v w3 e3 a3
    split at o1
    · rename_i eh
      split at o1
      · rename_i z hz
        obtain ⟨w4, e4⟩ := w1.guest w3 e3 eh
        exact o1.use w4 e4 ((avSub_ok (shut_ff w3.ff) (avIdN_ok w3 30) a3 hz).mono (Same.refl _) .nil)
      · exact o1.elim
    · exact o1.elim
  | ex c p h' =>
    rw [r] at o1
    dsimp only at o1
    unfold finG at o1
    intro F' H' φ' d v w3 e3 hd a3
    split at o1
    · rename_i eh
      split at o1
      · rename_i z hz
        obtain ⟨w4, e4⟩ := w1.guest w3 e3 eh
        exact o1 _ _ _ d v w4 e4 (shut_ff w3.ff _ _ hd) ((avSub_ok (shut_ff w3.ff) (avIdN_ok w3 30) a3 hz).mono (Same.refl _) .nil)
      · exact o1.elim
    · exact o1.elim
theorem vCallG {sp : Sp} {m : MF} {tes : TA} {ms : LV} (hf : SF K Γ E sp m) (hs : SA K Γ E tes ms) : SE K Γ E (eCall sp E tes) (mCallG m ms) := ⟨fun w s o => hs.run w s (o.bnd fun xs h1 F1 H1 φ1 vs w1 e1 a1 o1 => kCallG_ok hf w1 a1 o1)⟩
end
theorem x_mCallG {m : MF} {ms : LV} {S : AS} {h : AH} : mCallG m ms S h = (ms S h).bnd (kCallG m) := rfl
theorem x_guest {m : MF} {xs : List AV} {y v : AV} {h h' : AH} (e : m xs h = .ok y h') (t : h'.take h.length = h) (a : avOfN h.length h' y = some v) : kCallG m xs h = .ok v h := by
  unfold kCallG
  rw [e]
  dsimp only
  unfold finG
  rw [if_pos t, a]
mutual
theorem avN_cl {r : Nat → Option AV} : ∀ {x : AV}, cl x = true → avSub r x = some x := fun q => av_cl q
end
theorem avOfN_cl {k : Nat} {h : AH} {x : AV} (q : cl x = true) : avOfN k h x = some x := av_cl q
theorem avOfN_id {k n : Nat} {h : AH} {xs : List AV} (e : h[n]? = some (.lst xs)) (hk : k ≤ n) (q : cls xs = true) : avOfN k h (.id n) = some (.lst xs) := by
  unfold avOfN avSub avIdN
  rw [e]
  dsimp only
  rw [if_pos hk, show avSubs (avIdN k h 29) xs = some xs from av_cls q]
  rfl
/-! dict(pairs) -/
def eDict (K : PySem.W.Frag) (te : TE) : TE := fun σ H Q => te σ H fun x H1 => asRef x fun a => ∃ (ps : List Addr) (kvs : List (Key × V)), SqL K H1 a (ps.map V.ref) ∧ Paired (fun p kv => SqT K H1 p [kV kv.1, kv.2]) ps kvs ∧ ∀ p, H1 p = none → Q (.ref p) (upd H1 p (.dK (mergeK [] kvs)))
theorem dDict {X : Cx} {e : Expr} {te : TE} {p pos : Pos} (hc : X.calm = true) (hg : Gl X "dict") (hm : X.mg "dict" = none) (he : PE X e te) (hs0 : starEach [e] X.env = (false, eval e X.env) :: starEach [] X.env := by rfl) (hpl : (backTo pos (starEach [] X.env)).any (·.1) = false := by rfl) :
    PE X (.Call (.Name "dict" p) [e] [] pos) (eDict X.K te) :=
  pe_w (dBty (call_dictP hc) hg hm (by decide +kernel) (kCons (pe_hat he) kNil hs0) (by decide) (by decide) hs0 hpl) fun σ H Q h => by
    refine ⟨_, fun x H1 q => ?_, h⟩
    obtain ⟨a, rfl, ps, kvs, h1, h2, q⟩ := asRef_of q
    exact ⟨a, ps, kvs, rfl, h1, h2, q⟩
def pairsK : List AV → Option (List (Key × AV))
  | [] => some []
  | .tup [k, v] :: r => match asK k, pairsK r with
    | some k, some l => some ((k, v) :: l)
    | _, _ => none
  | _ :: _ => none
def kDict (x : AV) (h : AH) : Rs AV := match (lsOf h x).bind pairsK with
  | some kvs => .ok (.id h.length) (h ++ [.dct (mergeX [] kvs)])
  | none => .no
def mDict (ma : EV) : EV := fun S h => (ma S h).bnd kDict
section
variable {K : PySem.W.Frag} {Γ : Gm} {E : XK} {F F1 H H1 : Hp} {φ φ1 : List Addr} {h h1 : AH} {S : AS} {Q : VK} {te : TE} {me : EV}
theorem pairsK_ok (s : Same F H) : ∀ {xs : List AV} {vs : List V} {kx : List (Key × AV)}, ARs K F φ xs vs → pairsK xs = some kx → ∃ (ps : List Addr) (kv : List (Key × V)), vs = ps.map V.ref ∧ Paired (fun p kv => SqT K H p [kV kv.1, kv.2]) ps kv ∧ KRs K F φ kx kv
  | [], _, _, a, e => by
    unfold pairsK at e
    cases e
    exact ⟨[], [], a.nil_inv, .nil, rfl, .nil⟩
  | x :: r, _, _, a, e => by
    unfold pairsK at e
    split at e
    · rename_i q; cases q
    · rename_i k v r' q
      cases q
      obtain ⟨u, us, rfl, a1, a2⟩ := a.cons_inv
      split at e
      · rename_i kk l c1 c2
        cases e
        obtain ⟨ps, kv, rfl, h2, h3⟩ := pairsK_ok s a2 c2
        obtain ⟨p, ws, rfl, t1, t2⟩ := iTup a1
        obtain ⟨w1, r1, rfl, b1, b2⟩ := t2.cons_inv
        obtain ⟨w2, r2, rfl, b3, b4⟩ := b2.cons_inv
        cases b4.nil_inv
        cases asK_ok b1 c1
        exact ⟨p :: ps, (kk, w2) :: kv, rfl, .cons (Same.sqT s t1) h2, KRs.cons b3 h3⟩
      · cases e
    · cases e
theorem vDict (ha : SE K Γ E te me) : SE K Γ E (eDict K te) (mDict me) := ⟨fun w s o => ha.run w s (o.bnd fun x h1 F1 H1 φ1 v w1 e1 a1 o1 => by
  unfold kDict at o1
  split at o1
  · rename_i kx c
    cases c1 : lsOf h1 x with
    | none => rw [c1] at c; cases c
    | some xs =>
      rw [c1] at c
      obtain ⟨p, vs, rfl, g2, g3⟩ := lsOf_ok w1 a1 c1
      obtain ⟨ps, kv, rfl, g4, g5⟩ := pairsK_ok w1.ff g3 c
      rw [eb3]
      refine ⟨ps, kv, g2, g4, fun p' hp => ?_⟩
      have r := KRs.merge g5 (⟨rfl, .nil⟩ : KRs K F1 φ1 ([] : List (Key × AV)) [])
      obtain ⟨w2, e2⟩ := w1.alloc (c := .dct (mergeX [] kx)) hp fun H' e nF => ⟨nF, _, e, r.mono (Same.refl _) .app⟩
      exact o1.use w2 e2 (aId (by rw [← w1.ln, List.getElem?_append_right (Nat.le_refl _), Nat.sub_self]; rfl))
  · exact o1.elim)⟩
end
theorem x_mDict {ma : EV} {S : AS} {h : AH} : mDict ma S h = (ma S h).bnd kDict := rfl
theorem x_kDict {x : AV} {xs : List AV} {kvs : List (Key × AV)} {h : AH} (e : lsOf h x = some xs) (q : pairsK xs = some kvs) : kDict x h = .ok (.id h.length) (h ++ [.dct (mergeX [] kvs)]) := by
  unfold kDict
  rw [e, Option.bind_some, q]
end Hf
set_option Elab.async false
set_option linter.all false
set_option maxRecDepth 100000
set_option maxHeartbeats 4000000
namespace Hf
open PySem PySem.Spec L2 PyProof.Rows
/-! a comprehension over enumerate(own flat list): the list stays the caller's to write -/
open Classical in
noncomputable def mLcK (n : Nat) (c0 : AC) (turn : AV → AH → Rs (Option AV)) : List AV → List AV → AH → Rs (List AV)
  | [], acc, h => if h[n]? = some c0 then .ok acc h else .no
  | x :: r, acc, h => if h[n]? = some c0 then (turn x h).bnd fun o h1 => mLcK n c0 turn r (accX acc o) h1 else .no
noncomputable def mLcKP (n : Nat) (c0 : AC) (turn : AV → AH → Rs (Option AV)) (xs : List (AV × AV)) : List AV → AH → Rs (List AV) := mLcK n c0 turn (xs.map fun p => .tup [p.1, p.2])
noncomputable def kEK (k : List AV → AH → Rs AV) (turn : AV → AH → Rs (Option AV)) (x : AV) (h : AH) : Rs AV := match x with
  | .id n => match h[n]? with
    | some (.lst xs) => match fvs xs with
      | some _ => if xs.length ≤ 16777216 then (mLcKP n (.lst xs) turn (enX 0 xs) [] h).bnd k else .no
      | none => .no
    | _ => .no
  | _ => .no
noncomputable def mLcEK (k : List AV → AH → Rs AV) (ma : EV) (turn : AS → AV → AH → Rs (Option AV)) : EV := fun S h => (ma S h).bnd (kEK k (turn S))
theorem x_mLcEK {k : List AV → AH → Rs AV} {ma : EV} {turn : AS → AV → AH → Rs (Option AV)} {S : AS} {h : AH} : mLcEK k ma turn S h = (ma S h).bnd (kEK k (turn S)) := rfl
theorem ck_nil {n : Nat} {c0 : AC} {t : AV → AH → Rs (Option AV)} {acc : List AV} {h : AH} (e : h[n]? = some c0) : mLcK n c0 t [] acc h = .ok acc h := by unfold mLcK; rw [if_pos e]
theorem ck_cons {n : Nat} {c0 : AC} {t : AV → AH → Rs (Option AV)} {x : AV} {r acc : List AV} {h : AH} (e : h[n]? = some c0) : mLcK n c0 t (x :: r) acc h = (t x h).bnd fun o h1 => mLcK n c0 t r (accX acc o) h1 := by
  conv => lhs; unfold mLcK
  rw [if_pos e]
theorem ck_filt {γ : Type} {n : Nat} {c0 : AC} {t : AV → AH → Rs (Option AV)} {dec enc : γ → AV} {p : γ → Bool} {h : AH} (e : h[n]? = some c0) : ∀ (l : List γ) (acc : List AV), (∀ a ∈ l, t (dec a) h = .ok (if p a = true then some (enc a) else none) h) → mLcK n c0 t (l.map dec) acc h = .ok (acc ++ (l.filter p).map enc) h
  | [], acc, _ => by simp [ck_nil e]
  | a :: l, acc, q => by
    rw [List.map_cons, ck_cons e, q a List.mem_cons_self]
    show mLcK n c0 t (l.map dec) (accX acc _) h = _
    cases hp : p a with
    | true =>
      rw [if_pos rfl, List.filter_cons_of_pos hp]
      show mLcK n c0 t (l.map dec) (acc ++ [enc a]) h = _
      rw [ck_filt e l _ fun b hb => q b (List.mem_cons_of_mem _ hb)]; simp
    | false =>
      rw [if_neg (by decide), List.filter_cons_of_neg (by rw [hp]; decide)]
      exact ck_filt e l _ fun b hb => q b (List.mem_cons_of_mem _ hb)
/-! l[i] op= e on a list of one's own -/
section
variable {X : Cx} {o i value : Expr} {pos tpos : Pos} {to ti tv : TE}
theorem get_list : PGet X (rIxL X.K) := by
  intro pins s σ H x y v u Q I rx ry h
  obtain ⟨p, xs, i, z, rfl, rfl, hq, he, q⟩ := h
  cases rx
  obtain ⟨t, rfl⟩ := ry
  obtain ⟨its, r, pl, hz⟩ := I.list hq
  obtain ⟨j, h1, h2, h3, h4, h5⟩ := atI_get he
  obtain ⟨w, ew, rw'⟩ := r.get h2
  have hl := r.length
  have hn := line63
  have fin : EP X pins σ Q w s := ⟨z, H, I, rw', q⟩
  by_cases h0 : 0 ≤ i
  · have hj : i.toNat = j := by
      rw [seqIndex_of h0 h5] at h1
      exact Option.some.inj h1
    exact wpAny_getItem_list pl.isList h0 (by omega) (by rw [hj]; simpa using ew) fin
  · have hj : (i + (its.toArray.size : Int)).toNat = j := by
      rw [seqIndex_neg (by omega) h4] at h1
      rw [List.size_toArray, ← hl]
      exact Option.some.inj h1
    exact wpAny_getItem_list_neg pl.isList (by omega) (by rw [List.size_toArray] <;> omega) (by omega) (by rw [hj]; simpa using ew) fin
def sSaug (K : PySem.W.Frag) (r : R2) (to ti tv : TE) : TS := fun D σ H => to σ H fun x H1 => ti σ H1 fun y H2 => asRef x fun a => asInt y fun k => ∃ xs v, H2 a = some (.lst xs) ∧ atI xs k = some v ∧
  tv σ H2 fun y2 H3 => r v y2 H3 fun z H4 => setR a k z H4 fun H5 => D.nx σ H5
theorem zSaug {op : Operator} {r : R2} (_hu : X.A.units + 1 < cLine) (ho : PE X o to) (hi : PE X i ti) (hv : PE X value tv) (hop : OpR X (inplaceOp op) r)
    (ha : ∀ ov iv new, augStore i ov iv new = (do holding [new, ov, iv] (setItem ov iv new); release [new, ov, iv] []; pure .next) := by exact fun _ _ _ => rfl) : PS X (.AugAssign (.Subscript o i tpos) op value pos) (sSaug X.K r to ti tv) := by
  have hin : PIp X op fun v y H Q => ∃ Q0 : VK, (∀ z H', Q0 z H' → Q z H') ∧ r v y H Q0 := fun pins s σ H x y u v Q I rx ry ⟨Q0, w, q⟩ => thn (hop pins s σ H x y u v Q0 I rx ry q) fun _ _ ⟨z, H', I', r', q'⟩ => ⟨z, H', I', r', w _ _ q'⟩
  exact ps_w (ps_augS (pe_hat ho) (pe_hat hi) get_list (pe_hat hv) hin set_list ha) fun D σ H h => ⟨_, fun x H1 q => ⟨_, fun y H2 q => by
    obtain ⟨a, rfl, q⟩ := asRef_of q
    obtain ⟨k, rfl, xs, v, h1, h2, q⟩ := asInt_of q
    exact ⟨a, xs, k, v, rfl, rfl, SqL.of h1, h2, _, fun y2 H3 q => ⟨_, fun z H4 q => by
      obtain ⟨xs4, j, h3, h4, q⟩ := q
      exact ⟨a, xs4, k, j, rfl, rfl, h3, h4, q⟩, q⟩, q⟩, q⟩, h⟩
end
def kSa2 (f : AV → AV → AH → Rs AV) (x y : AV) (S : AS) (v y2 : AV) (h : AH) : Rs Ou := (f v y2 h).bnd fun z h1 => kSub2 z x S y h1
def kSa1 (f : AV → AV → AH → Rs AV) (mv : EV) (S : AS) (x y : AV) (h : AH) : Rs Ou := match x, y with
  | .id n, .int k => match h[n]? with
    | some (.lst xs) => match atI xs k with
      | some v => (mv S h).bnd (kSa2 f (.id n) (.int k) S v)
      | none => .no
    | _ => .no
  | _, _ => .no
def kSa0 (f : AV → AV → AH → Rs AV) (my mv : EV) (S : AS) (x : AV) (h : AH) : Rs Ou := (my S h).bnd (kSa1 f mv S x)
def mSaug (f : AV → AV → AH → Rs AV) (md my mv : EV) : SV := fun S h => (md S h).bnd (kSa0 f my mv S)
theorem x_mSaug {f : AV → AV → AH → Rs AV} {md my mv : EV} {S : AS} {h : AH} : mSaug f md my mv S h = (md S h).bnd (kSa0 f my mv S) := rfl
theorem x_sa1 {f : AV → AV → AH → Rs AV} {mv : EV} {S : AS} {n : Nat} {k : Int} {xs : List AV} {v : AV} {h : AH} (e : h[n]? = some (.lst xs)) (a : atI xs k = some v) : kSa1 f mv S (.id n) (.int k) h = (mv S h).bnd (kSa2 f (.id n) (.int k) S v) := by
  unfold kSa1; dsimp only; rw [e]; dsimp only; rw [a]
theorem x_sub2 {S : AS} {n k : Nat} {xs : List AV} {v : AV} {h : AH} (e : h[n]? = some (.lst xs)) (a : k < xs.length) : kSub2 v (.id n) S (.int (k : Nat)) h = .ok (.nx S) (h.set n (.lst (xs.set k v))) := by
  unfold kSub2; dsimp only; rw [e]; dsimp only
  have : ixN xs.length (k : Nat) = some k := by unfold ixN; rw [if_pos (by omega), if_pos (by omega)]; rfl
  rw [this]
section
variable {K : PySem.W.Frag} {Γ : Gm} {E : XK} {F F0 F1 H H0 H1 : Hp} {φ φ0 φ1 : List Addr} {h h1 : AH} {S : AS} {σ : L2.St} {td ty tv : TE} {md my mv : EV} {D : Ends}
theorem vSaug {r : R2} {f : AV → AV → AH → Rs AV} (hf : SO K Γ E r f) (hd : SE K Γ E td md) (hy : SE K Γ E ty my) (hv : SE K Γ E tv mv) : SS K Γ E (sSaug K r td ty tv) (mSaug f md my mv) := ⟨fun w s o => hd.run w s (o.bnd fun _ _ _ _ _ _ w1 e1 a1 o1 => hy.run w1 (s.to e1) (o1.bnd fun _ _ _ _ _ _ w2 e2 a2 o2 => by
  unfold kSa1 at o2
  split at o2
  · rename_i n k
    split at o2
    · rename_i xs c
      split at o2
      · rename_i v cv
        obtain ⟨p, hn, rfl⟩ := iId (a1.to e2)
        obtain ⟨nF, vs, h4, h5⟩ := w2.cl _ _ _ hn c
        obtain ⟨v', h6, h7⟩ := h5.atI cv
        rw [iInt a2, eb3, eb2]
        refine ⟨vs, v', h4, h6, hv.run w2 ((s.to e1).to e2) (OkS.bnd o2 fun _ _ _ _ _ _ w3 e3 a3 o3 => hf.run w3 (h7.to e3) a3 (OkS.bnd o3 fun _ h4' _ _ _ _ w4 e4 a4 o4 => ?_))⟩
        unfold kSub2 at o4
        dsimp only at o4
        have hn4 := e4.pre _ _ (e3.pre _ _ hn)
        split at o4
        · rename_i c4
          split at o4
          · rename_i j cj
            obtain ⟨nF4, vs4, g4, g5⟩ := w4.cl _ _ _ hn4 c4
            refine ⟨vs4, j, g4, by rw [← g5.len]; exact cj, ?_⟩
            obtain ⟨w5, e5⟩ := w4.putL hn4 c4 (g5.set a4)
            exact o4 _ _ _ w5 e5 _ (((((s.to e1).to e2).to e3).to e4).to e5)
          · exact o4.elim
        · exact o4.elim
      · exact o2.elim
    · exact o2.elim
  · exact o2.elim))⟩
end
section
variable {K : PySem.W.Frag} {Γ : Gm} {E : XK} {F F0 F1 H H0 H1 : Hp} {φ φ0 φ1 : List Addr} {h h1 : AH} {S : AS} {σ : L2.St} {Q : VK} {x y : AV} {v u : V} {xs ys acc : List AV} {vs us : List V}
  {ta tb tc te to : TE} {ma mb mc me mo : EV} {tes : TA} {ms : LV} {tA tB : TT} {mA mB : TV} {g : TG} {mg : GV} {D : Ends}
theorem walkCPK_ok {n : Nat} {c0 : AC} {L : Hp → Prop} {vs : List Nat} {A : Addr} {P : List V → Hp → Prop} {k : List AV → AH → Rs AV} (hg : SG K Γ E g mg) (gw : GW g vs) (ht : ST K Γ E tA mA) (he : SE K Γ E te me) (s0 : SR K F0 φ0 S σ) (hA : H0 A = none)
    (fin : ∀ ys F' H' φ' h' ws, WR K Γ F' H' φ' h' → Ex F0 H0 φ0 F' H' φ' → ARs K F' φ' ys ws → H' A = some (.lst ws) → F' A = none → A ∉ φ' → Ok K Γ E (AR K) F0 H0 φ0 (k ys h') Q → Q (.ref A) H') :
    ∀ (xs : List (AV × AV)) (acc : List AV) (avs : List V) (items : List (V × V)) (F H : Hp) (φ : List Addr) (h : AH), WR K Γ F H φ h → Ex F0 H0 φ0 F H φ → ARs K F φ (xs.map (·.1)) (items.map (·.1)) → ARs K F φ (xs.map (·.2)) (items.map (·.2)) → (∀ F' H' φ' h', WR K Γ F' H' φ' h' → Pre φ φ' → h'[n]? = some c0 → L H') → H A = some (.lst avs) → F A = none → A ∉ φ → ARs K F φ acc avs → acc.length + xs.length ≤ sizeLine →
      Ok K Γ E (AR K) F0 H0 φ0 ((mLcKP n c0 (mTurn mg mA me vs S) xs acc h).bnd k) Q → walkCP L g tA te vs σ A Q items H := by
  intro xs
  induction xs with
  | nil =>
    intro acc avs items F H φ h w e0 hx _ hL d dF dφ ha hl o
    have : items = [] := by
      have := hx.nil_inv
      simpa using this
    rw [this]
    unfold mLcKP at o
    rw [List.map_nil] at o
    unfold mLcK at o
    split at o
    · rename_i hc
      exact ⟨hL _ _ _ _ w (fun _ _ z => z) hc, fin _ _ _ _ _ _ w e0 ha d dF dφ o⟩
    · exact o.elim
  | cons x xs ih =>
    intro acc avs items F H φ h w e0 hx hy hL d dF dφ ha hl o
    cases items with
    | nil => have := hx.len; simp at this
    | cons it its =>
    obtain ⟨v, its1, q1, x1, x2⟩ := hx.cons_inv
    obtain ⟨v', its2, q2, y1, y2⟩ := hy.cons_inv
    simp only [List.map_cons, List.cons.injEq] at q1 q2
    obtain ⟨rfl, rfl⟩ := q1
    obtain ⟨rfl, rfl⟩ := q2
    have hc : h[n]? = some c0 := Classical.byContradiction fun z => by
      unfold mLcKP at o
      rw [List.map_cons] at o
      unfold mLcK at o
      rw [if_neg z] at o
      exact o.elim
    refine ⟨hL _ _ _ _ w (fun _ _ z => z) hc, fun T hT => gw _ _ _ _ ?_⟩
    have tA' : A ≠ T := ne_of_none d hT
    obtain ⟨wT, eT⟩ := w.new (o := .tup [it.1, it.2]) hT
    have aT : AR K (upd F T (.tup [it.1, it.2])) φ (.tup [x.1, x.2]) (.ref T) := aTup (SqT.of upd_same) (.cons (x1.to eT) (.cons (y1.to eT) .nil))
    have s := ((s0.to e0).to eT).wipe vs
    have o' : Ok K Γ E (AR K) F0 H0 φ0 ((mTurn mg mA me vs S (.tup [x.1, x.2]) h).bnd fun z h1 => (mLcKP n c0 (mTurn mg mA me vs S) xs (accX acc z) h1).bnd k) Q := by
      have : (mLcKP n c0 (mTurn mg mA me vs S) (x :: xs) acc h).bnd k = (mTurn mg mA me vs S (.tup [x.1, x.2]) h).bnd fun z h1 => (mLcKP n c0 (mTurn mg mA me vs S) xs (accX acc z) h1).bnd k := by
        unfold mLcKP
        rw [List.map_cons]
        conv => lhs; unfold mLcK
        rw [if_pos hc]
        cases mTurn mg mA me vs S (.tup [x.1, x.2]) h <;> rfl
      rw [← this]; exact o
    have cut : ∀ {α β : Type} (r : Rs α) (k1 : α → AH → Rs (Option AV)) (k2 : Option AV → AH → Rs β), (r.bnd k1).bnd k2 = r.bnd fun a h => (k1 a h).bnd k2 := fun r k1 k2 => by cases r <;> rfl
    unfold mTurn at o'
    rw [cut] at o'
    refine hg.run wT s aT (o'.bnd0 (e0.trans eT) fun S2 h2 F2 H2 φ2 σ2 w2 e2 s2 o2 => ?_)
    unfold kLG at o2
    rw [cut] at o2
    refine ht.run w2 s2 (o2.bnd0 ((e0.trans eT).trans e2) fun b h3 F3 H3 φ3 b' w3 e3 eb o3 => ?_)
    subst eb
    have up : ∀ {F' H' : Hp} {φ' : List Addr}, Ex F H φ F' H' φ' → H' A = some (.lst avs) ∧ F' A = none ∧ A ∉ φ' := fun e => ⟨(e.fr A _ d dφ).1, (e.fr A _ d dφ).2 dF, fun z => (e.new A z).elim dφ fun z => by rw [d] at z; cases z⟩
    unfold kLT at o3
    cases b with
    | true =>
      rw [if_pos rfl] at o3 ⊢
      rw [cut] at o3
      refine he.run w3 (s2.to e3) (o3.bnd0 (((e0.trans eT).trans e2).trans e3) fun y h4 F4 H4 φ4 v4 w4 e4 a4 o4 => ?_)
      have ee := ((eT.trans e2).trans e3).trans e4
      obtain ⟨u1, u2, u3⟩ := up ee
      have l1 := ha.len
      rw [List.length_cons] at hl
      refine ⟨avs, u1, by omega, ?_⟩
      refine ih (acc ++ [y]) _ _ F4 _ φ4 h4 (w4.out u2 u3) ((e0.trans ee).out hA) (x2.to ee) (y2.to ee) (fun F' H' φ' h' w' e' hc' => hL F' H' φ' h' w' (fun n a z => e' n a (ee.pre n a z)) hc') upd_same u2 u3 ((ha.to ee).app (.one a4)) (by simp; omega) o4
    | false =>
      have o3 : Ok K Γ E (AR K) F0 H0 φ0 ((mLcKP n c0 (mTurn mg mA me vs S) xs acc h3).bnd k) Q := o3
      rw [if_neg (by simp)]
      have ee := (eT.trans e2).trans e3
      obtain ⟨u1, u2, u3⟩ := up ee
      rw [List.length_cons] at hl
      exact ih acc _ _ F3 H3 φ3 h3 w3 (e0.trans ee) (x2.to ee) (y2.to ee) (fun F' H' φ' h' w' e' hc' => hL F' H' φ' h' w' (fun n a z => e' n a (ee.pre n a z)) hc') u1 u2 u3 (ha.to ee) (by omega) o3
theorem vLcEK {k : List AV → AH → Rs AV} {vs : List Nat} {turn : AS → AV → AH → Rs (Option AV)} (hk : KFin K Γ E k) (ha : SE K Γ E ta ma) (hg : SG K Γ E g mg) (gw : GW g vs) (ht : ST K Γ E tA mA) (he : SE K Γ E te me) (et : turn = mTurn mg mA me vs) : SE K Γ E (eLcP (cEn K ta) g tA te vs) (mLcEK k ma turn) := ⟨fun w s o => ha.run w s (o.bnd fun x h1 F1 H1 φ1 v w1 e1 a1 o1 => by
  subst et
  have sz := sz
  unfold kEK at o1
  split at o1
  · rename_i n
    split at o1
    · rename_i xs hn
      split at o1
      · rename_i us hf
        split at o1
        · rename_i c
          obtain ⟨p, pn, rfl⟩ := iId a1
          obtain ⟨nF, vs', g1, g2⟩ := w1.cl _ _ _ pn hn
          obtain ⟨q1, q2⟩ := fvs_ok g2 hf
          rw [eb3]
          refine ⟨vs', SqL.of g1, fun A hA => ?_⟩
          obtain ⟨w2, e2, nF2, na⟩ := w1.drop (o := .lst []) hA
          exact walkCPK_ok (P := fun _ _ => True) hg gw ht he (s.to e1) hA (fun ys F' H' φ' h' ws w e a d dF dφ o => hk.run w e a hA d dF dφ o) (enX 0 xs) [] [] (enumV 0 vs') F1 _ φ1 h1 w2 e2 (enX_fst g2).1 (enX_fst g2).2 (fun F' H' φ' h' w' p' hc => by
            obtain ⟨_, ws, r1, r2⟩ := w'.cl _ _ _ (p' _ _ pn) hc
            obtain ⟨q3, _⟩ := fvs_ok r2 hf
            rw [q1, ← q3]
            exact SqL.of r1) upd_same nF2 na .nil (by unfold enX; simp; omega) o1
        · exact o1.elim
      · exact o1.elim
    · exact o1.elim
  · exact o1.elim)⟩
end
end Hf
set_option Elab.async false
set_option linter.all false
set_option maxRecDepth 100000
set_option maxHeartbeats 4000000
namespace Hf
open PySem PySem.Spec L2 PyProof.Rows
/-! for k in d: the dict is locked from then on -/
def keyA : Key → AV
  | .inl i => .int i
  | .inr z => .str z
def tKeys (td : TE) : TE := fun σ H Q => td σ H fun v H1 => asRef v fun a => ∃ kvs, H1 a = some (.dK kvs) ∧ ∀ o, Q v (upd H1 a (.frz o (.dK kvs)))
def cDk (td : TE) (σ : L2.St) (H : Hp) (R : (Hp → Prop) → List V → Hp → Prop) : Prop := td σ H fun v H1 => asRef v fun a => ∃ kvs, H1 a = some (.dK kvs) ∧ ∀ o, R (fun H => H a = some (.frz o (.dK kvs))) (kvs.map fun kv => kV kv.1) (upd H1 a (.frz o (.dK kvs)))
section
variable {X : Cx} {tg iter : Expr} {td : TE}
theorem pe_keys (he : PE X iter td) : PE X iter (tKeys td) := ⟨fun pins s σ H Q I h => thn (he.run pins s σ H _ I h) fun u s1 ⟨x, H1, I1, rx, q⟩ => by
  obtain ⟨a, rfl, kvs, h1, q⟩ := asRef_of q
  obtain ⟨od, I2⟩ := I1.lock h1 trivial
  exact ⟨_, _, I2, rx, q od⟩⟩
theorem kDk (he : PE X iter td) : PSrc X tg iter (cDk td) := by
  refine ⟨_, pi_keys (pe_keys (pe_hat he)), fun σ H R R' h w => ⟨_, fun v H1 q => ?_, h⟩⟩
  obtain ⟨a, rfl, kvs, h1, q⟩ := asRef_of q
  rw [eb3]
  refine ⟨kvs, h1, fun o => ?_⟩
  refine ⟨a, o, rfl, .inl ⟨kvs, upd_same, w _ _ _ _ ⟨fun i H l hi => ⟨l, by simpa using hi⟩, fun i x H l e => ?_⟩ (q o)⟩⟩
  rw [List.getElem?_map] at e
  cases c : kvs[i]? with
  | none => rw [c] at e; cases e
  | some kv =>
    rw [c] at e
    cases e
    exact ⟨⟨l, (List.getElem?_eq_some_iff.mp c).1⟩, fun y H' ⟨z, k, v, h2, h3⟩ => ⟨z, by rw [c] at h2; cases h2; exact h3⟩⟩
end
def kDk1 (x : AV) (h : AH) : Rs (List AV) := match x with
  | .id n => match h[n]? with
    | some (.dct kvs) => .ok (kvs.map fun kv => keyA kv.1) (h.set n (.fzd kvs))
    | _ => .no
  | _ => .no
def mDk (ma : EV) : LV := fun S h => (ma S h).bnd kDk1
theorem x_mDk {ma : EV} {S : AS} {h : AH} : mDk ma S h = (ma S h).bnd kDk1 := rfl
theorem x_kDk1 {n : Nat} {kvs : List (Key × AV)} {h : AH} (e : h[n]? = some (.dct kvs)) : kDk1 (.id n) h = .ok (kvs.map fun kv => keyA kv.1) (h.set n (.fzd kvs)) := by unfold kDk1; dsimp only; rw [e]
/-! l.remove(i), numbers -/
def uRemove (l : Addr) (vs : List V) (H : Hp) (Q : VK) : Prop := vInt vs fun k => ∃ (ns : List Int) (j : Nat), H l = some (.lst (ns.map V.int)) ∧ ns[j]? = some k ∧ (∀ m : Nat, m < j → ns[m]? ≠ some k) ∧ Q .non (upd H l (.lst ((ns.eraseIdx j).map V.int)))
theorem mRemove {X : Cx} : MlR X "list.remove" uRemove := fun pins s σ H x vs v us Q I rx rs ⟨z, e, q⟩ => by
  subst e
  obtain ⟨k, rfl, ns, j, h1, h2, h3, q⟩ := vInt_of q
  exact mt_remove pins s σ H _ _ v us Q I rx rs ⟨z, ns, k, j, rfl, rfl, h1, h2, h3, q⟩
def intsA : List AV → Option (List Int)
  | [] => some []
  | .int i :: r => (intsA r).map (i :: ·)
  | _ :: _ => none
theorem intsA_map : ∀ ns : List Int, intsA (ns.map AV.int) = some ns
  | [] => rfl
  | n :: r => by rw [List.map_cons]; unfold intsA; rw [intsA_map r]; rfl
theorem intsA_eq : ∀ {xs : List AV} {ns : List Int}, intsA xs = some ns → xs = ns.map AV.int
  | [], _, e => by unfold intsA at e; cases e; rfl
  | x :: r, _, e => by
    cases x with
    | int i =>
      unfold intsA at e
      cases c : intsA r with
      | none => rw [c] at e; cases e
      | some m => rw [c] at e; cases e; rw [intsA_eq c]; rfl
    | _ => unfold intsA at e; cases e
/-- the place of a number in a row -/
def findI (k : Int) : List Int → Option Nat
  | [] => none
  | n :: r => if n = k then some 0 else (findI k r).map (· + 1)
theorem findI_ok {k : Int} : ∀ {ns : List Int} {j : Nat}, findI k ns = some j → ns[j]? = some k ∧ ∀ m : Nat, m < j → ns[m]? ≠ some k
  | [], _, e => by cases e
  | n :: r, j, e => by
    unfold findI at e
    split at e
    · rename_i c; cases e; exact ⟨by rw [c]; rfl, fun m hm => by omega⟩
    · rename_i c
      cases q : findI k r with
      | none => rw [q] at e; cases e
      | some i =>
        rw [q] at e; cases e
        obtain ⟨h1, h2⟩ := findI_ok q
        refine ⟨h1, fun m hm z => ?_⟩
        cases m with
        | zero => exact c (Option.some.inj z)
        | succ m => exact h2 m (Nat.lt_of_succ_lt_succ hm) z
theorem findI_mem {k : Int} : ∀ {ns : List Int}, k ∈ ns → ∃ j, findI k ns = some j ∧ ns.eraseIdx j = ns.erase k
  | [], h => by cases h
  | n :: r, h => by
    by_cases c : n = k
    · subst c; exact ⟨0, by unfold findI; rw [if_pos rfl], by rw [List.erase_cons_head]; rfl⟩
    · obtain ⟨j, e1, e2⟩ := findI_mem ((List.mem_cons.mp h).resolve_left (Ne.symm c))
      exact ⟨j + 1, by unfold findI; rw [if_neg c, e1]; rfl, by rw [List.erase_cons_tail (by simpa using c), ← e2]; rfl⟩
def fRemove (x : AV) (ys : List AV) (h : AH) : Rs AV := match x, ys with
  | .id n, [.int k] => match h[n]? with
    | some (.lst xs) => match intsA xs with
      | some ns => match findI k ns with
        | some j => .ok .non (h.set n (.lst ((ns.eraseIdx j).map AV.int)))
        | none => .no
      | none => .no
    | _ => .no
  | _, _ => .no
theorem x_remove {n : Nat} {ns : List Int} {k : Int} {h : AH} (e : h[n]? = some (.lst (ns.map AV.int))) (m : k ∈ ns) : fRemove (.id n) [.int k] h = .ok .non (h.set n (.lst ((ns.erase k).map AV.int))) := by
  obtain ⟨j, e1, e2⟩ := findI_mem m
  unfold fRemove; dsimp only; rw [e]; dsimp only; rw [intsA_map]; dsimp only; rw [e1]; dsimp only; rw [e2]
/-! sorted(l), numbers -/
def insI (x : Int) : List Int → List Int
  | [] => [x]
  | y :: r => if x ≤ y then x :: y :: r else y :: insI x r
def srtI : List Int → List Int
  | [] => []
  | x :: r => insI x (srtI r)
theorem insI_perm (x : Int) : ∀ l : List Int, (insI x l).Perm (x :: l)
  | [] => .refl _
  | y :: r => by
    unfold insI
    split
    · exact .refl _
    · exact ((insI_perm x r).cons y).trans (.swap x y r)
theorem srtI_perm : ∀ l : List Int, (srtI l).Perm l
  | [] => .refl _
  | x :: r => (insI_perm x _).trans ((srtI_perm r).cons x)
theorem insI_pw (x : Int) : ∀ l : List Int, l.Pairwise (· ≤ ·) → (insI x l).Pairwise (· ≤ ·)
  | [], _ => List.pairwise_singleton _ _
  | y :: r, h => by
    obtain ⟨a, b⟩ := List.pairwise_cons.mp h
    unfold insI
    split
    · rename_i c
      exact List.pairwise_cons.mpr ⟨fun z hz => (List.mem_cons.mp hz).elim (fun e => e ▸ c) fun e => Int.le_trans c (a z e), h⟩
    · rename_i c
      exact List.pairwise_cons.mpr ⟨fun z hz => (List.mem_cons.mp ((insI_perm x r).mem_iff.mp hz)).elim (fun e => by subst e; omega) (a z), insI_pw x r b⟩
theorem srtI_pw : ∀ l : List Int, (srtI l).Pairwise (· ≤ ·)
  | [] => List.Pairwise.nil
  | x :: r => insI_pw x _ (srtI_pw r)
theorem srtI_unique : ∀ {l m : List Int}, l.Pairwise (· ≤ ·) → m.Pairwise (· ≤ ·) → l.Perm m → l = m
  | [], m, _, _, p => p.nil_eq
  | x :: l, m, h1, h2, p => by
    cases m with
    | nil => exact absurd p.length_eq (by simp)
    | cons y m =>
      obtain ⟨a1, a2⟩ := List.pairwise_cons.mp h1
      obtain ⟨b1, b2⟩ := List.pairwise_cons.mp h2
      have e : x = y := by
        have hx := p.mem_iff.mp (List.mem_cons_self (a := x) (l := l))
        have hy := p.mem_iff.mpr (List.mem_cons_self (a := y) (l := m))
        rcases List.mem_cons.mp hx with e | hx
        · exact e
        · rcases List.mem_cons.mp hy with e | hy
          · exact e.symm
          · exact Int.le_antisymm (a1 _ hy) (b1 _ hx)
      subst e
      rw [srtI_unique a2 b2 p.cons_inv]
def rSrtI (K : PySem.W.Frag) : List V → Hp → VK → Prop := fun vs H Q => ∃ (a : Addr) (ns : List Int), vs = [V.ref a] ∧ SqL K H a (ns.map V.int) ∧
  ∀ (ns' : List Int) (p : Addr), ns'.Perm ns → ns'.Pairwise (· ≤ ·) → H p = none → Q (.ref p) (upd H p (.lst (ns'.map V.int)))
theorem cr_srtI {X : Cx} : CallR X (.builtin "sorted") (rSrtI X.K) := by
  intro pins s σ H vs us Q I r h
  obtain ⟨a, ns, rfl, hs, q⟩ := h
  obtain ⟨its, rv, hl, hz⟩ := I.list hs
  rw [Vals.ref1 r]
  have hn := rv.length
  have hi := rv.ints
  refine PyProof.Rows.sorted_intsAny hl.isList hi (by rw [← hn]; exact hz) fun out ns' h1 h2 h3 => ?_
  obtain ⟨ep, he'⟩ := PyProof.Rows.sortedAll_at s.heap its out
  have hlen : (ns'.map V.int).length ≤ sizeLine := by rw [List.length_map, h2.length_eq]; rw [List.length_map] at hz; exact hz
  exact ⟨.ref _, upd H (s.heap.objs.size + 1) (.lst (ns'.map V.int)), I.laid (t' := s.toks) (fun _ _ => PyProof.Rows.sortedAll_old) (Nat.le_succ _) ⟨hlen, out.toList, ep, vals_of_ints h1, he'⟩, rfl, q ns' _ h2 h3 (I.hok.fresh (Nat.le_succ _))⟩
def eSrtI (K : PySem.W.Frag) (te : TE) : TE := fun σ H Q => te σ H fun x H1 => asRef x fun a => ∃ ns : List Int, SqL K H1 a (ns.map V.int) ∧ ∀ q, H1 q = none → Q (.ref q) (upd H1 q (.lst ((srtI ns).map V.int)))
section
variable {X : Cx} {e : Expr} {te : TE} {p pos : Pos}
theorem dSrtI (hg : Gl X "sorted") (hm : X.mg "sorted" = none) (he : PE X e te) (hs0 : starEach [e] X.env = (false, eval e X.env) :: starEach [] X.env := by rfl) (hpl : (backTo pos (starEach [] X.env)).any (·.1) = false := by rfl) :
    PE X (.Call (.Name "sorted" p) [e] [] pos) (eSrtI X.K te) :=
  pe_w (dBlt cr_srtI hg hm (by decide +kernel) (kCons (pe_hat he) kNil hs0) (by decide) (by decide) hs0 hpl) fun σ H Q h => by
    refine ⟨_, fun x H1 q => ?_, h⟩
    obtain ⟨a, rfl, zs, h1, q⟩ := asRef_of q
    refine ⟨a, zs, rfl, h1, fun ys q' s1 s2 hq => ?_⟩
    rw [srtI_unique s2 (srtI_pw zs) (s1.trans (srtI_perm zs).symm)]
    exact q q' hq
end
def kSrtI (x : AV) (h : AH) : Rs AV := match (lsOf h x).bind intsA with
  | some zs => .ok (.lst ((srtI zs).map AV.int)) h
  | none => .no
def mSrtI (ma : EV) : EV := fun S h => (ma S h).bnd kSrtI
theorem x_mSrtI {ma : EV} {S : AS} {h : AH} : mSrtI ma S h = (ma S h).bnd kSrtI := rfl
theorem x_kSrtI {x : AV} {ns : List Int} {h : AH} (e : lsOf h x = some (ns.map AV.int)) : kSrtI x h = .ok (.lst ((srtI ns).map AV.int)) h := by unfold kSrtI; rw [e]; show (match intsA (ns.map AV.int) with | some zs => _ | none => _) = _; rw [intsA_map]
section
variable {K : PySem.W.Frag} {Γ : Gm} {E : XK} {F F0 F1 H H0 H1 : Hp} {φ φ0 φ1 : List Addr} {h h1 : AH} {S : AS} {σ : L2.St} {Q : VK} {x y : AV} {v u : V} {xs ys acc : List AV} {vs us : List V}
  {ta tb tc te to : TE} {ma mb mc me mo : EV} {tes : TA} {ms : LV}
theorem intsA_ok (a : ARs K F φ xs vs) {ns : List Int} (e : intsA xs = some ns) : vs = ns.map V.int := by
  rw [intsA_eq e] at a
  clear e
  induction ns generalizing vs with
  | nil => rw [a.nil_inv]; rfl
  | cons n r ih =>
    rw [List.map_cons] at a
    obtain ⟨v, ws, rfl, h1, h2⟩ := a.cons_inv
    rw [iInt h1, ih h2]; rfl
theorem ints_ARs : ∀ {ns : List Int}, ARs K F φ (ns.map AV.int) (ns.map V.int)
  | [] => .nil
  | n :: r => .cons aInt ints_ARs
theorem vSrtI (ha : SE K Γ E ta ma) : SE K Γ E (eSrtI K ta) (mSrtI ma) := ⟨fun w s o => ha.run w s (o.bnd fun x h1 F1 H1 φ1 v w1 e1 a1 o1 => by
  unfold kSrtI at o1
  split at o1
  · rename_i zs c
    cases c1 : lsOf h1 x with
    | none => rw [c1] at c; cases c
    | some xs =>
      rw [c1] at c
      obtain ⟨p, vs, rfl, h2, h3⟩ := lsOf_ok w1 a1 c1
      have := intsA_ok h3 c
      subst this
      rw [eb3]
      refine ⟨zs, h2, fun q hq => ?_⟩
      obtain ⟨w2, e2⟩ := w1.new (o := .lst ((srtI zs).map V.int)) hq
      exact o1.use w2 e2 (aLst upd_same ints_ARs)
  · exact o1.elim)⟩
theorem wRemove : SMl K Γ E uRemove fRemove := ⟨fun w b a o => by
  unfold fRemove at o
  split at o
  · split at o
    · rename_i c
      obtain ⟨p, h1, e⟩ := iId b
      cases e
      obtain ⟨nF, vs, h2, h3⟩ := w.cl _ _ _ h1 c
      obtain ⟨v, rfl, a1⟩ := one_inv a
      rw [iInt a1]
      split at o
      · rename_i ns ci
        split at o
        · rename_i j cj
          obtain ⟨f1, f2⟩ := findI_ok cj
          have := intsA_ok h3 ci
          subst this
          refine ⟨ns, j, h2, f1, f2, ?_⟩
          obtain ⟨w2, e2⟩ := w.putL h1 c (ints_ARs (ns := ns.eraseIdx j))
          exact o.use w2 e2 aNon
        · exact o.elim
      · exact o.elim
    · exact o.elim
  · exact o.elim⟩
theorem keys_ARs : ∀ {kx : List (Key × AV)} {kv : List (Key × V)}, kx.map (·.1) = kv.map (·.1) → ARs K F φ (kx.map fun k => keyA k.1) (kv.map fun k => kV k.1)
  | [], [], _ => .nil
  | [], _ :: _, e => by cases e
  | _ :: _, [], e => by cases e
  | p :: kx, q :: kv, e => by
    rw [List.map_cons, List.map_cons, List.cons.injEq] at e
    refine .cons ?_ (keys_ARs e.2)
    dsimp only
    rw [e.1]
    cases q.1 with
    | inl i => exact aInt
    | inr z => exact aStr
theorem vDk (ha : SE K Γ E ta ma) : SL K Γ E (cDk ta) (mDk ma) := ⟨fun {F H φ h σ S R} w s o => ha.run w s (o.bnd fun x h1 F1 H1 φ1 v w1 e1 a1 o1 => by
  unfold kDk1 at o1
  split at o1
  · rename_i n
    split at o1
    · rename_i kvs hn
      obtain ⟨p, pn, rfl⟩ := iId a1
      obtain ⟨nF, kv, g1, g2⟩ := w1.cl _ _ _ pn hn
      rw [eb3]
      refine ⟨kv, g1, fun ob => ?_⟩
      have hs : Same F1 (upd F1 p (.frz ob (.dK kv))) := Same.new nF
      have w2 : WR K Γ (upd F1 p (.frz ob (.dK kv))) (upd H1 p (.frz ob (.dK kv))) φ1 (h1.set n (.fzd kvs)) := ⟨Same.both w1.ff, w1.nd, by rw [List.length_set]; exact w1.ln, fun m b c hm hc => by
        by_cases q : m = n
        · subst q
          rw [pn] at hm
          cases hm
          rw [List.getElem?_set_self ((List.getElem?_eq_some_iff.mp hn).1)] at hc
          cases hc
          exact ⟨ob, kv, upd_same, g2.1, g2.2.mono hs .refl⟩
        · rw [List.getElem?_set_ne (Ne.symm q)] at hc
          have hb : b ≠ p := fun z => q (w1.nd m n b hm (z ▸ pn))
          exact (w1.cl m b c hm hc).mono hs .refl (upd_ne hb) fun z => by rw [upd_ne hb]; exact z⟩
      have e2 : Ex F1 H1 φ1 (upd F1 p (.frz ob (.dK kv))) (upd H1 p (.frz ob (.dK kv))) φ1 := ⟨hs, .refl, fun b u h1 h2 => by
        have hb : b ≠ p := fun z => h2 (z ▸ List.mem_of_getElem? pn)
        rw [upd_ne hb, upd_ne hb]; exact ⟨h1, fun z => z⟩, fun _ h => .inl h⟩
      exact Ok.use (R := RL K) (b := (fun H => H p = some (.frz ob (.dK kv)), kv.map fun k => kV k.1)) o1 w2 e2 ⟨keys_ARs g2.1, fun H' s' => s' _ _ upd_same⟩
    · exact o1.elim
  · exact o1.elim)⟩
end
end Hf
set_option Elab.async false
set_option linter.all false
set_option maxRecDepth 100000
set_option maxHeartbeats 4000000
namespace Hf
open PySem PySem.Spec L2 PyProof.Rows
/-! dicts whose keys are pairs of texts or None -/
abbrev OK := Option Str × Option Str
def oV : Option Str → V
  | none => .non
  | some s => .str s
def nk1 : Option Str → NestedKey
  | none => .none
  | some s => .text s
def nk (k : OK) : NestedKey := .tup [nk1 k.1, nk1 k.2]
theorem nk1_inj : ∀ {a b : Option Str}, nk1 a = nk1 b → a = b
  | none, none, _ => rfl
  | none, some _, h => by simp [nk1] at h
  | some _, none, h => by simp [nk1] at h
  | some _, some _, h => by simp [nk1] at h; rw [h]
theorem nk_inj {a b : OK} (h : nk a = nk b) : a = b := by
  unfold nk at h
  injection h with h
  injection h with h1 h2
  injection h2 with h2 h3
  exact Prod.ext (nk1_inj h1) (nk1_inj h2)
abbrev NE := List (NestedKey × Addr × Value)
section
variable (P : Program) (w : World)
def NDict (a : Addr) (xs : NE) : Heap → Prop := fun h => (a == sysModules) = false ∧ xs.length ≤ sizeLine ∧ ∃ o es ep, h.get? a = some o ∧ o.ExactDict ∧ o.data = .dict es ep ∧ es.toList = xs.map (entryOfKey (nestedKind P w)) ∧ (xs.map (·.1)).Nodup
end
def NKeys (H : Hp) (xs : NE) : Prop := ∀ x ∈ xs, ∃ k : OK, x.1 = nk k ∧ H x.2.1 = some (.tup [oV k.1, oV k.2])
section
variable {P : Program} {w : World} {H : Hp} {h : Heap} {a b : Addr} {xs : NE} {k : OK}
theorem nd_obj (x : NDict P w a xs h) : ObjOk P w H h a (.ext (NDict P w a xs)) := by
  refine ⟨x, ?_, fun h1 h2 y st => ?_⟩
  · obtain ⟨_, _, o, _, _, e, _⟩ := x; exact ⟨o, e⟩
  · obtain ⟨p, q, o, es, ep, e, r⟩ := y; exact ⟨p, q, o, es, ep, st _ e, r⟩
theorem nd_of (ok : HOk P w H h) (e : H a = some (.ext (NDict P w a xs))) : NDict P w a xs h := (show ObjOk P w H h a (.ext (NDict P w a xs)) from ok a _ e).1
theorem nk1_is {o : Option Str} {u : Value} (r : RelV (oV o) u) : NestedIs h (nk1 o) u := by
  cases o with
  | none => rw [show u = Value.none from r]; exact .none
  | some s => obtain ⟨t, rfl⟩ := (show ∃ t, u = Value.str s t from r); exact .text s t
theorem nkey_of (ok : HOk P w H h) (e : H b = some (.tup [oV k.1, oV k.2])) : (nestedKind P w).is h (nk k) b := by
  obtain ⟨_, its, r, o, h1, h2, n, h3⟩ := (show ObjOk P w H h b (.tup [oV k.1, oV k.2]) from ok b _ e)
  refine ⟨.tup h1 h2 h3 ?_, ?_⟩
  · cases r with
    | cons r1 r =>
      cases r with
      | cons r2 r =>
        cases r
        exact .cons (nk1_is r1) (.cons (nk1_is r2) .nil)
  · obtain ⟨a, b⟩ := k
    cases a <;> cases b <;> simp [nk, nk1, NestedKey.depth, NestedKey.depthAll]
theorem nd_dict (ok : HOk P w H h) (e : H a = some (.ext (NDict P w a xs))) (ks : NKeys H xs) : h.DictOfH (nestedKind P w) a xs := by
  obtain ⟨_, _, o, es, ep, h1, h2, h3, h4, h5⟩ := nd_of ok e
  refine ⟨o, es, ep, h1, h2, h3, h4, fun x hx => ?_, h5⟩
  obtain ⟨k, e1, e2⟩ := ks x hx
  rw [e1]; exact nkey_of ok e2
theorem nd_empty (h : Heap) (hb : sysModules < h.objs.size) : NDict P w h.objs.size [] (h.push { cls := .type "dict", data := .dict #[] }) :=
  ⟨beq_eq_false_iff_ne.mpr (Ne.symm (Nat.ne_of_lt hb)), Nat.zero_le _, _, #[], 0, Heap.get?_push_size _ rfl, ⟨rfl, rfl, rfl⟩, rfl, rfl, List.nodup_nil⟩
end
def eNNew (P : Program) (w : World) : TE := fun _ H Q => ∀ p, H p = none → Q (.ref p) (upd H p (.ext (NDict P w p [])))
def eNGet (P : Program) (w : World) (td ty tx : TE) : TE := fun σ H Q => td σ H fun x H1 => asRef x fun a => (∃ xs, H1 a = some (.ext (NDict P w a xs))) ∧ ty σ H1 fun y H2 => tx σ H2 fun z H3 => asRef y fun b => ∃ (xs : NE) (k : OK), H3 a = some (.ext (NDict P w a xs)) ∧ NKeys H3 xs ∧ H3 b = some (.tup [oV k.1, oV k.2]) ∧ (∀ p, atKey xs (nk k) = some p → ∃ v, RelV v p.2 ∧ Q v H3) ∧ (atKey xs (nk k) = none → Q z H3)
def sNPut (P : Program) (w : World) (td ty tv : TE) : TS := fun D σ H => tv σ H fun v H1 => td σ H1 fun x H2 => ty σ H2 fun y H3 => asRef x fun a => asRef y fun b => ∃ (xs : NE) (k : OK), H3 a = some (.ext (NDict P w a xs)) ∧ NKeys H3 xs ∧ H3 b = some (.tup [oV k.1, oV k.2]) ∧ xs.length < sizeLine ∧ ∀ r, RelV v r → D.nx σ (upd H3 a (.ext (NDict P w a (storedH xs (nk k) b r))))
section
variable {X : Cx} {o i e f value : Expr} {pos pos' apos cpos : Pos} {td ty tv tx : TE}
theorem dNNew : PE X (.Dict [] [] pos) (eNNew X.prog X.w) := ⟨fun pins s σ H Q I h =>
  wpAny_Dict_empty ⟨.ref s.heap.objs.size, _, I.laid (a := s.heap.objs.size) (o := .ext _) (t' := s.toks) (fun _ _ q => Heap.get?_push_of_some _ q) (Nat.le_refl _) (nd_obj (nd_empty s.heap I.big)), rfl, h _ (I.hok.fresh (Nat.le_refl _))⟩⟩
theorem dNGet (hu : X.A.units + 64 < cLine) (ho : PE X o td) (he : PE X e ty) (hf : PE X f tx) (m : M2 X o "get" apos e f cpos) : PE X (.Call (.Attribute o "get" apos) [e, f] [] cpos) (eNGet X.prog X.w td ty tx) := by
  refine ⟨fun pins s σ H Q I h => ?_⟩
  refine wpAny_Call_method m.base m.few m.line PySem.F.plainAttrs_dict PySem.F.slot_dict_get PySem.F.type_dict_get (thn (ho.run pins s σ H _ I h) fun u s1 ⟨x, H1, I1, rx, q1⟩ => ?_)
  obtain ⟨a, rfl, ⟨xs0, d⟩, q1⟩ := asRef_of q1
  obtain rfl : u = Value.ref a := rx
  obtain ⟨t3, _, ob, es, ep, g1, g2, _⟩ := nd_of I1.hok d
  refine ⟨⟨ob, g1, g2.1⟩, fun b q => by cases q; exact ⟨ob, g1, g2.2.1⟩, ?_⟩
  rw [m.trees]
  refine Calls.callWith_builtin rfl (Calls.evalArgs_plain (Calls.spliced_cons (thn (he.run pins s1 σ H1 _ I1 q1) fun iv s2 ⟨y, H2, I2, ry, q2⟩ =>
    Calls.spliced_cons (thn (hf.run pins s2 σ H2 _ I2 q2) fun fv s3 ⟨z, H3, I3, rz, q3⟩ => Calls.spliced_nil ?_))))
  obtain ⟨b, rfl, xs, k, e1, nks, eb, c1, c2⟩ := asRef_of q3
  obtain rfl : iv = Value.ref b := ry
  have dd := nd_dict I3.hok e1 nks
  refine call_meetsIn PySem.F.slot_dict_get dd.typeIs PySem.F.entry_dict_get (PySem.F.args_dict_get_3 _ _ _) (meetsH_dict_get_default (nestedKind X.prog X.w) a b t3 fv) ⟨(show X.A.units + 1 + 8 < cLine by omega), nk k, xs, nkey_of I3.hok eb, dd, ?_⟩
  cases hk : atKey xs (nk k) with
  | none => exact ⟨z, H3, I3.tok _, rz, c2 hk⟩
  | some p =>
    obtain ⟨v, rv, q⟩ := c1 p hk
    exact ⟨v, H3, I3.tok _, rv, q⟩
theorem zNPut (hu : X.A.units + 64 < cLine) (ho : PE X o td) (hi : PE X i ty) (hv : PE X value tv) (hs : swapsWith value (some (.Subscript o i pos')) pos.line X.env = pure false := by rfl) : PS X (.Assign [.Subscript o i pos'] value pos) (sNPut X.prog X.w td ty tv) := by
  refine ⟨fun pins s σ H D I h => ?_⟩
  refine wpAny_Assign_Subscript (thn (hv.run pins s σ H _ I h) fun r s1 ⟨v, H1, I1, rv, q1⟩ => thn (ho.run pins s1 σ H1 _ I1 q1) fun u s2 ⟨x, H2, I2, rx, q2⟩ => thn (hi.run pins s2 σ H2 _ I2 q2) fun iv s3 ⟨y, H3, I3, ry, q3⟩ => ?_) hs
  obtain ⟨a, rfl, q4⟩ := asRef_of q3
  obtain ⟨b, rfl, xs, k, e1, nks, eb, hl, q⟩ := asRef_of q4
  obtain rfl : u = Value.ref a := rx
  obtain rfl : iv = Value.ref b := ry
  have dd := nd_dict I3.hok e1 nks
  obtain ⟨t3, _⟩ := nd_of I3.hok e1
  refine wpAny_setItem_heap (hsz := by omega) (show X.A.units + 1 + 8 < cLine by omega) (nkey_of I3.hok eb) dd fun h' dd' hs' => ?_
  obtain ⟨q', es, ep, hq, h2, h3, h4, _, h5⟩ := dd'
  have hl2 : (storedH xs (nk k) b r).length ≤ sizeLine := by have := storedH_length xs (nk k) b r; omega
  exact ⟨σ, _, d_write I3 (by rw [e1]; exact True.intro) hs' ⟨q', hq⟩ (nd_obj ⟨t3, hl2, q', es, ep, hq, h2, h3, h4, h5⟩), q r rv⟩
end
/-! counting by such keys -/
def numA (acc : List OK) : List OK → List Nat
  | [] => []
  | k :: r => acc.count k :: numA (acc ++ [k]) r
theorem numA_len : ∀ (l acc : List OK), (numA acc l).length = l.length
  | [], _ => rfl
  | k :: r, acc => by simp [numA, numA_len r]
theorem numA_get : ∀ (l acc : List OK) (i : Nat) (h : i < l.length), (numA acc l)[i]? = some ((acc ++ l.take i).count l[i])
  | [], _, _, h => absurd h (Nat.not_lt_zero _)
  | k :: r, acc, 0, _ => by simp [numA]
  | k :: r, acc, i + 1, h => by
    have := numA_get r (acc ++ [k]) i (by simpa using h)
    simp [numA, this]
def VAt (xs : NE) (dn : List OK) : Prop := (∀ k p, atKey xs (nk k) = some p → ∃ t, p.2 = Value.int (dn.count k : Nat) t) ∧ ∀ k, atKey xs (nk k) = none → dn.count k = 0
theorem atKey_stored {xs : NE} {k k' : NestedKey} {b : Addr} {r : Value} : (atKey (storedH xs k b r) k').map (·.2) = if k' = k then some r else (atKey xs k').map (·.2) := by
  rw [← valueAt_pairsH, ← valueAt_pairsH, pairsH_storedH]
  by_cases c : k' = k
  · subst c; rw [if_pos rfl, valueAt_stored_same]
  · rw [if_neg c, valueAt_stored_other _ _ _ c]
theorem VAt.put {xs : NE} {dn : List OK} {k : OK} {b : Addr} {t : Tok} (v : VAt xs dn) : VAt (storedH xs (nk k) b (.int (dn.count k + 1 : Nat) t)) (dn ++ [k]) := by
  have cnt : ∀ k', (dn ++ [k]).count k' = dn.count k' + if k' = k then 1 else 0 := fun k' => by
    rw [List.count_append]
    by_cases c : k' = k
    · subst c; simp
    · rw [if_neg c, List.count_cons_of_ne (Ne.symm c)]; simp
  refine ⟨fun k' p e => ?_, fun k' e => ?_⟩
  · have := atKey_stored (xs := xs) (k := nk k) (k' := nk k') (b := b) (r := .int (dn.count k + 1 : Nat) t)
    rw [e] at this
    rw [cnt]
    by_cases c : k' = k
    · subst c
      rw [if_pos rfl] at this
      rw [if_pos rfl]
      exact ⟨t, Option.some.inj this⟩
    · rw [if_neg (fun z => c (nk_inj z))] at this
      rw [if_neg c]
      cases e' : atKey xs (nk k') with
      | none => rw [e'] at this; cases this
      | some p' =>
        rw [e'] at this
        obtain ⟨t', h⟩ := v.1 _ _ e'
        exact ⟨t', (Option.some.inj this).trans h⟩
  · have := atKey_stored (xs := xs) (k := nk k) (k' := nk k') (b := b) (r := .int (dn.count k + 1 : Nat) t)
    rw [e] at this
    rw [cnt]
    by_cases c : k' = k
    · subst c; rw [if_pos rfl] at this; cases this
    · rw [if_neg (fun z => c (nk_inj z))] at this
      rw [if_neg c]
      cases e' : atKey xs (nk k') with
      | none => rw [v.2 _ e']
      | some p' => rw [e'] at this; cases this
theorem nkeys_put {H : Hp} {xs : NE} {k : OK} {b : Addr} {r : Value} (n : NKeys H xs) (e : H b = some (.tup [oV k.1, oV k.2])) : NKeys H (storedH xs (nk k) b r) := by
  intro x hx
  cases c : atKey xs (nk k) with
  | none =>
    rw [storedH_new c] at hx
    rcases List.mem_append.mp hx with h | h
    · exact n x h
    · rw [List.mem_singleton.mp h]; exact ⟨k, rfl, e⟩
  | some p =>
    rw [storedH_old c] at hx
    obtain ⟨y, hy, rfl⟩ := List.mem_map.mp hx
    obtain ⟨k', h1, h2⟩ := n y hy
    unfold putAt
    split
    · exact ⟨k', h1, h2⟩
    · exact ⟨k', h1, h2⟩
theorem NKeys.mono {H H' : Hp} {xs : NE} (n : NKeys H xs) (h : ∀ b ys, H b = some (.tup ys) → H' b = some (.tup ys)) : NKeys H' xs := fun x hx => by
  obtain ⟨k, h1, h2⟩ := n x hx
  exact ⟨k, h1, h _ _ h2⟩
/-- a row's two places -/
def RowK (K : PySem.W.Frag) (H : Hp) (v : V) (k : OK) : Prop := ∃ b ws, v = .ref b ∧ SqT K H b ws ∧ atI ws 3 = some (oV k.1) ∧ atI ws 4 = some (oV k.2)
theorem RowK.mono {K : PySem.W.Frag} {H H' : Hp} {v : V} {k : OK} (r : RowK K H v k) (s : Same H H') : RowK K H' v k := by
  obtain ⟨b, ws, h1, h2, h3⟩ := r
  exact ⟨b, ws, h1, Same.sqT s h2, h3⟩
def lNum (P : Program) (w : World) (K : PySem.W.Frag) : TS :=
  (sSeq (sSet 4 (eTup (aCons (eBin (uIx K) (eVar 3) (eLit (.int 3))) (aCons (eBin (uIx K) (eVar 3) (eLit (.int 4))) aNil))))
  (sSeq (sExp (eMl K (uAppend) (eVar 2) (aCons (eNGet P w (eVar 1) (eVar 4) (eLit (.int 0))) aNil)))
  (sNPut P w (eVar 1) (eVar 4) (eBin (uAdd K) (eNGet P w (eVar 1) (eVar 4) (eLit (.int 0))) (eLit (.int 1))))))
def bNum (P : Program) (w : World) (K : PySem.W.Frag) : TS :=
  (sSeq (sSet 1 (eNNew P w))
  (sSeq (sSet 2 (eLst aNil))
  (sSeq (sFor (cSq K (eVar 0)) (gNm 3) (lNum P w K))
  (sRet (eVar 2)))))
structure spNum (K : PySem.W.Frag) (Γ : Gm) (vs : List V) (H : Hp) (Q : VK) (E : XK) : Prop where
  run : ∃ a us ks, vs = [.ref a] ∧ SqL K H a us ∧ Paired (RowK K H) us ks ∧ ks.length ≤ 100000 ∧ ∀ H' p, Same H H' → H p = none → H' p = some (.lst ((numA [] ks).map fun n : Nat => V.int (n : Nat))) → Q (.ref p) H'
theorem num_loop {P : Program} {w : World} {K : PySem.W.Frag} {H0 : Hp} {a d l : Addr} {us0 : List V} {D : Ends} (sl : SqL K H0 a us0) (nd : H0 d = none) (nl : H0 l = none) (dl : d ≠ l) : ∀ (us : List V) (ks dn : List OK) (xs : NE) (ns : List Nat) (o3 o4 : Option V) (H : Hp),
    Paired (RowK K H0) us ks → Same H0 H → H d = some (.ext (NDict P w d xs)) → H l = some (.lst (ns.map fun n : Nat => V.int (n : Nat))) → NKeys H xs → VAt xs dn → xs.length ≤ dn.length → ns.length = dn.length → dn.length + ks.length ≤ 100000 →
    (∀ H' o3 o4, Same H0 H' → H' l = some (.lst ((ns ++ numA dn ks).map fun n : Nat => V.int (n : Nat))) → D.nx [some (.ref a), some (.ref d), some (.ref l), o3, o4] H') →
    walk (fun H => SqL K H a us0) (gNm 3) (lNum P w K) D us [some (.ref a), some (.ref d), some (.ref l), o3, o4] H
  | [], _, dn, xs, ns, o3, o4, H, r, s, h1, h2, h3, h4, h5, h6, h7, q => by
    cases r
    exact ⟨s.seq sl, q H o3 o4 s (by rw [h2]; simp [numA])⟩
  | u :: us, ks, dn, xs, ns, o3, o4, H, r, s, h1, h2, h3, h4, h5, h6, h7, q => by
    have sz := sz
    cases r with
    | @cons _ k _ ks r rs =>
      obtain ⟨b, ws, rfl, e1, e2, e3⟩ := r
      rw [List.length_cons] at h7
      have e1' := Same.sqT s e1
      refine ⟨s.seq sl, ?_⟩
      have red : gNm 3 (V.ref b) [some (.ref a), some (.ref d), some (.ref l), o3, o4] H (fun σ2 H2 => lNum P w K { D with nx := walk (fun H => SqL K H a us0) (gNm 3) (lNum P w K) D us, ct := walk (fun H => SqL K H a us0) (gNm 3) (lNum P w K) D us, bk := D.nx } σ2 H2) =
        ixR K b 3 H fun x H1 => ixR K b 4 H1 fun y H2 => [x, y].length ≤ sizeLine ∧ ∀ p, H2 p = none → (sSeq (sExp (eMl K (uAppend) (eVar 2) (aCons (eNGet P w (eVar 1) (eVar 4) (eLit (.int 0))) aNil)))
  (sNPut P w (eVar 1) (eVar 4) (eBin (uAdd K) (eNGet P w (eVar 1) (eVar 4) (eLit (.int 0))) (eLit (.int 1))))) { D with nx := walk (fun H => SqL K H a us0) (gNm 3) (lNum P w K) D us, ct := walk (fun H => SqL K H a us0) (gNm 3) (lNum P w K) D us, bk := D.nx } [some (.ref a), some (.ref d), some (.ref l), some (.ref b), some (.ref p)] (upd H2 p (.tup [x, y])) := rfl
      rw [red]
      refine ⟨ws, _, .inr e1', e2, ⟨ws, _, .inr e1', e3, ?_⟩⟩
      refine ⟨by rw [sz]; simp, fun p hp => ?_⟩
      have s1 : Same H (upd H p (.tup [oV k.1, oV k.2])) := Same.new hp
      have pd : d ≠ p := ne_of_none h1 hp
      have pl : l ≠ p := ne_of_none h2 hp
      have g1 : upd H p (.tup [oV k.1, oV k.2]) d = some (.ext (NDict P w d xs)) := s1 _ _ h1
      have g2 := s1 _ _ h2
      have g3 : NKeys (upd H p (.tup [oV k.1, oV k.2])) xs := h3.mono fun b ys e => s1 _ _ e
      have gp : upd H p (.tup [oV k.1, oV k.2]) p = some (.tup [oV k.1, oV k.2]) := upd_same
      -- get, append
      have app : ∀ H2, (∀ c, c ≠ l → H2 c = upd H p (.tup [oV k.1, oV k.2]) c) → H2 l = some (.lst ((ns ++ [dn.count k]).map fun n : Nat => V.int (n : Nat))) → sNPut P w (eVar 1) (eVar 4) (eBin (uAdd K) (eNGet P w (eVar 1) (eVar 4) (eLit (.int 0))) (eLit (.int 1))) { D with nx := walk (fun H => SqL K H a us0) (gNm 3) (lNum P w K) D us, ct := walk (fun H => SqL K H a us0) (gNm 3) (lNum P w K) D us, bk := D.nx } [some (.ref a), some (.ref d), some (.ref l), some (.ref b), some (.ref p)] H2 := fun H2 old new => by
        have i1 : H2 d = some (.ext (NDict P w d xs)) := (old d dl).trans g1
        have ip : H2 p = some (.tup [oV k.1, oV k.2]) := (old p (Ne.symm pl)).trans gp
        have i3 : NKeys H2 xs := g3.mono fun c ys e => (old c (fun z => by rw [z, g2] at e; cases e)).trans e
        have put : ∃ (xs' : NE) (k' : OK), H2 d = some (.ext (NDict P w d xs')) ∧ NKeys H2 xs' ∧ H2 p = some (.tup [oV k'.1, oV k'.2]) ∧ xs'.length < sizeLine ∧ ∀ r, RelV (.int ((dn.count k : Nat) + 1)) r → walk (fun H => SqL K H a us0) (gNm 3) (lNum P w K) D us [some (.ref a), some (.ref d), some (.ref l), some (.ref b), some (.ref p)] (upd H2 d (.ext (NDict P w d (storedH xs' (nk k') p r)))) := by
          refine ⟨xs, k, i1, i3, ip, by rw [sz]; omega, fun r hr => ?_⟩
          obtain ⟨t, rfl⟩ := (show ∃ t, r = Value.int ((dn.count k : Nat) + 1) t from hr)
          have ei : ((dn.count k : Nat) : Int) + 1 = ((dn.count k + 1 : Nat) : Int) := by omega
          rw [ei]
          have hpd : p ≠ d := Ne.symm pd
          refine num_loop sl nd nl dl us ks (dn ++ [k]) _ (ns ++ [dn.count k]) _ _ _ rs ?_ upd_same (by rw [upd_ne (Ne.symm dl)]; exact new) ?_ h4.put ?_ (by simp [h6]) (by rw [List.length_append, List.length_singleton]; omega) fun H' o3 o4 s' e' => q H' o3 o4 s' (by rw [e']; simp [numA])
          · intro c o e
            have c1 : c ≠ d := fun z => by rw [z, nd] at e; cases e
            have c2 : c ≠ l := fun z => by rw [z, nl] at e; cases e
            rw [upd_ne c1, old c c2]
            exact s1 _ _ (s _ _ e)
          · refine nkeys_put ((i3).mono fun c ys e => ?_) (by rw [upd_ne hpd]; exact ip)
            rw [upd_ne (fun z => by rw [z, i1] at e; cases e)]; exact e
          · have := storedH_length xs (nk k) p (Value.int ((dn.count k + 1 : Nat) : Int) t)
            rw [List.length_append, List.length_singleton]; omega
        have red2 : sNPut P w (eVar 1) (eVar 4) (eBin (uAdd K) (eNGet P w (eVar 1) (eVar 4) (eLit (.int 0))) (eLit (.int 1))) { D with nx := walk (fun H => SqL K H a us0) (gNm 3) (lNum P w K) D us, ct := walk (fun H => SqL K H a us0) (gNm 3) (lNum P w K) D us, bk := D.nx } [some (.ref a), some (.ref d), some (.ref l), some (.ref b), some (.ref p)] H2 =
          ((∃ xs, H2 d = some (.ext (NDict P w d xs))) ∧ ∃ (xs : NE) (k : OK), H2 d = some (.ext (NDict P w d xs)) ∧ NKeys H2 xs ∧ H2 p = some (.tup [oV k.1, oV k.2]) ∧ (∀ pp, atKey xs (nk k) = some pp → ∃ v, RelV v pp.2 ∧ uAdd K v (.int 1) H2 fun v H1 => ∃ (xs : NE) (k : OK), H1 d = some (.ext (NDict P w d xs)) ∧ NKeys H1 xs ∧ H1 p = some (.tup [oV k.1, oV k.2]) ∧ xs.length < sizeLine ∧ ∀ r, RelV v r → walk (fun H => SqL K H a us0) (gNm 3) (lNum P w K) D us [some (.ref a), some (.ref d), some (.ref l), some (.ref b), some (.ref p)] (upd H1 d (.ext (NDict P w d (storedH xs (nk k) p r))))) ∧
            (atKey xs (nk k) = none → uAdd K (.int 0) (.int 1) H2 fun v H1 => ∃ (xs : NE) (k : OK), H1 d = some (.ext (NDict P w d xs)) ∧ NKeys H1 xs ∧ H1 p = some (.tup [oV k.1, oV k.2]) ∧ xs.length < sizeLine ∧ ∀ r, RelV v r → walk (fun H => SqL K H a us0) (gNm 3) (lNum P w K) D us [some (.ref a), some (.ref d), some (.ref l), some (.ref b), some (.ref p)] (upd H1 d (.ext (NDict P w d (storedH xs (nk k) p r)))))) := rfl
        rw [red2]
        refine ⟨⟨xs, i1⟩, ?_⟩
        refine ⟨xs, k, i1, i3, ip, fun pp ep => ?_, fun en => ?_⟩
        · obtain ⟨t, et⟩ := h4.1 _ _ ep
          exact ⟨.int (dn.count k : Nat), ⟨t, et⟩, put⟩
        · rw [h4.2 _ en] at put
          exact put
      have red3 : ∀ (D' : Ends) (H1 : Hp) (M : TS), sSeq (sExp (eMl K (uAppend) (eVar 2) (aCons (eNGet P w (eVar 1) (eVar 4) (eLit (.int 0))) aNil))) M D' [some (.ref a), some (.ref d), some (.ref l), some (.ref b), some (.ref p)] H1 =
          ((∃ xs, SqL K H1 l xs) ∧ (∃ xs, H1 d = some (.ext (NDict P w d xs))) ∧ ∃ (xs : NE) (k : OK), H1 d = some (.ext (NDict P w d xs)) ∧ NKeys H1 xs ∧ H1 p = some (.tup [oV k.1, oV k.2]) ∧ (∀ pp, atKey xs (nk k) = some pp → ∃ v, RelV v pp.2 ∧ ∃ ys, H1 l = some (.lst ys) ∧ ys.length < sizeLine ∧ M D' [some (.ref a), some (.ref d), some (.ref l), some (.ref b), some (.ref p)] (upd H1 l (.lst (ys ++ [v])))) ∧ (atKey xs (nk k) = none → ∃ ys, H1 l = some (.lst ys) ∧ ys.length < sizeLine ∧ M D' [some (.ref a), some (.ref d), some (.ref l), some (.ref b), some (.ref p)] (upd H1 l (.lst (ys ++ [.int 0]))))) := fun _ _ _ => rfl
      rw [red3]
      refine ⟨⟨_, SqL.of g2⟩, ⟨xs, g1⟩, xs, k, g1, g3, gp, fun pp ep => ?_, fun en => ?_⟩
      · obtain ⟨t, et⟩ := h4.1 _ _ ep
        refine ⟨.int (dn.count k : Nat), ⟨t, et⟩, _, g2, by rw [List.length_map, sz]; omega, app _ (fun c hc => upd_ne hc) ?_⟩
        rw [upd_same]; simp
      · refine ⟨_, g2, by rw [List.length_map, sz]; omega, app _ (fun c hc => upd_ne hc) ?_⟩
        rw [upd_same, h4.2 _ en]; simp
theorem num_run {P : Program} {w : World} {K : PySem.W.Frag} {Γ : Gm} {vs : List V} {H : Hp} {Q : VK} {E : XK} (h : spNum K Γ vs H Q E) : ∃ a0, vs = [a0] ∧ bNum P w K { nx := fun _ H' => Q .non H', rt := Q } [some a0, none, none, none, none] H := by
  obtain ⟨a, us, ks, rfl, sl, pr, lk, q⟩ := h.run
  have sz := sz
  refine ⟨_, rfl, ?_⟩
  intro d hd
  have red : ∀ (D' : Ends) (H1 : Hp), sSeq (sSet 2 (eLst aNil)) (sSeq (sFor (cSq K (eVar 0)) (gNm 3) (lNum P w K)) (sRet (eVar 2))) D' [some (.ref a), some (.ref d), none, none, none] H1 =
    (([] : List V).length ≤ sizeLine ∧ ∀ l, H1 l = none → sSeq (sFor (cSq K (eVar 0)) (gNm 3) (lNum P w K)) (sRet (eVar 2)) D' [some (.ref a), some (.ref d), some (.ref l), none, none] (upd H1 l (.lst []))) := fun _ _ => rfl
  show sSeq (sSet 2 (eLst aNil)) (sSeq (sFor (cSq K (eVar 0)) (gNm 3) (lNum P w K)) (sRet (eVar 2))) _ [some (.ref a), some (.ref d), none, none, none] _
  rw [red]
  refine ⟨by rw [sz]; simp, fun l hl => ?_⟩
  have dl : d ≠ l := ne_of_none upd_same hl
  have nl : H l = none := by rw [upd_ne (Ne.symm dl)] at hl; exact hl
  have s1 : Same H (upd (upd H d (.ext (NDict P w d []))) l (.lst [])) := (Same.new hd).trans (Same.new hl)
  refine .inl ⟨us, s1.seq sl, ?_⟩
  refine num_loop sl hd nl dl us ks [] [] [] _ _ _ pr s1 (by rw [upd_ne dl, upd_same]) upd_same (fun x hx => by cases hx) ⟨(fun k p e => by cases e), fun k e => rfl⟩ (Nat.le_refl _) rfl (by simpa using lk) fun H' o3 o4 s' e => ?_
  exact q H' l s' nl e
/-! the mirror -/
def oK : AV → Option (Option Str)
  | .non => some none
  | .str s => some (some s)
  | _ => none
def rowK : AV → Option OK
  | .tup [_, _, _, a, b] => match oK a, oK b with
    | some x, some y => some (x, y)
    | _, _ => none
  | _ => none
def rowsK : List AV → Option (List OK)
  | [] => some []
  | x :: r => match rowK x, rowsK r with
    | some k, some ks => some (k :: ks)
    | _, _ => none
def fNum : MF := fun xs h => match xs with
  | [x] => match lsOf h x with
    | some rows => match rowsK rows with
      | some ks => if ks.length ≤ 100000 then .ok (.lst ((numA [] ks).map fun n : Nat => AV.int (n : Nat))) h else .no
      | none => .no
    | none => .no
  | _ => .no
section
variable {K : PySem.W.Frag} {Γ : Gm} {E : XK} {F H : Hp} {φ : List Addr} {h : AH}
theorem oK_ok {x : AV} {v : V} {o : Option Str} (a : AR K F φ x v) (e : oK x = some o) : v = oV o := by
  unfold oK at e
  split at e
  · cases e; exact iNon a
  · cases e; exact iStr a
  · cases e
theorem rowK_ok {x : AV} {v : V} {k : OK} (a : AR K F φ x v) (e : rowK x = some k) : RowK K F v k := by
  unfold rowK at e
  split at e
  · obtain ⟨b, ws, rfl, h1, h2⟩ := iTup a
    split at e
    · rename_i c1 c2
      cases e
      obtain ⟨v0, _, rfl, _, h2⟩ := h2.cons_inv
      obtain ⟨v1, _, rfl, _, h2⟩ := h2.cons_inv
      obtain ⟨v2, _, rfl, _, h2⟩ := h2.cons_inv
      obtain ⟨v3, _, rfl, r3, h2⟩ := h2.cons_inv
      obtain ⟨v4, _, rfl, r4, h2⟩ := h2.cons_inv
      cases h2.nil_inv
      exact ⟨b, _, rfl, h1, by rw [oK_ok r3 c1]; rfl, by rw [oK_ok r4 c2]; rfl⟩
    · cases e
  · cases e
theorem rowsK_ok : ∀ {xs : List AV} {vs : List V} {ks : List OK}, ARs K F φ xs vs → rowsK xs = some ks → Paired (RowK K F) vs ks
  | [], _, _, a, e => by rw [a.nil_inv]; cases e; exact .nil
  | x :: xs, _, _, a, e => by
    obtain ⟨v, ws, rfl, h1, h2⟩ := a.cons_inv
    unfold rowsK at e
    split at e
    · rename_i c1 c2
      cases e
      exact .cons (rowK_ok h1 c1) (rowsK_ok h2 c2)
    · cases e
/-- a list that was made beside things that are not told -/
theorem WR.beside (w : WR K Γ F H φ h) {H' : Hp} {p : Addr} {o : HO} (s : Same H H') (hp : H p = none) (e : H' p = some o) : WR K Γ (upd F p o) H' φ h ∧ Ex F H φ (upd F p o) H' φ := by
  have hF := Same.free w.ff hp
  have live : ∀ n a, φ[n]? = some a → H a ≠ none := fun n a e => w.live (List.mem_of_getElem? e)
  refine ⟨⟨fun b u q => ?_, w.nd, w.ln, fun n a c e1 e2 => ?_⟩, ⟨Same.new hF, .refl, fun a u q _ => ?_, fun a m => .inl m⟩⟩
  · by_cases c : b = p
    · subst c; rw [upd_same] at q; cases q; exact e
    · rw [upd_ne c] at q; exact s _ _ (w.ff _ _ q)
  · have r := w.cl n a c e1 e2
    have l := live n a e1
    have na : a ≠ p := fun z => l (z ▸ hp)
    refine r.mono (Same.new hF) .refl ?_ fun q => by rw [upd_ne na]; exact q
    cases q : H a with
    | none => exact absurd q l
    | some u => exact s _ _ q
  · have na : a ≠ p := fun z => by rw [z, hp] at q; cases q
    exact ⟨s _ _ q, fun q => by rw [upd_ne na]; exact q⟩
theorem Paired.imp2 {α β : Type} {R S : α → β → Prop} (f : ∀ a b, R a b → S a b) : ∀ {l : List α} {m : List β}, Paired R l m → Paired S l m
  | _, _, .nil => .nil
  | _, _, .cons h t => .cons (f _ _ h) (Paired.imp2 f t)
theorem natsARs : ∀ l : List Nat, ARs K F φ (l.map fun n : Nat => AV.int (n : Nat)) (l.map fun n : Nat => V.int (n : Nat))
  | [] => .nil
  | n :: l => .cons aInt (natsARs l)
theorem v_Num : SF K Γ E (spNum K Γ) fNum := ⟨fun {F H φ h xs vs Q} w a o => by
  unfold fNum at o
  split at o
  · obtain ⟨v0, _, rfl, r0, a0⟩ := a.cons_inv
    cases a0.nil_inv
    split at o
    · rename_i e1
      obtain ⟨b, us, rfl, h1, h2⟩ := lsOf_ok w r0 e1
      split at o
      · rename_i e2
        split at o
        · rename_i hl
          refine ⟨⟨b, us, _, rfl, h1, Paired.imp2 (fun v k r => RowK.mono r w.ff) (rowsK_ok h2 e2), hl, fun H' p s hp e => ?_⟩⟩
          obtain ⟨w1, x1⟩ := w.beside s hp e
          exact o.use w1 x1 (aLst upd_same (natsARs _))
        · exact o.elim
      · exact o.elim
    · exact o.elim
  · exact o.elim⟩
end
/-! len of a dict -/
def uLenD (vs : List V) (H : Hp) (Q : VK) : Prop := match vs with
  | [.ref a] => ∃ kvs, H a = some (.dK kvs) ∧ Q (.int kvs.length) H
  | _ => False
theorem bLenD {X : Cx} : CallR X (.builtin "len") uLenD := by
  intro pins s σ H xs us Q I r h
  unfold uLenD at h
  split at h
  · obtain ⟨kvs, h1, q⟩ := h
    exact call_lenD pins s σ H _ us Q I r ⟨_, kvs, rfl, h1, q⟩
  · exact h.elim
def fLenD : MF := fun xs h => match xs with
  | [.id n] => match h[n]? with
    | some (.dct kvs) => .ok (.int kvs.length) h
    | _ => .no
  | _ => .no
theorem wLenD {K : PySem.W.Frag} {Γ : Gm} {E : XK} : SC K Γ E uLenD fLenD := ⟨fun {F H φ h xs vs Q} w a o => by
  unfold fLenD at o
  split at o
  · obtain ⟨v, _, rfl, r0, a0⟩ := a.cons_inv
    cases a0.nil_inv
    split at o
    · rename_i n kvs e
      obtain ⟨b, h1, rfl⟩ := iId r0
      obtain ⟨_, kv, h2, h3⟩ := w.cl _ _ _ h1 e
      have l : kvs.length = kv.length := by
        have := congrArg List.length h3.1
        simpa using this
      refine ⟨kv, h2, ?_⟩
      rw [← l]
      exact o.here w aInt
    · exact o.elim
  · exact o.elim⟩
theorem x_lenD {h : AH} {n : Nat} {kvs : List (Key × AV)} (e : h[n]? = some (.dct kvs)) : fLenD [.id n] h = .ok (.int kvs.length) h := by
  unfold fLenD
  dsimp only
  rw [e]
end Hf
set_option Elab.async false
set_option linter.all false
set_option maxRecDepth 100000
set_option maxHeartbeats 4000000
namespace Hf
open PySem PySem.Spec L2 PyProof.Rows
/-! exceptions that are caught and kept -/
section
variable {P : Program} {w : World} {H : Hp} {h : Heap} {a C : Addr} {d : Option Addr} {oe : Obj} {vs : Array Value}
theorem exX_ok (e : h.get? a = some oe) (z : Zc (.ref C) d oe) (q : oe.data = .fields vs) : ObjOk P w H h a (ExX C d a) :=
  ⟨⟨oe, vs, e, z, q⟩, ⟨oe, e⟩, fun _ _ ⟨o1, v1, e1, r⟩ k => ⟨o1, v1, k _ e1, r⟩⟩
theorem exX_at (ok : HOk P w H h) (e : H a = some (ExX C d a)) : ∃ oe vs, h.get? a = some oe ∧ Zc (.ref C) d oe ∧ oe.data = .fields vs := (show ObjOk P w H h a (ExX C d a) from ok a _ e).1
end
section
variable {X : Cx} {pins : List (Addr × Obj)} {σ : L2.St} {H : Hp} {s : Shared}
/-- a thing that is pinned, and new, comes under the heap that is told -/
theorem adopt {a C : Addr} {d : Option Addr} {oe : Obj} {vs : Array Value} (I : Inv X ((a, oe) :: pins) σ H s) (z : Zc (.ref C) d oe) (q : oe.data = .fields vs) (n0 : X.s_0.heap.get? a = none) (np : ∀ p ∈ X.pn ++ pins, p.1 ≠ a) : Inv X pins σ (upd H a (ExX C d a)) s := by
  have mem : (a, oe) ∈ X.pn ++ (a, oe) :: pins := List.mem_append_right _ List.mem_cons_self
  obtain ⟨ga, na, nl, nf, nc⟩ := I.pin _ mem
  have ne : ∀ {b : Addr} {u : HO}, H b = some u → b ≠ a := fun {b u} e t => by
    rw [t] at e
    exact absurd (na.symm.trans e) (by simp)
  have up : ∀ {b : Addr} {u : HO}, H b = some u → upd H a (ExX C d a) b = some u := fun {b u} e => by rw [upd_ne (ne e)]; exact e
  refine { ok := I.ok, os := I.os, bare := I.bare, base := ⟨I.base.keep, I.base.slot, fun b o e n hx => ?_, I.base.there, fun b xs e => up (I.base.tups b xs e), fun b o u e => up (I.base.frzs b o u e), fun b ps e => ?_⟩, loc := I.loc, cell := I.cell, free := ?_, freeC := fun x c e => ?_, pin := fun p hp => ?_, hok := fun b u e => ?_, len := I.len }
  · have : b ≠ a := fun t => by
      rw [t, n0] at e
      cases e
    rw [upd_ne this]
    exact I.base.free b o e n hx
  · obtain ⟨more, r⟩ := I.base.tbls b ps e
    exact ⟨more, up r⟩
  · rw [upd_ne (Ne.symm nl)]; exact I.free
  · have : c ≠ a := fun t => by
      obtain ⟨v, o', e1, e2⟩ := I.cell x c e
      rw [t, ga] at e1
      cases e1
      exact nc v e2
    rw [upd_ne this]; exact I.freeC x c e
  · have hp' : p ∈ X.pn ++ (a, oe) :: pins := by
      rcases List.mem_append.mp hp with m | m
      · exact List.mem_append_left _ m
      · exact List.mem_append_right _ (List.mem_cons_of_mem _ m)
    obtain ⟨g1, g2, g3, g4, g5⟩ := I.pin p hp'
    exact ⟨g1, by rw [upd_ne (np p hp)]; exact g2, g3, g4, g5⟩
  · by_cases t : b = a
    · subst t
      rw [upd_same] at e
      cases e
      exact exX_ok ga z q
    · rw [upd_ne t] at e
      exact (I.hok b u e).stay (fun _ _ _ r => r) (fun _ r => up r) fun _ _ r => up r
end
/-- what `except x as n: w = n` wishes of the body's exceptions -/
def wKeep (K : PySem.W.Frag) (c : Value) (i j : Nat) (Wout : WX) (D : Ends) : WX := fun cls d σ H =>
  ∃ (C : Addr) (b : Bool), cls = .ref C ∧ PySem.W.exmOne K cls c = some b ∧ (b = true → ∀ a, H a = none → D.nx (((σ.set i (some (.ref a))).set j (some (.ref a))).set i none) (upd H a (ExX C d a))) ∧ (b = false → Wout cls d σ H)
section
variable {X : Cx} {x n : Str} {c : Value} {i j : Nat} {body suite : List Stmt} {b₀ : Stmt} {np pos pos' : Pos} {tb : WX → TS} {Wout : WX}
theorem try_keep (hs : X.stack = X.env :: X.outer) (hf : X.env.frame = some X.env.locals) (hex : X.ex = []) (hN : X.N.Nodup) (hi : X.N[i]? = some n) (hln : X.env.kindOf n = some .local) (hc : Names X x c) (tk : Takes X Wout)
    (hb : ∀ (W : WX) (pn : List (Addr × Obj)) (xe : Value → Shared → Prop), Takes (X.tr pn xe) W → PassesOwn (model X.prog X.w) X.A X.env xe → PSs (X.tr pn xe) body (tb W))
    (hsu : ∀ (a : Addr) (oe : Obj) (pn : List (Addr × Obj)), PSs (X.suite a ((a, oe) :: pn)) (b₀ :: suite) (sSet j (eVar i))) :
    PS X (.Try body [.ExceptHandler (some (.Name x np)) (some n) (b₀ :: suite) pos'] [] [] pos) (fun D σ H => tb (wKeep X.K c i j Wout D) D σ H) := by
  refine ⟨fun pins s σ H D I h => ?_⟩
  have ok := I.ok
  have frames : X.A.frames = some (X.env :: X.outer) := ok.frames.trans (congrArg some hs)
  -- what is wished of an exception in the body
  let M := model X.prog X.w
  let E1 : Value → Shared → Prop := fun e s₁ => wpAny M X.A (noteFrame e X.env) (fun _ s₂ => wpAny M X.A (setFlight e none) (fun _ s₃ => wpAny M X.A (handleBy e X.env [.ExceptHandler (some (.Name x np)) (some n) (b₀ :: suite) pos']) (L2.SP X pins D) X.xe s₃) X.xe s₂) X.xe s₁
  have caught : Takes (X.tr (X.pn ++ pins) E1) (wKeep X.K c i j Wout D) := fun u s' xx => by
    obtain ⟨a, B, sI, pins', σ', H', cls, d, rfl, J', nb, up, sky, na, os, ag, C, b, rfl, m1, yes, no⟩ := xx
    have J : Inv X pins σ' H' sI := J'.ofTry ok
    show wpAny M X.A (noteFrame (.ref a) X.env) _ _ _
    refine Sky.land Zc.steady frames hf (by rw [← hs]; exact sky) fun h3 fl3 up3 => ?_
    have J3 : Inv X pins σ' H' { s' with heap := h3 } := J.landed nb fl3.1 (up.trans up3) os ag
    obtain ⟨o3, v3, g3, z3, d3⟩ := fl3.there
    have notfr : a ∉ frs (X.env :: X.outer) := fun hm => by
      obtain ⟨_, o', e', nf⟩ := fl3.2.2.1.mem hm
      rw [g3] at e'
      cases e'
      exact nf _ d3
    have nL : a ≠ X.env.locals := fun t => notfr (List.mem_filterMap.mpr ⟨X.env, List.mem_cons_self, hf.trans (congrArg some t.symm)⟩)
    have nF : a ∉ X.fs := fun hm => by
      obtain ⟨e, he, q⟩ := List.mem_filterMap.mp hm
      exact notfr (List.mem_filterMap.mpr ⟨e, List.mem_cons_of_mem _ he, q⟩)
    have bn : B.get? a = none := fl3.2.1
    have old : ∀ {t : Addr} {o : Obj}, sI.heap.get? t = some o → t ∉ frs X.stack → t ≠ a := fun {t o} e nf q => by
      have := nb t o e nf
      rw [q, bn] at this
      cases this
    have n0 : X.s_0.heap.get? a = none := by
      cases e : X.s_0.heap.get? a with
      | none => rfl
      | some o =>
        obtain ⟨o', e'⟩ := J.base.there a o e (by rw [hex]; simp)
        exact absurd rfl (old e' (by rw [hs]; exact notfr))
    have np' : ∀ p ∈ X.pn ++ pins, p.1 ≠ a := fun p hp => by
      obtain ⟨p1, _, p3, p4, _⟩ := J.pin p hp
      refine old p1 fun hm => ?_
      rw [hs] at hm
      obtain ⟨e, he, q⟩ := List.mem_filterMap.mp hm
      rcases List.mem_cons.mp he with t | t
      · rw [t, hf] at q
        exact p3 (Option.some.inj q).symm
      · exact p4 (List.mem_filterMap.mpr ⟨e, t, q⟩)
    have S3 := J3.suite g3 d3 na nL nF
    refine wpAny_handleBy_cons (codeAny_handlers_test ?_) (by intro q; cases q)
    have LT : PySem.W.Looks M h3 (typeOf (.ref a)) (.ref C) := fun A Q E s k q => wpAny_typeOf_ref (k _ _ g3) (by rw [z3.1]; exact q)
    have LM := PySem.W.exm_one (M := M) (J3.kIn) LT m1
    have look : ∀ {Q : Value → Shared → Prop} {E : Value → Shared → Prop}, Q c { s' with heap := h3 } → wpAny M (X.A.mark (some (.ref a))) (eval (.Name x np) X.env) Q E { s' with heap := h3 } := fun {Q E} q => by
      obtain ⟨hg, hdbg, t⟩ := hc
      rcases t with hm | ⟨hm, hv, hnn⟩
      · exact ld_glob (X := X.suite a ((a, o3) :: (X.pn ++ pins))) S3 hg hm q hdbg
      · exact ld_blt (X := X.suite a ((a, o3) :: (X.pn ++ pins))) S3 hg hm hv q hnn hdbg
    refine look (LM.here ?_)
    cases b with
    | true =>
      refine codeAny_handlers_suite_as (HandSPX.lands_againZ fl3 fun h4 fl4 up4 => ?_)
      have J4 : Inv X pins σ' H' { s' with heap := h4 } := J.landed nb fl4.1 ((up.trans up3).trans up4) os ag
      obtain ⟨o4, v4, g4, z4, d4⟩ := fl4.there
      have S4 := J4.suite g4 d4 na nL nF
      refine store_ok (X := X.suite a ((a, o4) :: (X.pn ++ pins))) (v := .ref a) S4 hN hi (.inl hln) rfl (fun s5 S5 => ?_) (.inr hln)
      let D6 : Ends := { nx := fun σ6 H6 => σ6 = (σ'.set i (some (.ref a))).set j (some (.ref a)) ∧ H6 = H', rt := fun _ _ => False, bk := fun _ _ => False, ct := fun _ _ => False }
      have hil : i < σ'.length := by rw [J.len]; exact (List.getElem?_eq_some_iff.mp hi).1
      have qs : sSet j (eVar i) D6 (σ'.set i (some (.ref a))) H' := by
        show eVar i (σ'.set i (some (.ref a))) H' _
        unfold eVar
        rw [List.getElem?_set_self hil]
        exact ⟨rfl, rfl⟩
      refine wpAny_mono ((hsu a o4 (X.pn ++ pins)).run [] s5 _ H' D6 S5 qs) (fun f s6 hsp => ?_) (fun _ _ t => False.elim t)
      cases f with
      | next =>
        obtain ⟨σ6, H6, S6, e6, eH⟩ := hsp
        rw [e6, eH] at S6
        have pm : ∀ p ∈ X.pn ++ (a, o4) :: pins, p ∈ (X.suite a ((a, o4) :: (X.pn ++ pins))).pn ++ [] := fun p hp => by
          rw [List.append_nil]
          rcases List.mem_append.mp hp with m | m
          · exact List.mem_cons_of_mem _ (List.mem_append_left _ m)
          · rcases List.mem_cons.mp m with m | m
            · rw [m]; exact List.mem_cons_self
            · exact List.mem_cons_of_mem _ (List.mem_append_right _ m)
        have T6 : Inv X ((a, o4) :: pins) ((σ'.set i (some (.ref a))).set j (some (.ref a))) H' s6 := ⟨ok, S6.os, S6.bare, S6.base, S6.loc, S6.cell, S6.free, S6.freeC, fun p hp => S6.pin p (pm p hp), S6.hok, S6.len⟩
        refine gone_ok T6 hN hi hln fun s7 T7 => ?_
        exact ⟨_, _, adopt T7 z4 d4 n0 np', yes rfl a na⟩
      | brk => obtain ⟨_, _, _, t⟩ := hsp; exact t.elim
      | cont => obtain ⟨_, _, _, t⟩ := hsp; exact t.elim
      | ret u => obtain ⟨_, _, _, _, _, t⟩ := hsp; exact t.elim
    | false =>
      show wpAny M X.A (handleBy (.ref a) X.env []) _ _ _
      refine wpAny_handleBy_nil ?_
      obtain ⟨_, _, _, oe, vs, T, oT, ts', he, hz, hd, h1, hr⟩ := id fl3
      unfold PySem.passOn
      refine wpAny_bind (wpAny_field he hd h1 ?_)
      rw [if_neg (show ¬ ((Value.ref T == Value.none) = true) from by simp)]
      have on_ : wpAny M X.A (setFlight (.ref a) X.env.frame) (fun _ s4 => wpAny M X.A (throw (.ref a) : Sem Flow) (L2.SP X pins D) X.xe s4) X.xe { s' with heap := h3 } := by
        rw [hf]
        refine HandSPX.setFlight_upZ fl3 fun h4 hh4 up4 => wpAny_throw (tk _ _ ?_)
        exact ⟨a, B, sI, pins, σ', H', _, d, rfl, J, nb, (up.trans up3).trans up4, .inr (.inr (by rw [hs]; exact hh4)), na, os, ag, no rfl⟩
      first
        | exact wpAny_bind (wpAny_pure (wpAny_bind on_))
        | exact wpAny_bind on_
  refine wpAny_Try_except (wpAny_mono ((hb (wKeep X.K c i j Wout D) (X.pn ++ pins) E1 caught PassesOwn.looking).run [] s σ H D (I.toTry E1) h) (fun f s1 t => ?_) fun e s1 t => t)
  cases f with
  | next => obtain ⟨σ1, H1, T, q⟩ := t; exact wpAny_execs_nil ⟨σ1, H1, T.ofTry ok, q⟩
  | brk => obtain ⟨σ1, H1, T, q⟩ := t; exact ⟨σ1, H1, T.ofTry ok, q⟩
  | cont => obtain ⟨σ1, H1, T, q⟩ := t; exact ⟨σ1, H1, T.ofTry ok, q⟩
  | ret u => obtain ⟨v, σ1, H1, T, r, q⟩ := t; exact ⟨v, σ1, H1, T.ofTry ok, r, q⟩
end
end Hf
set_option Elab.async false
set_option linter.all false
set_option maxRecDepth 100000
set_option maxHeartbeats 4000000
namespace Hf
open PySem PySem.Spec PyProof.Rows L2
/-! raise of an own error: FlowError.__init__ walked -/
/-- what FlowError.__init__(self, words, place) does -/
def spFi (K : PySem.W.Frag) (vs : List V) (H : Hp) (Q : VK) (E : XK) : Prop := ∃ (a C : Addr) (m p : V), vs = [.ref a, m, p] ∧ OexC K C ∧ PySem.W.findIn K (.ref C) "place" = some none ∧ H a = some (exo a C none) ∧
  ∀ dx, H dx = none → dx ≠ a → Q .non (upd (upd H dx (exd dx [("place", p)])) a (exo a C (some dx)))
def bFi (K : PySem.W.Frag) : TS := sSeq (sExp (tVeI K (aCons (eVar 0) (aCons (eVar 1) aNil)))) (tOst K "place" (eVar 0) (eVar 2))
theorem fi_body {K : PySem.W.Frag} {vs : List V} {H : Hp} {Q : VK} {E : XK} (h : spFi K vs H Q E) : ∃ a0 a1 a2, vs = [a0, a1, a2] ∧ bFi K { nx := fun _ H' => Q .non H', rt := Q } [some a0, some a1, some a2] H := by
  obtain ⟨a, C, m, p, rfl, T, hp, e, q⟩ := h
  exact ⟨_, _, _, rfl, a, C, [m], rfl, by simp, T, e, a, C, rfl, T, hp, .inl ⟨e, fun dx h1 h2 => q dx h1 h2⟩⟩
/-- an error's class, as it is made -/
def Me (P : Program) (w : World) (K : PySem.W.Frag) (mg : Str → Option Value) (base : Heap) (Γ : Gm) (CX : CXT) (k : Nat) (x : Str) : Prop := ∃ fI fd ps, OexC K (Γ x) ∧ PySem.W.findIn K (.ref (Γ x)) "place" = some none ∧
  PySem.W.findIn K (.ref (Γ x)) "__init__" = some (some (.ref fI)) ∧ PySem.W.typeIn K (.ref fI) = some (.type "function") ∧ mg x = some (.ref (Γ x)) ∧ Binds K fd ps [] ∧ FnOk P w K mg base CX k fI fd ps (spFi K)
def sRaise (Γ : Gm) (E : XK) (c : Str) (ta tb : TE) : TS := fun _ σ H => ta σ H fun _ H1 => tb σ H1 fun p H2 => ∀ d, H2 d = none → E (.ref (Γ c)) (some d) (upd H2 d (.xd [("place", p)]))
section
variable {X : Cx} {Γ : Gm} {CX : CXT} {E : XK} {k : Nat} {x : Str} {a b : Expr} {ta tb : TE} {p pos pos' : Pos}
theorem dRaise (F : Me X.prog X.w X.K X.mg X.base Γ CX k x) (hr : Room (k + 1) X.A) (hc : X.calm = true) (tk : Takes X (fun cls d _ H => E cls d H)) (hg : Gl X x) (hx : Passes CX X (fun _ _ _ => False)) (hi : PE X a ta) (hj : PE X b tb)
    (hdb : (x == ("__debug__" : Str)) = false := by decide) (hs0 : starEach [a, b] X.env = (false, eval a X.env) :: starEach [b] X.env := by rfl) (hs1 : starEach [b] X.env = [(false, eval b X.env)] := by rfl) (hpl : (backTo pos (starEach [b] X.env)).any (·.1) = false := by rfl) :
    PS X (.Raise (some (.Call (.Name x p) [a, b] [] pos)) none pos') (sRaise Γ E x ta tb) := by
  obtain ⟨fI, fd, ps, T, hp, iC, tI, hm, hb, F1⟩ := F
  have q := ps_raise (pos := pos') hc tk (pmk_oex (p := p) T iC tI F1 hr hb .nil hx hg hm (kCons (pe_hat hi) (kCons (pe_hat hj) kNil hs1) hs0) hdb hs0 hpl)
  refine ⟨fun pins s σ H D I h => q.run pins s σ H D I ?_⟩
  refine ⟨_, fun v H1 h1 => ⟨_, fun u H2 h2 => ?_, h1⟩, h⟩
  refine ⟨by simp, fun e he => ⟨e, Γ x, v, u, rfl, T, hp, upd_same, fun dx hdx ne => ⟨rfl, dx, [("place", u)], upd_same, ?_, ?_, ?_⟩⟩⟩
  · rw [upd_ne ne, upd_same]
  · rw [upd_ne ne] at hdx; exact hdx
  · have hdx' : H2 dx = none := by rw [upd_ne ne] at hdx; exact hdx
    have eq : upd (del (upd (upd (upd H2 e (exo e (Γ x) none)) dx (exd dx [("place", u)])) e (exo e (Γ x) (some dx))) e) dx (.xd [("place", u)]) = upd H2 dx (.xd [("place", u)]) := by
      funext y
      by_cases c1 : y = dx
      · subst c1; rw [upd_same, upd_same]
      · rw [upd_ne c1, upd_ne c1]
        by_cases c2 : y = e
        · subst c2; rw [del_same, he]
        · rw [del_ne c2, upd_ne c2, upd_ne c1, upd_ne c2]
    rw [eq]
    exact h2 dx hdx'
end
section
variable {K : PySem.W.Frag} {Γ : Gm} {E : XK} {ta tb : TE} {ma mb : EV}
def kRaise1 (c : Str) (y : AV) (h : AH) : Rs Ou := .ex c y h
def kRaise0 (c : Str) (mb : EV) (S : AS) (_x : AV) (h : AH) : Rs Ou := (mb S h).bnd (kRaise1 c)
def mRaise (c : Str) (ma mb : EV) : SV := fun S h => (ma S h).bnd (kRaise0 c mb S)
theorem x_mRaise {c : Str} {S : AS} {h : AH} : mRaise c ma mb S h = (ma S h).bnd (kRaise0 c mb S) := rfl
theorem x_kRaise0 {c : Str} {S : AS} {h : AH} {x : AV} : kRaise0 c mb S x h = (mb S h).bnd (kRaise1 c) := rfl
theorem x_kRaise1 {c : Str} {h : AH} {y : AV} : kRaise1 c y h = .ex c y h := rfl
theorem vRaise {c : Str} (ha : SE K Γ E ta ma) (hb : SE K Γ E tb mb) : SS K Γ E (sRaise Γ E c ta tb) (mRaise c ma mb) := ⟨fun w s o => ha.run w s (o.bnd fun x h1 F1 H1 φ1 v w1 e1 a1 o1 => hb.run w1 (s.to e1) (o1.bnd fun y h2 F2 H2 φ2 u w2 e2 a2 o2 => fun d hd => by
  obtain ⟨w3, e3⟩ := w2.new (o := .xd [("place", u)]) hd
  exact o2 _ _ _ d u w3 e3 upd_same (a2.to e3)))⟩
end
/-! try: what is caught is kept -/
section
variable {K : PySem.W.Frag} {Γ : Gm} {F H : Hp} {φ : List Addr} {h : AH}
/-- a new cell that is not written any more -/
theorem WR.allocF (w : WR K Γ F H φ h) {p : Addr} {o : HO} {c : AC} (hp : H p = none) (hc : CR K Γ (upd F p o) (upd H p o) (φ ++ [p]) p c) : WR K Γ (upd F p o) (upd H p o) (φ ++ [p]) (h ++ [c]) ∧ Ex F H φ (upd F p o) (upd H p o) (φ ++ [p]) := by
  obtain ⟨w1, e1⟩ := w.new (o := o) hp
  have np : ∀ (n : Nat) (b : Addr), φ[n]? = some b → b ≠ p := fun n b h1 z => w.live (List.mem_of_getElem? h1) (z ▸ hp)
  have e : Ex F H φ (upd F p o) (upd H p o) (φ ++ [p]) := ⟨e1.ff, .app, fun b o' h1 h2 => e1.fr b o' h1 h2, fun b hb => by
    rcases List.mem_append.mp hb with z | z
    · exact .inl z
    · rw [List.mem_singleton] at z; subst z; exact .inr hp⟩
  have at_ : ∀ (i : Nat) (b : Addr), (φ ++ [p])[i]? = some b → (i < φ.length ∧ φ[i]? = some b ∧ b ≠ p) ∨ (i = φ.length ∧ b = p) := fun i b h1 => by
    by_cases c1 : i < φ.length
    · rw [List.getElem?_append_left c1] at h1
      exact .inl ⟨c1, h1, np i b h1⟩
    · rw [List.getElem?_append_right (by omega)] at h1
      have l1 := (List.getElem?_eq_some_iff.mp h1).1
      have e1 : b = p := by
        have := List.mem_of_getElem? h1
        simpa using this
      refine .inr ⟨?_, e1⟩
      simp at l1
      omega
  refine ⟨⟨w1.ff, fun i j b h1 h2 => ?_, by simp [w.ln], fun n b c' h1 h2 => ?_⟩, e⟩
  · rcases at_ i b h1 with ⟨_, q1, n1⟩ | ⟨q1, n1⟩ <;> rcases at_ j b h2 with ⟨_, q2, n2⟩ | ⟨q2, n2⟩
    · exact w.nd i j b q1 q2
    · exact absurd n2 n1
    · exact absurd n1 n2
    · rw [q1, q2]
  · rcases at_ n b h1 with ⟨q0, q1, n1⟩ | ⟨q1, n1⟩
    · rw [List.getElem?_append_left (by rw [← w.ln]; exact q0)] at h2
      exact (w1.cl n b c' q1 h2).mono (Same.refl _) .app rfl fun z => z
    · subst n1
      have : c' = c := by
        rw [q1, w.ln, List.getElem?_append_right (Nat.le_refl _), Nat.sub_self] at h2
        exact (Option.some.inj h2).symm
      rw [this]; exact hc
end
/-- of which classes the exceptions are, and whether they are caught -/
def wKeepT (Γ : Gm) (tab : List (Str × Bool)) (i j : Nat) (Wout : WX) (D : Ends) : WX := fun cls d σ H => ∃ t ∈ tab, cls = .ref (Γ t.1) ∧
  (t.2 = true → ∀ a, H a = none → D.nx (((σ.set i (some (.ref a))).set j (some (.ref a))).set i none) (upd H a (ExX (Γ t.1) d a))) ∧ (t.2 = false → Wout cls d σ H)
def sTryT (Γ : Gm) (tab : List (Str × Bool)) (i j : Nat) (Wout : WX) (b : XK → TS) : TS := fun D σ H => b (WE (wKeepT Γ tab i j Wout D) σ) D σ H
theorem takes_le {X : Cx} {W W' : WX} (t : Takes X W) (le : ∀ cls d σ H, W' cls d σ H → W cls d σ H) : Takes X W' := fun u s' x => t u s' (by
  obtain ⟨a, B, sI, pins', σ', H', cls, d, e1, e2, e3, e4, e5, e6, e7, e8, e9⟩ := x
  exact ⟨a, B, sI, pins', σ', H', cls, d, e1, e2, e3, e4, e5, e6, e7, e8, le _ _ _ _ e9⟩)
section
variable {X : Cx} {Γ : Gm} {tab : List (Str × Bool)} {x n : Str} {c : Value} {i j : Nat} {body suite : List Stmt} {b₀ : Stmt} {np pos pos' : Pos} {b : XK → TS} {Wout : WX}
theorem dTry (hs : X.stack = X.env :: X.outer) (hf : X.env.frame = some X.env.locals) (hex : X.ex = []) (hN : X.N.Nodup) (hi : X.N[i]? = some n) (hln : X.env.kindOf n = some .local) (hc : Names X x c) (tk : Takes X Wout)
    (ht : ∀ t ∈ tab, PySem.W.exmOne X.K (.ref (Γ t.1)) c = some t.2)
    (hb : ∀ (W : WX) (pn : List (Addr × Obj)) (xe : Value → Shared → Prop), Takes (X.tr pn xe) W → PassesOwn (model X.prog X.w) X.A X.env xe → PSs (X.tr pn xe) body (fun D σ H => b (WE W σ) D σ H))
    (hsu : ∀ (a : Addr) (oe : Obj) (pn : List (Addr × Obj)), PSs (X.suite a ((a, oe) :: pn)) (b₀ :: suite) (sSet j (eVar i))) :
    PS X (.Try body [.ExceptHandler (some (.Name x np)) (some n) (b₀ :: suite) pos'] [] [] pos) (sTryT Γ tab i j Wout b) := by
  have q := try_keep (tb := fun W D σ H => ∃ W' : WX, (∀ cls d σ H, W' cls d σ H → W cls d σ H) ∧ b (WE W' σ) D σ H) (pos := pos) (np := np) (pos' := pos') (Wout := Wout) (c := c) (j := j) hs hf hex hN hi hln hc tk
    (fun W pn xe tW ps => ⟨fun pins s σ H D I ⟨W', le, h⟩ => (hb W' pn xe (takes_le tW le) ps).run pins s σ H D I h⟩) hsu
  refine ⟨fun pins s σ H D I h => q.run pins s σ H D I ⟨_, ?_, h⟩⟩
  rintro cls d σ1 H1 ⟨t, mt, rfl, h1, h2⟩
  exact ⟨_, t.2, rfl, ht t mt, h1, h2⟩
end
section
variable {K : PySem.W.Frag} {Γ : Gm} {E : XK} {tab : List (Str × Bool)} {i j : Nat} {b : XK → TS} {m : SV}
/-- the mirror of a try whose suite keeps what was caught -/
def mTry (tab : List (Str × Bool)) (i j : Nat) (m : SV) : SV := fun S h => match m S h with
  | .ok o h' => .ok o h'
  | .ex c p h' => if tab.lookup c = some true then .ok (.nx (((S.set i (some (.id h'.length))).set j (some (.id h'.length))).set i none)) (h' ++ [.exc c p]) else if tab.lookup c = some false then .ex c p h' else .no
  | .no => .no
theorem look_mem {tab : List (Str × Bool)} {c : Str} {v : Bool} : tab.lookup c = some v → (c, v) ∈ tab := by
  induction tab with
  | nil => intro h; cases h
  | cons t tab ih =>
    intro h
    rw [List.lookup_cons] at h
    split at h
    · rename_i q
      have q : c = t.1 := by simpa using q
      cases h
      rw [q]; exact List.mem_cons_self
    · exact List.mem_cons_of_mem _ (ih h)
theorem vTry (hb : ∀ E, SS K Γ E (b E) m) : SS K Γ E (sTryT Γ tab i j (fun cls d _ H => E cls d H) b) (mTry tab i j m) := ⟨fun {F H φ h σ S D} w s o => (hb _).run w s (by
  unfold mTry at o
  cases r : m S h with
  | no => rw [r] at o; exact o
  | ok u h' => rw [r] at o; exact o
  | ex c p h' =>
    rw [r] at o
    dsimp only at o
    intro F' H' φ' d v w' e' hd a'
    by_cases q1 : tab.lookup c = some true
    · rw [if_pos q1] at o
      refine ⟨(c, true), look_mem q1, rfl, fun _ a ha => ?_, fun z => by cases z⟩
      obtain ⟨w2, e2⟩ := w'.allocF (o := ExX (Γ c) (some d) a) (c := .exc c p) ha ⟨d, v, upd_same, by
        rw [upd_ne (fun z => by
          have := w'.ff _ _ hd
          rw [z, ha] at this; cases this)]
        exact hd, a'.mono (by
          have hF := Same.free w'.ff ha
          exact Same.new hF) .app⟩
      have e3 := e'.trans e2
      have al : AR K (upd F' a (ExX (Γ c) (some d) a)) (φ' ++ [a]) (.id h'.length) (.ref a) := aId (by rw [← w'.ln, List.getElem?_append_right (Nat.le_refl _), Nat.sub_self]; rfl)
      exact o _ _ _ w2 e3 _ (SR.wipe (((s.to e3).set al).set al) [i])
    · rw [if_neg q1] at o
      by_cases q2 : tab.lookup c = some false
      · rw [if_pos q2] at o
        exact ⟨(c, false), look_mem q2, rfl, (fun z => by cases z), fun _ => o _ _ _ d v w' e' hd a'⟩
      · rw [if_neg q2] at o; exact o.elim)⟩
end
end Hf
set_option Elab.async false
set_option linter.all false
set_option maxRecDepth 100000
set_option maxHeartbeats 4000000
namespace Hf
open PySem PySem.Spec PyProof.Rows L2
/-! a kept exception: its class asked, its place read -/
section
variable {X : Cx} {H : Hp} {s : Shared} {pins : List (Addr × Obj)} {σ : L2.St} {a C dd : Addr} {fs : List (Str × V)}
theorem exX_inst (I : Inv X pins σ H s) (e : H a = some (ExX C (some dd) a)) (ed : H dd = some (.xd fs)) : ∃ (oe od : Obj) (mA : Str → Option Value), PySem.W.InstAt s.heap a oe C (some od) ∧ (∀ n, PySem.W.lookIn n od = some (mA n)) ∧ ∀ n, RelO (fs.lookup n) (mA n) := by
  obtain ⟨oe, vs, ha, hz, hd⟩ := exX_at I.hok e
  have hx : ObjOk X.prog X.w H s.heap dd (.xd fs) := I.hok dd _ ed
  obtain ⟨mA, hns, hr⟩ := hx
  obtain ⟨od, ho, hl⟩ := lookIn_ns hns
  exact ⟨oe, od, mA, ⟨ha, hz.1, by unfold PySem.W.notCls; rw [hd] <;> rfl, by rw [hz.2]; exact ho⟩, hl, hr⟩
end
def rIsX (K : PySem.W.Frag) : List V → Hp → VK → Prop := fun xs H Q => ∃ (a C dd : Addr) (fs : List (Str × V)) (c : V) (cv : Value) (b : Bool), xs = [.ref a, c] ∧ ExcC K C ∧ H a = some (ExX C (some dd) a) ∧ H dd = some (.xd fs) ∧ (∀ u, RelV c u → u = cv) ∧ PySem.W.kitOne K (.ref C) cv = some b ∧ Q (.bl b) H
theorem call_isX {X : Cx} : CallR X (.builtin "isinstance") (rIsX X.K) := by
  intro pins s σ H xs us Q I r h
  obtain ⟨a, C, dd, fs, c, cv, b, rfl, T, e1, e2, hcv, e, q⟩ := h
  cases r with
  | cons rx rr =>
    cases rr with
    | cons rt rr =>
      cases rr
      cases rx
      have ec := hcv _ rt
      subst ec
      obtain ⟨oe, od, mA, J, _, _⟩ := exX_inst I e1 e2
      have hcl : (PySem.W.clsIn X.K C).isSome = true := by
        obtain ⟨cd, hc, _⟩ := PySem.W.any_some T.hd
        rw [hc]; rfl
      exact PySem.W.kia_one (PySem.W.kitx_exc hcl T.hg T.hk T.hs T.ha T.hn T.ht T.hm) I.kIn J e (fun z => nomatch z) fun tk => ⟨.bl b, H, I.kept (t' := tk) fun _ _ z => z, rfl, q⟩
theorem callR_or {X : Cx} {f : Value} {r1 r2 : List V → Hp → VK → Prop} (h1 : CallR X f r1) (h2 : CallR X f r2) : CallR X f (fun xs H Q => r1 xs H Q ∨ r2 xs H Q) := fun pins s σ H xs us Q I r h => h.elim (h1 pins s σ H xs us Q I r) (h2 pins s σ H xs us Q I r)
/-- isinstance(x, d) of None or of a kept exception -/
def eIsX (Γ : Gm) (tab : List (Str × Bool)) (ta : TE) (σ : L2.St) (H : Hp) (Q : VK) : Prop := ta σ H fun x H1 => (x = .non ∧ Q (.bl false) H1) ∨ ∃ a, x = .ref a ∧ ∃ c ∈ tab, ∃ dd fs, H1 a = some (ExX (Γ c.1) (some dd) a) ∧ H1 dd = some (.xd fs) ∧ Q (.bl c.2) H1
/-- x.place of a kept exception -/
def eXp (Γ : Gm) (cs : List Str) (f : Str) (ta : TE) (σ : L2.St) (H : Hp) (Q : VK) : Prop := ta σ H fun x H1 => asRef x fun a => ∃ c ∈ cs, ∃ dd fs v, H1 a = some (ExX (Γ c) (some dd) a) ∧ H1 dd = some (.xd fs) ∧ fs.lookup f = some v ∧ Q v H1
section
variable {X : Cx} {a : Expr} {ta : TE} {p p2 pos : Pos} {Γ : Gm} {d : Str} {tab : List (Str × Bool)} {cs : List Str} {f : Str}
theorem dIsX (md : X.mg d = some (.ref (Γ d))) (kn : PySem.W.kitOne X.K (.type "NoneType") (.ref (Γ d)) = some false) (kt : ∀ c ∈ tab, ExcC X.K (Γ c.1) ∧ PySem.W.kitOne X.K (.ref (Γ c.1)) (.ref (Γ d)) = some c.2)
    (hg : Gl X "isinstance") (hm : X.mg "isinstance" = none) (hv : bootBuiltins "isinstance" = some (.builtin "isinstance")) (ha : PE X a ta) (hgd : Gl X d := by rfl)
    (he : starEach [a, .Name d p2] X.env = (false, eval a X.env) :: starEach [.Name d p2] X.env := by rfl) (he2 : starEach [.Name d p2] X.env = (false, eval (.Name d p2) X.env) :: starEach [] X.env := by rfl) (hpl : (backTo pos (starEach [.Name d p2] X.env)).any (·.1) = false := by rfl) (hdb : (d == ("__debug__" : Str)) = false := by decide) :
    PE X (.Call (.Name "isinstance" p) [a, .Name d p2] [] pos) (eIsX Γ tab ta) := by
  refine pe_w (dBlt (callR_or call_isi call_isX) hg hm hv (kCons (pe_hat ha) (kCons (dGl (v := .ref (Γ d)) hgd md rfl hdb) kNil he2) he) (by decide) (by decide) he hpl) fun σ H Q h => ?_
  refine ⟨_, fun x H1 q => ?_, h⟩
  rcases q with ⟨rfl, q⟩ | ⟨a, rfl, c, hc, dd, fs, h1, h2, q⟩
  · exact .inl ⟨_, _, _, _, false, rfl, .own _, .base .non, kn, q⟩
  · obtain ⟨T, e⟩ := kt c hc
    exact .inr ⟨a, Γ c.1, dd, fs, _, .ref (Γ d), c.2, rfl, T, h1, h2, fun u r => r, e, q⟩
theorem dXp {pos' : Pos} (kt : ∀ c ∈ cs, XfC X.K (Γ c) ∧ PySem.W.findIn X.K (.ref (Γ c)) f = some none) (ha : PE X a ta) (hb : attributeBase a f X.env (eval a X.env) = eval a X.env := by rfl) : PE X (.Attribute a f pos') (eXp Γ cs f ta) := by
  refine ⟨fun pins s σ H Q I h => ?_⟩
  refine attr_of hb (thn (ha.run pins s σ H _ I h) fun u s1 hh => ?_)
  obtain ⟨x, H1, I1, rx, hh⟩ := hh
  obtain ⟨a, rfl, c, hc, dd, fs, v, e1, e2, l, q⟩ := asRef_of hh
  obtain rfl : u = Value.ref a := rx
  obtain ⟨T, hno⟩ := kt c hc
  obtain ⟨oe, od, mA, J, hl, hr⟩ := exX_inst I1 e1 e2
  obtain ⟨u, hu, ru⟩ := RelO.some_of (v := v) (o := mA f) (by rw [← l]; exact hr f)
  exact HandSPX.exc_get I1.kIn J T.ga T.gg T.exC (PySem.W.findObj_own T.hdC hno rfl (by rw [hl, hu])) (handed_of ru) ⟨v, H1, I1.tok _, ru, q⟩
end
end Hf
set_option Elab.async false
set_option linter.all false
set_option maxRecDepth 100000
set_option maxHeartbeats 4000000
namespace Hf
open PySem PySem.Spec PyProof.Rows L2
/-! mirrors of isinstance and .place of a kept exception -/
section
variable {K : PySem.W.Frag} {Γ : Gm} {E : XK} {tab : List (Str × Bool)} {cs : List Str} {ta : TE} {ma : EV}
def kIsX (tab : List (Str × Bool)) (x : AV) (h : AH) : Rs AV := match x with
  | .non => .ok (.bl false) h
  | .id n => match h[n]? with
    | some (.exc c p) => match tab.lookup c with
      | some b => .ok (.bl b) h
      | none => .no
    | _ => .no
  | _ => .no
def mIsX (tab : List (Str × Bool)) (ma : EV) : EV := fun S h => (ma S h).bnd (kIsX tab)
theorem x_mIsX {S : AS} {h : AH} : mIsX tab ma S h = (ma S h).bnd (kIsX tab) := rfl
theorem x_isxN {h : AH} : kIsX tab .non h = .ok (.bl false) h := rfl
theorem x_isx {h : AH} {n : Nat} {c : Str} {p : AV} {b : Bool} (e : h[n]? = some (.exc c p)) (q : tab.lookup c = some b) : kIsX tab (.id n) h = .ok (.bl b) h := by unfold kIsX; dsimp only; rw [e]; dsimp only; rw [q]
theorem vIsX (ha : SE K Γ E ta ma) : SE K Γ E (eIsX Γ tab ta) (mIsX tab ma) := ⟨fun w s o => ha.run w s (o.bnd fun x h1 F1 H1 φ1 v w1 e1 a1 o1 => by
  unfold kIsX at o1
  split at o1
  · rw [iNon a1]
    exact .inl ⟨rfl, o1.here w1 aBl⟩
  · rename_i n
    split at o1
    · rename_i c p hc
      split at o1
      · rename_i b hb
        obtain ⟨a, hn, rfl⟩ := iId a1
        obtain ⟨dd, u, g1, g2, _⟩ := w1.cl _ _ _ hn hc
        exact .inr ⟨a, rfl, (c, b), look_mem hb, dd, _, w1.ff _ _ g1, w1.ff _ _ g2, o1.here w1 aBl⟩
      · exact o1.elim
    · exact o1.elim
  · exact o1.elim)⟩
def kXp (cs : List Str) (x : AV) (h : AH) : Rs AV := match x with
  | .id n => match h[n]? with
    | some (.exc c p) => if c ∈ cs then .ok p h else .no
    | _ => .no
  | _ => .no
def mXp (cs : List Str) (ma : EV) : EV := fun S h => (ma S h).bnd (kXp cs)
theorem x_mXp {S : AS} {h : AH} : mXp cs ma S h = (ma S h).bnd (kXp cs) := rfl
theorem x_xp {h : AH} {n : Nat} {c : Str} {p : AV} (e : h[n]? = some (.exc c p)) (q : c ∈ cs) : kXp cs (.id n) h = .ok p h := by unfold kXp; dsimp only; rw [e]; exact if_pos q
theorem vXp (ha : SE K Γ E ta ma) : SE K Γ E (eXp Γ cs "place" ta) (mXp cs ma) := ⟨fun w s o => ha.run w s (o.bnd fun x h1 F1 H1 φ1 v w1 e1 a1 o1 => by
  unfold kXp at o1
  split at o1
  · rename_i n
    split at o1
    · rename_i c p hc
      split at o1
      · rename_i m
        obtain ⟨a, hn, rfl⟩ := iId a1
        obtain ⟨dd, u, g1, g2, g3⟩ := w1.cl _ _ _ hn hc
        exact ⟨c, m, dd, _, u, w1.ff _ _ g1, w1.ff _ _ g2, rfl, o1.here w1 g3⟩
      · exact o1.elim
    · exact o1.elim
  · exact o1.elim)⟩
/-- the slots of a try that went well, or was met -/
theorem x_mTry {tab : List (Str × Bool)} {i j : Nat} {m : SV} {S : AS} {h h' : AH} {o : Ou} (e : m S h = .ok o h') : mTry tab i j m S h = .ok o h' := by unfold mTry; rw [e]
theorem x_mTryX {tab : List (Str × Bool)} {i j : Nat} {m : SV} {S : AS} {h h' : AH} {c : Str} {p : AV} (e : m S h = .ex c p h') (q : tab.lookup c = some true) :
    mTry tab i j m S h = .ok (.nx (((S.set i (some (.id h'.length))).set j (some (.id h'.length))).set i none)) (h' ++ [.exc c p]) := by unfold mTry; rw [e]; dsimp only; rw [if_pos q]
end
end Hf
set_option Elab.async false
set_option linter.all false
set_option maxRecDepth 100000
set_option maxHeartbeats 4000000
namespace Hf
open PySem PySem.Spec PyProof.Rows L2
/-! calls within a try's body, and what an end needs -/
section
variable {X : Cx} {CX : CXT} {k : Nat} {sp : Sp} {E : L2.St → XK} {x : Str} {ps : List Str} {e : Expr} {es : List Expr} {tes : TA} {p pos : Pos}
/-- a call whose exceptions may be told by the slots (a try's body) -/
theorem dFnS (F : Fn X.prog X.w X.K X.mg X.base CX k x ps sp) (hr : Room k X.A) (hg : Gl X x) (hx : ∀ σ, PassesAt CX X σ (E σ)) (ha : PA X (e :: es) tes)
    (hdb : (x == ("__debug__" : Str)) = false := by decide) (he : starEach (e :: es) X.env = (false, eval e X.env) :: starEach es X.env := by rfl) (hpl : (backTo pos (starEach es X.env)).any (·.1) = false := by rfl) :
    PE X (.Call (.Name x p) (e :: es) [] pos) (tCallS sp E tes) := by
  obtain ⟨f, fd, g1, g2, g3, g4⟩ := F
  exact pe_callS g4 hr hg g1 g2 g3 hx ha hdb he hpl
/-- an exception class by its name -/
theorem names_own {C : Addr} (hg : Gl X x) (hm : X.mg x = some (.ref C)) (hd : (x == ("__debug__" : Str)) = false := by decide) : Names X x (.ref C) := ⟨hg, hd, .inl hm⟩
end
/-- FlowError.__init__ as a def of its own -/
abbrev spFlow (K : PySem.W.Frag) (_Γ : Gm) : Sp := spFi K
def mFlow : MF := fun _ _ => .no
theorem v_Flow {K : PySem.W.Frag} {Γ : Gm} {E : XK} : SF K Γ E (spFlow K Γ) mFlow := ⟨fun _ _ o => o.elim⟩
theorem flow_run {P : Program} {w : World} {K : PySem.W.Frag} {vs : List V} {H : Hp} {Q : VK} {E : XK} (h : spFi K vs H Q E) : ∃ t : V × V × V, vs = [t.1, t.2.1, t.2.2] ∧ bFi K { nx := fun _ H' => Q .non H', rt := Q } [some t.1, some t.2.1, some t.2.2] H := by
  obtain ⟨a0, a1, a2, e, q⟩ := fi_body h
  exact ⟨(a0, a1, a2), e, q⟩
/-- at the end: nothing is let out -/
theorem cx_none {P : Program} {w : World} {outer : List Env} {H : Hp} {s s' : Shared} {e : Value} (h : L2.CX P w outer H s (fun _ _ _ => False) e s') : False := by
  obtain ⟨_, _, _, _, _, _, _, _, _, _, _, _, z⟩ := h
  exact z
/-! facts of a class of errors -/
theorem oex_mk {K : PySem.W.Frag} {C : Addr} {nm q N bs bm sn sub ab col dd k0 k1 k2 k3 k5} (h1 : K.lookup C = some (excClassObj nm q C N bs bm true sn sub ab col dd k0 k1 k2 k3 k5 "ValueError.__new__")) (h2 : PySem.HandSPX.refsVE bm = true)
    (h3 : PySem.W.findIn K (.ref C) "__setattr__" = some (some (.builtin "object.__setattr__"))) (h4 : PySem.W.subIn K (.ref C) (.type "BaseException") = some true) (h5 : PySem.W.typeIn K (.ref C) = some (.type "type")) (h6 : PySem.W.keepIn K (.ref C) = true) : OexC K C :=
  ⟨⟨nm, q, N, bs, bm, sn, sub, ab, col, dd, k0, k1, k2, k3, k5, h1, h2⟩, h3, h4, h5, h6⟩
/-- a table of classes: each caught or not -/
def CatT (K : PySem.W.Frag) (Γ : Gm) (c : Value) (tab : List (Str × Bool)) : Prop := ∀ t ∈ tab, PySem.W.exmOne K (.ref (Γ t.1)) c = some t.2
theorem CatT.nil {K : PySem.W.Frag} {Γ : Gm} {c : Value} : CatT K Γ c [] := fun _ h => nomatch h
theorem CatT.cons {K : PySem.W.Frag} {Γ : Gm} {C : Addr} {x : Str} {b : Bool} {tab : List (Str × Bool)} (h1 : PySem.W.subIn K (.ref C) (.type "BaseException") = some true) (hdct : PySem.W.hasDictIn K C = true) (ht : PySem.W.typeIn K (.ref C) = some (.type "type"))
    (h4 : PySem.W.subIn K (.ref (Γ x)) (.ref C) = some b) (h : CatT K Γ (.ref C) tab) : CatT K Γ (.ref C) ((x, b) :: tab) := fun t ht' => by
  rcases List.mem_cons.mp ht' with rfl | m
  · exact PySem.W.exm_ref h1 hdct ht h4
  · exact h t m
/-- a table of classes: each an instance's class that is asked -/
def IsxT (K : PySem.W.Frag) (Γ : Gm) (c : Value) (tab : List (Str × Bool)) : Prop := ∀ t ∈ tab, ExcC K (Γ t.1) ∧ PySem.W.kitOne K (.ref (Γ t.1)) c = some t.2
theorem IsxT.nil {K : PySem.W.Frag} {Γ : Gm} {c : Value} : IsxT K Γ c [] := fun _ h => nomatch h
theorem IsxT.cons {K : PySem.W.Frag} {Γ : Gm} {c : Value} {x : Str} {b : Bool} {tab : List (Str × Bool)} (h1 : ExcC K (Γ x)) (h2 : PySem.W.kitOne K (.ref (Γ x)) c = some b) (h : IsxT K Γ c tab) : IsxT K Γ c ((x, b) :: tab) := fun t ht => by
  rcases List.mem_cons.mp ht with rfl | m
  · exact ⟨h1, h2⟩
  · exact h t m
section
variable {X : Cx} {a : Expr} {ta : TE} {p p2 pos : Pos} {Γ : Gm} {tab : List (Str × Bool)}
/-- isinstance(x, ValueError) -/
theorem dIsXV (mv : X.mg "ValueError" = none) (kn : PySem.W.kitOne X.K (.type "NoneType") (.type "ValueError") = some false) (kt : IsxT X.K Γ (.type "ValueError") tab)
    (hg : Gl X "isinstance") (hm : X.mg "isinstance" = none) (hv : bootBuiltins "isinstance" = some (.builtin "isinstance")) (ha : PE X a ta) (hgd : Gl X "ValueError" := by rfl)
    (he : starEach [a, .Name "ValueError" p2] X.env = (false, eval a X.env) :: starEach [.Name "ValueError" p2] X.env := by rfl) (he2 : starEach [.Name "ValueError" p2] X.env = (false, eval (.Name "ValueError" p2) X.env) :: starEach [] X.env := by rfl) (hpl : (backTo pos (starEach [.Name "ValueError" p2] X.env)).any (·.1) = false := by rfl) :
    PE X (.Call (.Name "isinstance" p) [a, .Name "ValueError" p2] [] pos) (eIsX Γ tab ta) := by
  refine pe_w (dBlt (callR_or call_isi call_isX) hg hm hv (kCons (pe_hat ha) (kCons (dTy (n := "ValueError") hgd mv (by decide +kernel) (by decide) (by decide)) kNil he2) he) (by decide) (by decide) he hpl) fun σ H Q h => ?_
  refine ⟨_, fun x H1 q => ?_, h⟩
  rcases q with ⟨rfl, q⟩ | ⟨a, rfl, c, hc, dd, fs, h1, h2, q⟩
  · exact .inl ⟨_, _, _, _, false, rfl, .ty _, .base .non, kn, q⟩
  · obtain ⟨T, e⟩ := kt c hc
    exact .inr ⟨a, Γ c.1, dd, fs, _, .type "ValueError", c.2, rfl, T, h1, h2, fun u r => r, e, q⟩
end
/-! walking where an error is on its way -/
section
variable {α β : Type} {c : Str} {p y : AV} {h h0 h1 : AH} {xs ys : List AV}
theorem b_ex {k : α → AH → Rs β} : (Rs.ex c p h : Rs α).bnd k = .ex c p h := rfl
theorem t_ex {m : SV} : (Rs.ex c p h : Rs Ou).thn m = .ex c p h := rfl
theorem l_ex {m : SV} : (Rs.ex c p h : Rs Ou).lp m = .ex c p h := rfl
theorem o_ex : ouR (.ex c p h) = .ex c p h := rfl
theorem x_callPX {m : MF} {v : AV} (e1 : clArgs h xs = some (ys, h1)) (e2 : m ys [] = .ex c y h0) (e3 : avOf h0 y = some v) : kCallP m xs h = .ex c v h1 := by unfold kCallP; rw [e1]; dsimp only; rw [e2]; unfold fin; dsimp only; rw [e3]
theorem x_pureX {m : MF} (q : cls xs = true) (e2 : m xs [] = .ex c y h0) (q2 : cl y = true) : kCallP m xs h = .ex c y h := x_callPX (ca_all q) e2 (avOf_cl q2)
end
end Hf
set_option Elab.async false
set_option linter.all false
set_option maxRecDepth 100000
set_option maxHeartbeats 4000000
namespace Hf
open PySem PySem.Spec PyProof.Rows L2
/-! isinstance(x, (C1, C2, ..)) of None or of a kept exception, all classes own ones -/
def rIsXT (K : PySem.W.Frag) : List V → Hp → VK → Prop := fun xs H Q => ∃ (a C dd tp : Addr) (fs : List (Str × V)) (cs : List V) (us : List Value) (b : Bool), xs = [.ref a, .ref tp] ∧ H tp = some (.tup cs) ∧ Paired ClsV cs us ∧ ExcC K C ∧ H a = some (ExX C (some dd) a) ∧ H dd = some (.xd fs) ∧ PySem.W.kitAny K (.ref C) us = some b ∧ Q (.bl b) H
theorem call_isXT {X : Cx} : CallR X (.builtin "isinstance") (rIsXT X.K) := by
  intro pins s σ H xs us Q I r h
  obtain ⟨a, C, dd, tp, fs, cs, ws, b, rfl, hT, k, T, e1, e2, e, q⟩ := h
  obtain ⟨u1, u2, rfl, r1, r2⟩ := vals2 r
  cases (show u2 = Value.ref tp from r2)
  cases (show u1 = Value.ref a from r1)
  obtain ⟨oe, od, mA, J, _, _⟩ := exX_inst I e1 e2
  have hcl : (PySem.W.clsIn X.K C).isSome = true := by
    obtain ⟨cd, hc, _⟩ := PySem.W.any_some T.hd
    rw [hc]; rfl
  obtain ⟨_, its, rv, o, h1, h2, n, h3⟩ := (show ObjOk X.prog X.w H s.heap tp (.tup cs) from I.hok tp _ hT)
  have e3 := ClsV.all k rv
  subst e3
  obtain ⟨oc, od', dt, sl⟩ := o
  simp only at h2 h3
  subst h2 h3
  exact PySem.W.kia_tup (PySem.W.kitx_exc hcl T.hg T.hk T.hs T.ha T.hn T.ht T.hm) I.kIn J h1 e (fun z => nomatch z) fun tk => ⟨.bl b, H, I.tok tk, rfl, q⟩
def clsVs (Γ : Gm) (ds : List Str) : List V := ds.map fun d => .ref (Γ d)
def eIsXT (Γ : Gm) (ds : List Str) (tab : List (Str × Bool)) (ta : TE) (σ : L2.St) (H : Hp) (Q : VK) : Prop := ta σ H fun x H1 => ∀ tp, H1 tp = none → (x = .non ∧ Q (.bl false) (upd H1 tp (.tup (clsVs Γ ds)))) ∨
  ∃ a, x = .ref a ∧ ∃ c ∈ tab, ∃ dd fs, H1 a = some (ExX (Γ c.1) (some dd) a) ∧ H1 dd = some (.xd fs) ∧ Q (.bl c.2) (upd H1 tp (.tup (clsVs Γ ds)))
/-- for each class of the table: whether it is one of ds -/
def IsxTT (K : PySem.W.Frag) (Γ : Gm) (ds : List Str) (tab : List (Str × Bool)) : Prop := PySem.W.kitAny K (.type "NoneType") (ds.map fun d => .ref (Γ d)) = some false ∧ ∀ t ∈ tab, ExcC K (Γ t.1) ∧ PySem.W.kitAny K (.ref (Γ t.1)) (ds.map fun d => .ref (Γ d)) = some t.2
theorem paired_cls {Γ : Gm} : ∀ {ds : List Str}, Paired ClsV (clsVs Γ ds) (ds.map fun d => Value.ref (Γ d))
  | [] => .nil
  | _ :: _ => .cons (.own _) paired_cls
section
variable {X : Cx} {a b : Expr} {ta tt : TE} {p pos : Pos} {Γ : Gm} {ds : List Str} {tab : List (Str × Bool)}
theorem dIsXT (kt : IsxTT X.K Γ ds tab) (hg : Gl X "isinstance") (hm : X.mg "isinstance" = none) (hv : bootBuiltins "isinstance" = some (.builtin "isinstance")) (ha : PE X a ta) (hb : PE X b tt)
    (hT : ∀ σ H (Q : VK), (∀ tp, H tp = none → Q (.ref tp) (upd H tp (.tup (clsVs Γ ds)))) → tt σ H Q)
    (he : starEach [a, b] X.env = (false, eval a X.env) :: starEach [b] X.env := by rfl) (he2 : starEach [b] X.env = (false, eval b X.env) :: starEach [] X.env := by rfl) (hpl : (backTo pos (starEach [b] X.env)).any (·.1) = false := by rfl) :
    PE X (.Call (.Name "isinstance" p) [a, b] [] pos) (eIsXT Γ ds tab ta) := by
  refine pe_w (dBlt (callR_or call_isiT call_isXT) hg hm hv (kCons (pe_hat ha) (kCons hb kNil he2) he) (by decide) (by decide) he hpl) fun σ H Q h => ?_
  refine ⟨_, fun x H1 q => hT σ H1 _ fun tp htp => ?_, h⟩
  rcases q tp htp with ⟨rfl, q2⟩ | ⟨a, rfl, c, hc, dd, fs, h1, h2, q2⟩
  · exact .inl ⟨_, tp, clsVs Γ ds, _, _, false, rfl, upd_same, paired_cls, .base .non, kt.1, q2⟩
  · obtain ⟨T, e⟩ := kt.2 c hc
    have n1 : a ≠ tp := fun z => by rw [z, htp] at h1; cases h1
    have n2 : dd ≠ tp := fun z => by rw [z, htp] at h2; cases h2
    exact .inr ⟨a, Γ c.1, dd, tp, fs, clsVs Γ ds, _, c.2, rfl, upd_same, paired_cls, T, by rw [upd_ne n1]; exact h1, by rw [upd_ne n2]; exact h2, e, q2⟩
end
section
variable {K : PySem.W.Frag} {Γ : Gm} {E : XK} {ds : List Str} {tab : List (Str × Bool)} {ta : TE} {ma : EV}
theorem vIsXT (ha : SE K Γ E ta ma) : SE K Γ E (eIsXT Γ ds tab ta) (mIsX tab ma) := ⟨fun w s o => ha.run w s (o.bnd fun x h1 F1 H1 φ1 v w1 e1 a1 o1 tp htp => by
  obtain ⟨w2, e2⟩ := w1.new (o := .tup (clsVs Γ ds)) htp
  unfold kIsX at o1
  split at o1
  · rw [iNon a1]
    exact .inl ⟨rfl, o1.use w2 e2 aBl⟩
  · rename_i n
    split at o1
    · rename_i c p hc
      split at o1
      · rename_i b hb
        obtain ⟨a, hn, rfl⟩ := iId a1
        obtain ⟨dd, u, g1, g2, _⟩ := w1.cl _ _ _ hn hc
        exact .inr ⟨a, rfl, (c, b), look_mem hb, dd, _, w1.ff _ _ g1, w1.ff _ _ g2, o1.use w2 e2 aBl⟩
      · exact o1.elim
    · exact o1.elim
  · exact o1.elim)⟩
end
end Hf
set_option Elab.async false
set_option linter.all false
set_option maxRecDepth 100000
set_option maxHeartbeats 4000000
namespace Hf
open PySem PySem.Spec PyProof.Rows L2
/-! a call with defaults in a try's body; except X as n: w = n.place -/
section
variable {X : Cx} {CX : CXT} {k : Nat} {sp : Sp} {E : L2.St → XK} {x : Str} {ps : List Str} {dvs : List V} {e : Expr} {es : List Expr} {tes : TA} {p pos : Pos}
theorem dFnDS (F : FnD X.prog X.w X.K X.mg X.base CX k x ps dvs sp) (hr : Room k X.A) (hg : Gl X x) (hx : ∀ σ, PassesAt CX X σ (E σ)) (ha : PA X (e :: es) tes)
    (hdb : (x == ("__debug__" : Str)) = false := by decide) (he : starEach (e :: es) X.env = (false, eval e X.env) :: starEach es X.env := by rfl) (hpl : (backTo pos (starEach es X.env)).any (·.1) = false := by rfl) :
    PE X (.Call (.Name x p) (e :: es) [] pos) (fun σ H Q => eCallD sp (E σ) dvs tes σ H Q) := by
  obtain ⟨f, fd, hm, hk, ⟨ds, hd, hb⟩, F⟩ := F
  refine ⟨fun pins s σ H Q I h => ?_⟩
  refine wpAny_Call_Name_kw (ld_glob I hg hm ?_ hdb)
  refine PySem.W.callWith_K (h₀ := X.base) I.ok.mod.kin hk (thn (ha.run pos pins s σ H _ I h) fun us s1 ⟨vs, H1, I1, r, q⟩ => ⟨I1.kIn, ?_⟩) he hpl
  have r2 : Vals (vs ++ dvs) (us ++ ds) := r.append hd
  have hl : (us ++ ds).length = ps.length := by rw [← r2.length]; exact F.len _ _ _ _ q
  have b := hb s1 us I1.kIn hl
  refine wpAny_call (codeAny_mono (F.run X.A X.stack s1 H1 ⟨us, []⟩ (us ++ ds) (vs ++ dvs) Q (E σ) hr I1.env0 b r2 q) fun r s' hq => ?_)
  cases r with
  | error e => exact hx σ pins H1 s1 e s' I1 hq
  | ok fl =>
    cases fl with
    | ret u => exact I1.after hq
    | next => exact False.elim hq
    | brk => exact False.elim hq
    | cont => exact False.elim hq
end
def wPlaceT (Γ : Gm) (tab : List (Str × Bool)) (i j : Nat) (Wout : WX) (D : Ends) : WX := fun cls d σ H => ∃ t ∈ tab, cls = .ref (Γ t.1) ∧ i < σ.length ∧
  (t.2 = true → ∃ (dd : Addr) (fs : List (Str × V)) (v : V), d = some dd ∧ H dd = some (.xd fs) ∧ fs.lookup ("place" : Str) = some v ∧ ∀ a, H a = none → D.nx (((σ.set i (some (.ref a))).set j (some v)).set i none) H) ∧ (t.2 = false → Wout cls d σ H)
def sTryP (Γ : Gm) (tab : List (Str × Bool)) (i j : Nat) (Wout : WX) (b : XK → TS) : TS := fun D σ H => b (WE (wPlaceT Γ tab i j Wout D) σ) D σ H
def tsP (K : PySem.W.Frag) (i j : Nat) (a : Addr) (cls : Value) (d : Option Addr) : TS := fun D σ H => ∃ C, cls = .ref C ∧ XfC K C ∧ PySem.W.findIn K (.ref C) "place" = some none ∧ sSet j (tXf a cls d C "place" (eVar i)) D σ H
section
variable {X : Cx} {Γ : Gm} {tab : List (Str × Bool)} {x n : Str} {c : Value} {i j : Nat} {body suite : List Stmt} {b₀ : Stmt} {np pos pos' : Pos} {b : XK → TS} {Wout : WX}
theorem dTryP (hs : X.stack = X.env :: X.outer) (hf : X.env.frame = some X.env.locals) (hN : X.N.Nodup) (hi : X.N[i]? = some n) (hln : X.env.kindOf n = some .local) (hc : Names X x c) (tk : Takes X Wout)
    (ht : CatT X.K Γ c tab) (hp : ∀ t ∈ tab, t.2 = true → XfC X.K (Γ t.1) ∧ PySem.W.findIn X.K (.ref (Γ t.1)) "place" = some none)
    (hb : ∀ (W : WX) (pn : List (Addr × Obj)) (xe : Value → Shared → Prop), Takes (X.tr pn xe) W → PassesOwn (model X.prog X.w) X.A X.env xe → PSs (X.tr pn xe) body (fun D σ H => b (WE W σ) D σ H))
    (hsu : ∀ (a C : Addr) (oe : Obj) (cls : Value) (d : Option Addr) (pn : List (Addr × Obj)), Zc cls d oe → (∃ vs, oe.data = .fields vs) → XfC X.K C → PySem.W.findIn X.K (.ref C) "place" = some none → PSs (X.suite a ((a, oe) :: pn)) (b₀ :: suite) (sSet j (tXf a cls d C "place" (eVar i)))) :
    PS X (.Try body [.ExceptHandler (some (.Name x np)) (some n) (b₀ :: suite) pos'] [] [] pos) (sTryP Γ tab i j Wout b) := by
  have q := ps_try_as (X := X) (c := c) (i := i) (np := np) (pos := pos) (pos' := pos') (Wout := Wout) (ts := tsP X.K i j) (tb := fun W D σ H => ∃ W' : WX, (∀ cls d σ H, W' cls d σ H → W cls d σ H) ∧ b (WE W' σ) D σ H) hs hf hN hi hln hc tk
    (fun W pn xe tW ps => ⟨fun pins s σ H D I ⟨W', le, h⟩ => (hb W' pn xe (takes_le tW le) ps).run pins s σ H D I h⟩)
    (fun a oe cls d pn hz hfl => ⟨fun pins s σ H D I ⟨C, e, T, hno, h⟩ => (hsu a C oe cls d pn hz hfl T hno).run pins s σ H D I h⟩)
  refine ⟨fun pins s σ H D I h => q.run pins s σ H D I ⟨_, ?_, h⟩⟩
  rintro cls d σ1 H1 ⟨t, mt, rfl, il, h1, h2⟩
  refine ⟨t.2, ht t mt, fun e a ha => ?_, h2⟩
  obtain ⟨dd, fs, v, rfl, e1, e2, q⟩ := h1 e
  obtain ⟨T, hno⟩ := hp t mt e
  refine ⟨Γ t.1, rfl, T, hno, ?_⟩
  unfold sSet tXf eVar
  dsimp only
  rw [List.getElem?_set_self il]
  exact ⟨rfl, rfl, dd, fs, v, rfl, e1, e2, q a ha⟩
end
section
variable {K : PySem.W.Frag} {Γ : Gm} {E : XK} {tab : List (Str × Bool)} {i j : Nat} {b : XK → TS} {m : SV}
def mTryP (tab : List (Str × Bool)) (i j : Nat) (m : SV) : SV := fun S h => match m S h with
  | .ok o h' => .ok o h'
  | .ex c p h' => if i < S.length then if tab.lookup c = some true then .ok (.nx ((S.set j (some p)).set i none)) h' else if tab.lookup c = some false then .ex c p h' else .no else .no
  | .no => .no
theorem x_mTryP {S : AS} {h h' : AH} {o : Ou} (e : m S h = .ok o h') : mTryP tab i j m S h = .ok o h' := by unfold mTryP; rw [e]
theorem x_mTryPX {S : AS} {h h' : AH} {c : Str} {p : AV} (e : m S h = .ex c p h') (l : i < S.length) (q : tab.lookup c = some true) : mTryP tab i j m S h = .ok (.nx ((S.set j (some p)).set i none)) h' := by unfold mTryP; rw [e]; dsimp only; rw [if_pos l, if_pos q]
theorem vTryP (ij : i ≠ j) (hb : ∀ E, SS K Γ E (b E) m) : SS K Γ E (sTryP Γ tab i j (fun cls d _ H => E cls d H) b) (mTryP tab i j m) := ⟨fun {F H φ h σ S D} w s o => (hb _).run w s (by
  unfold mTryP at o
  cases r : m S h with
  | no => rw [r] at o; exact o
  | ok u h' => rw [r] at o; exact o
  | ex c p h' =>
    rw [r] at o
    dsimp only at o
    intro F' H' φ' d v w' e' hd a'
    by_cases l : i < S.length
    · rw [if_pos l] at o
      have il : i < σ.length := by rw [← s.1]; exact l
      by_cases q1 : tab.lookup c = some true
      · rw [if_pos q1] at o
        refine ⟨(c, true), look_mem q1, rfl, il, fun _ => ⟨d, _, v, rfl, w'.ff _ _ hd, rfl, fun a ha => ?_⟩, fun z => by cases z⟩
        have e1 : ((σ.set i (some (.ref a))).set j (some v)).set i none = (σ.set j (some v)).set i none := by
          rw [List.set_comm _ _ ij, List.set_set]
        rw [e1]
        exact o _ _ _ w' e' _ (SR.wipe ((s.to e').set a') [i])
      · rw [if_neg q1] at o
        by_cases q2 : tab.lookup c = some false
        · rw [if_pos q2] at o
          exact ⟨(c, false), look_mem q2, rfl, il, (fun z => by cases z), fun _ => o _ _ _ d v w' e' hd a'⟩
        · rw [if_neg q2] at o; exact o.elim
    · rw [if_neg l] at o; exact o.elim)⟩
end
end Hf
set_option Elab.async false
set_option linter.all false
set_option maxRecDepth 100000
set_option maxHeartbeats 4000000
namespace Hf
open PySem PySem.Spec PyProof.Rows L2
/-! a call in a comprehension: nothing is let out there -/
def noX {α : Type} (r : Rs α) : Rs α := match r with
  | .ex _ _ _ => .no
  | r => r
def kCallQ (m : MF) (xs : List AV) (h : AH) : Rs AV := noX (kCallP m xs h)
def mCallQ (m : MF) (ms : LV) : EV := fun S h => (ms S h).bnd (kCallQ m)
def kCallR (m : MF) (xs : List AV) (h : AH) : Rs AV := noX (m xs h)
def mCallR (m : MF) (ms : LV) : EV := fun S h => (ms S h).bnd (kCallR m)
section
variable {K : PySem.W.Frag} {Γ : Gm} {E : XK} {F H : Hp} {φ : List Addr} {Q : VK} {tes : TA} {ms : LV} {m : MF} {S : AS} {h h1 : AH} {xs : List AV} {v : AV}
theorem x_mCallQ : mCallQ m ms S h = (ms S h).bnd (kCallQ m) := rfl
theorem x_mCallR : mCallR m ms S h = (ms S h).bnd (kCallR m) := rfl
theorem x_callQ (e : kCallP m xs h = .ok v h1) : kCallQ m xs h = .ok v h1 := by unfold kCallQ; rw [e]; rfl
theorem x_callR (e : m xs h = .ok v h1) : kCallR m xs h = .ok v h1 := by unfold kCallR; rw [e]; rfl
theorem noX_ok {r : Rs AV} (o : Ok K Γ E (AR K) F H φ (noX r) Q) : Ok K Γ E0 (AR K) F H φ r Q := by
  cases r with
  | ok a h => exact o
  | ex c p h => exact o.elim
  | no => exact o
theorem vCallQ {sp : Sp} (hf : SF K Γ E0 sp m) (hs : SA K Γ E tes ms) : SE K Γ E (eCall sp E0 tes) (mCallQ m ms) := ⟨fun w s o => hs.run w s (o.bnd fun xs h1 F1 H1 φ1 vs w1 e1 a1 o1 => kCallP_ok hf w1 a1 (noX_ok o1))⟩
theorem vCallR {sp : Sp} (hf : SF K Γ E0 sp m) (hs : SA K Γ E tes ms) : SE K Γ E (eCall sp E0 tes) (mCallR m ms) := ⟨fun w s o => hs.run w s (o.bnd fun _ _ _ _ _ _ w1 e1 a1 o1 => hf.run w1 a1 (noX_ok o1))⟩
end
end Hf
set_option Elab.async false
set_option linter.all false
set_option maxRecDepth 100000
set_option maxHeartbeats 4000000
namespace Hf
open PySem PySem.Spec PyProof.Rows L2
/-! an expression done on its own: what it makes is thrown away, but what it tells -/
def clO : Option AV → Option AV
  | some x => if cl x = true then some x else none
  | none => none
def clS (S : AS) : AS := S.map clO
def mBox (me : EV) : EV := fun S h => fin h (me (clS S) [])
section
variable {K : PySem.W.Frag} {Γ : Gm} {E : XK} {F H : Hp} {φ : List Addr} {h : AH} {te : TE} {me : EV}
theorem SR.box {S : AS} {σ : L2.St} (s : SR K F φ S σ) : SR K F [] (clS S) σ := by
  refine ⟨by unfold clS; rw [List.length_map]; exact s.1, fun i x e => ?_⟩
  unfold clS at e
  rw [List.getElem?_map] at e
  cases c : S[i]? with
  | none => rw [c] at e; cases e
  | some o =>
    rw [c] at e
    cases o with
    | none => cases e
    | some y =>
      have e : clO (some y) = some x := by simpa using e
      unfold clO at e
      dsimp only at e
      split at e
      · rename_i q
        cases e
        obtain ⟨v, h1, a⟩ := s.2 i _ c
        exact ⟨v, h1, cl_ok q a⟩
      · cases e
theorem vBox (he : SE K Γ E te me) : SE K Γ E te (mBox me) := ⟨fun {F H φ h σ S Q} w s o => by
  have w0 : WR K Γ F H [] [] := ⟨w.ff, fun i j a h => by simp at h, rfl, fun n a c h => by simp at h⟩
  refine he.run w0 s.box ?_
  unfold mBox at o
  cases r : me (clS S) [] with
  | no => rw [r] at o; exact o
  | ok x h' =>
    rw [r] at o
    unfold fin at o
    dsimp only at o
    intro F' H' φ' v w3 e3 a3
    split at o
    · rename_i y cy
      have e4 := Ex.shut (φ := φ) w3.ff e3
      have w4 : WR K Γ (shutF F' H' φ') H' φ h := w.carry (shut_fh w3.ff) (φ' := []) (φ2 := []) ⟨e4.ff, .nil, fun a o h _ => by
        by_cases c : a ∈ φ
        · obtain ⟨g1, g2⟩ := e3.fr a o h (by simp)
          refine ⟨g1, fun z => ?_⟩
          rw [shut_out (fun m => ?_)]
          · exact g2 z
          · rcases e3.new a m with z | z
            · simp at z
            · rw [h] at z; cases z
        · exact e4.fr a o h c, fun _ h => .inl h⟩ (fun _ _ => by simp)
      exact o.use w4 e4 ((avOf_ok w3 a3 cy).mono (Same.refl _) .nil)
    · exact o.elim
  | ex c p h' =>
    rw [r] at o
    unfold fin at o
    dsimp only at o
    intro F' H' φ' d v w3 e3 hd a3
    split at o
    · rename_i y cy
      have e4 := Ex.shut (φ := φ) w3.ff e3
      have w4 : WR K Γ (shutF F' H' φ') H' φ h := w.carry (shut_fh w3.ff) (φ' := []) (φ2 := []) ⟨e4.ff, .nil, fun a o h _ => by
        by_cases c : a ∈ φ
        · obtain ⟨g1, g2⟩ := e3.fr a o h (by simp)
          refine ⟨g1, fun z => ?_⟩
          rw [shut_out (fun m => ?_)]
          · exact g2 z
          · rcases e3.new a m with z | z
            · simp at z
            · rw [h] at z; cases z
        · exact e4.fr a o h c, fun _ h => .inl h⟩ (fun _ _ => by simp)
      exact o _ _ _ d v w4 e4 (shut_ff w3.ff _ _ hd) ((avOf_ok w3 a3 cy).mono (Same.refl _) .nil)
    · exact o.elim⟩
theorem x_box {S : AS} {h' : AH} {y v : AV} (e : me (clS S) [] = .ok y h') (a : avOf h' y = some v) : mBox me S h = .ok v h := by
  unfold mBox; rw [e]; unfold fin; dsimp only; rw [a]
theorem clS_nil : clS [] = [] := rfl
theorem clS_none {S : AS} : clS (none :: S) = none :: clS S := rfl
theorem clS_some {x : AV} {S : AS} (q : cl x = true) : clS (some x :: S) = some x :: clS S := by
  unfold clS
  rw [List.map_cons]
  congr 1
  exact if_pos q
end
end Hf
set_option Elab.async false
set_option linter.all false
set_option maxRecDepth 100000
set_option maxHeartbeats 4000000
namespace Hf
open PySem PySem.Spec PyProof.Rows L2
/-! an expression done on its own, its names told deep: nothing of the caller's lists is held fast -/
def flatT : AV → Bool
  | .tup xs => xs.all flatA
  | x => flatA x
def dpS (h : AH) (S : AS) : AS := S.map fun o => o.bind (avOf h)
def finD (h : AH) (r : Rs AV) : Rs AV := match r with
  | .ok x _ => if flatT x = true then .ok x h else .no
  | .ex _ _ _ => .no
  | .no => .no
def mBoxD (me : EV) : EV := fun S h => finD h (me (dpS h S) [])
section
variable {K : PySem.W.Frag} {Γ : Gm} {E : XK} {F H : Hp} {φ : List Addr} {h : AH} {te : TE} {me : EV}
theorem SR.deep {S : AS} {σ : L2.St} (w : WR K Γ F H φ h) (s : SR K F φ S σ) : SR K (shutF F H φ) [] (dpS h S) σ := by
  refine ⟨by unfold dpS; rw [List.length_map]; exact s.1, fun i x e => ?_⟩
  unfold dpS at e
  rw [List.getElem?_map] at e
  cases c : S[i]? with
  | none => rw [c] at e; cases e
  | some o =>
    rw [c] at e
    cases o with
    | none => cases e
    | some y =>
      have e : avOf h y = some x := by simpa using e
      obtain ⟨v, h1, a⟩ := s.2 i _ c
      exact ⟨v, h1, avOf_ok w a e⟩
theorem flats_to {F2 : Hp} {φ φ2 : List Addr} : ∀ {xs : List AV} {vs : List V}, xs.all flatA = true → ARs K F φ xs vs → ARs K F2 φ2 xs vs
  | [], _, _, a => by rw [a.nil_inv]; exact .nil
  | x :: xs, _, f, a => by
    obtain ⟨v, ws, rfl, h1, h2⟩ := a.cons_inv
    rw [List.all_cons, Bool.and_eq_true] at f
    exact .cons (flat_to f.1 h1) (flats_to f.2 h2)
theorem vBoxD (he : SE K Γ E te me) : SE K Γ E te (mBoxD me) := ⟨fun {F H φ h σ S Q} w s o => by
  have w0 : WR K Γ (shutF F H φ) H [] [] := ⟨shut_fh w.ff, fun i j a h => by simp at h, rfl, fun n a c h => by simp at h⟩
  refine he.run w0 (s.deep w) ?_
  unfold mBoxD at o
  cases r : me (dpS h S) [] with
  | no => rw [r] at o; exact o
  | ex c p h' => rw [r] at o; exact o.elim
  | ok x h' =>
    rw [r] at o
    unfold finD at o
    dsimp only at o
    intro F' H' φ' v w3 e3 a3
    split at o
    · rename_i f
      obtain ⟨w4, e4⟩ := w.lent fun a o q => (e3.fr a o q (by simp)).1
      unfold flatT at f
      split at f
      · rename_i xs
        obtain ⟨p, vs, rfl, h1, h2⟩ := iTup a3
        have h3 : ARs K F φ xs vs := flats_to f h2
        rcases h1 with h1 | h1
        · obtain ⟨u, hu, hr, nl⟩ : ∃ u, F' p = some u ∧ (∀ G : Hp, G p = some u → Rd G p (.tup vs)) ∧ ∀ ws, u ≠ .lst ws := by
            rcases h1 with h1 | ⟨o, h1⟩
            · exact ⟨_, h1, fun G g => .inl g, fun ws z => by cases z⟩
            · exact ⟨_, h1, fun G g => .inr ⟨o, g⟩, fun ws z => by cases z⟩
          have hp : H' p = some u := w3.ff _ _ hu
          cases hH : H p with
          | none =>
            have np : F p = none := by
              cases q : F p with
              | none => rfl
              | some o => have := w.ff _ _ q; rw [hH] at this; cases this
            have sm : Same F (fun a => if a = p then some u else F a) := fun a o q => by
              have : a ≠ p := fun z => by rw [z, np] at q; cases q
              show (if a = p then _ else F a) = _
              rw [if_neg this]; exact q
            have e5 : Ex F H φ (fun a => if a = p then some u else F a) H' φ := ⟨sm, .refl, fun a o q n => ⟨(e3.fr a o q (by simp)).1, fun z => by
              have : a ≠ p := fun y => by rw [y, hH] at q; cases q
              show (if a = p then _ else F a) = _
              rw [if_neg this]; exact z⟩, fun _ h => .inl h⟩
            have w5 : WR K Γ (fun a => if a = p then some u else F a) H' φ h := w.carry (φ' := []) (φ2 := []) (fun a o q => by
              have q : (if a = p then some u else F a) = some o := q
              by_cases z : a = p
              · rw [if_pos z] at q; rw [z]; cases q; exact hp
              · rw [if_neg z] at q; exact (e3.fr a o (w.ff _ _ q) (by simp)).1) ⟨sm, .nil, fun a o q n => ⟨(e3.fr a o q (by simp)).1, fun z => by
              have : a ≠ p := fun y => by rw [y, hH] at q; cases q
              show (if a = p then _ else F a) = _
              rw [if_neg this]; exact z⟩, fun a m => by simp at m⟩ (fun _ _ => by simp)
            refine o.use w5 e5 (aTup (.inl (hr _ ?_)) (h3.mono sm .refl))
            exact if_pos rfl
          | some oo =>
            have eo : oo = u := by
              have := (e3.fr p oo hH (by simp)).1
              rw [hp] at this; cases this; rfl
            subst eo
            have fp : F p = some oo := by
              cases q : F p with
              | some o => have := w.ff _ _ q; rw [hH] at this; cases this; rfl
              | none =>
                have z : shutF F H φ p = none := by
                  unfold shutF
                  split
                  · split
                    · rename_i ws c
                      rw [hH] at c; cases c; exact (nl _ rfl).elim
                    · exact q
                  · exact q
                have := (e3.fr p _ hH (by simp)).2 z
                rw [hu] at this; cases this
            exact o.use w4 e4 (aTup (.inl (hr _ fp)) h3)
        · exact o.use w4 e4 (aTup (.inr h1) h3)
      · exact o.use w4 e4 (flat_to f a3)
    · exact o.elim⟩
theorem x_boxD {S : AS} {x : AV} {h h' : AH} (e : me (dpS h S) [] = .ok x h') (f : flatT x = true) : mBoxD me S h = .ok x h := by
  unfold mBoxD; rw [e]; unfold finD; dsimp only; rw [if_pos f]
end
end Hf
set_option Elab.async false
set_option linter.all false
set_option maxRecDepth 100000
set_option maxHeartbeats 4000000
namespace Hf
open PySem PySem.Spec PyProof.Rows L2
/-! list(d) -/
def eLstD (te : TE) : TE := fun σ H Q => te σ H fun x H1 => asRef x fun a => ∃ (kvs : List (Key × V)) (ks : List Str), H1 a = some (.dK kvs) ∧ kvs.map (·.1) = ks.map Sum.inr ∧ ∀ q, H1 q = none → Q (.ref q) (upd H1 q (.lst (ks.map V.str)))
section
variable {X : Cx} {e : Expr} {pos p : Pos} {te : TE}
theorem dLstD (hc : X.calm = true) (hg : Gl X "list") (hm : X.mg "list" = none) (he : PE X e te) (hs0 : starEach [e] X.env = (false, eval e X.env) :: starEach [] X.env := by rfl) (hpl : (backTo pos (starEach [] X.env)).any (·.1) = false := by rfl) :
    PE X (.Call (.Name "list" p) [e] [] pos) (eLstD te) :=
  pe_w (dBty (call_listD hc) hg hm (by decide +kernel) (kCons (pe_hat he) kNil hs0) (by decide) (by decide) hs0 hpl) fun σ H Q h => by
    refine ⟨_, fun x H1 q => ?_, h⟩
    obtain ⟨a, rfl, kvs, zs, h1, h2, q⟩ := asRef_of q
    refine ⟨a, kvs, rfl, .inl h1, fun p hp => ?_⟩
    have : kvs.map (fun kv => kV kv.1) = zs.map V.str := by
      have := congrArg (List.map kV) h2
      rw [List.map_map, List.map_map] at this; exact this
    rw [this]; exact q p hp
end
def kLstD (x : AV) (h : AH) : Rs AV := match (dcOf h x).bind keysT with
  | some zs => .ok (.lst (zs.map AV.str)) h
  | none => .no
def mLstD (ma : EV) : EV := fun S h => (ma S h).bnd kLstD
section
variable {K : PySem.W.Frag} {Γ : Gm} {E : XK} {te : TE} {me : EV}
theorem vLstD (ha : SE K Γ E te me) : SE K Γ E (eLstD te) (mLstD me) := ⟨fun w s o => ha.run w s (o.bnd fun x h1 F1 H1 φ1 v w1 e1 a1 o1 => by
  unfold kLstD at o1
  split at o1
  · rename_i zs c
    cases c1 : dcOf h1 x with
    | none => rw [c1] at c; cases c
    | some kx =>
      rw [c1] at c
      obtain ⟨p, kv, rfl, h2, h3⟩ := dcOf_ok w1 a1 c1
      rw [eb3]
      refine ⟨kv, zs, h2, h3.1.symm.trans (keysT_ok c), fun q hq => ?_⟩
      obtain ⟨w2, e2⟩ := w1.new (o := .lst (zs.map V.str)) hq
      exact o1.use w2 e2 (aLst upd_same .strs)
  · exact o1.elim)⟩
theorem x_mLstD {ma : EV} {S : AS} {h : AH} : mLstD ma S h = (ma S h).bnd kLstD := rfl
end
end Hf
set_option Elab.async false
set_option linter.all false
set_option maxRecDepth 100000
set_option maxHeartbeats 4000000
namespace Hf
open PySem PySem.Spec L2 PyProof.Rows
local macro_rules | `(tactic| walk_at "v") => `(tactic| try simp -implicitDefEqProofs only [x_mLit, x_mBin, x_mUn, x_mTst, x_mTAnd, x_mTOr, x_mTNot, x_mAnd, x_mOr, x_mNot, x_mIf, x_mChain, x_mNil, x_mCons, x_mTup, x_mLst, x_mLstF, x_mONone, x_mOPart, x_mSl, x_mBlt, x_mMs, x_mMl, x_mCall, x_mCallP, x_mFld, x_mMth, x_mNew, x_mIsC, x_mSq, x_mTx, x_mR1, x_mR2, x_mRv, x_mEn, x_mZp, x_mLc, x_mLcP, x_mTYes, x_mSeq, x_mSkip, x_mBrk, x_mCnt, x_mSet, x_mExp, x_mRet, x_mRetN, x_mIfS, x_mFor, x_mForP, x_mAsg, x_mSub, x_mFldS, x_mFldA, x_mDnew, x_mD3, x_mDput, x_mDaug, x_mSrtSet, x_mSrt, x_mSrtD, x_mCallD, x_mCallDP, x_mLc2, x_mLcP2, x_mLstRev, x_mNever, x_mIsi, x_mDisp, x_mPrs0, x_mPrs1, kPr1, kPr2, mTurn, mw_nil, mw_cons, i_non_bool, i_non_int, i_non_str, i_non_list, i_non_tuple, i_non_dict, i_bl_bool, i_bl_int, i_bl_str, i_bl_list, i_bl_tuple, i_bl_dict, i_int_bool, i_int_int, i_int_str, i_int_list, i_int_tuple, i_int_dict, i_str_bool, i_str_int, i_str_str, i_str_list, i_str_tuple, i_str_dict, i_tup_bool, i_tup_int, i_tup_str, i_tup_list, i_tup_tuple, i_tup_dict, i_lst_bool, i_lst_int, i_lst_str, i_lst_list, i_lst_tuple, i_lst_dict, i_scr_bool, i_scr_int, i_scr_str, i_scr_list, i_scr_tuple, i_scr_dict, is_ok, is_no, is_ite, b_ok, b_no, b_ite, t_nx, t_bk, t_ct, t_rt, t_no, t_ite, l_nx, l_bk, l_ct, l_rt, l_no, l_ite, o_nx, o_rt, o_no, o_ite, x_mVar, vg_some, x_sub, x_and, x_or, x_xor, x_lt, x_le, x_gt, x_ge, x_neg, x_addi, x_adds, x_addt, x_addl, x_addd, x_mod, x_dlit, x_muli, x_muls, y_eqi, y_eqs, y_eqb, y_nei, y_nes, y_neb, x_eqsi, x_eqis, x_isN, x_isi, x_iss, x_isb, x_ist, x_isl, x_isd, x_inN, x_ini, x_ins, x_int, x_inl, x_ind, x_intx, x_nintx, og_some, s_lst, s_tup, s_scr, ls_lst, ls_scr, x_ixl, x_ixt, x_ixc, at_0, at_1, at_2, at_3, at_4, at_5, x_lenl, x_lent, x_lenc, x_lens, x_fint, x_fbl, x_fmax, x_fmin, x_fstr, x_fstri, x_tupt, x_tupl, x_iaddi, x_adds', x_aug, x_pr, x_tr, x_nm, x_sll, x_slc, x_sls, f_nil, fp_nil, c_nil, ex_lst, kBin, kTA, kTO, kTN, kEA, kEO, kEN, kIfE, kC3, kC2, kC1, kCons2, kCons1, kTup, kLst, kLstF, kOPart, kSl2, kSl1, kSl0, kMt2, kMs, kMl, kMth2, ktR2, q_lst, q_tup, q_scr, kFz, kFzR, kFzE, ktRv, ktEn, kLS, kLT, kLG, kF, kC, kSet, kExp, kRet, kIfS, kFor, kForP, kWh, kAs, kSub1, kSub0, kAug1, kFs0, kFa1, kDg1, kDg0, kDp1, kDp0, kDa2, kDa1, kDa0, kAppD, mTru, x_mCallL, x_mTryKey, kTk1, x_mCallG, x_mDict, x_mLcEK, x_mSaug, x_mDk, x_mSrtI, kSa0, kSa2,
  List.getElem?_cons_zero, List.getElem?_cons_succ, List.set, decide_eq_true_eq, Bool.not_eq_true', decide_eq_false_iff_not, Bool.not_not, ↓reduceIte, not_true_eq_false, not_false_eq_true, Bool.false_eq_true, Bool.not_true, Bool.not_false, Bool.true_eq_false, reduceCtorEq, ofS_inj, String.reduceEq, List.length_cons, List.length_nil, Nat.reduceAdd, Nat.reduceLeDiff, Int.reduceLT, true_and, and_true])
def topS (i : Nat) : Stmt := PySem.Challenge.pw_handflow_k05_named.main.body.getD i (.Pass ⟨0, 0, 0, 0⟩)
noncomputable section
variable {P : Program} {w : World} {K : PySem.W.Frag} {mg : Str → Option Value} {base : Heap} {Γ : Gm}
abbrev s_L_mixed : Stmt := topS 5
theorem sc_L_mixed : FnScope ["_law_cell", "_law_k", "_law_factor"] ["_law_cell", "_law_k"] (defScope s_L_mixed) := ⟨rfl, rfl, rfl, by decide +kernel, rfl, by decide +kernel, by decide +kernel⟩
def b_L_mixed (K : PySem.W.Frag) (Γ : Gm) : TS :=
  (sSeq (sSet 2 (eBin (uAdd K) (eLit (.int 91343852333181432387730302044767688731)) (eBin (uMul) (eBin (uMul) (eLit (.int 7919000003)) (eVar 1)) (eVar 1))))
  (sRet (eBin (rMod) (eBin (uMul) (eVar 0) (eVar 2)) (eLit (.int 170141183460469231731687303715884105727)))))
@[irreducible] def q_L_mixed : SV :=
  (mSeq (mSet 2 (mBin opAdd (mLit (.int (91343852333181432387730302044767688731))) (mBin opMul (mBin opMul (mLit (.int (7919000003))) (mVar 1)) (mVar 1))))
  (mRet (mBin opMod (mBin opMul (mVar 0) (mVar 2)) (mLit (.int (170141183460469231731687303715884105727))))))
theorem vq_L_mixed : SS K Γ E0 (b_L_mixed K Γ) (q_L_mixed) := by
  unfold q_L_mixed b_L_mixed
  exact (vSeq (vSet (vBin wAdd (vLit fun _ _ => aInt) (vBin wMul (vBin wMul (vLit fun _ _ => aInt) vVar) vVar)))
  (vRet (vBin wMod (vBin wMul vVar vVar) (vLit fun _ _ => aInt))))
structure sp_L_mixed (K : PySem.W.Frag) (Γ : Gm) (vs : List V) (H : Hp) (Q : VK) (E : XK) : Prop where
  run : match vs with
  | [a0, a1] => b_L_mixed K Γ { nx := fun _ H' => Q .non H', rt := Q } [some a0, some a1, none] H
  | _ => False
@[irreducible] def m_L_mixed : MF := fun xs h => match xs with
  | [a0, a1] => ouR (q_L_mixed [some a0, some a1, none] h)
  | _ => .no
theorem em_L_mixed {a0 a1 : AV} {h : AH} : m_L_mixed [a0, a1] h = ouR (q_L_mixed [some a0, some a1, none] h) := by unfold m_L_mixed; rfl
theorem v_L_mixed : SF K Γ E0 (sp_L_mixed K Γ) m_L_mixed := ⟨fun {F H φ h xs vs Q} w a o => by
  unfold m_L_mixed at o
  split at o
  · obtain ⟨v0, _, rfl, r0, a0⟩ := a.cons_inv; obtain ⟨v1, _, rfl, r1, a1⟩ := a0.cons_inv; cases a1.nil_inv
    refine ⟨?_⟩
    exact vq_L_mixed.run w (SR.put r0 (SR.put r1 (SR.skip SR.nil))) (OkS.def o)
  · exact o.elim⟩
theorem okf_L_mixed {f : Addr} {fd : FuncData} (F : L2.Fun K "_law_mixed" "_law_mixed" s_L_mixed f fd)  : FnOk P w K mg base CX0 (0 + 1) f fd ["_law_cell", "_law_k"] (sp_L_mixed K Γ) := by
  have nd := sc_L_mixed.nd
  refine F.ok (k := 0) sc_L_mixed (fun vs H Q E h => ?_) (fun cdv A outer s H vs Q E hr h => ⟨b_L_mixed K Γ, ?_, ?_⟩)
  · have h := h.run; split at h; exact rfl; exact h.elim
  · have hu64 := hr.units
    have hu1 := hu_of hr
    exact (zCons (zSet (i := 2) nd rfl (by first | exact .inl rfl | exact .inr rfl) (dBin oAdd dInt (dBin oMul (dBin oMul dInt (dVar 1)) (dVar 1))))
  (zOne (zRet (dBin oMod (dBin oMul (dVar 0) (dVar 2)) dInt))))
  · have h := h.run; split at h; exact h; exact h.elim
theorem bd_L_mixed {f : Addr} {fd : FuncData} (F : L2.Fun K "_law_mixed" "_law_mixed" s_L_mixed f fd) : Binds K fd ["_law_cell", "_law_k"] [] := F.binds (fun _ _ _ _ _ _ us hl => match us, hl with | [_, _], _ => rfl)
abbrev s_L_cell_at : Stmt := topS 4
theorem sc_L_cell_at : FnScope ["_law_script", "_law_k"] ["_law_script", "_law_k"] (defScope s_L_cell_at) := ⟨rfl, rfl, rfl, by decide +kernel, rfl, by decide +kernel, by decide +kernel⟩
def b_L_cell_at (K : PySem.W.Frag) (Γ : Gm) : TS :=
  (sSeq (sIf (tTst (eBin (rLt) (eVar 1) (eBlt (uLen K) (aCons (eVar 0) aNil)))) (sRet (eBin (uIx K) (eVar 0) (eVar 1))) sNil)
  (sRet (eLit (.int 0))))
@[irreducible] def q_L_cell_at : SV :=
  (mSeq (mIfS (mTst (mBin opLt (mVar 1) (mBlt fLen (mCons (mVar 0) mNil)))) (mRet (mBin opIx (mVar 0) (mVar 1))) mSkip)
  (mRet (mLit (.int (0)))))
theorem vq_L_cell_at : SS K Γ E0 (b_L_cell_at K Γ) (q_L_cell_at) := by
  unfold q_L_cell_at b_L_cell_at
  exact (vSeq (vIfS (vTst (vBin wLt vVar (vBlt wLen (vConsA vVar vNilA)))) (vRet (vBin wIx vVar vVar)) vSkip)
  (vRet (vLit fun _ _ => aInt)))
structure sp_L_cell_at (K : PySem.W.Frag) (Γ : Gm) (vs : List V) (H : Hp) (Q : VK) (E : XK) : Prop where
  run : match vs with
  | [a0, a1] => b_L_cell_at K Γ { nx := fun _ H' => Q .non H', rt := Q } [some a0, some a1] H
  | _ => False
@[irreducible] def m_L_cell_at : MF := fun xs h => match xs with
  | [a0, a1] => ouR (q_L_cell_at [some a0, some a1] h)
  | _ => .no
theorem em_L_cell_at {a0 a1 : AV} {h : AH} : m_L_cell_at [a0, a1] h = ouR (q_L_cell_at [some a0, some a1] h) := by unfold m_L_cell_at; rfl
theorem v_L_cell_at : SF K Γ E0 (sp_L_cell_at K Γ) m_L_cell_at := ⟨fun {F H φ h xs vs Q} w a o => by
  unfold m_L_cell_at at o
  split at o
  · obtain ⟨v0, _, rfl, r0, a0⟩ := a.cons_inv; obtain ⟨v1, _, rfl, r1, a1⟩ := a0.cons_inv; cases a1.nil_inv
    refine ⟨?_⟩
    exact vq_L_cell_at.run w (SR.put r0 (SR.put r1 SR.nil)) (OkS.def o)
  · exact o.elim⟩
theorem okf_L_cell_at {f : Addr} {fd : FuncData} (F : L2.Fun K "_law_cell_at" "_law_cell_at" s_L_cell_at f fd) (m_len : mg "len" = none) : FnOk P w K mg base CX0 (0 + 1) f fd ["_law_script", "_law_k"] (sp_L_cell_at K Γ) := by
  have nd := sc_L_cell_at.nd
  refine F.ok (k := 0) sc_L_cell_at (fun vs H Q E h => ?_) (fun cdv A outer s H vs Q E hr h => ⟨b_L_cell_at K Γ, ?_, ?_⟩)
  · have h := h.run; split at h; exact rfl; exact h.elim
  · have hu64 := hr.units
    have hu1 := hu_of hr
    exact (zCons (zIf (qCmp oLt (dVar 1) (dBlt bLen rfl m_len (by decide +kernel) (kCons (dVar 0) kNil))) (zOne (zRet (dIx (dVar 0) (dVar 1)))) zNil)
  (zOne (zRet dInt)))
  · have h := h.run; split at h; exact h; exact h.elim
theorem bd_L_cell_at {f : Addr} {fd : FuncData} (F : L2.Fun K "_law_cell_at" "_law_cell_at" s_L_cell_at f fd) : Binds K fd ["_law_script", "_law_k"] [] := F.binds (fun _ _ _ _ _ _ us hl => match us, hl with | [_, _], _ => rfl)
abbrev s_L_letters : Stmt := topS 7
theorem sc_L_letters : FnScope ["_law_n", "_law_size", "_law_word", "_law_k"] ["_law_n", "_law_size"] (defScope s_L_letters) := ⟨rfl, rfl, rfl, by decide +kernel, rfl, by decide +kernel, by decide +kernel⟩
def l_L_letters_1 (K : PySem.W.Frag) (Γ : Gm) : TS :=
  (sSeq (sSet 2 (eBin (uAdd K) (eVar 2) (eBin (uIx K) (eLit (.str "abcdefghijklmnopqrstuvwxyz")) (eBin (rMod) (eVar 0) (eLit (.int 26))))))
  (sSet 0 (eBin (rDiv) (eVar 0) (eLit (.int 26)))))
theorem el_L_letters_1 {K : PySem.W.Frag} {Γ : Gm} {D : Ends} {σ : L2.St} {H : Hp} : l_L_letters_1 K Γ D σ H = ((sSeq (sSet 2 (eBin (uAdd K) (eVar 2) (eBin (uIx K) (eLit (.str "abcdefghijklmnopqrstuvwxyz")) (eBin (rMod) (eVar 0) (eLit (.int 26))))))
  (sSet 0 (eBin (rDiv) (eVar 0) (eLit (.int 26)))))) D σ H := rfl
def b_L_letters (K : PySem.W.Frag) (Γ : Gm) : TS :=
  (sSeq (sSet 2 (eLit (.str "")))
  (sSeq (sFor (cR1 (eVar 1)) (gNm 3) (l_L_letters_1 K Γ))
  (sRet (eVar 2))))
@[irreducible] def q_L_letters_1 : SV :=
  (mSeq (mSet 2 (mBin opAdd (mVar 2) (mBin opIx (mLit (.str "abcdefghijklmnopqrstuvwxyz")) (mBin opMod (mVar 0) (mLit (.int (26)))))))
  (mSet 0 (mBin opDiv (mVar 0) (mLit (.int (26))))))
theorem vq_L_letters_1 : SS K Γ E0 (l_L_letters_1 K Γ) (q_L_letters_1) := by
  unfold q_L_letters_1 l_L_letters_1
  exact (vSeq (vSet (vBin wAdd vVar (vBin wIx (vLit fun _ _ => aStr) (vBin wMod vVar (vLit fun _ _ => aInt)))))
  (vSet (vBin wDiv vVar (vLit fun _ _ => aInt))))
@[irreducible] def q_L_letters : SV :=
  (mSeq (mSet 2 (mLit (.str "")))
  (mSeq (mFor (mR1 (mVar 1)) (mNm 3) (q_L_letters_1))
  (mRet (mVar 2))))
theorem vq_L_letters : SS K Γ E0 (b_L_letters K Γ) (q_L_letters) := by
  unfold q_L_letters b_L_letters
  exact (vSeq (vSet (vLit fun _ _ => aStr))
  (vSeq (vFor (vR1 vVar) vNm vq_L_letters_1)
  (vRet vVar)))
structure sp_L_letters (K : PySem.W.Frag) (Γ : Gm) (vs : List V) (H : Hp) (Q : VK) (E : XK) : Prop where
  run : match vs with
  | [a0, a1] => b_L_letters K Γ { nx := fun _ H' => Q .non H', rt := Q } [some a0, some a1, none, none] H
  | _ => False
@[irreducible] def m_L_letters : MF := fun xs h => match xs with
  | [a0, a1] => ouR (q_L_letters [some a0, some a1, none, none] h)
  | _ => .no
theorem em_L_letters {a0 a1 : AV} {h : AH} : m_L_letters [a0, a1] h = ouR (q_L_letters [some a0, some a1, none, none] h) := by unfold m_L_letters; rfl
theorem v_L_letters : SF K Γ E0 (sp_L_letters K Γ) m_L_letters := ⟨fun {F H φ h xs vs Q} w a o => by
  unfold m_L_letters at o
  split at o
  · obtain ⟨v0, _, rfl, r0, a0⟩ := a.cons_inv; obtain ⟨v1, _, rfl, r1, a1⟩ := a0.cons_inv; cases a1.nil_inv
    refine ⟨?_⟩
    exact vq_L_letters.run w (SR.put r0 (SR.put r1 (SR.skip (SR.skip SR.nil)))) (OkS.def o)
  · exact o.elim⟩
theorem okf_L_letters {f : Addr} {fd : FuncData} (F : L2.Fun K "_law_letters" "_law_letters" s_L_letters f fd) (m_range : mg "range" = none) : FnOk P w K mg base CX0 (0 + 1) f fd ["_law_n", "_law_size"] (sp_L_letters K Γ) := by
  have nd := sc_L_letters.nd
  refine F.ok (k := 0) sc_L_letters (fun vs H Q E h => ?_) (fun cdv A outer s H vs Q E hr h => ⟨b_L_letters K Γ, ?_, ?_⟩)
  · have h := h.run; split at h; exact rfl; exact h.elim
  · have hu64 := hr.units
    have hu1 := hu_of hr
    exact (zCons (zSet (i := 2) nd rfl (by first | exact .inl rfl | exact .inr rfl) dStr)
  (zCons (zFor PassesOwn.never rfl (kR1 rfl m_range (dVar 1)) (tgNm (i := 3) nd rfl (by first | exact .inl rfl | exact .inr rfl)) (zCons (zSet (i := 2) nd rfl (by first | exact .inl rfl | exact .inr rfl) (dBin oAdd (dVar 2) (dIx dStr (dBin oMod (dVar 0) dInt))))
  (zOne (zSet (i := 0) nd rfl (by first | exact .inl rfl | exact .inr rfl) (dBin oDiv (dVar 0) dInt)))))
  (zOne (zRet (dVar 2)))))
  · have h := h.run; split at h; exact h; exact h.elim
theorem bd_L_letters {f : Addr} {fd : FuncData} (F : L2.Fun K "_law_letters" "_law_letters" s_L_letters f fd) : Binds K fd ["_law_n", "_law_size"] [] := F.binds (fun _ _ _ _ _ _ us hl => match us, hl with | [_, _], _ => rfl)
abbrev s_L_keywords : Stmt := topS 6
theorem sc_L_keywords : FnScope [] [] (defScope s_L_keywords) := ⟨rfl, rfl, rfl, by decide +kernel, rfl, by decide +kernel, by decide +kernel⟩
def b_L_keywords (K : PySem.W.Frag) (Γ : Gm) : TS :=
  (sRet (eLst (aCons (eLit (.str "ask")) (aCons (eLit (.str "store")) (aCons (eLit (.str "put")) (aCons (eLit (.str "get")) (aCons (eLit (.str "give")) (aCons (eLit (.str "if")) (aCons (eLit (.str "else")) (aCons (eLit (.str "while")) (aCons (eLit (.str "repeat")) (aCons (eLit (.str "end")) aNil))))))))))))
@[irreducible] def q_L_keywords : SV :=
  (mRet (mLstF (mCons (mLit (.str "ask")) (mCons (mLit (.str "store")) (mCons (mLit (.str "put")) (mCons (mLit (.str "get")) (mCons (mLit (.str "give")) (mCons (mLit (.str "if")) (mCons (mLit (.str "else")) (mCons (mLit (.str "while")) (mCons (mLit (.str "repeat")) (mCons (mLit (.str "end")) mNil))))))))))))
theorem vq_L_keywords : SS K Γ E0 (b_L_keywords K Γ) (q_L_keywords) := by
  unfold q_L_keywords b_L_keywords
  exact (vRet (vLstF (vConsA (vLit fun _ _ => aStr) (vConsA (vLit fun _ _ => aStr) (vConsA (vLit fun _ _ => aStr) (vConsA (vLit fun _ _ => aStr) (vConsA (vLit fun _ _ => aStr) (vConsA (vLit fun _ _ => aStr) (vConsA (vLit fun _ _ => aStr) (vConsA (vLit fun _ _ => aStr) (vConsA (vLit fun _ _ => aStr) (vConsA (vLit fun _ _ => aStr) vNilA))))))))))))
structure sp_L_keywords (K : PySem.W.Frag) (Γ : Gm) (vs : List V) (H : Hp) (Q : VK) (E : XK) : Prop where
  run : match vs with
  | [] => b_L_keywords K Γ { nx := fun _ H' => Q .non H', rt := Q } [] H
  | _ => False
@[irreducible] def m_L_keywords : MF := fun xs h => match xs with
  | [] => ouR (q_L_keywords [] h)
  | _ => .no
theorem em_L_keywords {h : AH} : m_L_keywords [] h = ouR (q_L_keywords [] h) := by unfold m_L_keywords; rfl
theorem v_L_keywords : SF K Γ E0 (sp_L_keywords K Γ) m_L_keywords := ⟨fun {F H φ h xs vs Q} w a o => by
  unfold m_L_keywords at o
  split at o
  · cases a.nil_inv
    refine ⟨?_⟩
    exact vq_L_keywords.run w SR.nil (OkS.def o)
  · exact o.elim⟩
theorem okf_L_keywords {f : Addr} {fd : FuncData} (F : L2.Fun K "_law_keywords" "_law_keywords" s_L_keywords f fd)  : FnOk P w K mg base CX0 (0 + 1) f fd [] (sp_L_keywords K Γ) := by
  have nd := sc_L_keywords.nd
  refine F.ok (k := 0) sc_L_keywords (fun vs H Q E h => ?_) (fun cdv A outer s H vs Q E hr h => ⟨b_L_keywords K Γ, ?_, ?_⟩)
  · have h := h.run; split at h; exact rfl; exact h.elim
  · have hu64 := hr.units
    have hu1 := hu_of hr
    exact (zOne (zRet (dLst (kCons dStr (kCons dStr (kCons dStr (kCons dStr (kCons dStr (kCons dStr (kCons dStr (kCons dStr (kCons dStr (kCons dStr kNil)))))))))))))
  · have h := h.run; split at h; exact h; exact h.elim
theorem bd_L_keywords {f : Addr} {fd : FuncData} (F : L2.Fun K "_law_keywords" "_law_keywords" s_L_keywords f fd) : Binds K fd [] [] := F.binds (fun _ _ _ _ _ _ us hl => match us, hl with | [], _ => rfl)
abbrev s_L_name_by : Stmt := topS 8
theorem sc_L_name_by : FnScope ["_law_n", "_law_size", "_law_way", "_law_rest", "_law_word", "_law_some", "_law_at"] ["_law_n"] (defScope s_L_name_by) := ⟨rfl, rfl, rfl, by decide +kernel, rfl, by decide +kernel, by decide +kernel⟩
def b_L_name_by (K : PySem.W.Frag) (Γ : Gm) : TS :=
  (sSeq (sSet 1 (eBin (uAdd K) (eLit (.int 1)) (eBin (rMod) (eVar 0) (eLit (.int 8)))))
  (sSeq (sSet 2 (eBin (rMod) (eBin (rDiv) (eVar 0) (eLit (.int 8))) (eLit (.int 4))))
  (sSeq (sSet 3 (eBin (rDiv) (eVar 0) (eLit (.int 32))))
  (sSeq (sSet 4 (eCall (sp_L_letters K Γ) E0 (aCons (eVar 3) (aCons (eVar 1) aNil))))
  (sSeq (sIf (tTst (eBin (uEq K) (eVar 2) (eLit (.int 0)))) (sSeq (sSet 5 (eLst (aCons (eLit (.str "x")) (aCons (eLit (.str "xx")) (aCons (eLit (.str "xy")) (aCons (eLit (.str "yx")) (aCons (eLit (.str "ends")) (aCons (eLit (.str "iff")) (aCons (eLit (.str "a")) (aCons (eLit (.str "z")) (aCons (eLit (.str "aaaaaaaa")) (aCons (eLit (.str "aaaaaaab")) (aCons (eLit (.str "baaaaaaa")) (aCons (eLit (.str "aaaabaaa")) aNil))))))))))))))
  (sSet 4 (eBin (uIx K) (eVar 5) (eBin (rMod) (eVar 3) (eLit (.int 12)))))) sNil)
  (sSeq (sIf (tTst (eBin (uEq K) (eVar 2) (eLit (.int 1)))) (sSeq (sSet 6 (eBin (rMod) (eBin (rDiv) (eVar 3) (eLit (.int 26))) (eVar 1)))
  (sSet 4 (eBin (uAdd K) (eBin (uAdd K) (eBin (uMul) (eLit (.str "m")) (eVar 6)) (eCall (sp_L_letters K Γ) E0 (aCons (eVar 3) (aCons (eLit (.int 1)) aNil)))) (eBin (uMul) (eLit (.str "m")) (eBin (rSub) (eBin (rSub) (eVar 1) (eLit (.int 1))) (eVar 6)))))) sNil)
  (sSeq (sIf (tTst (eBin (uIn K false) (eVar 4) (eCall (sp_L_keywords K Γ) E0 aNil))) (sSet 4 (eBin (uAdd K) (eVar 4) (eLit (.str "q")))) sNil)
  (sRet (eVar 4)))))))))
@[irreducible] def q_L_name_by : SV :=
  (mSeq (mSet 1 (mBin opAdd (mLit (.int (1))) (mBin opMod (mVar 0) (mLit (.int (8))))))
  (mSeq (mSet 2 (mBin opMod (mBin opDiv (mVar 0) (mLit (.int (8)))) (mLit (.int (4)))))
  (mSeq (mSet 3 (mBin opDiv (mVar 0) (mLit (.int (32)))))
  (mSeq (mSet 4 (mCallP m_L_letters (mCons (mVar 3) (mCons (mVar 1) mNil))))
  (mSeq (mIfS (mTst (mBin opEq (mVar 2) (mLit (.int (0))))) (mSeq (mSet 5 (mLstF (mCons (mLit (.str "x")) (mCons (mLit (.str "xx")) (mCons (mLit (.str "xy")) (mCons (mLit (.str "yx")) (mCons (mLit (.str "ends")) (mCons (mLit (.str "iff")) (mCons (mLit (.str "a")) (mCons (mLit (.str "z")) (mCons (mLit (.str "aaaaaaaa")) (mCons (mLit (.str "aaaaaaab")) (mCons (mLit (.str "baaaaaaa")) (mCons (mLit (.str "aaaabaaa")) mNil))))))))))))))
  (mSet 4 (mBin opIx (mVar 5) (mBin opMod (mVar 3) (mLit (.int (12))))))) mSkip)
  (mSeq (mIfS (mTst (mBin opEq (mVar 2) (mLit (.int (1))))) (mSeq (mSet 6 (mBin opMod (mBin opDiv (mVar 3) (mLit (.int (26)))) (mVar 1)))
  (mSet 4 (mBin opAdd (mBin opAdd (mBin opMul (mLit (.str "m")) (mVar 6)) (mCallP m_L_letters (mCons (mVar 3) (mCons (mLit (.int (1))) mNil)))) (mBin opMul (mLit (.str "m")) (mBin opSub (mBin opSub (mVar 1) (mLit (.int (1)))) (mVar 6)))))) mSkip)
  (mSeq (mIfS (mTst (mBin opIn (mVar 4) (mCallP m_L_keywords mNil))) (mSet 4 (mBin opAdd (mVar 4) (mLit (.str "q")))) mSkip)
  (mRet (mVar 4)))))))))
theorem vq_L_name_by : SS K Γ E0 (b_L_name_by K Γ) (q_L_name_by) := by
  unfold q_L_name_by b_L_name_by
  exact (vSeq (vSet (vBin wAdd (vLit fun _ _ => aInt) (vBin wMod vVar (vLit fun _ _ => aInt))))
  (vSeq (vSet (vBin wMod (vBin wDiv vVar (vLit fun _ _ => aInt)) (vLit fun _ _ => aInt)))
  (vSeq (vSet (vBin wDiv vVar (vLit fun _ _ => aInt)))
  (vSeq (vSet (vCallP v_L_letters (vConsA vVar (vConsA vVar vNilA))))
  (vSeq (vIfS (vTst (vBin wEq vVar (vLit fun _ _ => aInt))) (vSeq (vSet (vLstF (vConsA (vLit fun _ _ => aStr) (vConsA (vLit fun _ _ => aStr) (vConsA (vLit fun _ _ => aStr) (vConsA (vLit fun _ _ => aStr) (vConsA (vLit fun _ _ => aStr) (vConsA (vLit fun _ _ => aStr) (vConsA (vLit fun _ _ => aStr) (vConsA (vLit fun _ _ => aStr) (vConsA (vLit fun _ _ => aStr) (vConsA (vLit fun _ _ => aStr) (vConsA (vLit fun _ _ => aStr) (vConsA (vLit fun _ _ => aStr) vNilA))))))))))))))
  (vSet (vBin wIx vVar (vBin wMod vVar (vLit fun _ _ => aInt))))) vSkip)
  (vSeq (vIfS (vTst (vBin wEq vVar (vLit fun _ _ => aInt))) (vSeq (vSet (vBin wMod (vBin wDiv vVar (vLit fun _ _ => aInt)) vVar))
  (vSet (vBin wAdd (vBin wAdd (vBin wMul (vLit fun _ _ => aStr) vVar) (vCallP v_L_letters (vConsA vVar (vConsA (vLit fun _ _ => aInt) vNilA)))) (vBin wMul (vLit fun _ _ => aStr) (vBin wSub (vBin wSub vVar (vLit fun _ _ => aInt)) vVar))))) vSkip)
  (vSeq (vIfS (vTst (vBin wIn vVar (vCallP v_L_keywords vNilA))) (vSet (vBin wAdd vVar (vLit fun _ _ => aStr))) vSkip)
  (vRet vVar))))))))
structure sp_L_name_by (K : PySem.W.Frag) (Γ : Gm) (vs : List V) (H : Hp) (Q : VK) (E : XK) : Prop where
  run : match vs with
  | [a0] => b_L_name_by K Γ { nx := fun _ H' => Q .non H', rt := Q } [some a0, none, none, none, none, none, none] H
  | _ => False
@[irreducible] def m_L_name_by : MF := fun xs h => match xs with
  | [a0] => ouR (q_L_name_by [some a0, none, none, none, none, none, none] h)
  | _ => .no
theorem em_L_name_by {a0 : AV} {h : AH} : m_L_name_by [a0] h = ouR (q_L_name_by [some a0, none, none, none, none, none, none] h) := by unfold m_L_name_by; rfl
theorem v_L_name_by : SF K Γ E0 (sp_L_name_by K Γ) m_L_name_by := ⟨fun {F H φ h xs vs Q} w a o => by
  unfold m_L_name_by at o
  split at o
  · obtain ⟨v0, _, rfl, r0, a0⟩ := a.cons_inv; cases a0.nil_inv
    refine ⟨?_⟩
    exact vq_L_name_by.run w (SR.put r0 (SR.skip (SR.skip (SR.skip (SR.skip (SR.skip (SR.skip SR.nil))))))) (OkS.def o)
  · exact o.elim⟩
theorem okf_L_name_by {f : Addr} {fd : FuncData} (F : L2.Fun K "_law_name_by" "_law_name_by" s_L_name_by f fd) (F_L_keywords : Fn P w K mg base CX0 (1) "_law_keywords" [] (sp_L_keywords K Γ)) (F_L_letters : Fn P w K mg base CX0 (1) "_law_letters" ["_law_n", "_law_size"] (sp_L_letters K Γ)) : FnOk P w K mg base CX0 (1 + 1) f fd ["_law_n"] (sp_L_name_by K Γ) := by
  have nd := sc_L_name_by.nd
  refine F.ok (k := 1) sc_L_name_by (fun vs H Q E h => ?_) (fun cdv A outer s H vs Q E hr h => ⟨b_L_name_by K Γ, ?_, ?_⟩)
  · have h := h.run; split at h; exact rfl; exact h.elim
  · have hu64 := hr.units
    have hu1 := hu_of hr
    exact (zCons (zSet (i := 1) nd rfl (by first | exact .inl rfl | exact .inr rfl) (dBin oAdd dInt (dBin oMod (dVar 0) dInt)))
  (zCons (zSet (i := 2) nd rfl (by first | exact .inl rfl | exact .inr rfl) (dBin oMod (dBin oDiv (dVar 0) dInt) dInt))
  (zCons (zSet (i := 3) nd rfl (by first | exact .inl rfl | exact .inr rfl) (dBin oDiv (dVar 0) dInt))
  (zCons (zSet (i := 4) nd rfl (by first | exact .inl rfl | exact .inr rfl) (dFn F_L_letters (hr.mono (by omega)) rfl pass0 (kCons (dVar 3) (kCons (dVar 1) kNil))))
  (zCons (zIf (qCmp (oEq hu64) (dVar 2) dInt) (zCons (zSet (i := 5) nd rfl (by first | exact .inl rfl | exact .inr rfl) (dLst (kCons dStr (kCons dStr (kCons dStr (kCons dStr (kCons dStr (kCons dStr (kCons dStr (kCons dStr (kCons dStr (kCons dStr (kCons dStr (kCons dStr kNil))))))))))))))
  (zOne (zSet (i := 4) nd rfl (by first | exact .inl rfl | exact .inr rfl) (dIx (dVar 5) (dBin oMod (dVar 3) dInt))))) zNil)
  (zCons (zIf (qCmp (oEq hu64) (dVar 2) dInt) (zCons (zSet (i := 6) nd rfl (by first | exact .inl rfl | exact .inr rfl) (dBin oMod (dBin oDiv (dVar 3) dInt) (dVar 1)))
  (zOne (zSet (i := 4) nd rfl (by first | exact .inl rfl | exact .inr rfl) (dBin oAdd (dBin oAdd (dBin oMul dStr (dVar 6)) (dFn F_L_letters (hr.mono (by omega)) rfl pass0 (kCons (dVar 3) (kCons dInt kNil)))) (dBin oMul dStr (dBin oSub (dBin oSub (dVar 1) dInt) (dVar 6))))))) zNil)
  (zCons (zIf (qCmp oIn (dVar 4) (dFn0 F_L_keywords (hr.mono (by omega)) rfl pass0)) (zOne (zSet (i := 4) nd rfl (by first | exact .inl rfl | exact .inr rfl) (dBin oAdd (dVar 4) dStr))) zNil)
  (zOne (zRet (dVar 4))))))))))
  · have h := h.run; split at h; exact h; exact h.elim
theorem bd_L_name_by {f : Addr} {fd : FuncData} (F : L2.Fun K "_law_name_by" "_law_name_by" s_L_name_by f fd) : Binds K fd ["_law_n"] [] := F.binds (fun _ _ _ _ _ _ us hl => match us, hl with | [_], _ => rfl)
abbrev s_L_from : Stmt := topS 10
theorem sc_L_from : FnScope ["_law_n", "_law_least", "_law_greatest"] ["_law_n", "_law_least", "_law_greatest"] (defScope s_L_from) := ⟨rfl, rfl, rfl, by decide +kernel, rfl, by decide +kernel, by decide +kernel⟩
def b_L_from (K : PySem.W.Frag) (Γ : Gm) : TS :=
  (sSeq (sIf (tTst (eBin (uEq K) (eBin (rMod) (eVar 0) (eLit (.int 3))) (eLit (.int 0)))) (sRet (eBin (uIx K) (eLst (aCons (eVar 1) (aCons (eVar 2) aNil))) (eBin (rMod) (eBin (rDiv) (eVar 0) (eLit (.int 3))) (eLit (.int 2))))) sNil)
  (sRet (eBin (uAdd K) (eVar 1) (eBin (rMod) (eBin (rDiv) (eVar 0) (eLit (.int 3))) (eBin (uAdd K) (eBin (rSub) (eVar 2) (eVar 1)) (eLit (.int 1)))))))
@[irreducible] def q_L_from : SV :=
  (mSeq (mIfS (mTst (mBin opEq (mBin opMod (mVar 0) (mLit (.int (3)))) (mLit (.int (0))))) (mRet (mBin opIx (mLstF (mCons (mVar 1) (mCons (mVar 2) mNil))) (mBin opMod (mBin opDiv (mVar 0) (mLit (.int (3)))) (mLit (.int (2)))))) mSkip)
  (mRet (mBin opAdd (mVar 1) (mBin opMod (mBin opDiv (mVar 0) (mLit (.int (3)))) (mBin opAdd (mBin opSub (mVar 2) (mVar 1)) (mLit (.int (1))))))))
theorem vq_L_from : SS K Γ E0 (b_L_from K Γ) (q_L_from) := by
  unfold q_L_from b_L_from
  exact (vSeq (vIfS (vTst (vBin wEq (vBin wMod vVar (vLit fun _ _ => aInt)) (vLit fun _ _ => aInt))) (vRet (vBin wIx (vLstF (vConsA vVar (vConsA vVar vNilA))) (vBin wMod (vBin wDiv vVar (vLit fun _ _ => aInt)) (vLit fun _ _ => aInt)))) vSkip)
  (vRet (vBin wAdd vVar (vBin wMod (vBin wDiv vVar (vLit fun _ _ => aInt)) (vBin wAdd (vBin wSub vVar vVar) (vLit fun _ _ => aInt))))))
structure sp_L_from (K : PySem.W.Frag) (Γ : Gm) (vs : List V) (H : Hp) (Q : VK) (E : XK) : Prop where
  run : match vs with
  | [a0, a1, a2] => b_L_from K Γ { nx := fun _ H' => Q .non H', rt := Q } [some a0, some a1, some a2] H
  | _ => False
@[irreducible] def m_L_from : MF := fun xs h => match xs with
  | [a0, a1, a2] => ouR (q_L_from [some a0, some a1, some a2] h)
  | _ => .no
theorem em_L_from {a0 a1 a2 : AV} {h : AH} : m_L_from [a0, a1, a2] h = ouR (q_L_from [some a0, some a1, some a2] h) := by unfold m_L_from; rfl
theorem v_L_from : SF K Γ E0 (sp_L_from K Γ) m_L_from := ⟨fun {F H φ h xs vs Q} w a o => by
  unfold m_L_from at o
  split at o
  · obtain ⟨v0, _, rfl, r0, a0⟩ := a.cons_inv; obtain ⟨v1, _, rfl, r1, a1⟩ := a0.cons_inv; obtain ⟨v2, _, rfl, r2, a2⟩ := a1.cons_inv; cases a2.nil_inv
    refine ⟨?_⟩
    exact vq_L_from.run w (SR.put r0 (SR.put r1 (SR.put r2 SR.nil))) (OkS.def o)
  · exact o.elim⟩
theorem okf_L_from {f : Addr} {fd : FuncData} (F : L2.Fun K "_law_from" "_law_from" s_L_from f fd)  : FnOk P w K mg base CX0 (0 + 1) f fd ["_law_n", "_law_least", "_law_greatest"] (sp_L_from K Γ) := by
  have nd := sc_L_from.nd
  refine F.ok (k := 0) sc_L_from (fun vs H Q E h => ?_) (fun cdv A outer s H vs Q E hr h => ⟨b_L_from K Γ, ?_, ?_⟩)
  · have h := h.run; split at h; exact rfl; exact h.elim
  · have hu64 := hr.units
    have hu1 := hu_of hr
    exact (zCons (zIf (qCmp (oEq hu64) (dBin oMod (dVar 0) dInt) dInt) (zOne (zRet (dIx (dLst (kCons (dVar 1) (kCons (dVar 2) kNil))) (dBin oMod (dBin oDiv (dVar 0) dInt) dInt)))) zNil)
  (zOne (zRet (dBin oAdd (dVar 1) (dBin oMod (dBin oDiv (dVar 0) dInt) (dBin oAdd (dBin oSub (dVar 2) (dVar 1)) dInt))))))
  · have h := h.run; split at h; exact h; exact h.elim
theorem bd_L_from {f : Addr} {fd : FuncData} (F : L2.Fun K "_law_from" "_law_from" s_L_from f fd) : Binds K fd ["_law_n", "_law_least", "_law_greatest"] [] := F.binds (fun _ _ _ _ _ _ us hl => match us, hl with | [_, _, _], _ => rfl)
abbrev s_L_here : Stmt := topS 12
theorem sc_L_here : FnScope ["_law_top", "_law_fences"] ["_law_top", "_law_fences"] (defScope s_L_here) := ⟨rfl, rfl, rfl, by decide +kernel, rfl, by decide +kernel, by decide +kernel⟩
def b_L_here (K : PySem.W.Frag) (Γ : Gm) : TS :=
  (sSeq (sIf (tTst (eBin (rGt) (eBlt (uLen K) (aCons (eVar 1) aNil)) (eLit (.int 0)))) (sRet (eBin (uIx K) (eBin (uIx K) (eBin (uIx K) (eVar 1) (eUn uNeg (eLit (.int 1)))) (eLit (.int 2))) (eUn uNeg (eLit (.int 1))))) sNil)
  (sRet (eVar 0)))
@[irreducible] def q_L_here : SV :=
  (mSeq (mIfS (mTst (mBin opGt (mBlt fLen (mCons (mVar 1) mNil)) (mLit (.int (0))))) (mRet (mBin opIx (mBin opIx (mBin opIx (mVar 1) (mUn opNeg (mLit (.int (1))))) (mLit (.int (2)))) (mUn opNeg (mLit (.int (1)))))) mSkip)
  (mRet (mVar 0)))
theorem vq_L_here : SS K Γ E0 (b_L_here K Γ) (q_L_here) := by
  unfold q_L_here b_L_here
  exact (vSeq (vIfS (vTst (vBin wGt (vBlt wLen (vConsA vVar vNilA)) (vLit fun _ _ => aInt))) (vRet (vBin wIx (vBin wIx (vBin wIx vVar (vUn wNeg (vLit fun _ _ => aInt))) (vLit fun _ _ => aInt)) (vUn wNeg (vLit fun _ _ => aInt)))) vSkip)
  (vRet vVar))
structure sp_L_here (K : PySem.W.Frag) (Γ : Gm) (vs : List V) (H : Hp) (Q : VK) (E : XK) : Prop where
  run : match vs with
  | [a0, a1] => b_L_here K Γ { nx := fun _ H' => Q .non H', rt := Q } [some a0, some a1] H
  | _ => False
@[irreducible] def m_L_here : MF := fun xs h => match xs with
  | [a0, a1] => ouR (q_L_here [some a0, some a1] h)
  | _ => .no
theorem em_L_here {a0 a1 : AV} {h : AH} : m_L_here [a0, a1] h = ouR (q_L_here [some a0, some a1] h) := by unfold m_L_here; rfl
theorem v_L_here : SF K Γ E0 (sp_L_here K Γ) m_L_here := ⟨fun {F H φ h xs vs Q} w a o => by
  unfold m_L_here at o
  split at o
  · obtain ⟨v0, _, rfl, r0, a0⟩ := a.cons_inv; obtain ⟨v1, _, rfl, r1, a1⟩ := a0.cons_inv; cases a1.nil_inv
    refine ⟨?_⟩
    exact vq_L_here.run w (SR.put r0 (SR.put r1 SR.nil)) (OkS.def o)
  · exact o.elim⟩
theorem okf_L_here {f : Addr} {fd : FuncData} (F : L2.Fun K "_law_here" "_law_here" s_L_here f fd) (m_len : mg "len" = none) : FnOk P w K mg base CX0 (0 + 1) f fd ["_law_top", "_law_fences"] (sp_L_here K Γ) := by
  have nd := sc_L_here.nd
  refine F.ok (k := 0) sc_L_here (fun vs H Q E h => ?_) (fun cdv A outer s H vs Q E hr h => ⟨b_L_here K Γ, ?_, ?_⟩)
  · have h := h.run; split at h; exact rfl; exact h.elim
  · have hu64 := hr.units
    have hu1 := hu_of hr
    exact (zCons (zIf (qCmp oGt (dBlt bLen rfl m_len (by decide +kernel) (kCons (dVar 1) kNil)) dInt) (zOne (zRet (dIx (dIx (dIx (dVar 1) (dUn oNeg dInt)) dInt) (dUn oNeg dInt)))) zNil)
  (zOne (zRet (dVar 0))))
  · have h := h.run; split at h; exact h; exact h.elim
theorem bd_L_here {f : Addr} {fd : FuncData} (F : L2.Fun K "_law_here" "_law_here" s_L_here f fd) : Binds K fd ["_law_top", "_law_fences"] [] := F.binds (fun _ _ _ _ _ _ us hl => match us, hl with | [_, _], _ => rfl)
abbrev s_L_ended : Stmt := topS 13
theorem sc_L_ended : FnScope ["_law_top", "_law_fences", "_law_lines", "_law_fence", "_law_deed"] ["_law_top", "_law_fences", "_law_lines"] (defScope s_L_ended) := ⟨rfl, rfl, rfl, by decide +kernel, rfl, by decide +kernel, by decide +kernel⟩
def b_L_ended (K : PySem.W.Frag) (Γ : Gm) : TS :=
  (sSeq (sSet 3 (eMl K (uPop) (eVar 1) aNil))
  (sSeq (sSet 4 (eTup (aCons (eBin (uIx K) (eVar 3) (eLit (.int 0))) (aCons (eBin (uIx K) (eVar 3) (eLit (.int 1))) (aCons (eBin (uIx K) (eBin (uIx K) (eVar 3) (eLit (.int 2))) (eLit (.int 0))) aNil)))))
  (sSeq (sIf (tTst (eBin (uEq K) (eBin (uIx K) (eVar 3) (eLit (.int 0))) (eLit (.str "if")))) (sSet 4 (eBin (uAdd K) (eVar 4) (eTup (aCons (eBin (uIx K) (eBin (uAdd K) (eBin (uIx K) (eVar 3) (eLit (.int 2))) (eLst (aCons (eLst aNil) aNil))) (eLit (.int 1))) aNil)))) sNil)
  (sSeq (sExp (eMl K (uAppend) (eCall (sp_L_here K Γ) E0 (aCons (eVar 0) (aCons (eVar 1) aNil))) (aCons (eVar 4) aNil)))
  (sExp (eMl K (uAppend) (eVar 2) (aCons (eLst (aCons (eLit (.str "end")) aNil)) aNil)))))))
@[irreducible] def q_L_ended : SV :=
  (mSeq (mSet 3 (mMl fPop (mVar 1) mNil))
  (mSeq (mSet 4 (mTup (mCons (mBin opIx (mVar 3) (mLit (.int (0)))) (mCons (mBin opIx (mVar 3) (mLit (.int (1)))) (mCons (mBin opIx (mBin opIx (mVar 3) (mLit (.int (2)))) (mLit (.int (0)))) mNil)))))
  (mSeq (mIfS (mTst (mBin opEq (mBin opIx (mVar 3) (mLit (.int (0)))) (mLit (.str "if")))) (mSet 4 (mBin opAdd (mVar 4) (mTup (mCons (mBin opIx (mBin opAdd (mBin opIx (mVar 3) (mLit (.int (2)))) (mLstF (mCons (mLstF mNil) mNil))) (mLit (.int (1)))) mNil)))) mSkip)
  (mSeq (mExp (mMl fAppend (mCall m_L_here (mCons (mVar 0) (mCons (mVar 1) mNil))) (mCons (mVar 4) mNil)))
  (mExp (mMl fAppend (mVar 2) (mCons (mLstF (mCons (mLit (.str "end")) mNil)) mNil)))))))
theorem vq_L_ended : SS K Γ E0 (b_L_ended K Γ) (q_L_ended) := by
  unfold q_L_ended b_L_ended
  exact (vSeq (vSet (vMl wPop vVar vNilA))
  (vSeq (vSet (vTup (vConsA (vBin wIx vVar (vLit fun _ _ => aInt)) (vConsA (vBin wIx vVar (vLit fun _ _ => aInt)) (vConsA (vBin wIx (vBin wIx vVar (vLit fun _ _ => aInt)) (vLit fun _ _ => aInt)) vNilA)))))
  (vSeq (vIfS (vTst (vBin wEq (vBin wIx vVar (vLit fun _ _ => aInt)) (vLit fun _ _ => aStr))) (vSet (vBin wAdd vVar (vTup (vConsA (vBin wIx (vBin wAdd (vBin wIx vVar (vLit fun _ _ => aInt)) (vLstF (vConsA (vLstF vNilA) vNilA))) (vLit fun _ _ => aInt)) vNilA)))) vSkip)
  (vSeq (vExp (vMl wAppend (vCall v_L_here (vConsA vVar (vConsA vVar vNilA))) (vConsA vVar vNilA)))
  (vExp (vMl wAppend vVar (vConsA (vLstF (vConsA (vLit fun _ _ => aStr) vNilA)) vNilA)))))))
structure sp_L_ended (K : PySem.W.Frag) (Γ : Gm) (vs : List V) (H : Hp) (Q : VK) (E : XK) : Prop where
  run : match vs with
  | [a0, a1, a2] => b_L_ended K Γ { nx := fun _ H' => Q .non H', rt := Q } [some a0, some a1, some a2, none, none] H
  | _ => False
@[irreducible] def m_L_ended : MF := fun xs h => match xs with
  | [a0, a1, a2] => ouR (q_L_ended [some a0, some a1, some a2, none, none] h)
  | _ => .no
theorem em_L_ended {a0 a1 a2 : AV} {h : AH} : m_L_ended [a0, a1, a2] h = ouR (q_L_ended [some a0, some a1, some a2, none, none] h) := by unfold m_L_ended; rfl
theorem v_L_ended : SF K Γ E0 (sp_L_ended K Γ) m_L_ended := ⟨fun {F H φ h xs vs Q} w a o => by
  unfold m_L_ended at o
  split at o
  · obtain ⟨v0, _, rfl, r0, a0⟩ := a.cons_inv; obtain ⟨v1, _, rfl, r1, a1⟩ := a0.cons_inv; obtain ⟨v2, _, rfl, r2, a2⟩ := a1.cons_inv; cases a2.nil_inv
    refine ⟨?_⟩
    exact vq_L_ended.run w (SR.put r0 (SR.put r1 (SR.put r2 (SR.skip (SR.skip SR.nil))))) (OkS.def o)
  · exact o.elim⟩
theorem okf_L_ended {f : Addr} {fd : FuncData} (F : L2.Fun K "_law_ended" "_law_ended" s_L_ended f fd) (F_L_here : Fn P w K mg base CX0 (1) "_law_here" ["_law_top", "_law_fences"] (sp_L_here K Γ)) : FnOk P w K mg base CX0 (1 + 1) f fd ["_law_top", "_law_fences", "_law_lines"] (sp_L_ended K Γ) := by
  have nd := sc_L_ended.nd
  refine F.ok (k := 1) sc_L_ended (fun vs H Q E h => ?_) (fun cdv A outer s H vs Q E hr h => ⟨b_L_ended K Γ, ?_, ?_⟩)
  · have h := h.run; split at h; exact rfl; exact h.elim
  · have hu64 := hr.units
    have hu1 := hu_of hr
    exact (zCons (zSet (i := 3) nd rfl (by first | exact .inl rfl | exact .inr rfl) (dMl0 PySem.F.slot_list_pop PySem.F.type_list_pop mPop (dVar 1)))
  (zCons (zSet (i := 4) nd rfl (by first | exact .inl rfl | exact .inr rfl) (dTup (kCons (dIx (dVar 3) dInt) (kCons (dIx (dVar 3) dInt) (kCons (dIx (dIx (dVar 3) dInt) dInt) kNil)))))
  (zCons (zIf (qCmp (oEq hu64) (dIx (dVar 3) dInt) dStr) (zOne (zSet (i := 4) nd rfl (by first | exact .inl rfl | exact .inr rfl) (dBin oAdd (dVar 4) (dTup (kCons (dIx (dBin oAdd (dIx (dVar 3) dInt) (dLst (kCons (dLst kNil) kNil))) dInt) kNil))))) zNil)
  (zCons (zExp (dMl PySem.F.slot_list_append PySem.F.type_list_append mAppend (dFn F_L_here (hr.mono (by omega)) rfl pass0 (kCons (dVar 0) (kCons (dVar 1) kNil))) (kCons (dVar 4) kNil)))
  (zOne (zExp (dMl PySem.F.slot_list_append PySem.F.type_list_append mAppend (dVar 2) (kCons (dLst (kCons dStr kNil)) kNil))))))))
  · have h := h.run; split at h; exact h; exact h.elim
theorem bd_L_ended {f : Addr} {fd : FuncData} (F : L2.Fun K "_law_ended" "_law_ended" s_L_ended f fd) : Binds K fd ["_law_top", "_law_fences", "_law_lines"] [] := F.binds (fun _ _ _ _ _ _ us hl => match us, hl with | [_, _, _], _ => rfl)
abbrev s_L_value_by : Stmt := topS 9
theorem sc_L_value_by : FnScope ["_law_n", "_law_way", "_law_some"] ["_law_n"] (defScope s_L_value_by) := ⟨rfl, rfl, rfl, by decide +kernel, rfl, by decide +kernel, by decide +kernel⟩
def b_L_value_by (K : PySem.W.Frag) (Γ : Gm) : TS :=
  (sSeq (sSet 1 (eBin (rMod) (eVar 0) (eLit (.int 4))))
  (sSeq (sIf (tTst (eBin (rLt) (eVar 1) (eLit (.int 2)))) (sRet (eCall (sp_L_name_by K Γ) E0 (aCons (eBin (rDiv) (eVar 0) (eLit (.int 4))) aNil))) sNil)
  (sSeq (sIf (tTst (eBin (uEq K) (eVar 1) (eLit (.int 2)))) (sSeq (sSet 2 (eLst (aCons (eLit (.int 0)) (aCons (eLit (.int 1)) (aCons (eLit (.int 2)) (aCons (eLit (.int 9)) (aCons (eLit (.int 10)) (aCons (eLit (.int 11)) (aCons (eLit (.int 99)) (aCons (eLit (.int 100)) (aCons (eBin (rPow) (eLit (.int 10)) (eLit (.int 29))) (aCons (eBin (rSub) (eBin (rPow) (eLit (.int 10)) (eLit (.int 30))) (eLit (.int 1))) (aCons (eBin (rSub) (eBin (rPow) (eLit (.int 10)) (eLit (.int 30))) (eLit (.int 2))) (aCons (eBin (rPow) (eLit (.int 10)) (eLit (.int 18))) aNil))))))))))))))
  (sRet (eBin (uIx K) (eVar 2) (eBin (rMod) (eBin (rDiv) (eVar 0) (eLit (.int 4))) (eLit (.int 12)))))) sNil)
  (sRet (eBin (rMod) (eBin (rDiv) (eVar 0) (eLit (.int 4))) (eBin (rPow) (eLit (.int 10)) (eLit (.int 30))))))))
@[irreducible] def q_L_value_by : SV :=
  (mSeq (mSet 1 (mBin opMod (mVar 0) (mLit (.int (4)))))
  (mSeq (mIfS (mTst (mBin opLt (mVar 1) (mLit (.int (2))))) (mRet (mCallP m_L_name_by (mCons (mBin opDiv (mVar 0) (mLit (.int (4)))) mNil))) mSkip)
  (mSeq (mIfS (mTst (mBin opEq (mVar 1) (mLit (.int (2))))) (mSeq (mSet 2 (mLstF (mCons (mLit (.int (0))) (mCons (mLit (.int (1))) (mCons (mLit (.int (2))) (mCons (mLit (.int (9))) (mCons (mLit (.int (10))) (mCons (mLit (.int (11))) (mCons (mLit (.int (99))) (mCons (mLit (.int (100))) (mCons (mBin opPow (mLit (.int (10))) (mLit (.int (29)))) (mCons (mBin opSub (mBin opPow (mLit (.int (10))) (mLit (.int (30)))) (mLit (.int (1)))) (mCons (mBin opSub (mBin opPow (mLit (.int (10))) (mLit (.int (30)))) (mLit (.int (2)))) (mCons (mBin opPow (mLit (.int (10))) (mLit (.int (18)))) mNil))))))))))))))
  (mRet (mBin opIx (mVar 2) (mBin opMod (mBin opDiv (mVar 0) (mLit (.int (4)))) (mLit (.int (12))))))) mSkip)
  (mRet (mBin opMod (mBin opDiv (mVar 0) (mLit (.int (4)))) (mBin opPow (mLit (.int (10))) (mLit (.int (30)))))))))
theorem vq_L_value_by : SS K Γ E0 (b_L_value_by K Γ) (q_L_value_by) := by
  unfold q_L_value_by b_L_value_by
  exact (vSeq (vSet (vBin wMod vVar (vLit fun _ _ => aInt)))
  (vSeq (vIfS (vTst (vBin wLt vVar (vLit fun _ _ => aInt))) (vRet (vCallP v_L_name_by (vConsA (vBin wDiv vVar (vLit fun _ _ => aInt)) vNilA))) vSkip)
  (vSeq (vIfS (vTst (vBin wEq vVar (vLit fun _ _ => aInt))) (vSeq (vSet (vLstF (vConsA (vLit fun _ _ => aInt) (vConsA (vLit fun _ _ => aInt) (vConsA (vLit fun _ _ => aInt) (vConsA (vLit fun _ _ => aInt) (vConsA (vLit fun _ _ => aInt) (vConsA (vLit fun _ _ => aInt) (vConsA (vLit fun _ _ => aInt) (vConsA (vLit fun _ _ => aInt) (vConsA (vBin wPow (vLit fun _ _ => aInt) (vLit fun _ _ => aInt)) (vConsA (vBin wSub (vBin wPow (vLit fun _ _ => aInt) (vLit fun _ _ => aInt)) (vLit fun _ _ => aInt)) (vConsA (vBin wSub (vBin wPow (vLit fun _ _ => aInt) (vLit fun _ _ => aInt)) (vLit fun _ _ => aInt)) (vConsA (vBin wPow (vLit fun _ _ => aInt) (vLit fun _ _ => aInt)) vNilA))))))))))))))
  (vRet (vBin wIx vVar (vBin wMod (vBin wDiv vVar (vLit fun _ _ => aInt)) (vLit fun _ _ => aInt))))) vSkip)
  (vRet (vBin wMod (vBin wDiv vVar (vLit fun _ _ => aInt)) (vBin wPow (vLit fun _ _ => aInt) (vLit fun _ _ => aInt)))))))
structure sp_L_value_by (K : PySem.W.Frag) (Γ : Gm) (vs : List V) (H : Hp) (Q : VK) (E : XK) : Prop where
  run : match vs with
  | [a0] => b_L_value_by K Γ { nx := fun _ H' => Q .non H', rt := Q } [some a0, none, none] H
  | _ => False
@[irreducible] def m_L_value_by : MF := fun xs h => match xs with
  | [a0] => ouR (q_L_value_by [some a0, none, none] h)
  | _ => .no
theorem em_L_value_by {a0 : AV} {h : AH} : m_L_value_by [a0] h = ouR (q_L_value_by [some a0, none, none] h) := by unfold m_L_value_by; rfl
theorem v_L_value_by : SF K Γ E0 (sp_L_value_by K Γ) m_L_value_by := ⟨fun {F H φ h xs vs Q} w a o => by
  unfold m_L_value_by at o
  split at o
  · obtain ⟨v0, _, rfl, r0, a0⟩ := a.cons_inv; cases a0.nil_inv
    refine ⟨?_⟩
    exact vq_L_value_by.run w (SR.put r0 (SR.skip (SR.skip SR.nil))) (OkS.def o)
  · exact o.elim⟩
theorem okf_L_value_by {f : Addr} {fd : FuncData} (F : L2.Fun K "_law_value_by" "_law_value_by" s_L_value_by f fd) (F_L_name_by : Fn P w K mg base CX0 (2) "_law_name_by" ["_law_n"] (sp_L_name_by K Γ)) : FnOk P w K mg base CX0 (2 + 1) f fd ["_law_n"] (sp_L_value_by K Γ) := by
  have nd := sc_L_value_by.nd
  refine F.ok (k := 2) sc_L_value_by (fun vs H Q E h => ?_) (fun cdv A outer s H vs Q E hr h => ⟨b_L_value_by K Γ, ?_, ?_⟩)
  · have h := h.run; split at h; exact rfl; exact h.elim
  · have hu64 := hr.units
    have hu1 := hu_of hr
    exact (zCons (zSet (i := 1) nd rfl (by first | exact .inl rfl | exact .inr rfl) (dBin oMod (dVar 0) dInt))
  (zCons (zIf (qCmp oLt (dVar 1) dInt) (zOne (zRet (dFn F_L_name_by (hr.mono (by omega)) rfl pass0 (kCons (dBin oDiv (dVar 0) dInt) kNil)))) zNil)
  (zCons (zIf (qCmp (oEq hu64) (dVar 1) dInt) (zCons (zSet (i := 2) nd rfl (by first | exact .inl rfl | exact .inr rfl) (dLst (kCons dInt (kCons dInt (kCons dInt (kCons dInt (kCons dInt (kCons dInt (kCons dInt (kCons dInt (kCons (dBin oPow dInt dInt) (kCons (dBin oSub (dBin oPow dInt dInt) dInt) (kCons (dBin oSub (dBin oPow dInt dInt) dInt) (kCons (dBin oPow dInt dInt) kNil))))))))))))))
  (zOne (zRet (dIx (dVar 2) (dBin oMod (dBin oDiv (dVar 0) dInt) dInt))))) zNil)
  (zOne (zRet (dBin oMod (dBin oDiv (dVar 0) dInt) (dBin oPow dInt dInt)))))))
  · have h := h.run; split at h; exact h; exact h.elim
theorem bd_L_value_by {f : Addr} {fd : FuncData} (F : L2.Fun K "_law_value_by" "_law_value_by" s_L_value_by f fd) : Binds K fd ["_law_n"] [] := F.binds (fun _ _ _ _ _ _ us hl => match us, hl with | [_], _ => rfl)
abbrev s_L_set_by : Stmt := topS 14
theorem sc_L_set_by : FnScope ["_law_cell", "_law_x", "_law_n", "_law_left", "_law_right", "_law_sign"] ["_law_cell", "_law_x"] (defScope s_L_set_by) := ⟨rfl, rfl, rfl, by decide +kernel, rfl, by decide +kernel, by decide +kernel⟩
def b_L_set_by (K : PySem.W.Frag) (Γ : Gm) : TS :=
  (sSeq (sSet 2 (eCall (sp_L_mixed K Γ) E0 (aCons (eVar 0) (aCons (eLit (.int 3)) aNil))))
  (sSeq (sSet 3 (eCall (sp_L_value_by K Γ) E0 (aCons (eCall (sp_L_mixed K Γ) E0 (aCons (eVar 0) (aCons (eLit (.int 4)) aNil))) aNil)))
  (sSeq (sSet 4 (eCall (sp_L_value_by K Γ) E0 (aCons (eCall (sp_L_mixed K Γ) E0 (aCons (eVar 0) (aCons (eLit (.int 5)) aNil))) aNil)))
  (sSeq (sSet 5 (eBin (uIx K) (eLit (.str "+-*/<=&|^")) (eBin (rMod) (eVar 2) (eLit (.int 9)))))
  (sSeq (sIf (tTst (eBin (uEq K) (eBin (rMod) (eBin (rDiv) (eVar 2) (eLit (.int 9))) (eLit (.int 4))) (eLit (.int 0)))) (sSeq (sSet 5 (eLit (.str "+")))
  (sSet 4 (eLit (.int 0)))) sNil)
  (sRet (eTup (aCons (eLit (.str "set")) (aCons (eVar 1) (aCons (eVar 3) (aCons (eVar 5) (aCons (eVar 4) aNil))))))))))))
@[irreducible] def q_L_set_by : SV :=
  (mSeq (mSet 2 (mCallP m_L_mixed (mCons (mVar 0) (mCons (mLit (.int (3))) mNil))))
  (mSeq (mSet 3 (mCallP m_L_value_by (mCons (mCallP m_L_mixed (mCons (mVar 0) (mCons (mLit (.int (4))) mNil))) mNil)))
  (mSeq (mSet 4 (mCallP m_L_value_by (mCons (mCallP m_L_mixed (mCons (mVar 0) (mCons (mLit (.int (5))) mNil))) mNil)))
  (mSeq (mSet 5 (mBin opIx (mLit (.str "+-*/<=&|^")) (mBin opMod (mVar 2) (mLit (.int (9))))))
  (mSeq (mIfS (mTst (mBin opEq (mBin opMod (mBin opDiv (mVar 2) (mLit (.int (9)))) (mLit (.int (4)))) (mLit (.int (0))))) (mSeq (mSet 5 (mLit (.str "+")))
  (mSet 4 (mLit (.int (0))))) mSkip)
  (mRet (mTup (mCons (mLit (.str "set")) (mCons (mVar 1) (mCons (mVar 3) (mCons (mVar 5) (mCons (mVar 4) mNil))))))))))))
theorem vq_L_set_by : SS K Γ E0 (b_L_set_by K Γ) (q_L_set_by) := by
  unfold q_L_set_by b_L_set_by
  exact (vSeq (vSet (vCallP v_L_mixed (vConsA vVar (vConsA (vLit fun _ _ => aInt) vNilA))))
  (vSeq (vSet (vCallP v_L_value_by (vConsA (vCallP v_L_mixed (vConsA vVar (vConsA (vLit fun _ _ => aInt) vNilA))) vNilA)))
  (vSeq (vSet (vCallP v_L_value_by (vConsA (vCallP v_L_mixed (vConsA vVar (vConsA (vLit fun _ _ => aInt) vNilA))) vNilA)))
  (vSeq (vSet (vBin wIx (vLit fun _ _ => aStr) (vBin wMod vVar (vLit fun _ _ => aInt))))
  (vSeq (vIfS (vTst (vBin wEq (vBin wMod (vBin wDiv vVar (vLit fun _ _ => aInt)) (vLit fun _ _ => aInt)) (vLit fun _ _ => aInt))) (vSeq (vSet (vLit fun _ _ => aStr))
  (vSet (vLit fun _ _ => aInt))) vSkip)
  (vRet (vTup (vConsA (vLit fun _ _ => aStr) (vConsA vVar (vConsA vVar (vConsA vVar (vConsA vVar vNilA))))))))))))
structure sp_L_set_by (K : PySem.W.Frag) (Γ : Gm) (vs : List V) (H : Hp) (Q : VK) (E : XK) : Prop where
  run : match vs with
  | [a0, a1] => b_L_set_by K Γ { nx := fun _ H' => Q .non H', rt := Q } [some a0, some a1, none, none, none, none] H
  | _ => False
@[irreducible] def m_L_set_by : MF := fun xs h => match xs with
  | [a0, a1] => ouR (q_L_set_by [some a0, some a1, none, none, none, none] h)
  | _ => .no
theorem em_L_set_by {a0 a1 : AV} {h : AH} : m_L_set_by [a0, a1] h = ouR (q_L_set_by [some a0, some a1, none, none, none, none] h) := by unfold m_L_set_by; rfl
theorem v_L_set_by : SF K Γ E0 (sp_L_set_by K Γ) m_L_set_by := ⟨fun {F H φ h xs vs Q} w a o => by
  unfold m_L_set_by at o
  split at o
  · obtain ⟨v0, _, rfl, r0, a0⟩ := a.cons_inv; obtain ⟨v1, _, rfl, r1, a1⟩ := a0.cons_inv; cases a1.nil_inv
    refine ⟨?_⟩
    exact vq_L_set_by.run w (SR.put r0 (SR.put r1 (SR.skip (SR.skip (SR.skip (SR.skip SR.nil)))))) (OkS.def o)
  · exact o.elim⟩
theorem okf_L_set_by {f : Addr} {fd : FuncData} (F : L2.Fun K "_law_set_by" "_law_set_by" s_L_set_by f fd) (F_L_mixed : Fn P w K mg base CX0 (1) "_law_mixed" ["_law_cell", "_law_k"] (sp_L_mixed K Γ)) (F_L_value_by : Fn P w K mg base CX0 (3) "_law_value_by" ["_law_n"] (sp_L_value_by K Γ)) : FnOk P w K mg base CX0 (3 + 1) f fd ["_law_cell", "_law_x"] (sp_L_set_by K Γ) := by
  have nd := sc_L_set_by.nd
  refine F.ok (k := 3) sc_L_set_by (fun vs H Q E h => ?_) (fun cdv A outer s H vs Q E hr h => ⟨b_L_set_by K Γ, ?_, ?_⟩)
  · have h := h.run; split at h; exact rfl; exact h.elim
  · have hu64 := hr.units
    have hu1 := hu_of hr
    exact (zCons (zSet (i := 2) nd rfl (by first | exact .inl rfl | exact .inr rfl) (dFn F_L_mixed (hr.mono (by omega)) rfl pass0 (kCons (dVar 0) (kCons dInt kNil))))
  (zCons (zSet (i := 3) nd rfl (by first | exact .inl rfl | exact .inr rfl) (dFn F_L_value_by (hr.mono (by omega)) rfl pass0 (kCons (dFn F_L_mixed (hr.mono (by omega)) rfl pass0 (kCons (dVar 0) (kCons dInt kNil))) kNil)))
  (zCons (zSet (i := 4) nd rfl (by first | exact .inl rfl | exact .inr rfl) (dFn F_L_value_by (hr.mono (by omega)) rfl pass0 (kCons (dFn F_L_mixed (hr.mono (by omega)) rfl pass0 (kCons (dVar 0) (kCons dInt kNil))) kNil)))
  (zCons (zSet (i := 5) nd rfl (by first | exact .inl rfl | exact .inr rfl) (dIx dStr (dBin oMod (dVar 2) dInt)))
  (zCons (zIf (qCmp (oEq hu64) (dBin oMod (dBin oDiv (dVar 2) dInt) dInt) dInt) (zCons (zSet (i := 5) nd rfl (by first | exact .inl rfl | exact .inr rfl) dStr)
  (zOne (zSet (i := 4) nd rfl (by first | exact .inl rfl | exact .inr rfl) dInt))) zNil)
  (zOne (zRet (dTup (kCons dStr (kCons (dVar 1) (kCons (dVar 3) (kCons (dVar 5) (kCons (dVar 4) kNil)))))))))))))
  · have h := h.run; split at h; exact h; exact h.elim
theorem bd_L_set_by {f : Addr} {fd : FuncData} (F : L2.Fun K "_law_set_by" "_law_set_by" s_L_set_by f fd) : Binds K fd ["_law_cell", "_law_x"] [] := F.binds (fun _ _ _ _ _ _ us hl => match us, hl with | [_, _], _ => rfl)
abbrev s_L_single_by : Stmt := topS 15
theorem sc_L_single_by : FnScope ["_law_way", "_law_cell", "_law_stores", "_law_fences", "_law_n", "_law_x", "_law_free", "_law_fence"] ["_law_way", "_law_cell", "_law_stores", "_law_fences"] (defScope s_L_single_by) := ⟨rfl, rfl, rfl, by decide +kernel, rfl, by decide +kernel, by decide +kernel⟩
def l_L_single_by_1 (K : PySem.W.Frag) (Γ : Gm) : TS :=
  (sSet 6 (eAnd (eVar 6) (eBin (uEq K) (eBin (uIx K) (eVar 7) (eLit (.int 0))) (eLit (.str "repeat")))))
theorem el_L_single_by_1 {K : PySem.W.Frag} {Γ : Gm} {D : Ends} {σ : L2.St} {H : Hp} : l_L_single_by_1 K Γ D σ H = ((sSet 6 (eAnd (eVar 6) (eBin (uEq K) (eBin (uIx K) (eVar 7) (eLit (.int 0))) (eLit (.str "repeat")))))) D σ H := rfl
def b_L_single_by (K : PySem.W.Frag) (Γ : Gm) : TS :=
  (sSeq (sSet 4 (eBin (rDiv) (eCall (sp_L_mixed K Γ) E0 (aCons (eVar 1) (aCons (eLit (.int 1)) aNil))) (eLit (.int 16))))
  (sSeq (sSet 5 (eCall (sp_L_name_by K Γ) E0 (aCons (eCall (sp_L_mixed K Γ) E0 (aCons (eVar 1) (aCons (eLit (.int 2)) aNil))) aNil)))
  (sSeq (sSet 6 (eBin (rGt) (eBlt (uLen K) (aCons (eVar 2) aNil)) (eLit (.int 0))))
  (sSeq (sFor (cSq K (eVar 3)) (gNm 7) (l_L_single_by_1 K Γ))
  (sSeq (sIf (tAnd (tTst (eBin (rLt) (eVar 0) (eLit (.int 10)))) (tTst (eVar 6))) (sRet (eTup (aCons (eBin (uIx K) (eLst (aCons (eLit (.str "put")) (aCons (eLit (.str "get")) aNil))) (eBin (rMod) (eVar 4) (eLit (.int 2)))) (aCons (eBin (uIx K) (eBin (uIx K) (eVar 2) (eBin (rMod) (eBin (rDiv) (eVar 4) (eLit (.int 2))) (eBlt (uLen K) (aCons (eVar 2) aNil)))) (eLit (.int 0))) (aCons (eVar 5) aNil))))) sNil)
  (sSeq (sIf (tTst (eBin (rLt) (eVar 0) (eLit (.int 11)))) (sRet (eTup (aCons (eLit (.str "give")) (aCons (eVar 5) aNil)))) sNil)
  (sRet (eCall (sp_L_set_by K Γ) E0 (aCons (eVar 1) (aCons (eVar 5) aNil))))))))))
@[irreducible] def q_L_single_by_1 : SV :=
  (mSet 6 (mAnd (mVar 6) (mBin opEq (mBin opIx (mVar 7) (mLit (.int (0)))) (mLit (.str "repeat")))))
theorem vq_L_single_by_1 : SS K Γ E0 (l_L_single_by_1 K Γ) (q_L_single_by_1) := by
  unfold q_L_single_by_1 l_L_single_by_1
  exact (vSet (vAnd vVar (vBin wEq (vBin wIx vVar (vLit fun _ _ => aInt)) (vLit fun _ _ => aStr))))
@[irreducible] def q_L_single_by : SV :=
  (mSeq (mSet 4 (mBin opDiv (mCallP m_L_mixed (mCons (mVar 1) (mCons (mLit (.int (1))) mNil))) (mLit (.int (16)))))
  (mSeq (mSet 5 (mCallP m_L_name_by (mCons (mCallP m_L_mixed (mCons (mVar 1) (mCons (mLit (.int (2))) mNil))) mNil)))
  (mSeq (mSet 6 (mBin opGt (mBlt fLen (mCons (mVar 2) mNil)) (mLit (.int (0)))))
  (mSeq (mFor (mSq (mVar 3)) (mNm 7) (q_L_single_by_1))
  (mSeq (mIfS (mTAnd (mTst (mBin opLt (mVar 0) (mLit (.int (10))))) (mTst (mVar 6))) (mRet (mTup (mCons (mBin opIx (mLstF (mCons (mLit (.str "put")) (mCons (mLit (.str "get")) mNil))) (mBin opMod (mVar 4) (mLit (.int (2))))) (mCons (mBin opIx (mBin opIx (mVar 2) (mBin opMod (mBin opDiv (mVar 4) (mLit (.int (2)))) (mBlt fLen (mCons (mVar 2) mNil)))) (mLit (.int (0)))) (mCons (mVar 5) mNil))))) mSkip)
  (mSeq (mIfS (mTst (mBin opLt (mVar 0) (mLit (.int (11))))) (mRet (mTup (mCons (mLit (.str "give")) (mCons (mVar 5) mNil)))) mSkip)
  (mRet (mCallP m_L_set_by (mCons (mVar 1) (mCons (mVar 5) mNil))))))))))
theorem vq_L_single_by : SS K Γ E0 (b_L_single_by K Γ) (q_L_single_by) := by
  unfold q_L_single_by b_L_single_by
  exact (vSeq (vSet (vBin wDiv (vCallP v_L_mixed (vConsA vVar (vConsA (vLit fun _ _ => aInt) vNilA))) (vLit fun _ _ => aInt)))
  (vSeq (vSet (vCallP v_L_name_by (vConsA (vCallP v_L_mixed (vConsA vVar (vConsA (vLit fun _ _ => aInt) vNilA))) vNilA)))
  (vSeq (vSet (vBin wGt (vBlt wLen (vConsA vVar vNilA)) (vLit fun _ _ => aInt)))
  (vSeq (vFor (vSq vVar) vNm vq_L_single_by_1)
  (vSeq (vIfS (vTAnd (vTst (vBin wLt vVar (vLit fun _ _ => aInt))) (vTst vVar)) (vRet (vTup (vConsA (vBin wIx (vLstF (vConsA (vLit fun _ _ => aStr) (vConsA (vLit fun _ _ => aStr) vNilA))) (vBin wMod vVar (vLit fun _ _ => aInt))) (vConsA (vBin wIx (vBin wIx vVar (vBin wMod (vBin wDiv vVar (vLit fun _ _ => aInt)) (vBlt wLen (vConsA vVar vNilA)))) (vLit fun _ _ => aInt)) (vConsA vVar vNilA))))) vSkip)
  (vSeq (vIfS (vTst (vBin wLt vVar (vLit fun _ _ => aInt))) (vRet (vTup (vConsA (vLit fun _ _ => aStr) (vConsA vVar vNilA)))) vSkip)
  (vRet (vCallP v_L_set_by (vConsA vVar (vConsA vVar vNilA))))))))))
structure sp_L_single_by (K : PySem.W.Frag) (Γ : Gm) (vs : List V) (H : Hp) (Q : VK) (E : XK) : Prop where
  run : match vs with
  | [a0, a1, a2, a3] => b_L_single_by K Γ { nx := fun _ H' => Q .non H', rt := Q } [some a0, some a1, some a2, some a3, none, none, none, none] H
  | _ => False
@[irreducible] def m_L_single_by : MF := fun xs h => match xs with
  | [a0, a1, a2, a3] => ouR (q_L_single_by [some a0, some a1, some a2, some a3, none, none, none, none] h)
  | _ => .no
theorem em_L_single_by {a0 a1 a2 a3 : AV} {h : AH} : m_L_single_by [a0, a1, a2, a3] h = ouR (q_L_single_by [some a0, some a1, some a2, some a3, none, none, none, none] h) := by unfold m_L_single_by; rfl
theorem v_L_single_by : SF K Γ E0 (sp_L_single_by K Γ) m_L_single_by := ⟨fun {F H φ h xs vs Q} w a o => by
  unfold m_L_single_by at o
  split at o
  · obtain ⟨v0, _, rfl, r0, a0⟩ := a.cons_inv; obtain ⟨v1, _, rfl, r1, a1⟩ := a0.cons_inv; obtain ⟨v2, _, rfl, r2, a2⟩ := a1.cons_inv; obtain ⟨v3, _, rfl, r3, a3⟩ := a2.cons_inv; cases a3.nil_inv
    refine ⟨?_⟩
    exact vq_L_single_by.run w (SR.put r0 (SR.put r1 (SR.put r2 (SR.put r3 (SR.skip (SR.skip (SR.skip (SR.skip SR.nil)))))))) (OkS.def o)
  · exact o.elim⟩
theorem okf_L_single_by {f : Addr} {fd : FuncData} (F : L2.Fun K "_law_single_by" "_law_single_by" s_L_single_by f fd) (F_L_mixed : Fn P w K mg base CX0 (1) "_law_mixed" ["_law_cell", "_law_k"] (sp_L_mixed K Γ)) (F_L_name_by : Fn P w K mg base CX0 (2) "_law_name_by" ["_law_n"] (sp_L_name_by K Γ)) (F_L_set_by : Fn P w K mg base CX0 (4) "_law_set_by" ["_law_cell", "_law_x"] (sp_L_set_by K Γ)) (m_len : mg "len" = none) : FnOk P w K mg base CX0 (4 + 1) f fd ["_law_way", "_law_cell", "_law_stores", "_law_fences"] (sp_L_single_by K Γ) := by
  have nd := sc_L_single_by.nd
  refine F.ok (k := 4) sc_L_single_by (fun vs H Q E h => ?_) (fun cdv A outer s H vs Q E hr h => ⟨b_L_single_by K Γ, ?_, ?_⟩)
  · have h := h.run; split at h; exact rfl; exact h.elim
  · have hu64 := hr.units
    have hu1 := hu_of hr
    exact (zCons (zSet (i := 4) nd rfl (by first | exact .inl rfl | exact .inr rfl) (dBin oDiv (dFn F_L_mixed (hr.mono (by omega)) rfl pass0 (kCons (dVar 1) (kCons dInt kNil))) dInt))
  (zCons (zSet (i := 5) nd rfl (by first | exact .inl rfl | exact .inr rfl) (dFn F_L_name_by (hr.mono (by omega)) rfl pass0 (kCons (dFn F_L_mixed (hr.mono (by omega)) rfl pass0 (kCons (dVar 1) (kCons dInt kNil))) kNil)))
  (zCons (zSet (i := 6) nd rfl (by first | exact .inl rfl | exact .inr rfl) (dCmp oGt (dBlt bLen rfl m_len (by decide +kernel) (kCons (dVar 2) kNil)) dInt))
  (zCons (zFor PassesOwn.never rfl (kSq (dVar 3)) (tgNm (i := 7) nd rfl (by first | exact .inl rfl | exact .inr rfl)) (zOne (zSet (i := 6) nd rfl (by first | exact .inl rfl | exact .inr rfl) (dAnd (dVar 6) (dOne (dCmp (oEq hu64) (dIx (dVar 7) dInt) dStr))))))
  (zCons (zIf (PW.pt (qAnd (qCmp oLt (dVar 0) dInt) (qAnd1 (qVal (dVar 6))))) (zOne (zRet (dTup (kCons (dIx (dLst (kCons dStr (kCons dStr kNil))) (dBin oMod (dVar 4) dInt)) (kCons (dIx (dIx (dVar 2) (dBin oMod (dBin oDiv (dVar 4) dInt) (dBlt bLen rfl m_len (by decide +kernel) (kCons (dVar 2) kNil)))) dInt) (kCons (dVar 5) kNil)))))) zNil)
  (zCons (zIf (qCmp oLt (dVar 0) dInt) (zOne (zRet (dTup (kCons dStr (kCons (dVar 5) kNil))))) zNil)
  (zOne (zRet (dFn F_L_set_by (hr.mono (by omega)) rfl pass0 (kCons (dVar 1) (kCons (dVar 5) kNil)))))))))))
  · have h := h.run; split at h; exact h; exact h.elim
theorem bd_L_single_by {f : Addr} {fd : FuncData} (F : L2.Fun K "_law_single_by" "_law_single_by" s_L_single_by f fd) : Binds K fd ["_law_way", "_law_cell", "_law_stores", "_law_fences"] [] := F.binds (fun _ _ _ _ _ _ us hl => match us, hl with | [_, _, _, _], _ => rfl)
abbrev s_L_step : Stmt := topS 16
theorem sc_L_step : FnScope ["_law_cell", "_law_deep", "_law_stores", "_law_top", "_law_fences", "_law_lines", "_law_n", "_law_way", "_law_it", "_law_deed", "_law_words", "_law_word"] ["_law_cell", "_law_deep", "_law_stores", "_law_top", "_law_fences", "_law_lines"] (defScope s_L_step) := ⟨rfl, rfl, rfl, by decide +kernel, rfl, by decide +kernel, by decide +kernel⟩
def b_L_step (K : PySem.W.Frag) (Γ : Gm) : TS :=
  (sSeq (sSet 6 (eCall (sp_L_mixed K Γ) E0 (aCons (eVar 0) (aCons (eLit (.int 1)) aNil))))
  (sSeq (sSet 7 (eBin (rMod) (eVar 6) (eLit (.int 16))))
  (sSeq (sIf (tAnd (tTst (eVar 1)) (tTst (eBin (rGt) (eVar 7) (eLit (.int 11))))) (sSet 7 (eBin (rMod) (eVar 7) (eLit (.int 3)))) sNil)
  (sIf (tAnd (tTst (eBin (rLt) (eVar 7) (eLit (.int 3)))) (tTst (eBin (rLt) (eBlt (uLen K) (aCons (eVar 4) aNil)) (eLit (.int 12))))) (sSeq (sSet 8 (eCall (sp_L_name_by K Γ) E0 (aCons (eCall (sp_L_mixed K Γ) E0 (aCons (eVar 0) (aCons (eLit (.int 2)) aNil))) aNil)))
  (sSeq (sIf (tTst (eBin (uEq K) (eVar 7) (eLit (.int 2)))) (sSet 8 (eCall (sp_L_from K Γ) E0 (aCons (eBin (rDiv) (eVar 6) (eLit (.int 16))) (aCons (eLit (.int 0)) (aCons (eLit (.int 99)) aNil))))) sNil)
  (sSeq (sExp (eMl K (uAppend) (eVar 4) (aCons (eLst (aCons (eBin (uIx K) (eLst (aCons (eLit (.str "if")) (aCons (eLit (.str "while")) (aCons (eLit (.str "repeat")) aNil)))) (eVar 7)) (aCons (eVar 8) (aCons (eLst (aCons (eLst aNil) aNil)) aNil)))) aNil)))
  (sExp (eMl K (uAppend) (eVar 5) (aCons (eLst (aCons (eBin (uIx K) (eBin (uIx K) (eVar 4) (eUn uNeg (eLit (.int 1)))) (eLit (.int 0))) (aCons (eBlt (uStr) (aCons (eVar 8) aNil)) aNil))) aNil)))))) (sIf (tAnd (tTst (eBin (rLt) (eVar 7) (eLit (.int 6)))) (tTst (eBin (rGt) (eBlt (uLen K) (aCons (eVar 4) aNil)) (eLit (.int 0))))) (sExp (eCall (sp_L_ended K Γ) E0 (aCons (eVar 3) (aCons (eVar 4) (aCons (eVar 5) aNil))))) (sIf (tAnd (tTst (eBin (uEq K) (eVar 7) (eLit (.int 6)))) (tAnd (tTst (eBin (rGt) (eBlt (uLen K) (aCons (eVar 4) aNil)) (eLit (.int 0)))) (tAnd (tTst (eBin (uEq K) (eBin (uIx K) (eBin (uIx K) (eVar 4) (eUn uNeg (eLit (.int 1)))) (eLit (.int 0))) (eLit (.str "if")))) (tTst (eBin (uEq K) (eBlt (uLen K) (aCons (eBin (uIx K) (eBin (uIx K) (eVar 4) (eUn uNeg (eLit (.int 1)))) (eLit (.int 2))) aNil)) (eLit (.int 1))))))) (sSeq (sExp (eMl K (uAppend) (eBin (uIx K) (eBin (uIx K) (eVar 4) (eUn uNeg (eLit (.int 1)))) (eLit (.int 2))) (aCons (eLst aNil) aNil)))
  (sExp (eMl K (uAppend) (eVar 5) (aCons (eLst (aCons (eLit (.str "else")) aNil)) aNil)))) (sSeq (sSet 9 (eCall (sp_L_single_by K Γ) E0 (aCons (eVar 7) (aCons (eVar 0) (aCons (eVar 2) (aCons (eVar 4) aNil))))))
  (sSeq (sExp (eMl K (uAppend) (eCall (sp_L_here K Γ) E0 (aCons (eVar 3) (aCons (eVar 4) aNil))) (aCons (eVar 9) aNil)))
  (sSeq (sSet 10 (eLc (cSq K (eVar 9)) (gNm 11) tYes (eBlt (uStr) (aCons (eVar 11) aNil)) [11]))
  (sSeq (sIf (tTst (eBin (uEq K) (eBin (uIx K) (eVar 9) (eLit (.int 0))) (eLit (.str "set")))) (sSet 10 (eLst (aCons (eBin (uIx K) (eVar 10) (eLit (.int 1))) (aCons (eLit (.str "=")) (aCons (eBin (uIx K) (eVar 10) (eLit (.int 2))) (aCons (eBin (uIx K) (eVar 10) (eLit (.int 3))) (aCons (eBin (uIx K) (eVar 10) (eLit (.int 4))) aNil))))))) sNil)
  (sExp (eMl K (uAppend) (eVar 5) (aCons (eVar 10) aNil)))))))))))))
@[irreducible] def qc_L_step_1 : AS → AV → AH → Rs (Option AV) := mTurn (mNm 11) mTYes (mBlt fStr (mCons (mVar 11) mNil)) [11]
theorem eqc_L_step_1 {S : AS} {x : AV} {h : AH} : qc_L_step_1 S x h = mTurn (mNm 11) mTYes (mBlt fStr (mCons (mVar 11) mNil)) [11] S x h := by unfold qc_L_step_1; rfl
@[irreducible] def q_L_step : SV :=
  (mSeq (mSet 6 (mCallP m_L_mixed (mCons (mVar 0) (mCons (mLit (.int (1))) mNil))))
  (mSeq (mSet 7 (mBin opMod (mVar 6) (mLit (.int (16)))))
  (mSeq (mIfS (mTAnd (mTst (mVar 1)) (mTst (mBin opGt (mVar 7) (mLit (.int (11)))))) (mSet 7 (mBin opMod (mVar 7) (mLit (.int (3))))) mSkip)
  (mIfS (mTAnd (mTst (mBin opLt (mVar 7) (mLit (.int (3))))) (mTst (mBin opLt (mBlt fLen (mCons (mVar 4) mNil)) (mLit (.int (12)))))) (mSeq (mSet 8 (mCallP m_L_name_by (mCons (mCallP m_L_mixed (mCons (mVar 0) (mCons (mLit (.int (2))) mNil))) mNil)))
  (mSeq (mIfS (mTst (mBin opEq (mVar 7) (mLit (.int (2))))) (mSet 8 (mCallP m_L_from (mCons (mBin opDiv (mVar 6) (mLit (.int (16)))) (mCons (mLit (.int (0))) (mCons (mLit (.int (99))) mNil))))) mSkip)
  (mSeq (mExp (mMl fAppend (mVar 4) (mCons (mLst (mCons (mBin opIx (mLstF (mCons (mLit (.str "if")) (mCons (mLit (.str "while")) (mCons (mLit (.str "repeat")) mNil)))) (mVar 7)) (mCons (mVar 8) (mCons (mLst (mCons (mLst mNil) mNil)) mNil)))) mNil)))
  (mExp (mMl fAppend (mVar 5) (mCons (mLstF (mCons (mBin opIx (mBin opIx (mVar 4) (mUn opNeg (mLit (.int (1))))) (mLit (.int (0)))) (mCons (mBlt fStr (mCons (mVar 8) mNil)) mNil))) mNil)))))) (mIfS (mTAnd (mTst (mBin opLt (mVar 7) (mLit (.int (6))))) (mTst (mBin opGt (mBlt fLen (mCons (mVar 4) mNil)) (mLit (.int (0)))))) (mExp (mCall m_L_ended (mCons (mVar 3) (mCons (mVar 4) (mCons (mVar 5) mNil))))) (mIfS (mTAnd (mTst (mBin opEq (mVar 7) (mLit (.int (6))))) (mTAnd (mTst (mBin opGt (mBlt fLen (mCons (mVar 4) mNil)) (mLit (.int (0))))) (mTAnd (mTst (mBin opEq (mBin opIx (mBin opIx (mVar 4) (mUn opNeg (mLit (.int (1))))) (mLit (.int (0)))) (mLit (.str "if")))) (mTst (mBin opEq (mBlt fLen (mCons (mBin opIx (mBin opIx (mVar 4) (mUn opNeg (mLit (.int (1))))) (mLit (.int (2)))) mNil)) (mLit (.int (1)))))))) (mSeq (mExp (mMl fAppend (mBin opIx (mBin opIx (mVar 4) (mUn opNeg (mLit (.int (1))))) (mLit (.int (2)))) (mCons (mLst mNil) mNil)))
  (mExp (mMl fAppend (mVar 5) (mCons (mLstF (mCons (mLit (.str "else")) mNil)) mNil)))) (mSeq (mSet 9 (mBoxD (mCallP m_L_single_by (mCons (mVar 7) (mCons (mVar 0) (mCons (mVar 2) (mCons (mVar 4) mNil)))))))
  (mSeq (mExp (mMl fAppend (mCall m_L_here (mCons (mVar 3) (mCons (mVar 4) mNil))) (mCons (mVar 9) mNil)))
  (mSeq (mSet 10 (mLc2 kF (mSq (mVar 9)) (qc_L_step_1)))
  (mSeq (mIfS (mTst (mBin opEq (mBin opIx (mVar 9) (mLit (.int (0)))) (mLit (.str "set")))) (mSet 10 (mLstF (mCons (mBin opIx (mVar 10) (mLit (.int (1)))) (mCons (mLit (.str "=")) (mCons (mBin opIx (mVar 10) (mLit (.int (2)))) (mCons (mBin opIx (mVar 10) (mLit (.int (3)))) (mCons (mBin opIx (mVar 10) (mLit (.int (4)))) mNil))))))) mSkip)
  (mExp (mMl fAppend (mVar 5) (mCons (mVar 10) mNil)))))))))))))
theorem vq_L_step : SS K Γ E0 (b_L_step K Γ) (q_L_step) := by
  unfold q_L_step b_L_step
  exact (vSeq (vSet (vCallP v_L_mixed (vConsA vVar (vConsA (vLit fun _ _ => aInt) vNilA))))
  (vSeq (vSet (vBin wMod vVar (vLit fun _ _ => aInt)))
  (vSeq (vIfS (vTAnd (vTst vVar) (vTst (vBin wGt vVar (vLit fun _ _ => aInt)))) (vSet (vBin wMod vVar (vLit fun _ _ => aInt))) vSkip)
  (vIfS (vTAnd (vTst (vBin wLt vVar (vLit fun _ _ => aInt))) (vTst (vBin wLt (vBlt wLen (vConsA vVar vNilA)) (vLit fun _ _ => aInt)))) (vSeq (vSet (vCallP v_L_name_by (vConsA (vCallP v_L_mixed (vConsA vVar (vConsA (vLit fun _ _ => aInt) vNilA))) vNilA)))
  (vSeq (vIfS (vTst (vBin wEq vVar (vLit fun _ _ => aInt))) (vSet (vCallP v_L_from (vConsA (vBin wDiv vVar (vLit fun _ _ => aInt)) (vConsA (vLit fun _ _ => aInt) (vConsA (vLit fun _ _ => aInt) vNilA))))) vSkip)
  (vSeq (vExp (vMl wAppend vVar (vConsA (vLst (vConsA (vBin wIx (vLstF (vConsA (vLit fun _ _ => aStr) (vConsA (vLit fun _ _ => aStr) (vConsA (vLit fun _ _ => aStr) vNilA)))) vVar) (vConsA vVar (vConsA (vLst (vConsA (vLst vNilA) vNilA)) vNilA)))) vNilA)))
  (vExp (vMl wAppend vVar (vConsA (vLstF (vConsA (vBin wIx (vBin wIx vVar (vUn wNeg (vLit fun _ _ => aInt))) (vLit fun _ _ => aInt)) (vConsA (vBlt wStr (vConsA vVar vNilA)) vNilA))) vNilA)))))) (vIfS (vTAnd (vTst (vBin wLt vVar (vLit fun _ _ => aInt))) (vTst (vBin wGt (vBlt wLen (vConsA vVar vNilA)) (vLit fun _ _ => aInt)))) (vExp (vCall v_L_ended (vConsA vVar (vConsA vVar (vConsA vVar vNilA))))) (vIfS (vTAnd (vTst (vBin wEq vVar (vLit fun _ _ => aInt))) (vTAnd (vTst (vBin wGt (vBlt wLen (vConsA vVar vNilA)) (vLit fun _ _ => aInt))) (vTAnd (vTst (vBin wEq (vBin wIx (vBin wIx vVar (vUn wNeg (vLit fun _ _ => aInt))) (vLit fun _ _ => aInt)) (vLit fun _ _ => aStr))) (vTst (vBin wEq (vBlt wLen (vConsA (vBin wIx (vBin wIx vVar (vUn wNeg (vLit fun _ _ => aInt))) (vLit fun _ _ => aInt)) vNilA)) (vLit fun _ _ => aInt)))))) (vSeq (vExp (vMl wAppend (vBin wIx (vBin wIx vVar (vUn wNeg (vLit fun _ _ => aInt))) (vLit fun _ _ => aInt)) (vConsA (vLst vNilA) vNilA)))
  (vExp (vMl wAppend vVar (vConsA (vLstF (vConsA (vLit fun _ _ => aStr) vNilA)) vNilA)))) (vSeq (vSet (vBoxD (vCallP v_L_single_by (vConsA vVar (vConsA vVar (vConsA vVar (vConsA vVar vNilA)))))))
  (vSeq (vExp (vMl wAppend (vCall v_L_here (vConsA vVar (vConsA vVar vNilA))) (vConsA vVar vNilA)))
  (vSeq (vSet (vLc2 (turn := qc_L_step_1) KFin.f (vSq vVar) vNm GW.nm vTYes (vBlt wStr (vConsA vVar vNilA)) (by unfold qc_L_step_1; rfl)))
  (vSeq (vIfS (vTst (vBin wEq (vBin wIx vVar (vLit fun _ _ => aInt)) (vLit fun _ _ => aStr))) (vSet (vLstF (vConsA (vBin wIx vVar (vLit fun _ _ => aInt)) (vConsA (vLit fun _ _ => aStr) (vConsA (vBin wIx vVar (vLit fun _ _ => aInt)) (vConsA (vBin wIx vVar (vLit fun _ _ => aInt)) (vConsA (vBin wIx vVar (vLit fun _ _ => aInt)) vNilA))))))) vSkip)
  (vExp (vMl wAppend vVar (vConsA vVar vNilA)))))))))))))
structure sp_L_step (K : PySem.W.Frag) (Γ : Gm) (vs : List V) (H : Hp) (Q : VK) (E : XK) : Prop where
  run : match vs with
  | [a0, a1, a2, a3, a4, a5] => b_L_step K Γ { nx := fun _ H' => Q .non H', rt := Q } [some a0, some a1, some a2, some a3, some a4, some a5, none, none, none, none, none, none] H
  | _ => False
@[irreducible] def m_L_step : MF := fun xs h => match xs with
  | [a0, a1, a2, a3, a4, a5] => ouR (q_L_step [some a0, some a1, some a2, some a3, some a4, some a5, none, none, none, none, none, none] h)
  | _ => .no
theorem em_L_step {a0 a1 a2 a3 a4 a5 : AV} {h : AH} : m_L_step [a0, a1, a2, a3, a4, a5] h = ouR (q_L_step [some a0, some a1, some a2, some a3, some a4, some a5, none, none, none, none, none, none] h) := by unfold m_L_step; rfl
theorem v_L_step : SF K Γ E0 (sp_L_step K Γ) m_L_step := ⟨fun {F H φ h xs vs Q} w a o => by
  unfold m_L_step at o
  split at o
  · obtain ⟨v0, _, rfl, r0, a0⟩ := a.cons_inv; obtain ⟨v1, _, rfl, r1, a1⟩ := a0.cons_inv; obtain ⟨v2, _, rfl, r2, a2⟩ := a1.cons_inv; obtain ⟨v3, _, rfl, r3, a3⟩ := a2.cons_inv; obtain ⟨v4, _, rfl, r4, a4⟩ := a3.cons_inv; obtain ⟨v5, _, rfl, r5, a5⟩ := a4.cons_inv; cases a5.nil_inv
    refine ⟨?_⟩
    exact vq_L_step.run w (SR.put r0 (SR.put r1 (SR.put r2 (SR.put r3 (SR.put r4 (SR.put r5 (SR.skip (SR.skip (SR.skip (SR.skip (SR.skip (SR.skip SR.nil)))))))))))) (OkS.def o)
  · exact o.elim⟩
theorem okf_L_step {f : Addr} {fd : FuncData} (F : L2.Fun K "_law_step" "_law_step" s_L_step f fd) (F_L_ended : Fn P w K mg base CX0 (2) "_law_ended" ["_law_top", "_law_fences", "_law_lines"] (sp_L_ended K Γ)) (F_L_from : Fn P w K mg base CX0 (1) "_law_from" ["_law_n", "_law_least", "_law_greatest"] (sp_L_from K Γ)) (F_L_here : Fn P w K mg base CX0 (1) "_law_here" ["_law_top", "_law_fences"] (sp_L_here K Γ)) (F_L_mixed : Fn P w K mg base CX0 (1) "_law_mixed" ["_law_cell", "_law_k"] (sp_L_mixed K Γ)) (F_L_name_by : Fn P w K mg base CX0 (2) "_law_name_by" ["_law_n"] (sp_L_name_by K Γ)) (F_L_single_by : Fn P w K mg base CX0 (5) "_law_single_by" ["_law_way", "_law_cell", "_law_stores", "_law_fences"] (sp_L_single_by K Γ)) (m_len : mg "len" = none) (m_str : mg "str" = none) : FnOk P w K mg base CX0 (5 + 1) f fd ["_law_cell", "_law_deep", "_law_stores", "_law_top", "_law_fences", "_law_lines"] (sp_L_step K Γ) := by
  have nd := sc_L_step.nd
  refine F.ok (k := 5) sc_L_step (fun vs H Q E h => ?_) (fun cdv A outer s H vs Q E hr h => ⟨b_L_step K Γ, ?_, ?_⟩)
  · have h := h.run; split at h; exact rfl; exact h.elim
  · have hu64 := hr.units
    have hu1 := hu_of hr
    exact (zCons (zSet (i := 6) nd rfl (by first | exact .inl rfl | exact .inr rfl) (dFn F_L_mixed (hr.mono (by omega)) rfl pass0 (kCons (dVar 0) (kCons dInt kNil))))
  (zCons (zSet (i := 7) nd rfl (by first | exact .inl rfl | exact .inr rfl) (dBin oMod (dVar 6) dInt))
  (zCons (zIf (PW.pt (qAnd (qVal (dVar 1)) (qAnd1 (qCmp oGt (dVar 7) dInt)))) (zOne (zSet (i := 7) nd rfl (by first | exact .inl rfl | exact .inr rfl) (dBin oMod (dVar 7) dInt))) zNil)
  (zOne (zIf (PW.pt (qAnd (qCmp oLt (dVar 7) dInt) (qAnd1 (qCmp oLt (dBlt bLen rfl m_len (by decide +kernel) (kCons (dVar 4) kNil)) dInt)))) (zCons (zSet (i := 8) nd rfl (by first | exact .inl rfl | exact .inr rfl) (dFn F_L_name_by (hr.mono (by omega)) rfl pass0 (kCons (dFn F_L_mixed (hr.mono (by omega)) rfl pass0 (kCons (dVar 0) (kCons dInt kNil))) kNil)))
  (zCons (zIf (qCmp (oEq hu64) (dVar 7) dInt) (zOne (zSet (i := 8) nd rfl (by first | exact .inl rfl | exact .inr rfl) (dFn F_L_from (hr.mono (by omega)) rfl pass0 (kCons (dBin oDiv (dVar 6) dInt) (kCons dInt (kCons dInt kNil)))))) zNil)
  (zCons (zExp (dMl PySem.F.slot_list_append PySem.F.type_list_append mAppend (dVar 4) (kCons (dLst (kCons (dIx (dLst (kCons dStr (kCons dStr (kCons dStr kNil)))) (dVar 7)) (kCons (dVar 8) (kCons (dLst (kCons (dLst kNil) kNil)) kNil)))) kNil)))
  (zOne (zExp (dMl PySem.F.slot_list_append PySem.F.type_list_append mAppend (dVar 5) (kCons (dLst (kCons (dIx (dIx (dVar 4) (dUn oNeg dInt)) dInt) (kCons (dBty bStr rfl m_str (by decide +kernel) (kCons (dVar 8) kNil)) kNil))) kNil))))))) (zOne (zIf (PW.pt (qAnd (qCmp oLt (dVar 7) dInt) (qAnd1 (qCmp oGt (dBlt bLen rfl m_len (by decide +kernel) (kCons (dVar 4) kNil)) dInt)))) (zOne (zExp (dFn F_L_ended (hr.mono (by omega)) rfl pass0 (kCons (dVar 3) (kCons (dVar 4) (kCons (dVar 5) kNil)))))) (zOne (zIf (PW.pt (qAnd (qCmp (oEq hu64) (dVar 7) dInt) (qAnd (qCmp oGt (dBlt bLen rfl m_len (by decide +kernel) (kCons (dVar 4) kNil)) dInt) (qAnd (qCmp (oEq hu64) (dIx (dIx (dVar 4) (dUn oNeg dInt)) dInt) dStr) (qAnd1 (qCmp (oEq hu64) (dBlt bLen rfl m_len (by decide +kernel) (kCons (dIx (dIx (dVar 4) (dUn oNeg dInt)) dInt) kNil)) dInt)))))) (zCons (zExp (dMl PySem.F.slot_list_append PySem.F.type_list_append mAppend (dIx (dIx (dVar 4) (dUn oNeg dInt)) dInt) (kCons (dLst kNil) kNil)))
  (zOne (zExp (dMl PySem.F.slot_list_append PySem.F.type_list_append mAppend (dVar 5) (kCons (dLst (kCons dStr kNil)) kNil))))) (zCons (zSet (i := 9) nd rfl (by first | exact .inl rfl | exact .inr rfl) (dFn F_L_single_by (hr.mono (by omega)) rfl pass0 (kCons (dVar 7) (kCons (dVar 0) (kCons (dVar 2) (kCons (dVar 4) kNil))))))
  (zCons (zExp (dMl PySem.F.slot_list_append PySem.F.type_list_append mAppend (dFn F_L_here (hr.mono (by omega)) rfl pass0 (kCons (dVar 3) (kCons (dVar 4) kNil))) (kCons (dVar 9) kNil)))
  (zCons (zSetLc (i := 10) (own := [("_law_word", 11)]) rfl nd rfl rfl (sw_true rfl rfl rfl (by decide +kernel)) (kSq (dVar 9)) (blkOk_by (by first | (show blkC ["_law_cell", "_law_deep", "_law_stores", "_law_top", "_law_fences", "_law_lines", "_law_n", "_law_way", "_law_it", "_law_deed", "_law_words", "_law_word"] (defScope s_L_step) _ _ = true; decide +kernel) | rfl)) (fun _ _ _ _ _ => (tgNm (i := 11) nd rfl (by first | exact .inl rfl | exact .inr rfl))) (fun _ _ _ _ _ => iNo) (fun _ _ _ _ _ => (dBty bStr rfl m_str (by decide +kernel) (kCons (dVar 11) kNil))))
  (zCons (zIf (qCmp (oEq hu64) (dIx (dVar 9) dInt) dStr) (zOne (zSet (i := 10) nd rfl (by first | exact .inl rfl | exact .inr rfl) (dLst (kCons (dIx (dVar 10) dInt) (kCons dStr (kCons (dIx (dVar 10) dInt) (kCons (dIx (dVar 10) dInt) (kCons (dIx (dVar 10) dInt) kNil)))))))) zNil)
  (zOne (zExp (dMl PySem.F.slot_list_append PySem.F.type_list_append mAppend (dVar 5) (kCons (dVar 10) kNil)))))))))))))))))
  · have h := h.run; split at h; exact h; exact h.elim
theorem bd_L_step {f : Addr} {fd : FuncData} (F : L2.Fun K "_law_step" "_law_step" s_L_step f fd) : Binds K fd ["_law_cell", "_law_deep", "_law_stores", "_law_top", "_law_fences", "_law_lines"] [] := F.binds (fun _ _ _ _ _ _ us hl => match us, hl with | [_, _, _, _, _, _], _ => rfl)
abbrev s_L_build : Stmt := topS 17
theorem sc_L_build : FnScope ["_law_script", "_law_asks", "_law_stores", "_law_lines", "_law_top", "_law_fences", "_law_n", "_law_many", "_law_k", "_law_cell", "_law_x", "_law_store"] ["_law_script"] (defScope s_L_build) := ⟨rfl, rfl, rfl, by decide +kernel, rfl, by decide +kernel, by decide +kernel⟩
def l_L_build_1 (K : PySem.W.Frag) (Γ : Gm) : TS :=
  (sExp (eCall (sp_L_ended K Γ) E0 (aCons (eVar 4) (aCons (eVar 5) (aCons (eVar 3) aNil)))))
theorem el_L_build_1 {K : PySem.W.Frag} {Γ : Gm} {D : Ends} {σ : L2.St} {H : Hp} : l_L_build_1 K Γ D σ H = ((sExp (eCall (sp_L_ended K Γ) E0 (aCons (eVar 4) (aCons (eVar 5) (aCons (eVar 3) aNil)))))) D σ H := rfl
def l_L_build_2 (K : PySem.W.Frag) (Γ : Gm) : TS :=
  (sExp (eCall (sp_L_step K Γ) E0 (aCons (eVar 9) (aCons (eBin (uEq K) (eBin (rMod) (eBin (rDiv) (eVar 6) (eLit (.int 7))) (eLit (.int 3))) (eLit (.int 0))) (aCons (eVar 2) (aCons (eVar 4) (aCons (eVar 5) (aCons (eVar 3) aNil))))))))
theorem el_L_build_2 {K : PySem.W.Frag} {Γ : Gm} {D : Ends} {σ : L2.St} {H : Hp} : l_L_build_2 K Γ D σ H = ((sExp (eCall (sp_L_step K Γ) E0 (aCons (eVar 9) (aCons (eBin (uEq K) (eBin (rMod) (eBin (rDiv) (eVar 6) (eLit (.int 7))) (eLit (.int 3))) (eLit (.int 0))) (aCons (eVar 2) (aCons (eVar 4) (aCons (eVar 5) (aCons (eVar 3) aNil))))))))) D σ H := rfl
def l_L_build_3 (K : PySem.W.Frag) (Γ : Gm) : TS :=
  (sSeq (sSet 9 (eCall (sp_L_mixed K Γ) E0 (aCons (eCall (sp_L_cell_at K Γ) E0 (aCons (eVar 0) (aCons (eBin (uAdd K) (eLit (.int 1)) (eVar 8)) aNil))) (aCons (eLit (.int 7)) aNil))))
  (sSeq (sSet 10 (eCall (sp_L_name_by K Γ) E0 (aCons (eBin (rDiv) (eVar 9) (eLit (.int 2))) aNil)))
  (sSeq (sIf (tAnd (tTst (eBin (uEq K) (eBin (rMod) (eVar 9) (eLit (.int 2))) (eLit (.int 0)))) (tTst (eBin (uIn K true) (eVar 10) (eVar 1)))) (sSeq (sExp (eMl K (uAppend) (eVar 1) (aCons (eVar 10) aNil)))
  (sExp (eMl K (uAppend) (eVar 3) (aCons (eLst (aCons (eLit (.str "ask")) (aCons (eVar 10) aNil))) aNil)))) sNil)
  (sIf (tAnd (tTst (eBin (uEq K) (eBin (rMod) (eVar 9) (eLit (.int 2))) (eLit (.int 1)))) (tTst (eBin (uIn K true) (eVar 10) (eLc (cSq K (eVar 2)) (gNm 11) tYes (eBin (uIx K) (eVar 11) (eLit (.int 0))) [11])))) (sSeq (sExp (eMl K (uAppend) (eVar 2) (aCons (eTup (aCons (eVar 10) (aCons (eCall (sp_L_from K Γ) E0 (aCons (eBin (rDiv) (eBin (rDiv) (eVar 9) (eLit (.int 2))) (eBin (rPow) (eLit (.int 10)) (eLit (.int 15)))) (aCons (eLit (.int 1)) (aCons (eLit (.int 2000)) aNil)))) aNil))) aNil)))
  (sExp (eMl K (uAppend) (eVar 3) (aCons (eLst (aCons (eLit (.str "store")) (aCons (eVar 10) (aCons (eBlt (uStr) (aCons (eBin (uIx K) (eBin (uIx K) (eVar 2) (eUn uNeg (eLit (.int 1)))) (eLit (.int 1))) aNil)) aNil)))) aNil)))) sNil))))
theorem el_L_build_3 {K : PySem.W.Frag} {Γ : Gm} {D : Ends} {σ : L2.St} {H : Hp} : l_L_build_3 K Γ D σ H = ((sSeq (sSet 9 (eCall (sp_L_mixed K Γ) E0 (aCons (eCall (sp_L_cell_at K Γ) E0 (aCons (eVar 0) (aCons (eBin (uAdd K) (eLit (.int 1)) (eVar 8)) aNil))) (aCons (eLit (.int 7)) aNil))))
  (sSeq (sSet 10 (eCall (sp_L_name_by K Γ) E0 (aCons (eBin (rDiv) (eVar 9) (eLit (.int 2))) aNil)))
  (sSeq (sIf (tAnd (tTst (eBin (uEq K) (eBin (rMod) (eVar 9) (eLit (.int 2))) (eLit (.int 0)))) (tTst (eBin (uIn K true) (eVar 10) (eVar 1)))) (sSeq (sExp (eMl K (uAppend) (eVar 1) (aCons (eVar 10) aNil)))
  (sExp (eMl K (uAppend) (eVar 3) (aCons (eLst (aCons (eLit (.str "ask")) (aCons (eVar 10) aNil))) aNil)))) sNil)
  (sIf (tAnd (tTst (eBin (uEq K) (eBin (rMod) (eVar 9) (eLit (.int 2))) (eLit (.int 1)))) (tTst (eBin (uIn K true) (eVar 10) (eLc (cSq K (eVar 2)) (gNm 11) tYes (eBin (uIx K) (eVar 11) (eLit (.int 0))) [11])))) (sSeq (sExp (eMl K (uAppend) (eVar 2) (aCons (eTup (aCons (eVar 10) (aCons (eCall (sp_L_from K Γ) E0 (aCons (eBin (rDiv) (eBin (rDiv) (eVar 9) (eLit (.int 2))) (eBin (rPow) (eLit (.int 10)) (eLit (.int 15)))) (aCons (eLit (.int 1)) (aCons (eLit (.int 2000)) aNil)))) aNil))) aNil)))
  (sExp (eMl K (uAppend) (eVar 3) (aCons (eLst (aCons (eLit (.str "store")) (aCons (eVar 10) (aCons (eBlt (uStr) (aCons (eBin (uIx K) (eBin (uIx K) (eVar 2) (eUn uNeg (eLit (.int 1)))) (eLit (.int 1))) aNil)) aNil)))) aNil)))) sNil))))) D σ H := rfl
def b_L_build (K : PySem.W.Frag) (Γ : Gm) : TS :=
  (sSeq (sSet 1 (eLst aNil))
  (sSeq (sSet 2 (eLst aNil))
  (sSeq (sSet 3 (eLst aNil))
  (sSeq (sSet 4 (eLst aNil))
  (sSeq (sSet 5 (eLst aNil))
  (sSeq (sSet 6 (eCall (sp_L_mixed K Γ) E0 (aCons (eCall (sp_L_cell_at K Γ) E0 (aCons (eVar 0) (aCons (eLit (.int 0)) aNil))) (aCons (eLit (.int 6)) aNil))))
  (sSeq (sSet 7 (eBin (rMod) (eVar 6) (eLit (.int 7))))
  (sSeq (sFor (cR1 (eVar 7)) (gNm 8) (l_L_build_3 K Γ))
  (sSeq (sFor (cSq K (eSl (uSl K) (eVar 0) (oPart (eBin (uAdd K) (eLit (.int 1)) (eVar 7))) (oPart (eBin (uAdd K) (eLit (.int 161)) (eVar 7))))) (gNm 9) (l_L_build_2 K Γ))
  (sSeq (sWhile (tTst (eBin (rGt) (eBlt (uLen K) (aCons (eVar 5) aNil)) (eLit (.int 0)))) (l_L_build_1 K Γ))
  (sRet (eTup (aCons (eVar 1) (aCons (eVar 2) (aCons (eVar 4) (aCons (eVar 3) aNil))))))))))))))))
@[irreducible] def q_L_build_1 : SV :=
  (mExp (mCall m_L_ended (mCons (mVar 4) (mCons (mVar 5) (mCons (mVar 3) mNil)))))
theorem vq_L_build_1 : SS K Γ E0 (l_L_build_1 K Γ) (q_L_build_1) := by
  unfold q_L_build_1 l_L_build_1
  exact (vExp (vCall v_L_ended (vConsA vVar (vConsA vVar (vConsA vVar vNilA)))))
@[irreducible] def q_L_build_2 : SV :=
  (mExp (mCall m_L_step (mCons (mVar 9) (mCons (mBin opEq (mBin opMod (mBin opDiv (mVar 6) (mLit (.int (7)))) (mLit (.int (3)))) (mLit (.int (0)))) (mCons (mVar 2) (mCons (mVar 4) (mCons (mVar 5) (mCons (mVar 3) mNil))))))))
theorem vq_L_build_2 : SS K Γ E0 (l_L_build_2 K Γ) (q_L_build_2) := by
  unfold q_L_build_2 l_L_build_2
  exact (vExp (vCall v_L_step (vConsA vVar (vConsA (vBin wEq (vBin wMod (vBin wDiv vVar (vLit fun _ _ => aInt)) (vLit fun _ _ => aInt)) (vLit fun _ _ => aInt)) (vConsA vVar (vConsA vVar (vConsA vVar (vConsA vVar vNilA))))))))
@[irreducible] def qc_L_build_1 : AS → AV → AH → Rs (Option AV) := mTurn (mNm 11) mTYes (mBin opIx (mVar 11) (mLit (.int (0)))) [11]
theorem eqc_L_build_1 {S : AS} {x : AV} {h : AH} : qc_L_build_1 S x h = mTurn (mNm 11) mTYes (mBin opIx (mVar 11) (mLit (.int (0)))) [11] S x h := by unfold qc_L_build_1; rfl
@[irreducible] def q_L_build_3 : SV :=
  (mSeq (mSet 9 (mCallP m_L_mixed (mCons (mCallP m_L_cell_at (mCons (mVar 0) (mCons (mBin opAdd (mLit (.int (1))) (mVar 8)) mNil))) (mCons (mLit (.int (7))) mNil))))
  (mSeq (mSet 10 (mCallP m_L_name_by (mCons (mBin opDiv (mVar 9) (mLit (.int (2)))) mNil)))
  (mSeq (mIfS (mTAnd (mTst (mBin opEq (mBin opMod (mVar 9) (mLit (.int (2)))) (mLit (.int (0))))) (mTst (mBin opNotIn (mVar 10) (mVar 1)))) (mSeq (mExp (mMl fAppend (mVar 1) (mCons (mVar 10) mNil)))
  (mExp (mMl fAppend (mVar 3) (mCons (mLstF (mCons (mLit (.str "ask")) (mCons (mVar 10) mNil))) mNil)))) mSkip)
  (mIfS (mTAnd (mTst (mBin opEq (mBin opMod (mVar 9) (mLit (.int (2)))) (mLit (.int (1))))) (mTst (mBoxD (mBin opNotIn (mVar 10) (mLc2 kF (mSq (mVar 2)) (qc_L_build_1)))))) (mSeq (mExp (mMl fAppend (mVar 2) (mCons (mTup (mCons (mVar 10) (mCons (mCallP m_L_from (mCons (mBin opDiv (mBin opDiv (mVar 9) (mLit (.int (2)))) (mBin opPow (mLit (.int (10))) (mLit (.int (15))))) (mCons (mLit (.int (1))) (mCons (mLit (.int (2000))) mNil)))) mNil))) mNil)))
  (mExp (mMl fAppend (mVar 3) (mCons (mLstF (mCons (mLit (.str "store")) (mCons (mVar 10) (mCons (mBlt fStr (mCons (mBin opIx (mBin opIx (mVar 2) (mUn opNeg (mLit (.int (1))))) (mLit (.int (1)))) mNil)) mNil)))) mNil)))) mSkip))))
theorem vq_L_build_3 : SS K Γ E0 (l_L_build_3 K Γ) (q_L_build_3) := by
  unfold q_L_build_3 l_L_build_3
  exact (vSeq (vSet (vCallP v_L_mixed (vConsA (vCallP v_L_cell_at (vConsA vVar (vConsA (vBin wAdd (vLit fun _ _ => aInt) vVar) vNilA))) (vConsA (vLit fun _ _ => aInt) vNilA))))
  (vSeq (vSet (vCallP v_L_name_by (vConsA (vBin wDiv vVar (vLit fun _ _ => aInt)) vNilA)))
  (vSeq (vIfS (vTAnd (vTst (vBin wEq (vBin wMod vVar (vLit fun _ _ => aInt)) (vLit fun _ _ => aInt))) (vTst (vBin wNotIn vVar vVar))) (vSeq (vExp (vMl wAppend vVar (vConsA vVar vNilA)))
  (vExp (vMl wAppend vVar (vConsA (vLstF (vConsA (vLit fun _ _ => aStr) (vConsA vVar vNilA))) vNilA)))) vSkip)
  (vIfS (vTAnd (vTst (vBin wEq (vBin wMod vVar (vLit fun _ _ => aInt)) (vLit fun _ _ => aInt))) (vTst (vBoxD (vBin wNotIn vVar (vLc2 (turn := qc_L_build_1) KFin.f (vSq vVar) vNm GW.nm vTYes (vBin wIx vVar (vLit fun _ _ => aInt)) (by unfold qc_L_build_1; rfl)))))) (vSeq (vExp (vMl wAppend vVar (vConsA (vTup (vConsA vVar (vConsA (vCallP v_L_from (vConsA (vBin wDiv (vBin wDiv vVar (vLit fun _ _ => aInt)) (vBin wPow (vLit fun _ _ => aInt) (vLit fun _ _ => aInt))) (vConsA (vLit fun _ _ => aInt) (vConsA (vLit fun _ _ => aInt) vNilA)))) vNilA))) vNilA)))
  (vExp (vMl wAppend vVar (vConsA (vLstF (vConsA (vLit fun _ _ => aStr) (vConsA vVar (vConsA (vBlt wStr (vConsA (vBin wIx (vBin wIx vVar (vUn wNeg (vLit fun _ _ => aInt))) (vLit fun _ _ => aInt)) vNilA)) vNilA)))) vNilA)))) vSkip))))
@[irreducible] def q_L_build : SV :=
  (mSeq (mSet 1 (mLst mNil))
  (mSeq (mSet 2 (mLst mNil))
  (mSeq (mSet 3 (mLst mNil))
  (mSeq (mSet 4 (mLst mNil))
  (mSeq (mSet 5 (mLst mNil))
  (mSeq (mSet 6 (mCallP m_L_mixed (mCons (mCallP m_L_cell_at (mCons (mVar 0) (mCons (mLit (.int (0))) mNil))) (mCons (mLit (.int (6))) mNil))))
  (mSeq (mSet 7 (mBin opMod (mVar 6) (mLit (.int (7)))))
  (mSeq (mFor (mR1 (mVar 7)) (mNm 8) (q_L_build_3))
  (mSeq (mFor (mSq (mSl opSl (mVar 0) (mOPart (mBin opAdd (mLit (.int (1))) (mVar 7))) (mOPart (mBin opAdd (mLit (.int (161))) (mVar 7))))) (mNm 9) (q_L_build_2))
  (mSeq (mWhile (mTst (mBin opGt (mBlt fLen (mCons (mVar 5) mNil)) (mLit (.int (0))))) (q_L_build_1))
  (mRet (mTup (mCons (mVar 1) (mCons (mVar 2) (mCons (mVar 4) (mCons (mVar 3) mNil))))))))))))))))
theorem vq_L_build : SS K Γ E0 (b_L_build K Γ) (q_L_build) := by
  unfold q_L_build b_L_build
  exact (vSeq (vSet (vLst vNilA))
  (vSeq (vSet (vLst vNilA))
  (vSeq (vSet (vLst vNilA))
  (vSeq (vSet (vLst vNilA))
  (vSeq (vSet (vLst vNilA))
  (vSeq (vSet (vCallP v_L_mixed (vConsA (vCallP v_L_cell_at (vConsA vVar (vConsA (vLit fun _ _ => aInt) vNilA))) (vConsA (vLit fun _ _ => aInt) vNilA))))
  (vSeq (vSet (vBin wMod vVar (vLit fun _ _ => aInt)))
  (vSeq (vFor (vR1 vVar) vNm vq_L_build_3)
  (vSeq (vFor (vSq (vSl wSl vVar (vOPart (vBin wAdd (vLit fun _ _ => aInt) vVar)) (vOPart (vBin wAdd (vLit fun _ _ => aInt) vVar)))) vNm vq_L_build_2)
  (vSeq (vWhile (vTst (vBin wGt (vBlt wLen (vConsA vVar vNilA)) (vLit fun _ _ => aInt))) vq_L_build_1)
  (vRet (vTup (vConsA vVar (vConsA vVar (vConsA vVar (vConsA vVar vNilA))))))))))))))))
structure sp_L_build (K : PySem.W.Frag) (Γ : Gm) (vs : List V) (H : Hp) (Q : VK) (E : XK) : Prop where
  run : match vs with
  | [a0] => b_L_build K Γ { nx := fun _ H' => Q .non H', rt := Q } [some a0, none, none, none, none, none, none, none, none, none, none, none] H
  | _ => False
@[irreducible] def m_L_build : MF := fun xs h => match xs with
  | [a0] => ouR (q_L_build [some a0, none, none, none, none, none, none, none, none, none, none, none] h)
  | _ => .no
theorem em_L_build {a0 : AV} {h : AH} : m_L_build [a0] h = ouR (q_L_build [some a0, none, none, none, none, none, none, none, none, none, none, none] h) := by unfold m_L_build; rfl
theorem v_L_build : SF K Γ E0 (sp_L_build K Γ) m_L_build := ⟨fun {F H φ h xs vs Q} w a o => by
  unfold m_L_build at o
  split at o
  · obtain ⟨v0, _, rfl, r0, a0⟩ := a.cons_inv; cases a0.nil_inv
    refine ⟨?_⟩
    exact vq_L_build.run w (SR.put r0 (SR.skip (SR.skip (SR.skip (SR.skip (SR.skip (SR.skip (SR.skip (SR.skip (SR.skip (SR.skip (SR.skip SR.nil)))))))))))) (OkS.def o)
  · exact o.elim⟩
theorem okf_L_build {f : Addr} {fd : FuncData} (F : L2.Fun K "_law_build" "_law_build" s_L_build f fd) (F_L_cell_at : Fn P w K mg base CX0 (1) "_law_cell_at" ["_law_script", "_law_k"] (sp_L_cell_at K Γ)) (F_L_ended : Fn P w K mg base CX0 (2) "_law_ended" ["_law_top", "_law_fences", "_law_lines"] (sp_L_ended K Γ)) (F_L_from : Fn P w K mg base CX0 (1) "_law_from" ["_law_n", "_law_least", "_law_greatest"] (sp_L_from K Γ)) (F_L_mixed : Fn P w K mg base CX0 (1) "_law_mixed" ["_law_cell", "_law_k"] (sp_L_mixed K Γ)) (F_L_name_by : Fn P w K mg base CX0 (2) "_law_name_by" ["_law_n"] (sp_L_name_by K Γ)) (F_L_step : Fn P w K mg base CX0 (6) "_law_step" ["_law_cell", "_law_deep", "_law_stores", "_law_top", "_law_fences", "_law_lines"] (sp_L_step K Γ)) (m_len : mg "len" = none) (m_range : mg "range" = none) (m_str : mg "str" = none) : FnOk P w K mg base CX0 (6 + 1) f fd ["_law_script"] (sp_L_build K Γ) := by
  have nd := sc_L_build.nd
  refine F.ok (k := 6) sc_L_build (fun vs H Q E h => ?_) (fun cdv A outer s H vs Q E hr h => ⟨b_L_build K Γ, ?_, ?_⟩)
  · have h := h.run; split at h; exact rfl; exact h.elim
  · have hu64 := hr.units
    have hu1 := hu_of hr
    exact (zCons (zSet (i := 1) nd rfl (by first | exact .inl rfl | exact .inr rfl) (dLst kNil))
  (zCons (zSet (i := 2) nd rfl (by first | exact .inl rfl | exact .inr rfl) (dLst kNil))
  (zCons (zSet (i := 3) nd rfl (by first | exact .inl rfl | exact .inr rfl) (dLst kNil))
  (zCons (zSet (i := 4) nd rfl (by first | exact .inl rfl | exact .inr rfl) (dLst kNil))
  (zCons (zSet (i := 5) nd rfl (by first | exact .inl rfl | exact .inr rfl) (dLst kNil))
  (zCons (zSet (i := 6) nd rfl (by first | exact .inl rfl | exact .inr rfl) (dFn F_L_mixed (hr.mono (by omega)) rfl pass0 (kCons (dFn F_L_cell_at (hr.mono (by omega)) rfl pass0 (kCons (dVar 0) (kCons dInt kNil))) (kCons dInt kNil))))
  (zCons (zSet (i := 7) nd rfl (by first | exact .inl rfl | exact .inr rfl) (dBin oMod (dVar 6) dInt))
  (zCons (zFor PassesOwn.never rfl (kR1 rfl m_range (dVar 7)) (tgNm (i := 8) nd rfl (by first | exact .inl rfl | exact .inr rfl)) (zCons (zSet (i := 9) nd rfl (by first | exact .inl rfl | exact .inr rfl) (dFn F_L_mixed (hr.mono (by omega)) rfl pass0 (kCons (dFn F_L_cell_at (hr.mono (by omega)) rfl pass0 (kCons (dVar 0) (kCons (dBin oAdd dInt (dVar 8)) kNil))) (kCons dInt kNil))))
  (zCons (zSet (i := 10) nd rfl (by first | exact .inl rfl | exact .inr rfl) (dFn F_L_name_by (hr.mono (by omega)) rfl pass0 (kCons (dBin oDiv (dVar 9) dInt) kNil)))
  (zCons (zIf (PW.pt (qAnd (qCmp (oEq hu64) (dBin oMod (dVar 9) dInt) dInt) (qAnd1 (qCmp oNotIn (dVar 10) (dVar 1))))) (zCons (zExp (dMl PySem.F.slot_list_append PySem.F.type_list_append mAppend (dVar 1) (kCons (dVar 10) kNil)))
  (zOne (zExp (dMl PySem.F.slot_list_append PySem.F.type_list_append mAppend (dVar 3) (kCons (dLst (kCons dStr (kCons (dVar 10) kNil))) kNil))))) zNil)
  (zOne (zIf (PW.pt (qAnd (qCmp (oEq hu64) (dBin oMod (dVar 9) dInt) dInt) (qAnd1 (qCmp oNotIn (dVar 10) (dLc (own := [("_law_store", 11)]) rfl nd (kSq (dVar 2)) (blkOk_by (by first | (show blkC ["_law_script", "_law_asks", "_law_stores", "_law_lines", "_law_top", "_law_fences", "_law_n", "_law_many", "_law_k", "_law_cell", "_law_x", "_law_store"] (defScope s_L_build) _ _ = true; decide +kernel) | rfl)) (fun _ _ _ _ _ => (tgNm (i := 11) nd rfl (by first | exact .inl rfl | exact .inr rfl))) (fun _ _ _ _ _ => iNo) (fun _ _ _ _ _ => (dIx (dVar 11) dInt))))))) (zCons (zExp (dMl PySem.F.slot_list_append PySem.F.type_list_append mAppend (dVar 2) (kCons (dTup (kCons (dVar 10) (kCons (dFn F_L_from (hr.mono (by omega)) rfl pass0 (kCons (dBin oDiv (dBin oDiv (dVar 9) dInt) (dBin oPow dInt dInt)) (kCons dInt (kCons dInt kNil)))) kNil))) kNil)))
  (zOne (zExp (dMl PySem.F.slot_list_append PySem.F.type_list_append mAppend (dVar 3) (kCons (dLst (kCons dStr (kCons (dVar 10) (kCons (dBty bStr rfl m_str (by decide +kernel) (kCons (dIx (dIx (dVar 2) (dUn oNeg dInt)) dInt) kNil)) kNil)))) kNil))))) zNil))))))
  (zCons (zFor PassesOwn.never rfl (kSq (dSl (dVar 0) (gSome (dBin oAdd dInt (dVar 7))) (gSome (dBin oAdd dInt (dVar 7))))) (tgNm (i := 9) nd rfl (by first | exact .inl rfl | exact .inr rfl)) (zOne (zExp (dFn F_L_step (hr.mono (by omega)) rfl pass0 (kCons (dVar 9) (kCons (dCmp (oEq hu64) (dBin oMod (dBin oDiv (dVar 6) dInt) dInt) dInt) (kCons (dVar 2) (kCons (dVar 4) (kCons (dVar 5) (kCons (dVar 3) kNil))))))))))
  (zCons (zWhile PassesOwn.never (qCmp oGt (dBlt bLen rfl m_len (by decide +kernel) (kCons (dVar 5) kNil)) dInt) (zOne (zExp (dFn F_L_ended (hr.mono (by omega)) rfl pass0 (kCons (dVar 4) (kCons (dVar 5) (kCons (dVar 3) kNil)))))))
  (zOne (zRet (dTup (kCons (dVar 1) (kCons (dVar 2) (kCons (dVar 4) (kCons (dVar 3) kNil)))))))))))))))))
  · have h := h.run; split at h; exact h; exact h.elim
theorem bd_L_build {f : Addr} {fd : FuncData} (F : L2.Fun K "_law_build" "_law_build" s_L_build f fd) : Binds K fd ["_law_script"] [] := F.binds (fun _ _ _ _ _ _ us hl => match us, hl with | [_], _ => rfl)
abbrev s_L_same : Stmt := topS 11
theorem sc_L_same : FnScope ["_law_found", "_law_due", "_law_one", "_law_two"] ["_law_found", "_law_due"] (defScope s_L_same) := ⟨rfl, rfl, rfl, by decide +kernel, rfl, by decide +kernel, by decide +kernel⟩
def l_L_same_1 (K : PySem.W.Frag) (Γ : Gm) (self_L_same : Sp) : TS :=
  (sIf (tNot (tTst (eCall (self_L_same) E0 (aCons (eVar 2) (aCons (eVar 3) aNil))))) (sRet (eLit (.bl false))) sNil)
theorem el_L_same_1 {K : PySem.W.Frag} {Γ : Gm} {self_L_same : Sp} {D : Ends} {σ : L2.St} {H : Hp} : l_L_same_1 K Γ self_L_same D σ H = ((sIf (tNot (tTst (eCall (self_L_same) E0 (aCons (eVar 2) (aCons (eVar 3) aNil))))) (sRet (eLit (.bl false))) sNil)) D σ H := rfl
def b_L_same (K : PySem.W.Frag) (Γ : Gm) (self_L_same : Sp) : TS :=
  (sSeq (sIf (tOr (tTst (eBlt (uIsi K) (aCons (eVar 1) (aCons (eLit (.ty "list")) aNil)))) (tTst (eBlt (uIsi K) (aCons (eVar 1) (aCons (eLit (.ty "tuple")) aNil))))) (sSeq (sIf (tTst (eBin (uNe K) (eBlt (uIsi K) (aCons (eVar 1) (aCons (eLit (.ty "list")) aNil))) (eBlt (uIsi K) (aCons (eVar 0) (aCons (eLit (.ty "list")) aNil))))) (sRet (eLit (.bl false))) sNil)
  (sSeq (sIf (tTst (eBin (uNe K) (eBlt (uIsi K) (aCons (eVar 1) (aCons (eLit (.ty "tuple")) aNil))) (eBlt (uIsi K) (aCons (eVar 0) (aCons (eLit (.ty "tuple")) aNil))))) (sRet (eLit (.bl false))) sNil)
  (sSeq (sIf (tTst (eBin (uNe K) (eBlt (uLen K) (aCons (eVar 0) aNil)) (eBlt (uLen K) (aCons (eVar 1) aNil)))) (sRet (eLit (.bl false))) sNil)
  (sSeq (sForP (cZp K (eVar 0) (eVar 1)) (gPr K 2 3) (l_L_same_1 K Γ self_L_same))
  (sRet (eLit (.bl true))))))) sNil)
  (sSeq (sIf (tTst (eBlt (uIsi K) (aCons (eVar 1) (aCons (eLit (.ty "str")) aNil)))) (sRet (eAnd (eBlt (uIsi K) (aCons (eVar 0) (aCons (eLit (.ty "str")) aNil))) (eBin (uEq K) (eVar 0) (eVar 1)))) sNil)
  (sRet (eAnd (eBlt (uIsi K) (aCons (eVar 0) (aCons (eLit (.ty "int")) aNil))) (eAnd (eNot (eBlt (uIsi K) (aCons (eVar 0) (aCons (eLit (.ty "bool")) aNil)))) (eBin (uEq K) (eVar 0) (eVar 1)))))))
@[irreducible] def q_L_same_1 (ms_L_same : MF) : SV :=
  (mIfS (mTNot (mTst (mCallP ms_L_same (mCons (mVar 2) (mCons (mVar 3) mNil))))) (mRet (mLit (.bl false))) mSkip)
theorem vq_L_same_1 {self_L_same : Sp} {ms_L_same : MF} (V_L_same : SF K Γ E0 self_L_same ms_L_same) : SS K Γ E0 (l_L_same_1 K Γ self_L_same) (q_L_same_1 ms_L_same) := by
  unfold q_L_same_1 l_L_same_1
  exact (vIfS (vTNot (vTst (vCallP V_L_same (vConsA vVar (vConsA vVar vNilA))))) (vRet (vLit fun _ _ => aBl)) vSkip)
@[irreducible] def q_L_same (ms_L_same : MF) : SV :=
  (mSeq (mIfS (mTOr (mTst (mIsi "list" (mVar 1))) (mTst (mIsi "tuple" (mVar 1)))) (mSeq (mIfS (mTst (mBin opNe (mIsi "list" (mVar 1)) (mIsi "list" (mVar 0)))) (mRet (mLit (.bl false))) mSkip)
  (mSeq (mIfS (mTst (mBin opNe (mIsi "tuple" (mVar 1)) (mIsi "tuple" (mVar 0)))) (mRet (mLit (.bl false))) mSkip)
  (mSeq (mIfS (mTst (mBin opNe (mBlt fLen (mCons (mVar 0) mNil)) (mBlt fLen (mCons (mVar 1) mNil)))) (mRet (mLit (.bl false))) mSkip)
  (mSeq (mForP (mZp (mVar 0) (mVar 1)) (mPr 2 3) (q_L_same_1 ms_L_same))
  (mRet (mLit (.bl true))))))) mSkip)
  (mSeq (mIfS (mTst (mIsi "str" (mVar 1))) (mRet (mAnd (mIsi "str" (mVar 0)) (mBin opEq (mVar 0) (mVar 1)))) mSkip)
  (mRet (mAnd (mIsi "int" (mVar 0)) (mAnd (mNot (mIsi "bool" (mVar 0))) (mBin opEq (mVar 0) (mVar 1)))))))
theorem vq_L_same {self_L_same : Sp} {ms_L_same : MF} (V_L_same : SF K Γ E0 self_L_same ms_L_same) : SS K Γ E0 (b_L_same K Γ self_L_same) (q_L_same ms_L_same) := by
  unfold q_L_same b_L_same
  exact (vSeq (vIfS (vTOr (vTst (vIsi vVar)) (vTst (vIsi vVar))) (vSeq (vIfS (vTst (vBin wNe (vIsi vVar) (vIsi vVar))) (vRet (vLit fun _ _ => aBl)) vSkip)
  (vSeq (vIfS (vTst (vBin wNe (vIsi vVar) (vIsi vVar))) (vRet (vLit fun _ _ => aBl)) vSkip)
  (vSeq (vIfS (vTst (vBin wNe (vBlt wLen (vConsA vVar vNilA)) (vBlt wLen (vConsA vVar vNilA)))) (vRet (vLit fun _ _ => aBl)) vSkip)
  (vSeq (vForP (vZp vVar vVar) vPr (vq_L_same_1 V_L_same))
  (vRet (vLit fun _ _ => aBl)))))) vSkip)
  (vSeq (vIfS (vTst (vIsi vVar)) (vRet (vAnd (vIsi vVar) (vBin wEq vVar vVar))) vSkip)
  (vRet (vAnd (vIsi vVar) (vAnd (vNot (vIsi vVar)) (vBin wEq vVar vVar))))))
def sp_L_same (K : PySem.W.Frag) (Γ : Gm) : Nat → Sp
  | 0 => fun _ _ _ _ => False
  | n + 1 => fun vs H Q _ => Bx (match vs with
  | [a0, a1] => b_L_same K Γ (sp_L_same K Γ n) { nx := fun _ H' => Q .non H', rt := Q } [some a0, some a1, none, none] H
  | _ => False)
def m_L_same : Nat → MF
  | 0 => fun _ _ => .no
  | n + 1 => fun xs h => match xs with
  | [a0, a1] => ouR (q_L_same (m_L_same n) [some a0, some a1, none, none] h)
  | _ => .no
theorem em_L_same {n : Nat} {a0 a1 : AV} {h : AH} : m_L_same (n + 1) [a0, a1] h = ouR (q_L_same (m_L_same n) [some a0, some a1, none, none] h) := by rw [m_L_same]
theorem vall_L_same : ∀ n : Nat, SF K Γ E0 (sp_L_same K Γ n) (m_L_same n)
  | 0 => ⟨fun w a o => by unfold m_L_same at o; exact o.elim⟩
  | n + 1 => by
    have V_L_same := vall_L_same n
    exact ⟨fun {F H φ h xs vs Q} w a o => by
      unfold m_L_same at o; unfold sp_L_same
      split at o
      · obtain ⟨v0, _, rfl, r0, a0⟩ := a.cons_inv; obtain ⟨v1, _, rfl, r1, a1⟩ := a0.cons_inv; cases a1.nil_inv
        refine Bx.mk ?_
        exact (vq_L_same V_L_same).run w (SR.put r0 (SR.put r1 (SR.skip (SR.skip SR.nil)))) (OkS.def o)
      · exact o.elim⟩
theorem v_L_same (n : Nat) : SF K Γ E0 (sp_L_same K Γ n) (m_L_same n) := (vall_L_same n)
theorem okf_L_same {f : Addr} {fd : FuncData} (F : L2.Fun K "_law_same" "_law_same" s_L_same f fd) (m_bool : mg "bool" = none) (m_int : mg "int" = none) (m_isinstance : mg "isinstance" = none) (m_len : mg "len" = none) (m_list : mg "list" = none) (m_str : mg "str" = none) (m_tuple : mg "tuple" = none) (m_zip : mg "zip" = none) {n : Nat} (F_L_same : Fn P w K mg base CX0 (0 + n) "_law_same" ["_law_found", "_law_due"] (sp_L_same K Γ n)) : FnOk P w K mg base CX0 (0 + n + 1) f fd ["_law_found", "_law_due"] (sp_L_same K Γ (n + 1)) := by
  have nd := sc_L_same.nd
  refine F.ok (k := 0 + n) sc_L_same (fun vs H Q E h => ?_) (fun cdv A outer s H vs Q E hr h => ⟨b_L_same K Γ (sp_L_same K Γ n), ?_, ?_⟩)
  · unfold sp_L_same at h; have h := h.run; split at h; exact rfl; exact h.elim
  · have hu64 := hr.units
    have hu1 := hu_of hr
    exact (zCons (zIf (PW.pt (qOr (qVal (dBlt bIsi rfl m_isinstance (by decide +kernel) (kCons (dVar 1) (kCons (dTy rfl m_list (by decide +kernel)) kNil)))) (qOr1 (qVal (dBlt bIsi rfl m_isinstance (by decide +kernel) (kCons (dVar 1) (kCons (dTy rfl m_tuple (by decide +kernel)) kNil))))))) (zCons (zIf (qCmp (oNe hu64) (dBlt bIsi rfl m_isinstance (by decide +kernel) (kCons (dVar 1) (kCons (dTy rfl m_list (by decide +kernel)) kNil))) (dBlt bIsi rfl m_isinstance (by decide +kernel) (kCons (dVar 0) (kCons (dTy rfl m_list (by decide +kernel)) kNil)))) (zOne (zRet dBl)) zNil)
  (zCons (zIf (qCmp (oNe hu64) (dBlt bIsi rfl m_isinstance (by decide +kernel) (kCons (dVar 1) (kCons (dTy rfl m_tuple (by decide +kernel)) kNil))) (dBlt bIsi rfl m_isinstance (by decide +kernel) (kCons (dVar 0) (kCons (dTy rfl m_tuple (by decide +kernel)) kNil)))) (zOne (zRet dBl)) zNil)
  (zCons (zIf (qCmp (oNe hu64) (dBlt bLen rfl m_len (by decide +kernel) (kCons (dVar 0) kNil)) (dBlt bLen rfl m_len (by decide +kernel) (kCons (dVar 1) kNil))) (zOne (zRet dBl)) zNil)
  (zCons (zForP PassesOwn.never rfl (kZp rfl m_zip (dVar 0) (dVar 1)) (tgPr (i := 2) (j := 3) nd rfl (by first | exact .inl rfl | exact .inr rfl) rfl (by first | exact .inl rfl | exact .inr rfl)) (zOne (zIf (qNot (qVal (dFn F_L_same (hr.mono (by omega)) rfl pass0 (kCons (dVar 2) (kCons (dVar 3) kNil))))) (zOne (zRet dBl)) zNil)))
  (zOne (zRet dBl)))))) zNil)
  (zCons (zIf (qVal (dBlt bIsi rfl m_isinstance (by decide +kernel) (kCons (dVar 1) (kCons (dTy rfl m_str (by decide +kernel)) kNil)))) (zOne (zRet (dAnd (dBlt bIsi rfl m_isinstance (by decide +kernel) (kCons (dVar 0) (kCons (dTy rfl m_str (by decide +kernel)) kNil))) (dOne (dCmp (oEq hu64) (dVar 0) (dVar 1)))))) zNil)
  (zOne (zRet (dAnd (dBlt bIsi rfl m_isinstance (by decide +kernel) (kCons (dVar 0) (kCons (dTy rfl m_int (by decide +kernel)) kNil))) (dAnd (dNot (dBlt bIsi rfl m_isinstance (by decide +kernel) (kCons (dVar 0) (kCons (dTy rfl m_bool (by decide +kernel)) kNil)))) (dOne (dCmp (oEq hu64) (dVar 0) (dVar 1)))))))))
  · unfold sp_L_same at h; have h := h.run; split at h; exact h; exact h.elim
theorem bd_L_same {f : Addr} {fd : FuncData} (F : L2.Fun K "_law_same" "_law_same" s_L_same f fd) : Binds K fd ["_law_found", "_law_due"] [] := F.binds (fun _ _ _ _ _ _ us hl => match us, hl with | [_, _], _ => rfl)
abbrev s_L_names : Stmt := topS 18
theorem sc_L_names : FnScope ["_law_words", "_law_word"] ["_law_words"] (defScope s_L_names) := ⟨rfl, rfl, rfl, by decide +kernel, rfl, by decide +kernel, by decide +kernel⟩
def b_L_names (K : PySem.W.Frag) (Γ : Gm) : TS :=
  (sSeq (sIf (tTst (eBin (uIn K false) (eBin (uIx K) (eVar 0) (eLit (.int 0))) (eLst (aCons (eLit (.str "ask")) (aCons (eLit (.str "store")) (aCons (eLit (.str "repeat")) (aCons (eLit (.str "else")) (aCons (eLit (.str "end")) aNil)))))))) (sRet (eLst aNil)) sNil)
  (sSeq (sIf (tTst (eBin (uIn K false) (eBin (uIx K) (eVar 0) (eLit (.int 0))) (eLst (aCons (eLit (.str "put")) (aCons (eLit (.str "get")) aNil))))) (sRet (eLst (aCons (eBin (uIx K) (eVar 0) (eLit (.int 2))) aNil))) sNil)
  (sSeq (sIf (tTst (eBin (uIn K false) (eBin (uIx K) (eVar 0) (eLit (.int 0))) (eLst (aCons (eLit (.str "give")) (aCons (eLit (.str "if")) (aCons (eLit (.str "while")) aNil)))))) (sRet (eLst (aCons (eBin (uIx K) (eVar 0) (eLit (.int 1))) aNil))) sNil)
  (sRet (eLc (cSq K (eLst (aCons (eBin (uIx K) (eVar 0) (eLit (.int 0))) (aCons (eBin (uIx K) (eVar 0) (eLit (.int 2))) (aCons (eBin (uIx K) (eVar 0) (eLit (.int 4))) aNil))))) (gNm 1) (tTst (eBin (uIn K true) (eBin (uIx K) (eVar 1) (eLit (.int 0))) (eLit (.str "0123456789")))) (eVar 1) [1])))))
@[irreducible] def qc_L_names_1 : AS → AV → AH → Rs (Option AV) := mTurn (mNm 1) (mTst (mBin opNotIn (mBin opIx (mVar 1) (mLit (.int (0)))) (mLit (.str "0123456789")))) (mVar 1) [1]
theorem eqc_L_names_1 {S : AS} {x : AV} {h : AH} : qc_L_names_1 S x h = mTurn (mNm 1) (mTst (mBin opNotIn (mBin opIx (mVar 1) (mLit (.int (0)))) (mLit (.str "0123456789")))) (mVar 1) [1] S x h := by unfold qc_L_names_1; rfl
@[irreducible] def q_L_names : SV :=
  (mSeq (mIfS (mTst (mBin opIn (mBin opIx (mVar 0) (mLit (.int (0)))) (mLstF (mCons (mLit (.str "ask")) (mCons (mLit (.str "store")) (mCons (mLit (.str "repeat")) (mCons (mLit (.str "else")) (mCons (mLit (.str "end")) mNil)))))))) (mRet (mLstF mNil)) mSkip)
  (mSeq (mIfS (mTst (mBin opIn (mBin opIx (mVar 0) (mLit (.int (0)))) (mLstF (mCons (mLit (.str "put")) (mCons (mLit (.str "get")) mNil))))) (mRet (mLstF (mCons (mBin opIx (mVar 0) (mLit (.int (2)))) mNil))) mSkip)
  (mSeq (mIfS (mTst (mBin opIn (mBin opIx (mVar 0) (mLit (.int (0)))) (mLstF (mCons (mLit (.str "give")) (mCons (mLit (.str "if")) (mCons (mLit (.str "while")) mNil)))))) (mRet (mLstF (mCons (mBin opIx (mVar 0) (mLit (.int (1)))) mNil))) mSkip)
  (mRet (mLc2 kF (mSq (mLstF (mCons (mBin opIx (mVar 0) (mLit (.int (0)))) (mCons (mBin opIx (mVar 0) (mLit (.int (2)))) (mCons (mBin opIx (mVar 0) (mLit (.int (4)))) mNil))))) (qc_L_names_1))))))
theorem vq_L_names : SS K Γ E0 (b_L_names K Γ) (q_L_names) := by
  unfold q_L_names b_L_names
  exact (vSeq (vIfS (vTst (vBin wIn (vBin wIx vVar (vLit fun _ _ => aInt)) (vLstF (vConsA (vLit fun _ _ => aStr) (vConsA (vLit fun _ _ => aStr) (vConsA (vLit fun _ _ => aStr) (vConsA (vLit fun _ _ => aStr) (vConsA (vLit fun _ _ => aStr) vNilA)))))))) (vRet (vLstF vNilA)) vSkip)
  (vSeq (vIfS (vTst (vBin wIn (vBin wIx vVar (vLit fun _ _ => aInt)) (vLstF (vConsA (vLit fun _ _ => aStr) (vConsA (vLit fun _ _ => aStr) vNilA))))) (vRet (vLstF (vConsA (vBin wIx vVar (vLit fun _ _ => aInt)) vNilA))) vSkip)
  (vSeq (vIfS (vTst (vBin wIn (vBin wIx vVar (vLit fun _ _ => aInt)) (vLstF (vConsA (vLit fun _ _ => aStr) (vConsA (vLit fun _ _ => aStr) (vConsA (vLit fun _ _ => aStr) vNilA)))))) (vRet (vLstF (vConsA (vBin wIx vVar (vLit fun _ _ => aInt)) vNilA))) vSkip)
  (vRet (vLc2 (turn := qc_L_names_1) KFin.f (vSq (vLstF (vConsA (vBin wIx vVar (vLit fun _ _ => aInt)) (vConsA (vBin wIx vVar (vLit fun _ _ => aInt)) (vConsA (vBin wIx vVar (vLit fun _ _ => aInt)) vNilA))))) vNm GW.nm (vTst (vBin wNotIn (vBin wIx vVar (vLit fun _ _ => aInt)) (vLit fun _ _ => aStr))) vVar (by unfold qc_L_names_1; rfl))))))
structure sp_L_names (K : PySem.W.Frag) (Γ : Gm) (vs : List V) (H : Hp) (Q : VK) (E : XK) : Prop where
  run : match vs with
  | [a0] => b_L_names K Γ { nx := fun _ H' => Q .non H', rt := Q } [some a0, none] H
  | _ => False
@[irreducible] def m_L_names : MF := fun xs h => match xs with
  | [a0] => ouR (q_L_names [some a0, none] h)
  | _ => .no
theorem em_L_names {a0 : AV} {h : AH} : m_L_names [a0] h = ouR (q_L_names [some a0, none] h) := by unfold m_L_names; rfl
theorem v_L_names : SF K Γ E0 (sp_L_names K Γ) m_L_names := ⟨fun {F H φ h xs vs Q} w a o => by
  unfold m_L_names at o
  split at o
  · obtain ⟨v0, _, rfl, r0, a0⟩ := a.cons_inv; cases a0.nil_inv
    refine ⟨?_⟩
    exact vq_L_names.run w (SR.put r0 (SR.skip SR.nil)) (OkS.def o)
  · exact o.elim⟩
theorem okf_L_names {f : Addr} {fd : FuncData} (F : L2.Fun K "_law_names" "_law_names" s_L_names f fd)  : FnOk P w K mg base CX0 (0 + 1) f fd ["_law_words"] (sp_L_names K Γ) := by
  have nd := sc_L_names.nd
  refine F.ok (k := 0) sc_L_names (fun vs H Q E h => ?_) (fun cdv A outer s H vs Q E hr h => ⟨b_L_names K Γ, ?_, ?_⟩)
  · have h := h.run; split at h; exact rfl; exact h.elim
  · have hu64 := hr.units
    have hu1 := hu_of hr
    exact (zCons (zIf (qCmp oIn (dIx (dVar 0) dInt) (dLst (kCons dStr (kCons dStr (kCons dStr (kCons dStr (kCons dStr kNil))))))) (zOne (zRet (dLst kNil))) zNil)
  (zCons (zIf (qCmp oIn (dIx (dVar 0) dInt) (dLst (kCons dStr (kCons dStr kNil)))) (zOne (zRet (dLst (kCons (dIx (dVar 0) dInt) kNil)))) zNil)
  (zCons (zIf (qCmp oIn (dIx (dVar 0) dInt) (dLst (kCons dStr (kCons dStr (kCons dStr kNil))))) (zOne (zRet (dLst (kCons (dIx (dVar 0) dInt) kNil)))) zNil)
  (zOne (zRet (dLc (own := [("_law_word", 1)]) rfl nd (kSq (dLst (kCons (dIx (dVar 0) dInt) (kCons (dIx (dVar 0) dInt) (kCons (dIx (dVar 0) dInt) kNil))))) (blkOk_by (by first | (show blkC ["_law_words", "_law_word"] (defScope s_L_names) _ _ = true; decide +kernel) | rfl)) (fun _ _ _ _ _ => (tgNm (i := 1) nd rfl (by first | exact .inl rfl | exact .inr rfl))) (fun _ _ _ _ _ => (iOne (qCmp oNotIn (dIx (dVar 1) dInt) dStr))) (fun _ _ _ _ _ => (dVar 1))))))))
  · have h := h.run; split at h; exact h; exact h.elim
theorem bd_L_names {f : Addr} {fd : FuncData} (F : L2.Fun K "_law_names" "_law_names" s_L_names f fd) : Binds K fd ["_law_words"] [] := F.binds (fun _ _ _ _ _ _ us hl => match us, hl with | [_], _ => rfl)
abbrev s_named : Stmt := topS 2
theorem sc_named : FnScope ["block", "found", "deed"] ["block"] (defScope s_named) := ⟨rfl, rfl, rfl, by decide +kernel, rfl, by decide +kernel, by decide +kernel⟩
def l_named_1 (K : PySem.W.Frag) (Γ : Gm) (self_named self_named_by : Sp) : TS :=
  (sAug 1 (uIAdd) (eCall (self_named_by) E0 (aCons (eVar 2) aNil)))
theorem el_named_1 {K : PySem.W.Frag} {Γ : Gm} {self_named self_named_by : Sp} {D : Ends} {σ : L2.St} {H : Hp} : l_named_1 K Γ self_named self_named_by D σ H = ((sAug 1 (uIAdd) (eCall (self_named_by) E0 (aCons (eVar 2) aNil)))) D σ H := rfl
def b_named (K : PySem.W.Frag) (Γ : Gm) (self_named self_named_by : Sp) : TS :=
  (sSeq (sSet 1 (eLst aNil))
  (sSeq (sFor (cSq K (eVar 0)) (gNm 2) (l_named_1 K Γ self_named self_named_by))
  (sRet (eSrtSet K (eVar 1)))))
@[irreducible] def q_named_1 (ms_named ms_named_by : MF) : SV :=
  (mAug 1 opIAdd (mCallP ms_named_by (mCons (mVar 2) mNil)))
theorem vq_named_1 {self_named self_named_by : Sp} {ms_named ms_named_by : MF} (V_named : SF K Γ E0 self_named ms_named) (V_named_by : SF K Γ E0 self_named_by ms_named_by) : SS K Γ E0 (l_named_1 K Γ self_named self_named_by) (q_named_1 ms_named ms_named_by) := by
  unfold q_named_1 l_named_1
  exact (vAug wIAdd (vCallP V_named_by (vConsA vVar vNilA)))
@[irreducible] def q_named (ms_named ms_named_by : MF) : SV :=
  (mSeq (mSet 1 (mLst mNil))
  (mSeq (mFor (mSq (mVar 0)) (mNm 2) (q_named_1 ms_named ms_named_by))
  (mRet (mSrtSet (mVar 1)))))
theorem vq_named {self_named self_named_by : Sp} {ms_named ms_named_by : MF} (V_named : SF K Γ E0 self_named ms_named) (V_named_by : SF K Γ E0 self_named_by ms_named_by) : SS K Γ E0 (b_named K Γ self_named self_named_by) (q_named ms_named ms_named_by) := by
  unfold q_named b_named
  exact (vSeq (vSet (vLst vNilA))
  (vSeq (vFor (vSq vVar) vNm (vq_named_1 V_named V_named_by))
  (vRet (vSrtSet vVar))))
abbrev s_named_by : Stmt := topS 1
theorem sc_named_by : FnScope ["deed", "kind", "word"] ["deed"] (defScope s_named_by) := ⟨rfl, rfl, rfl, by decide +kernel, rfl, by decide +kernel, by decide +kernel⟩
def b_named_by (K : PySem.W.Frag) (Γ : Gm) (self_named self_named_by : Sp) : TS :=
  (sSeq (sSet 1 (eBin (uIx K) (eVar 0) (eLit (.int 0))))
  (sSeq (sIf (tTst (eBin (uEq K) (eVar 1) (eLit (.str "set")))) (sRet (eLc (cSq K (eTup (aCons (eBin (uIx K) (eVar 0) (eLit (.int 1))) (aCons (eBin (uIx K) (eVar 0) (eLit (.int 2))) (aCons (eBin (uIx K) (eVar 0) (eLit (.int 4))) aNil))))) (gNm 2) (tTst (eBlt (uIsi K) (aCons (eVar 2) (aCons (eLit (.ty "str")) aNil)))) (eVar 2) [2])) sNil)
  (sSeq (sIf (tTst (eBin (uIn K false) (eVar 1) (eTup (aCons (eLit (.str "put")) (aCons (eLit (.str "get")) aNil))))) (sRet (eLst (aCons (eBin (uIx K) (eVar 0) (eLit (.int 2))) aNil))) sNil)
  (sSeq (sIf (tTst (eBin (uEq K) (eVar 1) (eLit (.str "give")))) (sRet (eLst (aCons (eBin (uIx K) (eVar 0) (eLit (.int 1))) aNil))) sNil)
  (sSeq (sIf (tTst (eBin (uEq K) (eVar 1) (eLit (.str "if")))) (sRet (eBin (uAdd K) (eBin (uAdd K) (eLst (aCons (eBin (uIx K) (eVar 0) (eLit (.int 1))) aNil)) (eCall (self_named) E0 (aCons (eBin (uIx K) (eVar 0) (eLit (.int 2))) aNil))) (eCall (self_named) E0 (aCons (eBin (uIx K) (eVar 0) (eLit (.int 3))) aNil)))) sNil)
  (sSeq (sIf (tTst (eBin (uEq K) (eVar 1) (eLit (.str "while")))) (sRet (eBin (uAdd K) (eLst (aCons (eBin (uIx K) (eVar 0) (eLit (.int 1))) aNil)) (eCall (self_named) E0 (aCons (eBin (uIx K) (eVar 0) (eLit (.int 2))) aNil)))) sNil)
  (sRet (eCall (self_named) E0 (aCons (eBin (uIx K) (eVar 0) (eLit (.int 2))) aNil)))))))))
@[irreducible] def qc_named_by_1 (ms_named ms_named_by : MF) : AS → AV → AH → Rs (Option AV) := mTurn (mNm 2) (mTst (mIsi "str" (mVar 2))) (mVar 2) [2]
theorem eqc_named_by_1 {ms_named ms_named_by : MF} {S : AS} {x : AV} {h : AH} : qc_named_by_1 ms_named ms_named_by S x h = mTurn (mNm 2) (mTst (mIsi "str" (mVar 2))) (mVar 2) [2] S x h := by unfold qc_named_by_1; rfl
@[irreducible] def q_named_by (ms_named ms_named_by : MF) : SV :=
  (mSeq (mSet 1 (mBin opIx (mVar 0) (mLit (.int (0)))))
  (mSeq (mIfS (mTst (mBin opEq (mVar 1) (mLit (.str "set")))) (mRet (mLc2 kF (mSq (mTup (mCons (mBin opIx (mVar 0) (mLit (.int (1)))) (mCons (mBin opIx (mVar 0) (mLit (.int (2)))) (mCons (mBin opIx (mVar 0) (mLit (.int (4)))) mNil))))) (qc_named_by_1 ms_named ms_named_by))) mSkip)
  (mSeq (mIfS (mTst (mBin opIn (mVar 1) (mTup (mCons (mLit (.str "put")) (mCons (mLit (.str "get")) mNil))))) (mRet (mLstF (mCons (mBin opIx (mVar 0) (mLit (.int (2)))) mNil))) mSkip)
  (mSeq (mIfS (mTst (mBin opEq (mVar 1) (mLit (.str "give")))) (mRet (mLstF (mCons (mBin opIx (mVar 0) (mLit (.int (1)))) mNil))) mSkip)
  (mSeq (mIfS (mTst (mBin opEq (mVar 1) (mLit (.str "if")))) (mRet (mBin opAdd (mBin opAdd (mLstF (mCons (mBin opIx (mVar 0) (mLit (.int (1)))) mNil)) (mCallP ms_named (mCons (mBin opIx (mVar 0) (mLit (.int (2)))) mNil))) (mCallP ms_named (mCons (mBin opIx (mVar 0) (mLit (.int (3)))) mNil)))) mSkip)
  (mSeq (mIfS (mTst (mBin opEq (mVar 1) (mLit (.str "while")))) (mRet (mBin opAdd (mLstF (mCons (mBin opIx (mVar 0) (mLit (.int (1)))) mNil)) (mCallP ms_named (mCons (mBin opIx (mVar 0) (mLit (.int (2)))) mNil)))) mSkip)
  (mRet (mCallP ms_named (mCons (mBin opIx (mVar 0) (mLit (.int (2)))) mNil)))))))))
theorem vq_named_by {self_named self_named_by : Sp} {ms_named ms_named_by : MF} (V_named : SF K Γ E0 self_named ms_named) (V_named_by : SF K Γ E0 self_named_by ms_named_by) : SS K Γ E0 (b_named_by K Γ self_named self_named_by) (q_named_by ms_named ms_named_by) := by
  unfold q_named_by b_named_by
  exact (vSeq (vSet (vBin wIx vVar (vLit fun _ _ => aInt)))
  (vSeq (vIfS (vTst (vBin wEq vVar (vLit fun _ _ => aStr))) (vRet (vLc2 (turn := qc_named_by_1 ms_named ms_named_by) KFin.f (vSq (vTup (vConsA (vBin wIx vVar (vLit fun _ _ => aInt)) (vConsA (vBin wIx vVar (vLit fun _ _ => aInt)) (vConsA (vBin wIx vVar (vLit fun _ _ => aInt)) vNilA))))) vNm GW.nm (vTst (vIsi vVar)) vVar (by unfold qc_named_by_1; rfl))) vSkip)
  (vSeq (vIfS (vTst (vBin wIn vVar (vTup (vConsA (vLit fun _ _ => aStr) (vConsA (vLit fun _ _ => aStr) vNilA))))) (vRet (vLstF (vConsA (vBin wIx vVar (vLit fun _ _ => aInt)) vNilA))) vSkip)
  (vSeq (vIfS (vTst (vBin wEq vVar (vLit fun _ _ => aStr))) (vRet (vLstF (vConsA (vBin wIx vVar (vLit fun _ _ => aInt)) vNilA))) vSkip)
  (vSeq (vIfS (vTst (vBin wEq vVar (vLit fun _ _ => aStr))) (vRet (vBin wAdd (vBin wAdd (vLstF (vConsA (vBin wIx vVar (vLit fun _ _ => aInt)) vNilA)) (vCallP V_named (vConsA (vBin wIx vVar (vLit fun _ _ => aInt)) vNilA))) (vCallP V_named (vConsA (vBin wIx vVar (vLit fun _ _ => aInt)) vNilA)))) vSkip)
  (vSeq (vIfS (vTst (vBin wEq vVar (vLit fun _ _ => aStr))) (vRet (vBin wAdd (vLstF (vConsA (vBin wIx vVar (vLit fun _ _ => aInt)) vNilA)) (vCallP V_named (vConsA (vBin wIx vVar (vLit fun _ _ => aInt)) vNilA)))) vSkip)
  (vRet (vCallP V_named (vConsA (vBin wIx vVar (vLit fun _ _ => aInt)) vNilA)))))))))
mutual
def sp_named (K : PySem.W.Frag) (Γ : Gm) : Nat → Sp
  | 0 => fun _ _ _ _ => False
  | n + 1 => fun vs H Q _ => Bx (match vs with
  | [a0] => b_named K Γ (sp_named K Γ n) (sp_named_by K Γ n) { nx := fun _ H' => Q .non H', rt := Q } [some a0, none, none] H
  | _ => False)
def sp_named_by (K : PySem.W.Frag) (Γ : Gm) : Nat → Sp
  | 0 => fun _ _ _ _ => False
  | n + 1 => fun vs H Q _ => Bx (match vs with
  | [a0] => b_named_by K Γ (sp_named K Γ n) (sp_named_by K Γ n) { nx := fun _ H' => Q .non H', rt := Q } [some a0, none, none] H
  | _ => False)
end
mutual
def m_named : Nat → MF
  | 0 => fun _ _ => .no
  | n + 1 => fun xs h => match xs with
  | [a0] => ouR (q_named (m_named n) (m_named_by n) [some a0, none, none] h)
  | _ => .no
def m_named_by : Nat → MF
  | 0 => fun _ _ => .no
  | n + 1 => fun xs h => match xs with
  | [a0] => ouR (q_named_by (m_named n) (m_named_by n) [some a0, none, none] h)
  | _ => .no
end
theorem em_named {n : Nat} {a0 : AV} {h : AH} : m_named (n + 1) [a0] h = ouR (q_named (m_named n) (m_named_by n) [some a0, none, none] h) := by rw [m_named]
theorem em_named_by {n : Nat} {a0 : AV} {h : AH} : m_named_by (n + 1) [a0] h = ouR (q_named_by (m_named n) (m_named_by n) [some a0, none, none] h) := by rw [m_named_by]
theorem vall_named : ∀ n : Nat, SF K Γ E0 (sp_named K Γ n) (m_named n) ∧ SF K Γ E0 (sp_named_by K Γ n) (m_named_by n)
  | 0 => ⟨⟨fun w a o => by unfold m_named at o; exact o.elim⟩, ⟨fun w a o => by unfold m_named_by at o; exact o.elim⟩⟩
  | n + 1 => by
    obtain ⟨V_named, V_named_by⟩ := vall_named n
    exact ⟨⟨fun {F H φ h xs vs Q} w a o => by
      unfold m_named at o; unfold sp_named
      split at o
      · obtain ⟨v0, _, rfl, r0, a0⟩ := a.cons_inv; cases a0.nil_inv
        refine Bx.mk ?_
        exact (vq_named V_named V_named_by).run w (SR.put r0 (SR.skip (SR.skip SR.nil))) (OkS.def o)
      · exact o.elim⟩,
    ⟨fun {F H φ h xs vs Q} w a o => by
      unfold m_named_by at o; unfold sp_named_by
      split at o
      · obtain ⟨v0, _, rfl, r0, a0⟩ := a.cons_inv; cases a0.nil_inv
        refine Bx.mk ?_
        exact (vq_named_by V_named V_named_by).run w (SR.put r0 (SR.skip (SR.skip SR.nil))) (OkS.def o)
      · exact o.elim⟩⟩
theorem v_named (n : Nat) : SF K Γ E0 (sp_named K Γ n) (m_named n) := (vall_named n).1
theorem v_named_by (n : Nat) : SF K Γ E0 (sp_named_by K Γ n) (m_named_by n) := (vall_named n).2
theorem okf_named {f : Addr} {fd : FuncData} (F : L2.Fun K "named" "named" s_named f fd) (m_set : mg "set" = none) (m_sorted : mg "sorted" = none) {n : Nat} (F_named_by : Fn P w K mg base CX0 (0 + n) "named_by" ["deed"] (sp_named_by K Γ n)) : FnOk P w K mg base CX0 (0 + n + 1) f fd ["block"] (sp_named K Γ (n + 1)) := by
  have nd := sc_named.nd
  refine F.ok (k := 0 + n) sc_named (fun vs H Q E h => ?_) (fun cdv A outer s H vs Q E hr h => ⟨b_named K Γ (sp_named K Γ n) (sp_named_by K Γ n), ?_, ?_⟩)
  · unfold sp_named at h; have h := h.run; split at h; exact rfl; exact h.elim
  · have hu64 := hr.units
    have hu1 := hu_of hr
    exact (zCons (zSet (i := 1) nd rfl (by first | exact .inl rfl | exact .inr rfl) (dLst kNil))
  (zCons (zFor PassesOwn.never rfl (kSq (dVar 0)) (tgNm (i := 2) nd rfl (by first | exact .inl rfl | exact .inr rfl)) (zOne (zAug (i := 1) nd rfl (by first | exact .inl rfl | exact .inr rfl) (dFn F_named_by (hr.mono (by omega)) rfl pass0 (kCons (dVar 2) kNil)) ioAdd)))
  (zOne (zRet (dSrtSet rfl rfl m_sorted rfl m_set (dVar 1))))))
  · unfold sp_named at h; have h := h.run; split at h; exact h; exact h.elim
theorem okf_named_by {f : Addr} {fd : FuncData} (F : L2.Fun K "named_by" "named_by" s_named_by f fd) (m_isinstance : mg "isinstance" = none) (m_str : mg "str" = none) {n : Nat} (F_named : Fn P w K mg base CX0 (0 + n) "named" ["block"] (sp_named K Γ n)) : FnOk P w K mg base CX0 (0 + n + 1) f fd ["deed"] (sp_named_by K Γ (n + 1)) := by
  have nd := sc_named_by.nd
  refine F.ok (k := 0 + n) sc_named_by (fun vs H Q E h => ?_) (fun cdv A outer s H vs Q E hr h => ⟨b_named_by K Γ (sp_named K Γ n) (sp_named_by K Γ n), ?_, ?_⟩)
  · unfold sp_named_by at h; have h := h.run; split at h; exact rfl; exact h.elim
  · have hu64 := hr.units
    have hu1 := hu_of hr
    exact (zCons (zSet (i := 1) nd rfl (by first | exact .inl rfl | exact .inr rfl) (dIx (dVar 0) dInt))
  (zCons (zIf (qCmp (oEq hu64) (dVar 1) dStr) (zOne (zRet (dLc (own := [("word", 2)]) rfl nd (kSq (dTup (kCons (dIx (dVar 0) dInt) (kCons (dIx (dVar 0) dInt) (kCons (dIx (dVar 0) dInt) kNil))))) (blkOk_by (by first | (show blkC ["deed", "kind", "word"] (defScope s_named_by) _ _ = true; decide +kernel) | rfl)) (fun _ _ _ _ _ => (tgNm (i := 2) nd rfl (by first | exact .inl rfl | exact .inr rfl))) (fun _ _ _ _ _ => (iOne (qVal (dBlt bIsi rfl m_isinstance (by decide +kernel) (kCons (dVar 2) (kCons (dTy rfl m_str (by decide +kernel)) kNil)))))) (fun _ _ _ _ _ => (dVar 2))))) zNil)
  (zCons (zIf (qCmp oIn (dVar 1) (dTup (kCons dStr (kCons dStr kNil)))) (zOne (zRet (dLst (kCons (dIx (dVar 0) dInt) kNil)))) zNil)
  (zCons (zIf (qCmp (oEq hu64) (dVar 1) dStr) (zOne (zRet (dLst (kCons (dIx (dVar 0) dInt) kNil)))) zNil)
  (zCons (zIf (qCmp (oEq hu64) (dVar 1) dStr) (zOne (zRet (dBin oAdd (dBin oAdd (dLst (kCons (dIx (dVar 0) dInt) kNil)) (dFn F_named (hr.mono (by omega)) rfl pass0 (kCons (dIx (dVar 0) dInt) kNil))) (dFn F_named (hr.mono (by omega)) rfl pass0 (kCons (dIx (dVar 0) dInt) kNil))))) zNil)
  (zCons (zIf (qCmp (oEq hu64) (dVar 1) dStr) (zOne (zRet (dBin oAdd (dLst (kCons (dIx (dVar 0) dInt) kNil)) (dFn F_named (hr.mono (by omega)) rfl pass0 (kCons (dIx (dVar 0) dInt) kNil))))) zNil)
  (zOne (zRet (dFn F_named (hr.mono (by omega)) rfl pass0 (kCons (dIx (dVar 0) dInt) kNil))))))))))
  · unfold sp_named_by at h; have h := h.run; split at h; exact h; exact h.elim
theorem bd_named {f : Addr} {fd : FuncData} (F : L2.Fun K "named" "named" s_named f fd) : Binds K fd ["block"] [] := F.binds (fun _ _ _ _ _ _ us hl => match us, hl with | [_], _ => rfl)
theorem bd_named_by {f : Addr} {fd : FuncData} (F : L2.Fun K "named_by" "named_by" s_named_by f fd) : Binds K fd ["deed"] [] := F.binds (fun _ _ _ _ _ _ us hl => match us, hl with | [_], _ => rfl)
abbrev s_law : Stmt := topS 19
theorem sc_law : FnScope ["_law_script", "_law_made", "_law_seen", "_law_words", "_law_word"] ["_law_script"] (defScope s_law) := ⟨rfl, rfl, rfl, by decide +kernel, rfl, by decide +kernel, by decide +kernel⟩
def l_law_2 (K : PySem.W.Frag) (Γ : Gm) : TS :=
  (sDput (eVar 2) (eVar 4) (eLit (.bl true)))
theorem el_law_2 {K : PySem.W.Frag} {Γ : Gm} {D : Ends} {σ : L2.St} {H : Hp} : l_law_2 K Γ D σ H = ((sDput (eVar 2) (eVar 4) (eLit (.bl true)))) D σ H := rfl
def l_law_1 (K : PySem.W.Frag) (Γ : Gm) : TS :=
  (sFor (cSq K (eCall (sp_L_names K Γ) E0 (aCons (eVar 3) aNil))) (gNm 4) (l_law_2 K Γ))
theorem el_law_1 {K : PySem.W.Frag} {Γ : Gm} {D : Ends} {σ : L2.St} {H : Hp} : l_law_1 K Γ D σ H = ((sFor (cSq K (eCall (sp_L_names K Γ) E0 (aCons (eVar 3) aNil))) (gNm 4) (l_law_2 K Γ))) D σ H := rfl
def b_law (K : PySem.W.Frag) (Γ : Gm) : TS :=
  (sSeq (sSet 1 (eCall (sp_L_build K Γ) E0 (aCons (eVar 0) aNil)))
  (sSeq (sSet 2 eDnew)
  (sSeq (sFor (cSq K (eBin (uIx K) (eVar 1) (eLit (.int 3)))) (gNm 3) (l_law_1 K Γ))
  (sSeq (sIf (tNot (tTst (eCall (sp_L_same K Γ 40) E0 (aCons (eCall (sp_named K Γ 32) E0 (aCons (eBin (uIx K) (eVar 1) (eLit (.int 2))) aNil)) (aCons (eSrt K (eLstD (eVar 2))) aNil))))) (sRet (eLit (.bl false))) sNil)
  (sRet (eCall (sp_L_same K Γ 40) E0 (aCons (eBin (uIx K) (eVar 1) (eLit (.int 2))) (aCons (eBin (uIx K) (eCall (sp_L_build K Γ) E0 (aCons (eVar 0) aNil)) (eLit (.int 2))) aNil))))))))
@[irreducible] def q_law_2 : SV :=
  (mDput (mVar 2) (mVar 4) (mLit (.bl true)))
theorem vq_law_2 : SS K Γ E0 (l_law_2 K Γ) (q_law_2) := by
  unfold q_law_2 l_law_2
  exact (vDput vVar vVar (vLit fun _ _ => aBl))
@[irreducible] def q_law_1 : SV :=
  (mFor (mSq (mCallP m_L_names (mCons (mVar 3) mNil))) (mNm 4) (q_law_2))
theorem vq_law_1 : SS K Γ E0 (l_law_1 K Γ) (q_law_1) := by
  unfold q_law_1 l_law_1
  exact (vFor (vSq (vCallP v_L_names (vConsA vVar vNilA))) vNm vq_law_2)
@[irreducible] def q_law : SV :=
  (mSeq (mSet 1 (mCallP m_L_build (mCons (mVar 0) mNil)))
  (mSeq (mSet 2 mDnew)
  (mSeq (mFor (mSq (mBin opIx (mVar 1) (mLit (.int (3))))) (mNm 3) (q_law_1))
  (mSeq (mIfS (mTNot (mTst (mCallP (m_L_same 40) (mCons (mCallP (m_named 32) (mCons (mBin opIx (mVar 1) (mLit (.int (2)))) mNil)) (mCons (mSrt (mLstD (mVar 2))) mNil))))) (mRet (mLit (.bl false))) mSkip)
  (mRet (mCallP (m_L_same 40) (mCons (mBin opIx (mVar 1) (mLit (.int (2)))) (mCons (mBin opIx (mCallP m_L_build (mCons (mVar 0) mNil)) (mLit (.int (2)))) mNil))))))))
theorem vq_law : SS K Γ E0 (b_law K Γ) (q_law) := by
  unfold q_law b_law
  exact (vSeq (vSet (vCallP v_L_build (vConsA vVar vNilA)))
  (vSeq (vSet vDnew)
  (vSeq (vFor (vSq (vBin wIx vVar (vLit fun _ _ => aInt))) vNm vq_law_1)
  (vSeq (vIfS (vTNot (vTst (vCallP (v_L_same 40) (vConsA (vCallP (v_named 32) (vConsA (vBin wIx vVar (vLit fun _ _ => aInt)) vNilA)) (vConsA (vSrt (vLstD vVar)) vNilA))))) (vRet (vLit fun _ _ => aBl)) vSkip)
  (vRet (vCallP (v_L_same 40) (vConsA (vBin wIx vVar (vLit fun _ _ => aInt)) (vConsA (vBin wIx (vCallP v_L_build (vConsA vVar vNilA)) (vLit fun _ _ => aInt)) vNilA))))))))
structure sp_law (K : PySem.W.Frag) (Γ : Gm) (vs : List V) (H : Hp) (Q : VK) (E : XK) : Prop where
  run : match vs with
  | [a0] => b_law K Γ { nx := fun _ H' => Q .non H', rt := Q } [some a0, none, none, none, none] H
  | _ => False
@[irreducible] def m_law : MF := fun xs h => match xs with
  | [a0] => ouR (q_law [some a0, none, none, none, none] h)
  | _ => .no
theorem em_law {a0 : AV} {h : AH} : m_law [a0] h = ouR (q_law [some a0, none, none, none, none] h) := by unfold m_law; rfl
theorem v_law : SF K Γ E0 (sp_law K Γ) m_law := ⟨fun {F H φ h xs vs Q} w a o => by
  unfold m_law at o
  split at o
  · obtain ⟨v0, _, rfl, r0, a0⟩ := a.cons_inv; cases a0.nil_inv
    refine ⟨?_⟩
    exact vq_law.run w (SR.put r0 (SR.skip (SR.skip (SR.skip (SR.skip SR.nil))))) (OkS.def o)
  · exact o.elim⟩
theorem okf_law {f : Addr} {fd : FuncData} (F : L2.Fun K "law" "law" s_law f fd) (F_L_build : Fn P w K mg base CX0 (7) "_law_build" ["_law_script"] (sp_L_build K Γ)) (F_L_names : Fn P w K mg base CX0 (1) "_law_names" ["_law_words"] (sp_L_names K Γ)) (F_L_same : Fn P w K mg base CX0 (40) "_law_same" ["_law_found", "_law_due"] (sp_L_same K Γ 40)) (F_named : Fn P w K mg base CX0 (32) "named" ["block"] (sp_named K Γ 32)) (m_list : mg "list" = none) (m_sorted : mg "sorted" = none) : FnOk P w K mg base CX0 (40 + 1) f fd ["_law_script"] (sp_law K Γ) := by
  have nd := sc_law.nd
  refine F.ok (k := 40) sc_law (fun vs H Q E h => ?_) (fun cdv A outer s H vs Q E hr h => ⟨b_law K Γ, ?_, ?_⟩)
  · have h := h.run; split at h; exact rfl; exact h.elim
  · have hu64 := hr.units
    have hu1 := hu_of hr
    exact (zCons (zSet (i := 1) nd rfl (by first | exact .inl rfl | exact .inr rfl) (dFn F_L_build (hr.mono (by omega)) rfl pass0 (kCons (dVar 0) kNil)))
  (zCons (zSet (i := 2) nd rfl (by first | exact .inl rfl | exact .inr rfl) dDnew)
  (zCons (zFor PassesOwn.never rfl (kSq (dIx (dVar 1) dInt)) (tgNm (i := 3) nd rfl (by first | exact .inl rfl | exact .inr rfl)) (zOne (zFor PassesOwn.never rfl (kSq (dFn F_L_names (hr.mono (by omega)) rfl pass0 (kCons (dVar 3) kNil))) (tgNm (i := 4) nd rfl (by first | exact .inl rfl | exact .inr rfl)) (zOne (zDput hu1 (dVar 2) (dVar 4) dBl)))))
  (zCons (zIf (qNot (qVal (dFn F_L_same (hr.mono (by omega)) rfl pass0 (kCons (dFn F_named (hr.mono (by omega)) rfl pass0 (kCons (dIx (dVar 1) dInt) kNil)) (kCons (dSrt rfl m_sorted (dLstD rfl rfl m_list (dVar 2))) kNil))))) (zOne (zRet dBl)) zNil)
  (zOne (zRet (dFn F_L_same (hr.mono (by omega)) rfl pass0 (kCons (dIx (dVar 1) dInt) (kCons (dIx (dFn F_L_build (hr.mono (by omega)) rfl pass0 (kCons (dVar 0) kNil)) dInt) kNil)))))))))
  · have h := h.run; split at h; exact h; exact h.elim
theorem bd_law {f : Addr} {fd : FuncData} (F : L2.Fun K "law" "law" s_law f fd) : Binds K fd ["_law_script"] [] := F.binds (fun _ _ _ _ _ _ us hl => match us, hl with | [_], _ => rfl)
end
def spL (K : PySem.W.Frag) : Sp := fun vs H Q E => ∀ Γ, sp_law K Γ vs H Q E

/-! deeds as trees -/
inductive Vl where
  | nm (x : Str) | nb (i : Int)
def Vl.av : Vl → AV
  | .nm x => .str x
  | .nb i => .int i
def Vl.ok : Vl → Prop
  | .nm x => PyData.strOk x = true
  | .nb _ => True
def nmV : Vl → List Str
  | .nm x => [x]
  | .nb _ => []
inductive Dd where
  | give (x : Str)
  | put (s x : Str)
  | get (s x : Str)
  | set (x : Str) (a : Vl) (z : Str) (b : Vl)
  | iff (x : Str) (p q : List Dd)
  | whl (x : Str) (p : List Dd)
  | rep (n : Int) (p : List Dd)
mutual
def Dd.av : Dd → AV
  | .give x => .tup [.str "give", .str x]
  | .put s x => .tup [.str "put", .str s, .str x]
  | .get s x => .tup [.str "get", .str s, .str x]
  | .set x a z b => .tup [.str "set", .str x, a.av, .str z, b.av]
  | .iff x p q => .tup [.str "if", .str x, .lst (Dd.avs p), .lst (Dd.avs q)]
  | .whl x p => .tup [.str "while", .str x, .lst (Dd.avs p)]
  | .rep n p => .tup [.str "repeat", .int n, .lst (Dd.avs p)]
def Dd.avs : List Dd → List AV
  | [] => []
  | d :: ds => d.av :: Dd.avs ds
end
mutual
def Dd.sz : Dd → Nat
  | .iff _ p q => 1 + (Dd.szs p + Dd.szs q)
  | .whl _ p => 1 + Dd.szs p
  | .rep _ p => 1 + Dd.szs p
  | .give _ => 1
  | .put _ _ => 1
  | .get _ _ => 1
  | .set _ _ _ _ => 1
def Dd.szs : List Dd → Nat
  | [] => 0
  | d :: ds => d.sz + Dd.szs ds
end
mutual
def Dd.dep : Dd → Nat
  | .iff _ p q => 1 + max (Dd.deps p) (Dd.deps q)
  | .whl _ p => 1 + Dd.deps p
  | .rep _ p => 1 + Dd.deps p
  | .give _ => 0
  | .put _ _ => 0
  | .get _ _ => 0
  | .set _ _ _ _ => 0
def Dd.deps : List Dd → Nat
  | [] => 0
  | d :: ds => max d.dep (Dd.deps ds)
end
mutual
def Dd.ok : Dd → Prop
  | .give x => PyData.strOk x = true
  | .put s x => PyData.strOk s = true ∧ PyData.strOk x = true ∧ s.length ≤ 1000
  | .get s x => PyData.strOk s = true ∧ PyData.strOk x = true ∧ s.length ≤ 1000
  | .set x a z b => PyData.strOk x = true ∧ a.ok ∧ PyData.strOk z = true ∧ b.ok
  | .iff x p q => PyData.strOk x = true ∧ Dd.oks p ∧ Dd.oks q
  | .whl x p => PyData.strOk x = true ∧ Dd.oks p
  | .rep _ p => Dd.oks p
def Dd.oks : List Dd → Prop
  | [] => True
  | d :: ds => d.ok ∧ Dd.oks ds
end
theorem Dd.avs_map : ∀ ds : List Dd, Dd.avs ds = ds.map Dd.av
  | [] => by rw [Dd.avs]; rfl
  | d :: ds => by rw [Dd.avs, Dd.avs_map ds]; rfl
theorem Dd.oks_all : ∀ {ds : List Dd}, Dd.oks ds ↔ ∀ d ∈ ds, d.ok
  | [] => by rw [Dd.oks]; simp
  | d :: ds => by rw [Dd.oks, Dd.oks_all]; simp
theorem Dd.szs_app : ∀ {a b : List Dd}, Dd.szs (a ++ b) = Dd.szs a + Dd.szs b
  | [], b => by rw [Dd.szs]; simp
  | d :: a, b => by rw [List.cons_append, Dd.szs, Dd.szs, Dd.szs_app]; omega
theorem Dd.deps_app : ∀ {a b : List Dd}, Dd.deps (a ++ b) = max (Dd.deps a) (Dd.deps b)
  | [], b => by rw [Dd.deps]; simp
  | d :: a, b => by rw [List.cons_append, Dd.deps, Dd.deps, Dd.deps_app]; omega
theorem Dd.oks_app {a b : List Dd} : Dd.oks (a ++ b) ↔ Dd.oks a ∧ Dd.oks b := by
  rw [Dd.oks_all, Dd.oks_all, Dd.oks_all]
  constructor
  · intro h
    exact ⟨fun d hd => h d (List.mem_append.mpr (.inl hd)), fun d hd => h d (List.mem_append.mpr (.inr hd))⟩
  · rintro ⟨h1, h2⟩ d hd
    rcases List.mem_append.mp hd with h | h
    · exact h1 d h
    · exact h2 d h
theorem Dd.len_szs : ∀ {ds : List Dd}, ds.length ≤ Dd.szs ds
  | [] => Nat.zero_le _
  | d :: ds => by
    have := Dd.len_szs (ds := ds)
    have : 1 ≤ d.sz := by cases d <;> rw [Dd.sz] <;> omega
    rw [Dd.szs, List.length_cons]; omega
theorem Vl.okv {v : Vl} (h : v.ok) : Okv 0 v.av := by
  cases v with
  | nm x => exact .str h
  | nb i => exact .int
theorem Okv.of {n m : Nat} {x : AV} (h : Okv n x) (l : n ≤ m) : Okv m x := h.up l
mutual
theorem Dd.okv : ∀ {d : Dd} {n : Nat}, d.ok → d.dep ≤ n → Okv (2 * n + 1) d.av
  | .give x, n, o, _ => by
    rw [Dd.ok] at o
    rw [Dd.av]
    exact .tup fun y hy => by
      have : y = .str "give" ∨ y = .str x := by simpa using hy
      rcases this with rfl | rfl
      · exact .str (by decide +kernel)
      · exact .str o
  | .put s x, n, o, _ => by
    rw [Dd.ok] at o
    rw [Dd.av]
    exact .tup fun y hy => by
      have : y = .str "put" ∨ y = .str s ∨ y = .str x := by simpa using hy
      rcases this with rfl | rfl | rfl
      · exact .str (by decide +kernel)
      · exact .str o.1
      · exact .str o.2.1
  | .get s x, n, o, _ => by
    rw [Dd.ok] at o
    rw [Dd.av]
    exact .tup fun y hy => by
      have : y = .str "get" ∨ y = .str s ∨ y = .str x := by simpa using hy
      rcases this with rfl | rfl | rfl
      · exact .str (by decide +kernel)
      · exact .str o.1
      · exact .str o.2.1
  | .set x a z b, n, o, _ => by
    rw [Dd.ok] at o
    rw [Dd.av]
    exact .tup fun y hy => by
      have : y = .str "set" ∨ y = .str x ∨ y = a.av ∨ y = .str z ∨ y = b.av := by simpa using hy
      rcases this with rfl | rfl | rfl | rfl | rfl
      · exact .str (by decide +kernel)
      · exact .str o.1
      · exact (Vl.okv o.2.1).up (by omega)
      · exact .str o.2.2.1
      · exact (Vl.okv o.2.2.2).up (by omega)
  | .iff x p q, n, o, h => by
    rw [Dd.ok] at o
    rw [Dd.dep] at h
    rw [Dd.av]
    obtain ⟨m, rfl⟩ : ∃ m, n = m + 1 := ⟨n - 1, by omega⟩
    exact .tup fun y hy => by
      have : y = .str "if" ∨ y = .str x ∨ y = .lst (Dd.avs p) ∨ y = .lst (Dd.avs q) := by simpa using hy
      rcases this with rfl | rfl | rfl | rfl
      · exact .str (by decide +kernel)
      · exact .str o.1
      · exact .lst (Dd.okvs o.2.1 (by omega))
      · exact .lst (Dd.okvs o.2.2 (by omega))
  | .whl x p, n, o, h => by
    rw [Dd.ok] at o
    rw [Dd.dep] at h
    rw [Dd.av]
    obtain ⟨m, rfl⟩ : ∃ m, n = m + 1 := ⟨n - 1, by omega⟩
    exact .tup fun y hy => by
      have : y = .str "while" ∨ y = .str x ∨ y = .lst (Dd.avs p) := by simpa using hy
      rcases this with rfl | rfl | rfl
      · exact .str (by decide +kernel)
      · exact .str o.1
      · exact .lst (Dd.okvs o.2 (by omega))
  | .rep k p, n, o, h => by
    rw [Dd.ok] at o
    rw [Dd.dep] at h
    rw [Dd.av]
    obtain ⟨m, rfl⟩ : ∃ m, n = m + 1 := ⟨n - 1, by omega⟩
    exact .tup fun y hy => by
      have : y = .str "repeat" ∨ y = .int k ∨ y = .lst (Dd.avs p) := by simpa using hy
      rcases this with rfl | rfl | rfl
      · exact .str (by decide +kernel)
      · exact .int
      · exact .lst (Dd.okvs o (by omega))
theorem Dd.okvs : ∀ {ds : List Dd} {n : Nat}, Dd.oks ds → Dd.deps ds ≤ n → ∀ y ∈ Dd.avs ds, Okv (2 * n + 1) y
  | [], n, _, _ => fun y hy => by rw [Dd.avs] at hy; cases hy
  | d :: ds, n, o, h => fun y hy => by
    rw [Dd.oks] at o
    rw [Dd.deps] at h
    rw [Dd.avs] at hy
    rcases List.mem_cons.mp hy with rfl | hy
    · exact Dd.okv o.1 (by omega)
    · exact Dd.okvs o.2 (by omega) y hy
end

abbrev abc : Str := "abcdefghijklmnopqrstuvwxyz"
def lcs (w : Str) : Prop := ∀ c ∈ w.cps.toList, 97 ≤ c ∧ c ≤ 122
/-- small letters alone, and a text of Python -/
structure sLc (w : Str) : Prop where
  o : PyData.strOk w = true
  l : lcs w
theorem app_cps {a b : Str} : (a ++ b).cps.toList = a.cps.toList ++ b.cps.toList := by
  show (a.cps ++ b.cps).toList = _
  simp
theorem lcs_app {a b : Str} (h1 : lcs a) (h2 : lcs b) : lcs (a ++ b) := fun c h => by
  rw [app_cps] at h
  rcases List.mem_append.mp h with h | h
  · exact h1 c h
  · exact h2 c h
theorem lcs_cut {a : Str} {lo hi : Option Int} (h1 : lcs a) : lcs (cutS a lo hi) := fun c h => by
  unfold cutS at h
  have hx := List.mem_of_mem_drop (List.mem_of_mem_take (by simpa using h))
  exact h1 c (by simpa using hx)
theorem sl_app {a b : Str} (h1 : sLc a) (h2 : sLc b) : sLc (a ++ b) := ⟨sOk_app h1.o h2.o, lcs_app h1.l h2.l⟩
theorem sl_cut {a : Str} {lo hi : Option Int} (h1 : sLc a) : sLc (cutS a lo hi) := ⟨sOk_cut h1.o, lcs_cut h1.l⟩
theorem sl_nil : sLc "" := ⟨by decide +kernel, fun c h => by
  have e : ("" : Str).cps.toList = [] := by decide +kernel
  rw [e] at h; cases h⟩
theorem abc_lc : ∀ c ∈ abc.cps.toList, 97 ≤ c ∧ c ≤ 122 := by decide +kernel
theorem at_mem {α : Type} {l : List α} {i : Int} {c : α} (h : atI l i = some c) : c ∈ l := by
  unfold L2.atI at h
  cases e : ixN l.length i with
  | none => rw [e] at h; cases h
  | some j => rw [e] at h; exact List.mem_of_getElem? h
theorem abc_atL {i : Int} (h0 : 0 ≤ i) (h1 : i < 26) : ∃ c, atI abc.cps.toList i = some c ∧ sLc ⟨#[c]⟩ := by
  have l : abc.cps.toList.length = 26 := by decide +kernel
  obtain ⟨c, e, _⟩ := at_some (l := abc.cps.toList) h0 (by omega)
  exact ⟨c, e, sOk_one (by decide +kernel) e, fun d h => by
    have : d = c := by simpa using h
    rw [this]; exact abc_lc c (at_mem e)⟩
theorem abc_at {i : Int} (h0 : 0 ≤ i) (h1 : i < 26) : ∃ c, atI abc.cps.toList i = some c ∧ PyData.strOk ⟨#[c]⟩ = true := by
  obtain ⟨c, e, h⟩ := abc_atL h0 h1
  exact ⟨c, e, h.o⟩
theorem len_one {c : Nat} : (⟨#[c]⟩ : Str).length = 1 := rfl
theorem p_lettersL {n size : Int} (hs : 0 ≤ size ∧ size ≤ 50) : ∃ w : Str, sLc w ∧ w.length = size.toNat ∧ ∀ h, kCallP m_L_letters [.int n, .int size] h = .ok (.str w) h := by
  have g : (m_L_letters [.int n, .int size] []).is fun v h' => ∃ w : Str, sLc w ∧ w.length = size.toNat ∧ v = .str w ∧ h' = [] := by
    rw [em_L_letters]
    unfold q_L_letters
    walk_at "v"
    rw [x_rgi ⟨by omega, by omega⟩, rg_map]
    walk_at "v"
    obtain ⟨S', h', e, p⟩ := for_rest (mg := mNm 3) (b := q_L_letters_1) (enc := fun k : Nat => AV.int (k : Nat)) (g := fun (l : List Nat) k => l ++ [k])
      (P := fun r dn S h => ∃ n2 w o4, S = [some (.int n2), some (.int size), some (.str w), o4] ∧ h = [] ∧ sLc w ∧ w.length + r.length = size.toNat) (List.range size.toNat) [] [some (.int n), some (.int size), some (.str ""), none] [] ⟨n, "", none, rfl, rfl, sl_nil, by rw [List.length_range]; show 0 + _ = _; omega⟩ (by
      rintro k r dn S h ⟨n2, w, o4, rfl, rfl, sw, lw⟩
      rw [List.length_cons] at lw
      obtain ⟨c, ec, oc⟩ := abc_atL (i := n2 % 26) (by omega) (by omega)
      walk_at "v"
      unfold q_L_letters_1
      walk_at "v"
      rw [x_ixs ec (by decide)]
      walk_at "v"
      refine ⟨by rw [len_one]; omega, _, rfl, _, _, _, rfl, sl_app sw oc, ?_⟩
      rw [app_len, len_one]; omega)
    obtain ⟨n2, w, o4, rfl, rfl, sw, lw⟩ := p
    rw [e]
    walk_at "v"
    exact ⟨w, sw, by rw [List.length_nil] at lw; omega, rfl⟩
  obtain ⟨v, h', e, w, sw, lw, rfl, rfl⟩ := is_ex g
  exact ⟨w, sw, lw, fun h => x_pure rfl e rfl⟩
theorem x_inL {w : Str} {ks : List Str} {ys : List AV} {h : AH} (e : ys = ks.map AV.str) : opIn (.str w) (.lst ys) h = .ok (.bl (decide (w ∈ ks))) h := by
  subst e
  have a := (x_inS (w := w) (h := h) (ks := ks) rfl).1
  have b := (x_in (h := h) (x := .str w) (y := .tup (ks.map AV.str)) (v := .str w) (vs := ks.map V.str) rfl (by show fvs (ks.map AV.str) = _; exact fvs_str ks) (fun _ q => by cases q)).1
  rw [a] at b
  have c := (x_in (h := h) (x := .str w) (y := .lst (ks.map AV.str)) (v := .str w) (vs := ks.map V.str) rfl (by show fvs (ks.map AV.str) = _; exact fvs_str ks) (fun _ q => by cases q)).1
  rw [c, ← b]
def kwds : List Str := ["ask", "store", "put", "get", "give", "if", "else", "while", "repeat", "end"]
theorem p_mixed {c k : Int} (hc : Builtin.Int.intBits c ≤ 1048576) (hk : 0 ≤ k ∧ k ≤ 100) : ∃ i : Int, 0 ≤ i ∧ i < 170141183460469231731687303715884105727 ∧ ∀ h, kCallP m_L_mixed [.int c, .int k] h = .ok (.int i) h := by
  have g : (m_L_mixed [.int c, .int k] []).is fun v h' => ∃ i : Int, 0 ≤ i ∧ i < 170141183460469231731687303715884105727 ∧ v = .int i ∧ h' = [] := by
    rw [em_L_mixed]
    unfold q_L_mixed
    walk_at "v"
    have hk1 : 0 ≤ 7919000003 * k * k ∧ 7919000003 * k * k ≤ 7919000003 * 100 * 100 := by
      obtain ⟨n, rfl⟩ := Int.eq_ofNat_of_zero_le hk.1
      have hn : n ≤ 100 := by omega
      have h1 : n * n ≤ 100 * 100 := Nat.mul_le_mul hn hn
      rw [Int.mul_assoc]
      have h2 : ((n : Int) * n) = ((n * n : Nat) : Int) := by simp
      rw [h2]
      omega
    exact ⟨mulOk (a := 64) (b := 65) (by decide) (bitsOf (by omega)), mulOk (a := 65) (b := 65) (bitsOf (a := 64) (by omega)) (bitsOf (a := 64) (by omega)), mulOk (b := 129) hc (bitsOf (a := 128) (by omega)), _, by omega, by omega, rfl⟩
  obtain ⟨v, h', e, i, a, b, rfl, rfl⟩ := is_ex g
  exact ⟨i, a, b, fun h => x_pure rfl e rfl⟩
def cellF (ns : List Int) (k : Nat) : Int := ns[k]?.getD 0
theorem f_cell {ns : List Int} {k : Nat} {h : AH} : m_L_cell_at [.scr (ns.map AV.int), .int k] h = .ok (.int (cellF ns k)) h := by
  apply is_eq
  rw [em_L_cell_at]
  unfold q_L_cell_at
  walk_at "v"
  rw [List.length_map]
  unfold cellF
  split
  · rename_i hk
    rw [at_map, atI_nat (List.getElem?_eq_getElem (by omega : k < ns.length))]
    simp only [Option.map_some]
    walk_at "v"
    rw [List.getElem?_eq_getElem (by omega)]; rfl
  · rename_i hk
    walk_at "v"
    rw [List.getElem?_eq_none (by omega)]; rfl
theorem p_cell {ns : List Int} {k : Nat} {h : AH} : kCallP m_L_cell_at [.scr (ns.map AV.int), .int k] h = .ok (.int (cellF ns k)) h := x_pure (by rw [cls_cons, cl_scr]; exact (by rw [cls_ints]; rfl)) f_cell rfl
theorem cell_bits {ns : List Int} (hb : ∀ z ∈ ns, Builtin.Int.intBits z ≤ 1048576) (k : Nat) : Builtin.Int.intBits (cellF ns k) ≤ 1048576 := by
  unfold cellF
  cases e : ns[k]? with
  | none => decide
  | some v => exact hb v (List.mem_of_getElem? e)
structure Nw (w : Str) : Prop where
  s : sLc w
  l1 : 1 ≤ w.length
  l8 : w.length ≤ 8
structure Nm (w : Str) : Prop extends Nw w where
  nk : w ∉ kwds
def L12 : List Str := ["x", "xx", "xy", "yx", "ends", "iff", "a", "z", "aaaaaaaa", "aaaaaaab", "baaaaaaa", "aaaabaaa"]
theorem L12_nw {w : Str} (h : w ∈ L12) : Nw w := by
  have q : ∀ w ∈ L12, PyData.strOk w = true ∧ (w.cps.toList.all fun c => decide (97 ≤ c ∧ c ≤ 122)) = true ∧ 1 ≤ w.length ∧ w.length ≤ 8 := by decide +kernel
  obtain ⟨a, b, c, d⟩ := q w h
  exact ⟨⟨a, fun x hx => of_decide_eq_true (List.all_eq_true.mp b x hx)⟩, c, d⟩
theorem sl_rep {k : Int} : sLc (repS "m" k) := by
  refine ⟨sOk_rep (by decide +kernel), fun c hc => ?_⟩
  unfold repS at hc
  obtain ⟨l, hl, hc⟩ := List.mem_flatten.mp hc
  rw [(List.mem_replicate.mp hl).2] at hc
  have : c = 109 := by
    rcases List.mem_cons.mp hc with h | h
    · exact h
    · cases h
  omega
theorem kw_q {w : Str} (h : w ∈ kwds) : Nm (w ++ "q") := by
  have q : ∀ w ∈ kwds, (PyData.strOk (w ++ "q") = true ∧ ((w ++ "q").cps.toList.all fun c => decide (97 ≤ c ∧ c ≤ 122)) = true ∧ 1 ≤ (w ++ "q").length ∧ (w ++ "q").length ≤ 8) ∧ (w ++ "q") ∉ kwds := by decide +kernel
  obtain ⟨⟨a, b, c, d⟩, e⟩ := q w h
  exact ⟨⟨⟨a, fun x hx => of_decide_eq_true (List.all_eq_true.mp b x hx)⟩, c, d⟩, e⟩
theorem p_name {n : Int} (hn : 0 ≤ n) : ∃ w : Str, Nm w ∧ ∀ h, kCallP m_L_name_by [.int n] h = .ok (.str w) h := by
  have g : (m_L_name_by [.int n] []).is fun v h' => ∃ w : Str, Nm w ∧ v = .str w ∧ h' = [] := by
    rw [em_L_name_by]
    unfold q_L_name_by
    walk_at "v"
    obtain ⟨w0, s0, l0, e0⟩ := p_lettersL (n := n / 32) (size := 1 + n % 8) (by omega)
    rw [e0]
    walk_at "v"
    have ekw : ∀ h, kCallP m_L_keywords [] h = .ok (.lst (kwds.map AV.str)) h := fun h => x_pure rfl (h0 := []) (by
      apply is_eq
      rw [em_L_keywords]
      unfold q_L_keywords
      walk_at "v"
      rfl) (by rw [cl_lst]; exact cls_strs)
    have fin : ∀ (w : Str), Nw w → ∀ (o1 o2 o3 o5 o6 : Option AV), (ouR ((mSeq (mIfS (mTst (mBin opIn (mVar 4) (mCallP m_L_keywords mNil))) (mSet 4 (mBin opAdd (mVar 4) (mLit (.str "q")))) mSkip) (mRet (mVar 4))) [some (.int n), o1, o2, o3, some (.str w), o5, o6] [])).is fun v h' => ∃ w : Str, Nm w ∧ v = .str w ∧ h' = [] := by
      intro w nw o1 o2 o3 o5 o6
      walk_at "v"
      rw [ekw]
      walk_at "v"
      rw [x_inL rfl]
      walk_at "v"
      by_cases c : w ∈ kwds
      · simp only [c, decide_true, ↓reduceIte]
        walk_at "v"
        have l8 := nw.l8
        have lq : (Str.length "q") = 1 := rfl
        refine ⟨by rw [lq]; omega, _, kw_q c, rfl⟩
      · simp only [c, decide_false, ↓reduceIte]
        walk_at "v"
        exact ⟨w, ⟨nw, c⟩, rfl⟩
    by_cases c0 : n / 8 % 4 = 0
    · rw [if_pos c0]
      walk_at "v"
      have e12 : ∃ w, w ∈ L12 ∧ atI [AV.str "x", .str "xx", .str "xy", .str "yx", .str "ends", .str "iff", .str "a", .str "z", .str "aaaaaaaa", .str "aaaaaaab", .str "baaaaaaa", .str "aaaabaaa"] (n / 32 % 12) = some (.str w) := by
        have l : L12.length = 12 := rfl
        obtain ⟨w, ew, mw⟩ := at_some (l := L12) (i := n / 32 % 12) (by omega) (by omega)
        refine ⟨w, mw, ?_⟩
        show atI (L12.map AV.str) _ = _
        rw [at_map, ew]; rfl
      obtain ⟨w, mw, ew⟩ := e12
      rw [ew]
      walk_at "v"
      rw [if_neg (by omega)]
      walk_at "v"
      exact fin w (L12_nw mw) _ _ _ _ _
    · rw [if_neg c0]
      walk_at "v"
      by_cases c1 : n / 8 % 4 = 1
      · rw [if_pos c1]
        walk_at "v"
        have m0 := Int.emod_nonneg (n / 32 / 26) (show 1 + n % 8 ≠ 0 by omega)
        have m1 := Int.emod_lt_of_pos (n / 32 / 26) (show 0 < 1 + n % 8 by omega)
        generalize n / 32 / 26 % (1 + n % 8) = a at m0 m1
        obtain ⟨w1, s1, l1, e1⟩ := p_lettersL (n := n / 32) (size := 1) (by omega)
        have q1 := repS_len (z := "m") (k := a)
        have q2 := repS_len (z := "m") (k := 1 + n % 8 - 1 - a)
        have lm : (Str.length "m") = 1 := rfl
        rw [lm] at q1 q2
        have ok : Nw (repS "m" a ++ w1 ++ repS "m" (1 + n % 8 - 1 - a)) := ⟨sl_app (sl_app sl_rep s1) sl_rep, by rw [app_len, app_len]; omega, by rw [app_len, app_len]; omega⟩
        have z := fin _ ok
        rw [lm]
        refine ⟨by omega, ⟨by omega, by omega, by decide⟩, ?_⟩
        rw [e1]
        walk_at "v"
        refine ⟨by omega, ⟨by omega, by omega, by decide⟩, by rw [app_len]; omega, ?_⟩
        exact fin _ ok _ _ _ _ _
      · rw [if_neg c1]
        walk_at "v"
        exact fin w0 ⟨s0, by omega, by omega⟩ _ _ _ _ _
  obtain ⟨v, h', e, w, a, rfl, rfl⟩ := is_ex g
  exact ⟨w, a, fun h => x_pure rfl e rfl⟩

/-! numbers written, values drawn -/
def nS (m : Nat) : Str := Str.ofString (toString ((m : Nat) : Int))
theorem nS_tl {m : Nat} : (nS m).cps.toList = TL.numL m := TL.tl_num m
theorem nS_len {m : Nat} : (nS m).length = (TL.numL m).length := by rw [← nS_tl]; rfl
theorem nS_1 {m : Nat} : 1 ≤ (nS m).length := by
  rw [nS_len]
  exact List.length_pos_iff.mpr (TL.numL_ne m)
theorem nS_30 {m : Nat} (h : m < 10 ^ 30) : (nS m).length ≤ 30 := by rw [nS_len]; exact TL.numL_len (by decide) h
theorem numL_head : ∀ m : Nat, 1 ≤ m → (TL.numL m).head? ≠ some 48 := by
  intro m
  induction m using Nat.strongRecOn with
  | _ m ih =>
    intro h
    by_cases c : m < 10
    · rw [TL.numL_lt c]
      show some (48 + m) ≠ some 48
      simp; omega
    · rw [TL.numL_step (by omega)]
      have := ih (m / 10) (by omega) (by omega)
      cases e : TL.numL (m / 10) with
      | nil => exact absurd e (TL.numL_ne _)
      | cons c r => rw [e] at this; exact this
theorem nS_head {m : Nat} : ∃ c r, (nS m).cps.toList = c :: r ∧ 48 ≤ c ∧ c ≤ 57 ∧ (1 < (nS m).length → c ≠ 48) := by
  have d := TL.numL_digits m
  cases e : TL.numL m with
  | nil => exact absurd e (TL.numL_ne m)
  | cons c r =>
    have hc := d c (by rw [e]; exact List.mem_cons_self)
    refine ⟨c, r, by rw [nS_tl, e], hc.1, hc.2, fun h z => ?_⟩
    by_cases c1 : 1 ≤ m
    · exact numL_head m c1 (by rw [e, z]; rfl)
    · have : m = 0 := by omega
      subst this
      rw [nS_len, TL.numL_lt (by decide)] at h
      exact absurd h (by decide)
inductive Vw
  | nm (w : Str)
  | nb (m : Nat)
def Vw.av : Vw → AV
  | .nm w => .str w
  | .nb m => .int m
def Vw.wd : Vw → Str
  | .nm w => w
  | .nb m => nS m
def Vw.ok : Vw → Prop
  | .nm w => Nm w
  | .nb m => m < 10 ^ 30
theorem vw_cl {v : Vw} : cl v.av = true := by cases v <;> rfl
theorem ix_strs (L : List Str) {i : Int} (h0 : 0 ≤ i) (h1 : i < L.length) : ∃ w, w ∈ L ∧ atI (L.map AV.str) i = some (.str w) := by
  obtain ⟨w, ew, mw⟩ := at_some (l := L) h0 h1
  exact ⟨w, mw, by rw [at_map, ew]; rfl⟩
theorem p_from {n : Int} {lo hi : Nat} (hl : lo ≤ hi) : ∃ m : Nat, lo ≤ m ∧ m ≤ hi ∧ ∀ h, kCallP m_L_from [.int n, .int lo, .int hi] h = .ok (.int m) h := by
  have g : (m_L_from [.int n, .int lo, .int hi] []).is fun v h' => ∃ m : Nat, lo ≤ m ∧ m ≤ hi ∧ v = .int m ∧ h' = [] := by
    rw [em_L_from]
    unfold q_L_from
    walk_at "v"
    by_cases c : n % 3 = 0
    · rw [if_pos c]
      walk_at "v"
      have : n / 3 % 2 = 0 ∨ n / 3 % 2 = 1 := by omega
      rcases this with q | q
      · rw [q]
        walk_at "v"
        exact ⟨lo, Nat.le_refl _, hl, rfl⟩
      · rw [q]
        walk_at "v"
        exact ⟨hi, hl, Nat.le_refl _, rfl⟩
    · rw [if_neg c]
      walk_at "v"
      have m0 := Int.emod_nonneg (n / 3) (show (hi : Int) - lo + 1 ≠ 0 by omega)
      have m1 := Int.emod_lt_of_pos (n / 3) (show 0 < (hi : Int) - lo + 1 by omega)
      exact ⟨by omega, (lo + n / 3 % ((hi : Int) - lo + 1)).toNat, by omega, by omega, by rw [Int.toNat_of_nonneg (by omega)]⟩
  obtain ⟨v, h', e, m, a, b, rfl, rfl⟩ := is_ex g
  exact ⟨m, a, b, fun h => x_pure rfl e rfl⟩
def I12 : List Nat := [0, 1, 2, 9, 10, 11, 99, 100, 10 ^ 29, 10 ^ 30 - 1, 10 ^ 30 - 2, 10 ^ 18]
theorem p_valby {n : Int} (hn : 0 ≤ n) : ∃ v : Vw, v.ok ∧ ∀ h, kCallP m_L_value_by [.int n] h = .ok v.av h := by
  have g : (m_L_value_by [.int n] []).is fun v h' => ∃ u : Vw, u.ok ∧ v = u.av ∧ h' = [] := by
    rw [em_L_value_by]
    unfold q_L_value_by
    walk_at "v"
    by_cases c : n % 4 < 2
    · rw [if_pos c]
      walk_at "v"
      obtain ⟨w, nw, ew⟩ := p_name (n := n / 4) (by omega)
      rw [ew]
      walk_at "v"
      exact ⟨.nm w, nw, rfl⟩
    rw [if_neg c]
    walk_at "v"
    have p18 : ∀ h, opPow (.int 10) (.int 18) h = .ok (.int 1000000000000000000) h := fun h => by rw [x_pow (show CPow 10 18 from ⟨by decide, by decide, by decide⟩)]; rfl
    have p29 : ∀ h, opPow (.int 10) (.int 29) h = .ok (.int 100000000000000000000000000000) h := fun h => by rw [x_pow (show CPow 10 29 from ⟨by decide, by decide, by decide⟩)]; rfl
    have p30 : ∀ h, opPow (.int 10) (.int 30) h = .ok (.int 1000000000000000000000000000000) h := fun h => by rw [x_pow (show CPow 10 30 from ⟨by decide, by decide, by decide⟩)]; rfl
    by_cases c2 : n % 4 = 2
    · rw [if_pos c2]
      walk_at "v"
      rw [p29]
      walk_at "v"
      rw [p30]
      walk_at "v"
      rw [p30]
      walk_at "v"
      rw [p18]
      walk_at "v"
      obtain ⟨m, mm, em⟩ : ∃ m, m ∈ I12 ∧ atI (I12.map fun (m : Nat) => AV.int m) (n / 4 % 12) = some (.int m) := by
        obtain ⟨m, em, mm⟩ := at_some (l := I12) (i := n / 4 % 12) (by omega) (by show _ < ((12 : Nat) : Int); omega)
        exact ⟨m, mm, by rw [at_map, em]; rfl⟩
      rw [show ([AV.int 0, AV.int 1, AV.int 2, AV.int 9, AV.int 10, AV.int 11, AV.int 99, AV.int 100, AV.int 100000000000000000000000000000, AV.int (1000000000000000000000000000000 - 1), AV.int (1000000000000000000000000000000 - 2), AV.int 1000000000000000000] : List AV) = I12.map (fun (m : Nat) => AV.int m) from rfl, em]
      walk_at "v"
      have bd : ∀ m ∈ I12, m < 10 ^ 30 := by decide +kernel
      exact ⟨.nb m, bd m mm, rfl⟩
    · rw [if_neg c2]
      walk_at "v"
      rw [p30]
      walk_at "v"
      exact ⟨.nb (n / 4 % 1000000000000000000000000000000).toNat, by show _ < 10 ^ 30; omega, by show _ = AV.int (((n / 4 % 1000000000000000000000000000000).toNat : Nat) : Int); rw [Int.toNat_of_nonneg (by omega)]⟩
  obtain ⟨v, h', e, u, o, rfl, rfl⟩ := is_ex g
  exact ⟨u, o, fun h => x_pure rfl e vw_cl⟩
theorem v_str {v : Vw} (o : v.ok) : ∀ h, fStr [v.av] h = .ok (.str v.wd) h := fun h => by
  cases v with
  | nm w => rfl
  | nb m =>
    have o : m < 10 ^ 30 := o
    show fStr [.int (m : Int)] h = _
    rw [x_fstri, if_pos]
    · rfl
    · rw [Int.natAbs_natCast]
      by_cases z : m = 0
      · subst z; decide
      · exact (Nat.log2_lt z).mpr (Nat.lt_trans o (by decide))
theorem n_log {m : Nat} (o : m < 10 ^ 30) : ((m : Int)).natAbs.log2 < 1920 := by
  rw [Int.natAbs_natCast]
  by_cases z : m = 0
  · subst z; decide
  · exact (Nat.log2_lt z).mpr (Nat.lt_trans o (by decide))
theorem n_str {m : Nat} (o : m < 10 ^ 30) : ∀ h, fStr [.int (m : Int)] h = .ok (.str (nS m)) h := v_str (v := .nb m) o

/-! the names of a block -/
def NB (n : Nat) (d : AV × List Str) : Prop := ∀ h, kCallP (m_named_by n) [d.1] h = .ok (.lst (d.2.map AV.str)) h
def flatN (ds : List (AV × List Str)) : List Str := (ds.map (·.2)).flatten
theorem flatN_mem {x : Str} {ds : List (AV × List Str)} : x ∈ flatN ds ↔ ∃ d ∈ ds, x ∈ d.2 := by
  unfold flatN
  rw [List.mem_flatten]
  constructor
  · rintro ⟨l, hl, hx⟩
    obtain ⟨d, hd, rfl⟩ := List.mem_map.mp hl
    exact ⟨d, hd, hx⟩
  · rintro ⟨d, hd, hx⟩
    exact ⟨_, List.mem_map.mpr ⟨d, hd, rfl⟩, hx⟩
theorem flatN_snoc {ds : List (AV × List Str)} {d : AV × List Str} : flatN (ds ++ [d]) = flatN ds ++ d.2 := by unfold flatN; simp
theorem fold_snoc {α : Type} : ∀ (l acc : List α), l.foldl (fun a x => a ++ [x]) acc = acc ++ l
  | [], acc => by simp
  | x :: l, acc => by rw [List.foldl_cons, fold_snoc]; simp
theorem g_named {n : Nat} {ds : List (AV × List Str)} (hd : ∀ d ∈ ds, NB n d) (hl : (flatN ds).length < 4000) : m_named (n + 1) [.lst (ds.map (·.1))] [] = .ok (.lst ((srtU (flatN ds)).map AV.str)) [.lst ((flatN ds).map AV.str)] := by
  have g : (m_named (n + 1) [.lst (ds.map (·.1))] []).is fun v h' => v = .lst ((srtU (flatN ds)).map AV.str) ∧ h' = [.lst ((flatN ds).map AV.str)] := by
    rw [em_named]
    unfold q_named
    walk_at "v"
    obtain ⟨S', h', e, p⟩ := for_rest (mg := mNm 2) (b := q_named_1 (m_named n) (m_named_by n)) (enc := fun d : AV × List Str => d.1) (g := fun a (d : AV × List Str) => a ++ [d])
      (P := fun r dn S h => dn ++ r = ds ∧ (∃ o, S = [some (.lst (ds.map (·.1))), some (.id 0), o]) ∧ h = [.lst ((flatN dn).map AV.str)]) ds [] [some (.lst (ds.map (·.1))), some (.id 0), none] [.lst []] ⟨rfl, ⟨_, rfl⟩, rfl⟩ (by
      rintro d r dn S h ⟨hr, ⟨o, rfl⟩, rfl⟩
      have hm : d ∈ ds := by rw [← hr]; simp
      have hlen : (flatN dn).length + d.2.length < 4000 := by
        have : (flatN ds).length = (flatN dn).length + (d.2.length + (flatN r).length) := by
          rw [← hr]; unfold flatN; simp
        omega
      walk_at "v"
      unfold q_named_1
      walk_at "v"
      rw [hd d hm]
      walk_at "v"
      rw [x_iext (xs := (flatN dn).map AV.str) (ys := d.2.map AV.str) rfl rfl (by simp; omega)]
      walk_at "v"
      exact ⟨_, rfl, by rw [← hr]; simp, ⟨_, rfl⟩, by rw [flatN_snoc]; simp⟩)
    rw [fold_snoc, List.nil_append] at p
    obtain ⟨_, ⟨o, rfl⟩, rfl⟩ := p
    show (ouR (Rs.thn (mForL _ _ _ _ [.lst []]) _)).is _
    rw [e]
    walk_at "v"
    have q : kSrtSet (.id 0) [.lst ((flatN ds).map AV.str)] = .ok (.lst ((srtU (flatN ds)).map AV.str)) [.lst ((flatN ds).map AV.str)] := by
      unfold kSrtSet
      rw [ls_id (xs := (flatN ds).map AV.str) rfl, Option.bind_some, strsOf_map]
      dsimp only
      rw [if_pos hl]
    rw [q]
    walk_at "v"
  obtain ⟨v, h', e, rfl, rfl⟩ := is_ex g
  exact e
theorem pn_named {n : Nat} {ds : List (AV × List Str)} {h : AH} (hd : ∀ d ∈ ds, NB n d ∧ cl d.1 = true) (hl : (flatN ds).length < 4000) : kCallP (m_named (n + 1)) [.lst (ds.map (·.1))] h = .ok (.lst ((srtU (flatN ds)).map AV.str)) h :=
  x_callP (ca_all (by rw [cls_cons, cl_lst, cls_all (xs := ds.map (·.1)) fun x hx => by
    obtain ⟨d, h1, rfl⟩ := List.mem_map.mp hx
    exact (hd d h1).2]; rfl)) (g_named (fun d h => (hd d h).1) hl) (avOf_cl (by rw [cl_lst]; exact cls_strs))
theorem srtU_len (l : List Str) : (srtU l).length ≤ l.length := by unfold srtU; rw [srtT_len]; exact ddT_len l

/-! single deeds as the law draws them -/
theorem strs_cl {l : List Str} : cl (.lst (l.map AV.str)) = true := by rw [cl_lst]; exact cls_strs
theorem Dd.cl (d : Dd) (o : d.ok) : Hf.cl d.av = true := (Dd.okv o (Nat.le_refl d.dep)).cl
def Vw.vl : Vw → Vl
  | .nm w => .nm w
  | .nb m => .nb (m : Nat)
theorem Vw.vl_av {v : Vw} : v.vl.av = v.av := by cases v <;> rfl
def sgs : List Str := ["+", "-", "*", "/", "<", "=", "&", "|", "^"]
inductive Lf where
  | put (s x : Str) | get (s x : Str) | give (x : Str) | set (x : Str) (a : Vw) (z : Str) (b : Vw)
def Lf.dd : Lf → Dd
  | .put s x => .put s x
  | .get s x => .get s x
  | .give x => .give x
  | .set x a z b => .set x a.vl z b.vl
def Lf.wds : Lf → List Str
  | .put s x => ["put", s, x]
  | .get s x => ["get", s, x]
  | .give x => ["give", x]
  | .set x a z b => [x, "=", a.wd, z, b.wd]
/-- of deeds that may stand where puts and gets may stand (v) or not -/
def Lf.ok (R : List Str) (v : Bool) : Lf → Prop
  | .put s x => v = true ∧ s ∈ R ∧ Nm s ∧ Nm x
  | .get s x => v = true ∧ s ∈ R ∧ Nm s ∧ Nm x
  | .give x => Nm x
  | .set x a z b => Nm x ∧ a.ok ∧ z ∈ sgs ∧ b.ok
theorem Nm.so {w : Str} (n : Nm w) : PyData.strOk w = true := n.s.o
theorem Vw.vl_ok {v : Vw} (o : v.ok) : v.vl.ok := by
  cases v with
  | nm w => exact Nm.so o
  | nb m => trivial
theorem sgs_ok {z : Str} (h : z ∈ sgs) : PyData.strOk z = true := by
  have : ∀ z ∈ sgs, PyData.strOk z = true := by decide +kernel
  exact this z h
theorem Lf.dd_ok {R : List Str} {v : Bool} {f : Lf} (o : f.ok R v) : f.dd.ok ∧ f.dd.dep = 0 ∧ f.dd.sz = 1 := by
  cases f with
  | put s x => exact ⟨by show Dd.ok (.put s x); rw [Dd.ok]; exact ⟨o.2.2.1.so, o.2.2.2.so, by have := o.2.2.1.l8; omega⟩, by show Dd.dep (.put s x) = 0; rw [Dd.dep], by show Dd.sz (.put s x) = 1; rw [Dd.sz]⟩
  | get s x => exact ⟨by show Dd.ok (.get s x); rw [Dd.ok]; exact ⟨o.2.2.1.so, o.2.2.2.so, by have := o.2.2.1.l8; omega⟩, by show Dd.dep (.get s x) = 0; rw [Dd.dep], by show Dd.sz (.get s x) = 1; rw [Dd.sz]⟩
  | give x => exact ⟨by show Dd.ok (.give x); rw [Dd.ok]; exact Nm.so o, by show Dd.dep (.give x) = 0; rw [Dd.dep], by show Dd.sz (.give x) = 1; rw [Dd.sz]⟩
  | set x a z b => exact ⟨by show Dd.ok (.set x a.vl z b.vl); rw [Dd.ok]; exact ⟨o.1.so, Vw.vl_ok o.2.1, sgs_ok o.2.2.1, Vw.vl_ok o.2.2.2⟩, by show Dd.dep (.set x a.vl z b.vl) = 0; rw [Dd.dep], by show Dd.sz (.set x a.vl z b.vl) = 1; rw [Dd.sz]⟩
theorem sg_ix {i : Int} (h0 : 0 ≤ i) (h1 : i < 9) : ∃ z, z ∈ sgs ∧ ∀ h, opIx (.str "+-*/<=&|^") (.int i) h = .ok (.str z) h := by
  have : i = 0 ∨ i = 1 ∨ i = 2 ∨ i = 3 ∨ i = 4 ∨ i = 5 ∨ i = 6 ∨ i = 7 ∨ i = 8 := by omega
  rcases this with rfl | rfl | rfl | rfl | rfl | rfl | rfl | rfl | rfl
  · exact ⟨"+", by decide, fun _ => rfl⟩
  · exact ⟨"-", by decide, fun _ => rfl⟩
  · exact ⟨"*", by decide, fun _ => rfl⟩
  · exact ⟨"/", by decide, fun _ => rfl⟩
  · exact ⟨"<", by decide, fun _ => rfl⟩
  · exact ⟨"=", by decide, fun _ => rfl⟩
  · exact ⟨"&", by decide, fun _ => rfl⟩
  · exact ⟨"|", by decide, fun _ => rfl⟩
  · exact ⟨"^", by decide, fun _ => rfl⟩
theorem p_setby {c : Int} {x : Str} (hc : Builtin.Int.intBits c ≤ 1048576) (nx : Nm x) : ∃ f : Lf, (∀ R v, f.ok R v) ∧ ∀ h, kCallP m_L_set_by [.int c, .str x] h = .ok f.dd.av h := by
  have g : (m_L_set_by [.int c, .str x] []).is fun v h' => ∃ f : Lf, (∀ R v, f.ok R v) ∧ v = f.dd.av ∧ h' = [] := by
    obtain ⟨n3, a3, b3, e3⟩ := p_mixed (c := c) (k := 3) hc (by omega)
    obtain ⟨n4, a4, b4, e4⟩ := p_mixed (c := c) (k := 4) hc (by omega)
    obtain ⟨n5, a5, b5, e5⟩ := p_mixed (c := c) (k := 5) hc (by omega)
    obtain ⟨v, ov, ev⟩ := p_valby a4
    obtain ⟨u, ou, eu⟩ := p_valby a5
    obtain ⟨z, mz, ez⟩ := sg_ix (i := n3 % 9) (by omega) (by omega)
    rw [em_L_set_by]
    unfold q_L_set_by
    walk_at "v"
    rw [e3]
    walk_at "v"
    rw [e4]
    walk_at "v"
    rw [ev]
    walk_at "v"
    rw [e5]
    walk_at "v"
    rw [eu]
    walk_at "v"
    rw [ez]
    walk_at "v"
    by_cases cc : n3 / 9 % 4 = 0
    · rw [if_pos cc]
      walk_at "v"
      exact ⟨.set x v "+" (.nb 0), fun R w => ⟨nx, ov, by decide, by show (0 : Nat) < 10 ^ 30; decide⟩, by
        show _ = Dd.av (.set x v.vl "+" (Vw.nb 0).vl)
        rw [Dd.av, Vw.vl_av]; rfl⟩
    · rw [if_neg cc]
      walk_at "v"
      exact ⟨.set x v z u, fun R w => ⟨nx, ov, mz, ou⟩, by
        show _ = Dd.av (.set x v.vl z u.vl)
        rw [Dd.av, Vw.vl_av, Vw.vl_av]⟩
  obtain ⟨v, h', e, f, o, rfl, rfl⟩ := is_ex g
  exact ⟨f, o, fun h => x_pure rfl e (f.dd.cl (Lf.dd_ok (o [] true)).1)⟩
def sto (p : Str × Int) : AV := .tup [.str p.1, .int p.2]
theorem sto_cl {sts : List (Str × Int)} : cl (.lst (sts.map sto)) = true := by rw [cl_lst]; exact cls_map fun _ => rfl
def fnc (q : Str × AV × AV) : AV := .lst [.str q.1, q.2.1, q.2.2]
def isRp (q : Str × AV × AV) : Bool := decide (q.1 = "repeat")
theorem p_singleby {way c : Int} {sts : List (Str × Int)} {FV : List (Str × AV × AV)} (hc : Builtin.Int.intBits c ≤ 1048576) (ls : sts.length ≤ 100) (lf : FV.length ≤ 100) (ns : ∀ s ∈ sts, Nm s.1) (cF : ∀ q ∈ FV, cl (fnc q) = true) :
    ∃ f : Lf, f.ok (sts.map (·.1)) (FV.all isRp) ∧ ∀ h, kCallP m_L_single_by [.int way, .int c, .lst (sts.map sto), .lst (FV.map fnc)] h = .ok f.dd.av h := by
  have g : (m_L_single_by [.int way, .int c, .lst (sts.map sto), .lst (FV.map fnc)] []).is fun v h' => ∃ f : Lf, f.ok (sts.map (·.1)) (FV.all isRp) ∧ v = f.dd.av ∧ h' = [] := by
    obtain ⟨n1, a1, b1, e1⟩ := p_mixed (c := c) (k := 1) hc (by omega)
    obtain ⟨n2, a2, b2, e2⟩ := p_mixed (c := c) (k := 2) hc (by omega)
    obtain ⟨x, nx, ex⟩ := p_name a2
    obtain ⟨f0, of0, ef0⟩ := p_setby (c := c) (x := x) hc nx
    rw [em_L_single_by]
    unfold q_L_single_by
    walk_at "v"
    rw [e1]
    walk_at "v"
    rw [e2]
    walk_at "v"
    rw [ex]
    walk_at "v"
    rw [List.length_map]
    obtain ⟨S', h', el, p⟩ := for_rest (mg := mNm 7) (b := q_L_single_by_1) (enc := fnc) (g := fun (l : List (Str × AV × AV)) q => l ++ [q])
      (P := fun r dn S h => (∃ o7, S = [some (.int way), some (.int c), some (.lst (sts.map sto)), some (.lst (FV.map fnc)), some (.int (n1 / 16)), some (.str x), some (.bl (decide (0 < sts.length) && dn.all isRp)), o7]) ∧ h = [] ∧ dn ++ r = FV)
      FV [] [some (.int way), some (.int c), some (.lst (sts.map sto)), some (.lst (FV.map fnc)), some (.int (n1 / 16)), some (.str x), some (.bl (decide ((0 : Int) < (sts.length : Nat)))), none] [] ⟨⟨none, by simp⟩, rfl, rfl⟩ (by
      rintro q r dn S h ⟨⟨o7, rfl⟩, rfl, hr⟩
      rw [show fnc q = .lst [.str q.1, q.2.1, q.2.2] from rfl]
      have e : (decide (0 < sts.length) && (dn ++ [q]).all isRp) = (if (decide (0 < sts.length) && dn.all isRp) = true then decide (q.1 = "repeat") else false) := by
        rw [List.all_append]
        unfold isRp
        by_cases b : (decide (0 < sts.length) && dn.all fun q => decide (q.1 = "repeat")) = true
        · rw [if_pos b, ← Bool.and_assoc, b]; simp
        · rw [if_neg b, ← Bool.and_assoc, Bool.eq_false_iff.mpr b]; rfl
      walk_at "v"
      unfold q_L_single_by_1
      walk_at "v"
      by_cases b : (decide (0 < sts.length) && dn.all isRp) = true
      · rw [if_pos b]
        walk_at "v"
        exact ⟨_, rfl, ⟨_, by rw [e, if_pos b]⟩, by rw [← hr]; simp⟩
      · rw [if_neg b]
        walk_at "v"
        exact ⟨_, rfl, ⟨_, by rw [e, if_neg b]⟩, by rw [← hr]; simp⟩)
    rw [fold_snoc, List.nil_append] at p
    obtain ⟨⟨o7, rfl⟩, rfl, _⟩ := p
    have el : mForL (mNm 7) q_L_single_by_1 (FV.map fnc) [some (.int way), some (.int c), some (.lst (sts.map sto)), some (.lst (FV.map fnc)), some (.int (n1 / 16)), some (.str x), some (.bl (decide ((0 : Int) < (sts.length : Nat)))), none] [] = _ := el
    rw [el]
    walk_at "v"
    generalize eb : (decide (0 < sts.length) && FV.all isRp) = b
    have ic : (if way < 10 then Rs.ok b ([] : AH) else Rs.ok false []) = Rs.ok (decide (way < 10) && b) [] := by split <;> rename_i q <;> simp [q]
    rw [ic]
    generalize ed : (decide (way < 10) && b) = d
    cases d with
    | true =>
      have hb : b = true := by cases b <;> simp_all
      rw [hb] at eb
      have hb : 0 < sts.length ∧ FV.all isRp = true := by
        rw [Bool.and_eq_true] at eb
        exact ⟨of_decide_eq_true eb.1, eb.2⟩
      obtain ⟨s, ms, es⟩ : ∃ s : Str × Int, s ∈ sts ∧ atI (sts.map sto) (n1 / 16 / 2 % (sts.length : Nat)) = some (sto s) := by
        obtain ⟨s, e, m⟩ := at_some (l := sts) (i := n1 / 16 / 2 % (sts.length : Nat)) (Int.emod_nonneg _ (by omega)) (Int.emod_lt_of_pos _ (by omega))
        exact ⟨s, m, by rw [at_map, e]; rfl⟩
      have sr : s.1 ∈ sts.map (·.1) := List.mem_map.mpr ⟨s, ms, rfl⟩
      have two : n1 / 16 % 2 = 0 ∨ n1 / 16 % 2 = 1 := by omega
      walk_at "v"
      rcases two with q | q
      · rw [q]
        walk_at "v"
        rw [List.length_map]
        walk_at "v"
        refine ⟨by omega, ?_⟩
        rw [es]
        unfold sto
        walk_at "v"
        exact ⟨.put s.1 x, ⟨hb.2, sr, ns s ms, nx⟩, by show _ = Dd.av (.put s.1 x); rw [Dd.av]⟩
      · rw [q]
        walk_at "v"
        rw [List.length_map]
        walk_at "v"
        refine ⟨by omega, ?_⟩
        rw [es]
        unfold sto
        walk_at "v"
        exact ⟨.get s.1 x, ⟨hb.2, sr, ns s ms, nx⟩, by show _ = Dd.av (.get s.1 x); rw [Dd.av]⟩
    | false =>
      walk_at "v"
      by_cases c11 : way < 11
      · rw [if_pos c11]
        walk_at "v"
        exact ⟨.give x, nx, by show _ = Dd.av (.give x); rw [Dd.av]⟩
      · rw [if_neg c11]
        walk_at "v"
        rw [ef0]
        walk_at "v"
        exact ⟨f0, of0 _ _, rfl⟩
  obtain ⟨v, h', e, f, o, rfl, rfl⟩ := is_ex g
  have cF2 : ∀ y ∈ FV.map fnc, cl y = true := fun y hy => by
    obtain ⟨q, hq, rfl⟩ := List.mem_map.mp hy
    exact cF q hq
  exact ⟨f, o, fun h => x_pure (by rw [cls_cons, cls_cons, cls_cons, cls_cons, sto_cl, cl_lst, cls_all cF2]; rfl) e (f.dd.cl (Lf.dd_ok o).1)⟩

/-! blocks under way: closed cells by a map, open ones by frames -/
abbrev Gh := Nat → Option (List (AV × Dd))
inductive RD (G : Gh) : AV → Dd → Prop
  | leaf {d : Dd} (h : d.dep = 0) (o : d.ok) : RD G d.av d
  | whl {x : Str} {c : Nat} {ps : List (AV × Dd)} (h : G c = some ps) : RD G (.tup [.str "while", .str x, .id c]) (.whl x (ps.map (·.2)))
  | rep {n : Int} {c : Nat} {ps : List (AV × Dd)} (h : G c = some ps) : RD G (.tup [.str "repeat", .int n, .id c]) (.rep n (ps.map (·.2)))
  | if0 {x : Str} {c : Nat} {ps : List (AV × Dd)} (h : G c = some ps) : RD G (.tup [.str "if", .str x, .id c, .lst []]) (.iff x (ps.map (·.2)) [])
  | iff {x : Str} {c e : Nat} {ps qs : List (AV × Dd)} (h : G c = some ps) (h2 : G e = some qs) : RD G (.tup [.str "if", .str x, .id c, .id e]) (.iff x (ps.map (·.2)) (qs.map (·.2)))
theorem RD.mono {G G' : Gh} (m : ∀ c ps, G c = some ps → G' c = some ps) {v : AV} {d : Dd} (r : RD G v d) : RD G' v d := by
  cases r with
  | leaf h o => exact .leaf h o
  | whl h => exact .whl (m _ _ h)
  | rep h => exact .rep (m _ _ h)
  | if0 h => exact .if0 (m _ _ h)
  | iff h h2 => exact .iff (m _ _ h) (m _ _ h2)
def Cl (G : Gh) (h : AH) : Prop := ∀ c ps, G c = some ps → h[c]? = some (.lst (ps.map (·.1))) ∧ ∀ p ∈ ps, RD G p.1 p.2
/-- what is told when all is closed -/
theorem res_all {G : Gh} {h : AH} (C : Cl G h) : ∀ (n : Nat), (∀ (v : AV) (d : Dd), RD G v d → d.dep ≤ n → avSub (avId h n) v = some d.av) ∧ (∀ (ps : List (AV × Dd)), (∀ p ∈ ps, RD G p.1 p.2) → Dd.deps (ps.map (·.2)) ≤ n → avSubs (avId h n) (ps.map (·.1)) = some (Dd.avs (ps.map (·.2)))) := by
  intro n
  have list : ∀ n, (∀ (v : AV) (d : Dd), RD G v d → d.dep ≤ n → avSub (avId h n) v = some d.av) → (∀ (ps : List (AV × Dd)), (∀ p ∈ ps, RD G p.1 p.2) → Dd.deps (ps.map (·.2)) ≤ n → avSubs (avId h n) (ps.map (·.1)) = some (Dd.avs (ps.map (·.2)))) := by
    intro n one ps
    induction ps with
    | nil => intro _ _; rw [List.map_nil, List.map_nil, avSubs, Dd.avs]
    | cons p ps ih =>
      intro hp hd
      rw [List.map_cons, Dd.deps] at hd
      rw [List.map_cons, List.map_cons, avSubs, Dd.avs, one p.1 p.2 (hp p List.mem_cons_self) (by omega), ih (fun q hq => hp q (List.mem_cons_of_mem _ hq)) (by omega)]
  induction n with
  | zero =>
    have one : ∀ (v : AV) (d : Dd), RD G v d → d.dep ≤ 0 → avSub (avId h 0) v = some d.av := by
      intro v d r hd
      cases r with
      | leaf h o => exact av_cl (d.cl o)
      | whl h => rw [Dd.dep] at hd; omega
      | rep h => rw [Dd.dep] at hd; omega
      | if0 h => rw [Dd.dep] at hd; omega
      | iff h h2 => rw [Dd.dep] at hd; omega
    exact ⟨one, list 0 one⟩
  | succ n ih =>
    have cell : ∀ c ps, G c = some ps → Dd.deps (ps.map (·.2)) ≤ n → avSub (avId h (n + 1)) (.id c) = some (.lst (Dd.avs (ps.map (·.2)))) := by
      intro c ps e hd
      obtain ⟨hc, hr⟩ := C c ps e
      rw [avSub, avId, hc]
      dsimp only
      rw [ih.2 ps hr hd]; rfl
    have one : ∀ (v : AV) (d : Dd), RD G v d → d.dep ≤ n + 1 → avSub (avId h (n + 1)) v = some d.av := by
      intro v d r hd
      cases r with
      | leaf h o => exact av_cl (d.cl o)
      | whl h =>
        rw [Dd.dep] at hd
        rw [avSub, avSubs, avSubs, avSubs, avSubs, cell _ _ h (by omega), av_cl (x := .str "while") rfl, Dd.av]
        rw [av_cl (x := .str _) rfl]; rfl
      | rep h =>
        rw [Dd.dep] at hd
        rw [avSub, avSubs, avSubs, avSubs, avSubs, cell _ _ h (by omega), av_cl (x := .str "repeat") rfl, Dd.av]
        rw [av_cl (x := .int _) rfl]; rfl
      | if0 h =>
        rw [Dd.dep] at hd
        rw [avSub, avSubs, avSubs, avSubs, avSubs, avSubs, cell _ _ h (by omega), av_cl (x := .lst []) rfl, av_cl (x := .str "if") rfl, Dd.av]
        rw [av_cl (x := .str _) rfl, Dd.avs]; rfl
      | iff h h2 =>
        rw [Dd.dep] at hd
        rw [avSub, avSubs, avSubs, avSubs, avSubs, avSubs, cell _ _ h (by omega), cell _ _ h2 (by omega), av_cl (x := .str "if") rfl, Dd.av]
        rw [av_cl (x := .str _) rfl]; rfl
    exact ⟨one, list (n + 1) one⟩
def addG (G : Gh) (c : Nat) (ps : List (AV × Dd)) : Gh := fun n => if n = c then some ps else G n
theorem addG_le {G : Gh} {c : Nat} {ps : List (AV × Dd)} (n : G c = none) : ∀ e qs, G e = some qs → addG G c ps e = some qs := fun e qs he => by
  unfold addG
  rw [if_neg (fun q => by rw [q, n] at he; cases he)]; exact he
theorem addG_same {G : Gh} {c : Nat} {ps : List (AV × Dd)} : addG G c ps c = some ps := if_pos rfl
theorem addG_ne {G : Gh} {c e : Nat} {ps : List (AV × Dd)} (h : e ≠ c) : addG G c ps e = G e := if_neg h
theorem Cl.add {G : Gh} {h : AH} {c : Nat} {ps : List (AV × Dd)} (C : Cl G h) (n : G c = none) (e : h[c]? = some (.lst (ps.map (·.1)))) (r : ∀ p ∈ ps, RD G p.1 p.2) : Cl (addG G c ps) h := fun e' qs he => by
  by_cases q : e' = c
  · subst q
    rw [addG_same] at he
    cases he
    exact ⟨e, fun p hp => (r p hp).mono (addG_le n)⟩
  · rw [addG_ne q] at he
    obtain ⟨a, b⟩ := C e' qs he
    exact ⟨a, fun p hp => (b p hp).mono (addG_le n)⟩
theorem lt_of_some {h : AH} {c : Nat} {x : AC} (e : h[c]? = some x) : c < h.length := by
  have := List.getElem?_eq_some_iff.mp e
  exact this.1
theorem app_get {h t : AH} {c : Nat} (l : c < h.length) : (h ++ t)[c]? = h[c]? := List.getElem?_append_left l
/-! the fences -/
inductive Kd where
  | iff (x : Str) | whl (x : Str) | rep (n : Nat)
def Kd.nm : Kd → Str
  | .iff _ => "if"
  | .whl _ => "while"
  | .rep _ => "repeat"
def Kd.it : Kd → AV
  | .iff x => .str x
  | .whl x => .str x
  | .rep n => .int (n : Nat)
def Kd.wd : Kd → Str
  | .iff x => x
  | .whl x => x
  | .rep n => nS n
def Kd.ok : Kd → Prop
  | .iff x => Nm x
  | .whl x => Nm x
  | .rep n => n ≤ 99
structure Sb where
  id : Nat
  ps : List (AV × Dd)
  ls : List (List Str)
def Sb.ds (s : Sb) : List Dd := s.ps.map (·.2)
structure Fe where
  id : Nat
  br : Nat
  k : Kd
  b0 : Sb
  b1 : Option Sb
def Fe.cur (f : Fe) : Sb := match f.b1 with
  | none => f.b0
  | some s => s
def Fe.upd (f : Fe) (s : Sb) : Fe := match f.b1 with
  | none => { f with b0 := s }
  | some _ => { f with b1 := some s }
def Fe.subs (f : Fe) : List Sb := match f.b1 with
  | none => [f.b0]
  | some s => [f.b0, s]
def Fe.opn (f : Fe) : List Nat := f.id :: f.br :: f.subs.map (·.id)
def opn (fs : List Fe) : List Nat := fs.flatMap Fe.opn
def curS (tp : Sb) : List Fe → Sb
  | [] => tp
  | f :: _ => f.cur
def updS (tp : Sb) (fs : List Fe) (s : Sb) : Sb × List Fe := match fs with
  | [] => (s, [])
  | f :: r => (tp, f.upd s :: r)
def SbOk (G : Gh) (h : AH) (s : Sb) : Prop := h[s.id]? = some (.lst (s.ps.map (·.1))) ∧ ∀ p ∈ s.ps, RD G p.1 p.2
structure FeOk (G : Gh) (h : AH) (f : Fe) : Prop where
  i : h[f.id]? = some (.lst [.str f.k.nm, f.k.it, .id f.br])
  b : h[f.br]? = some (.lst (f.subs.map fun s => .id s.id))
  s : ∀ s ∈ f.subs, SbOk G h s
  k : f.k.ok
  e : f.b1 ≠ none → f.k.nm = "if"
def lnA (l : List Str) : AV := .lst (l.map AV.str)
structure Bs (G : Gh) (h : AH) (A : List Str) (sts : List (Str × Int)) (L : List (List Str)) (tp : Sb) (fs : List Fe) : Prop where
  c0 : h[0]? = some (.lst (A.map AV.str))
  c1 : h[1]? = some (.lst (sts.map sto))
  c2 : h[2]? = some (.lst (L.map lnA))
  c4 : h[4]? = some (.lst (fs.reverse.map fun f => .id f.id))
  t3 : tp.id = 3
  tok : SbOk G h tp
  cl : Cl G h
  ff : ∀ f ∈ fs, FeOk G h f
  nd : (opn fs).Nodup
  gn : ∀ c ∈ opn fs, G c = none
  sp : ∀ c, (c ∈ opn fs ∨ G c ≠ none) → 4 < c
theorem SbOk.to {G G' : Gh} {h h' : AH} {s : Sb} (o : SbOk G h s) (m : ∀ c ps, G c = some ps → G' c = some ps) (hh : h'[s.id]? = h[s.id]?) : SbOk G' h' s := ⟨by rw [hh]; exact o.1, fun p hp => (o.2 p hp).mono m⟩
theorem FeOk.to {G G' : Gh} {h h' : AH} {f : Fe} (o : FeOk G h f) (m : ∀ c ps, G c = some ps → G' c = some ps) (hh : ∀ c ∈ f.opn, h'[c]? = h[c]?) : FeOk G' h' f := by
  unfold Fe.opn at hh
  refine ⟨by rw [hh _ (by simp)]; exact o.i, by rw [hh _ (by simp)]; exact o.b, fun s hs => (o.s s hs).to m (hh _ ?_), o.k, o.e⟩
  exact List.mem_cons_of_mem _ (List.mem_cons_of_mem _ (List.mem_map.mpr ⟨s, hs, rfl⟩))
theorem Cl.to {G : Gh} {h h' : AH} (C : Cl G h) (hh : ∀ c, G c ≠ none → h'[c]? = h[c]?) : Cl G h' := fun c ps e => by
  obtain ⟨a, b⟩ := C c ps e
  exact ⟨by rw [hh c (by rw [e]; simp)]; exact a, b⟩
theorem opn_cons {f : Fe} {r : List Fe} : opn (f :: r) = f.opn ++ opn r := by unfold opn; rw [List.flatMap_cons]
theorem cur_sub {f : Fe} : f.cur ∈ f.subs := by
  unfold Fe.cur Fe.subs
  split <;> simp_all
theorem cur_opn {f : Fe} : f.cur.id ∈ f.opn := by
  unfold Fe.opn
  exact List.mem_cons_of_mem _ (List.mem_cons_of_mem _ (List.mem_map.mpr ⟨_, cur_sub, rfl⟩))
theorem upd_opn {f : Fe} {s : Sb} (e : s.id = f.cur.id) : (f.upd s).opn = f.opn := by
  unfold Fe.upd Fe.opn Fe.subs
  unfold Fe.cur at e
  cases h : f.b1 with
  | none => rw [h] at e; simp [e]
  | some t => rw [h] at e; simp [e]
theorem upd_subs {f : Fe} {s t : Sb} (h : t ∈ (f.upd s).subs) : t = s ∨ (t = f.b0 ∧ f.b1 ≠ none) := by
  unfold Fe.upd Fe.subs at h
  cases e : f.b1 with
  | none => rw [e] at h; left; simpa using h
  | some u => rw [e] at h; simp at h; rcases h with h | h
              · right; exact ⟨h, by simp⟩
              · left; exact h
/-- a deed laid into the block under way -/
theorem Bs.put {G : Gh} {h : AH} {A : List Str} {sts : List (Str × Int)} {L : List (List Str)} {tp : Sb} {fs : List Fe} (B : Bs G h A sts L tp fs) {v : AV} {d : Dd} (r : RD G v d) (l : List (List Str)) :
    Bs G (h.set (curS tp fs).id (.lst ((curS tp fs).ps.map (·.1) ++ [v]))) A sts L (updS tp fs ⟨(curS tp fs).id, (curS tp fs).ps ++ [(v, d)], (curS tp fs).ls ++ l⟩).1 (updS tp fs ⟨(curS tp fs).id, (curS tp fs).ps ++ [(v, d)], (curS tp fs).ls ++ l⟩).2 := by
  have ne : ∀ {c : Nat} {y : AC} {i : Nat}, c ≠ i → (h.set i y)[c]? = h[c]? := fun n => List.getElem?_set_ne (Ne.symm n)
  cases fs with
  | nil =>
    show Bs G (h.set tp.id _) A sts L ⟨tp.id, _, _⟩ []
    have l3 : tp.id < h.length := lt_of_some B.tok.1
    have t3 := B.t3
    refine ⟨by rw [ne (by omega)]; exact B.c0, by rw [ne (by omega)]; exact B.c1, by rw [ne (by omega)]; exact B.c2, by rw [ne (by omega)]; exact B.c4, t3, ⟨?_, fun p hp => ?_⟩, B.cl.to fun c hc => ne (by have := B.sp c (.inr hc); omega), (fun f hf => by cases hf), B.nd, B.gn, B.sp⟩
    · show (h.set tp.id _)[tp.id]? = _
      rw [List.getElem?_set_self l3, List.map_append]; rfl
    · rcases List.mem_append.mp hp with hp | hp
      · exact B.tok.2 p hp
      · rw [List.mem_singleton.mp hp]; exact r
  | cons f rs =>
    show Bs G (h.set f.cur.id (.lst (f.cur.ps.map (·.1) ++ [v]))) A sts L tp (f.upd ⟨f.cur.id, f.cur.ps ++ [(v, d)], f.cur.ls ++ l⟩ :: rs)
    have fo := B.ff f List.mem_cons_self
    have nd := B.nd
    rw [opn_cons] at nd
    have co : f.cur.id ∈ opn (f :: rs) := by rw [opn_cons]; exact List.mem_append.mpr (.inl cur_opn)
    have c5 := B.sp _ (.inl co)
    have lc : f.cur.id < h.length := lt_of_some (fo.s _ cur_sub).1
    have ndf := (List.nodup_append.mp nd).1
    unfold Fe.opn at ndf
    have n1 := (List.nodup_cons.mp ndf).1
    have n2 := (List.nodup_cons.mp (List.nodup_cons.mp ndf).2).1
    have ic : f.cur.id ∈ f.subs.map (·.id) := List.mem_map.mpr ⟨_, cur_sub, rfl⟩
    have e1 : f.id ≠ f.cur.id := fun e => n1 (List.mem_cons_of_mem _ (by rw [e]; exact ic))
    have e2 : f.br ≠ f.cur.id := fun e => n2 (by rw [e]; exact ic)
    have uo : (f.upd ⟨f.cur.id, f.cur.ps ++ [(v, d)], f.cur.ls ++ l⟩).opn = f.opn := upd_opn rfl
    have uid : ∀ s, (f.upd s).id = f.id ∧ (f.upd s).br = f.br ∧ (f.upd s).k = f.k := fun s => by unfold Fe.upd; split <;> exact ⟨rfl, rfl, rfl⟩
    refine ⟨by rw [ne (by omega)]; exact B.c0, by rw [ne (by omega)]; exact B.c1, by rw [ne (by omega)]; exact B.c2, ?_, B.t3, B.tok.to (fun _ _ z => z) (ne (by rw [B.t3]; omega)), B.cl.to fun c hc => ne (fun e => hc (by rw [e]; exact B.gn _ co)), ?_, ?_, ?_, ?_⟩
    · rw [ne (by omega), B.c4, List.reverse_cons, List.reverse_cons, List.map_append, List.map_append]
      simp [(uid _).1]
    · intro g hg
      rcases List.mem_cons.mp hg with rfl | hg
      · refine ⟨by rw [(uid _).1, (uid _).2.1, (uid _).2.2, ne e1]; exact fo.i, ?_, fun t ht => ?_, by rw [(uid _).2.2]; exact fo.k, fun z => ?_⟩
        · rw [(uid _).2.1, ne e2, fo.b]
          unfold Fe.upd Fe.subs Fe.cur
          cases f.b1 <;> rfl
        · rcases upd_subs ht with rfl | ⟨rfl, nb⟩
          · refine ⟨?_, fun p hp => ?_⟩
            · show (h.set f.cur.id _)[f.cur.id]? = _
              rw [List.getElem?_set_self lc, List.map_append]; rfl
            · rcases List.mem_append.mp hp with hp | hp
              · exact (fo.s _ cur_sub).2 p hp
              · rw [List.mem_singleton.mp hp]; exact r
          · have m0 : f.b0 ∈ f.subs := by unfold Fe.subs; split <;> simp
            refine (fo.s _ m0).to (fun _ _ z => z) (ne fun e => ?_)
            have nds := (List.nodup_cons.mp (List.nodup_cons.mp ndf).2).2
            unfold Fe.subs at nds
            unfold Fe.cur at e
            cases hb : f.b1 with
            | none => exact nb hb
            | some u => rw [hb] at nds e; simp at nds; exact nds e
        · rw [(uid _).2.2]
          refine fo.e fun y => z ?_
          unfold Fe.upd; rw [y]
      · refine (B.ff g (List.mem_cons_of_mem _ hg)).to (fun _ _ z => z) fun c hc => ne fun e => ?_
        have := (List.nodup_append.mp nd).2.2 f.cur.id cur_opn f.cur.id (by unfold opn; exact List.mem_flatMap.mpr ⟨g, hg, by rw [← e]; exact hc⟩)
        exact this rfl
    · rw [opn_cons, uo, ← opn_cons]; exact B.nd
    · intro c hc
      rw [opn_cons, uo, ← opn_cons] at hc; exact B.gn c hc
    · intro c hc
      rw [opn_cons, uo, ← opn_cons] at hc; exact B.sp c hc
/-- a line more -/
theorem Bs.line {G : Gh} {h : AH} {A : List Str} {sts : List (Str × Int)} {L : List (List Str)} {tp : Sb} {fs : List Fe} (B : Bs G h A sts L tp fs) (l : List Str) : Bs G (h.set 2 (.lst (L.map lnA ++ [lnA l]))) A sts (L ++ [l]) tp fs := by
  have ne : ∀ {c : Nat} {y : AC}, c ≠ 2 → (h.set 2 y)[c]? = h[c]? := fun n => List.getElem?_set_ne (Ne.symm n)
  have l2 := lt_of_some B.c2
  refine ⟨by rw [ne (by omega)]; exact B.c0, by rw [ne (by omega)]; exact B.c1, by rw [List.getElem?_set_self l2, List.map_append]; rfl, by rw [ne (by omega)]; exact B.c4, B.t3, B.tok.to (fun _ _ z => z) (ne (by rw [B.t3]; omega)), B.cl.to fun c hc => ne (by have := B.sp c (.inr hc); omega), fun f hf => (B.ff f hf).to (fun _ _ z => z) fun c hc => ne ?_, B.nd, B.gn, B.sp⟩
  have := B.sp c (.inl (by unfold opn; exact List.mem_flatMap.mpr ⟨f, hf, hc⟩))
  omega

/-! a block opened, its second half, its end -/
section
variable {G : Gh} {h : AH} {A : List Str} {sts : List (Str × Int)} {L : List (List Str)} {tp : Sb} {fs r : List Fe} {f : Fe}
theorem Bs.lt (B : Bs G h A sts L tp fs) : (∀ c ∈ opn fs, c < h.length) ∧ (∀ c, G c ≠ none → c < h.length) ∧ 4 < h.length := by
  refine ⟨fun c hc => ?_, fun c hc => ?_, lt_of_some B.c4⟩
  · unfold opn at hc
    obtain ⟨f, hf, hc⟩ := List.mem_flatMap.mp hc
    have o := B.ff f hf
    unfold Fe.opn at hc
    rcases List.mem_cons.mp hc with rfl | hc
    · exact lt_of_some o.i
    · rcases List.mem_cons.mp hc with rfl | hc
      · exact lt_of_some o.b
      · obtain ⟨s, hs, rfl⟩ := List.mem_map.mp hc
        exact lt_of_some (o.s s hs).1
  · cases e : G c with
    | none => exact (hc e).elim
    | some ps => exact lt_of_some (B.cl c ps e).1
theorem Bs.opened (B : Bs G h A sts L tp fs) {k : Kd} (ok : k.ok) : Bs G ((h ++ [AC.lst [], AC.lst [.id h.length], AC.lst [.str k.nm, k.it, .id (h.length + 1)]]).set 4 (.lst (fs.reverse.map (fun f => AV.id f.id) ++ [.id (h.length + 2)]))) A sts L tp (⟨h.length + 2, h.length + 1, k, ⟨h.length, [], []⟩, none⟩ :: fs) := by
  obtain ⟨l1, l2, l4⟩ := B.lt
  have old : ∀ {c : Nat} {t : AH} {y : AC}, c < h.length → c ≠ 4 → ((h ++ t).set 4 y)[c]? = h[c]? := fun l n => by rw [List.getElem?_set_ne (Ne.symm n), app_get l]
  have new : ∀ (j : Nat) {t : AH} {y : AC}, ((h ++ t).set 4 y)[h.length + j]? = t[j]? := fun j => by
    intro t y
    rw [List.getElem?_set_ne (by omega), List.getElem?_append_right (by omega), Nat.add_sub_cancel_left]
  have n0 : ∀ {t : AH} {y : AC}, ((h ++ t).set 4 y)[h.length]? = t[0]? := new 0
  refine ⟨by rw [old (by omega) (by omega)]; exact B.c0, by rw [old (by omega) (by omega)]; exact B.c1, by rw [old (by omega) (by omega)]; exact B.c2, ?_, B.t3, B.tok.to (fun _ _ z => z) (old (by rw [B.t3]; omega) (by rw [B.t3]; omega)), B.cl.to fun c hc => old (l2 c hc) (by have := B.sp c (.inr hc); omega), ?_, ?_, ?_, ?_⟩
  · rw [List.getElem?_set_self (by rw [List.length_append]; omega), List.reverse_cons, List.map_append]; rfl
  · intro g hg
    rcases List.mem_cons.mp hg with rfl | hg
    · exact ⟨by rw [new 2]; rfl, by rw [new 1]; rfl, fun s hs => by
        have : s = ⟨h.length, [], []⟩ := by simpa [Fe.subs] using hs
        subst this
        exact ⟨by rw [n0]; rfl, fun p hp => by cases hp⟩, ok, fun z => (z rfl).elim⟩
    · refine (B.ff g hg).to (fun _ _ z => z) fun c hc => ?_
      have m : c ∈ opn fs := by unfold opn; exact List.mem_flatMap.mpr ⟨g, hg, hc⟩
      exact old (l1 c m) (by have := B.sp c (.inl m); omega)
  · rw [opn_cons]
    refine List.nodup_append.mpr ⟨by simp [Fe.opn, Fe.subs], B.nd, fun a ha b hb e => ?_⟩
    have := l1 b hb
    have : a = h.length + 2 ∨ a = h.length + 1 ∨ a = h.length := by simpa [Fe.opn, Fe.subs] using ha
    omega
  · intro c hc
    rw [opn_cons] at hc
    rcases List.mem_append.mp hc with hc | hc
    · have : c = h.length + 2 ∨ c = h.length + 1 ∨ c = h.length := by simpa [Fe.opn, Fe.subs] using hc
      cases e : G c with
      | none => rfl
      | some ps => have := l2 c (by rw [e]; simp); omega
    · exact B.gn c hc
  · rintro c (hc | hc)
    · rw [opn_cons] at hc
      rcases List.mem_append.mp hc with hc | hc
      · have : c = h.length + 2 ∨ c = h.length + 1 ∨ c = h.length := by simpa [Fe.opn, Fe.subs] using hc
        omega
      · exact B.sp c (.inl hc)
    · exact B.sp c (.inr hc)
theorem Bs.elsed (B : Bs G h A sts L tp (f :: r)) (hb : f.b1 = none) (hk : f.k.nm = "if") : Bs G ((h ++ [AC.lst []]).set f.br (.lst [.id f.b0.id, .id h.length])) A sts L tp ({ f with b1 := some ⟨h.length, [], []⟩ } :: r) := by
  obtain ⟨l1, l2, l4⟩ := B.lt
  have nd := B.nd
  rw [opn_cons] at nd
  have mo : ∀ c ∈ f.opn, c ∈ opn (f :: r) := fun c hc => by rw [opn_cons]; exact List.mem_append.mpr (.inl hc)
  have eo : f.opn = [f.id, f.br, f.b0.id] := by unfold Fe.opn Fe.subs; rw [hb]; rfl
  have mb : f.br ∈ f.opn := by rw [eo]; simp
  have lb := l1 _ (mo _ mb)
  have sb := B.sp _ (.inl (mo _ mb))
  have old : ∀ {c : Nat} {y : AC}, c < h.length → c ≠ f.br → ((h ++ [AC.lst []]).set f.br y)[c]? = h[c]? := fun l n => by rw [List.getElem?_set_ne (Ne.symm n), app_get l]
  have n0 : ∀ {y : AC}, ((h ++ [AC.lst []]).set f.br y)[h.length]? = some (.lst []) := by
    intro y
    rw [List.getElem?_set_ne (by omega), List.getElem?_append_right (by omega), Nat.sub_self]; rfl
  have ndf := (List.nodup_append.mp nd).1
  rw [eo] at ndf
  have d12 : f.id ≠ f.br := fun e => by rw [e] at ndf; simp at ndf
  have d23 : f.b0.id ≠ f.br := fun e => by rw [e] at ndf; simp at ndf
  have fo := B.ff f List.mem_cons_self
  have eo2 : (Fe.opn { f with b1 := some ⟨h.length, [], []⟩ }) = [f.id, f.br, f.b0.id, h.length] := rfl
  have tl : ∀ c ∈ opn r, c ∈ opn (f :: r) := fun c hc => by rw [opn_cons]; exact List.mem_append.mpr (.inr hc)
  refine ⟨by rw [old (by omega) (by omega)]; exact B.c0, by rw [old (by omega) (by omega)]; exact B.c1, by rw [old (by omega) (by omega)]; exact B.c2, by rw [old (by omega) (by omega), B.c4, List.reverse_cons, List.reverse_cons, List.map_append, List.map_append]; rfl, B.t3, B.tok.to (fun _ _ z => z) (old (by rw [B.t3]; omega) (by rw [B.t3]; omega)), B.cl.to fun c hc => old (l2 c hc) (fun e => hc (by rw [e]; exact B.gn _ (mo _ mb))), ?_, ?_, ?_, ?_⟩
  · intro g hg
    rcases List.mem_cons.mp hg with rfl | hg
    · refine ⟨?_, ?_, fun s hs => ?_, fo.k, fun _ => hk⟩
      · show ((h ++ [AC.lst []]).set f.br _)[f.id]? = _
        rw [old (l1 _ (mo _ (by rw [eo]; simp))) d12]; exact fo.i
      · show ((h ++ [AC.lst []]).set f.br _)[f.br]? = _
        rw [List.getElem?_set_self (by rw [List.length_append]; omega)]; rfl
      · have : s = f.b0 ∨ s = ⟨h.length, [], []⟩ := by simpa [Fe.subs] using hs
        rcases this with rfl | rfl
        · exact (fo.s f.b0 (by unfold Fe.subs; rw [hb]; simp)).to (fun _ _ z => z) (old (l1 _ (mo _ (by rw [eo]; simp))) d23)
        · exact ⟨n0, fun p hp => by cases hp⟩
    · refine (B.ff g (List.mem_cons_of_mem _ hg)).to (fun _ _ z => z) fun c hc => ?_
      have m : c ∈ opn r := by unfold opn; exact List.mem_flatMap.mpr ⟨g, hg, hc⟩
      exact old (l1 c (tl c m)) fun e => (List.nodup_append.mp nd).2.2 f.br mb c m e.symm
  · rw [opn_cons, eo2]
    have : f.opn ++ opn r = [f.id, f.br, f.b0.id] ++ opn r := by rw [eo]
    rw [this] at nd
    refine List.nodup_append.mpr ⟨?_, (List.nodup_append.mp nd).2.1, fun a ha b hb e => ?_⟩
    · have a1 := l1 f.id (mo _ (by rw [eo]; simp))
      have a2 := l1 f.b0.id (mo _ (by rw [eo]; simp))
      simp at ndf ⊢
      refine ⟨⟨ndf.1.1, ndf.1.2, by omega⟩, ⟨ndf.2, by omega⟩, by omega⟩
    · have lb' := l1 b (tl b hb)
      have : a ∈ [f.id, f.br, f.b0.id] ∨ a = h.length := by
        rcases List.mem_append.mp (show a ∈ [f.id, f.br, f.b0.id] ++ [h.length] from ha) with z | z
        · exact .inl z
        · exact .inr (List.mem_singleton.mp z)
      rcases this with z | z
      · exact (List.nodup_append.mp nd).2.2 a z b hb e
      · omega
  · intro c hc
    rw [opn_cons, eo2] at hc
    rcases List.mem_append.mp hc with hc | hc
    · rcases List.mem_append.mp (show c ∈ [f.id, f.br, f.b0.id] ++ [h.length] from hc) with z | z
      · exact B.gn c (mo c (by rw [eo]; exact z))
      · rw [List.mem_singleton.mp z]
        cases e : G h.length with
        | none => rfl
        | some ps => have := l2 h.length (by rw [e]; simp); omega
    · exact B.gn c (tl c hc)
  · rintro c (hc | hc)
    · rw [opn_cons, eo2] at hc
      rcases List.mem_append.mp hc with hc | hc
      · rcases List.mem_append.mp (show c ∈ [f.id, f.br, f.b0.id] ++ [h.length] from hc) with z | z
        · exact B.sp c (.inl (mo c (by rw [eo]; exact z)))
        · rw [List.mem_singleton.mp z]; exact l4
      · exact B.sp c (.inl (tl c hc))
    · exact B.sp c (.inr hc)
def Fe.snd (f : Fe) : List Dd := match f.b1 with
  | none => []
  | some s => s.ds
def Fe.sndV (f : Fe) : AV := match f.b1 with
  | none => .lst []
  | some s => .id s.id
def Fe.dd (f : Fe) : Dd := match f.k with
  | .iff x => .iff x f.b0.ds f.snd
  | .whl x => .whl x f.b0.ds
  | .rep n => .rep (n : Nat) f.b0.ds
def Fe.dv (f : Fe) : AV := match f.k with
  | .iff x => .tup [.str "if", .str x, .id f.b0.id, f.sndV]
  | .whl x => .tup [.str "while", .str x, .id f.b0.id]
  | .rep n => .tup [.str "repeat", .int (n : Nat), .id f.b0.id]
theorem Bs.popped (B : Bs G h A sts L tp (f :: r)) : ∃ G' : Gh, Bs G' (h.set 4 (.lst (r.reverse.map fun f => AV.id f.id))) A sts L tp r ∧ RD G' f.dv f.dd := by
  obtain ⟨l1, l2, l4⟩ := B.lt
  have nd := B.nd
  rw [opn_cons] at nd
  have fo := B.ff f List.mem_cons_self
  have mo : ∀ c ∈ f.opn, c ∈ opn (f :: r) := fun c hc => by rw [opn_cons]; exact List.mem_append.mpr (.inl hc)
  have tl : ∀ c ∈ opn r, c ∈ opn (f :: r) := fun c hc => by rw [opn_cons]; exact List.mem_append.mpr (.inr hc)
  have mem : ∀ s ∈ f.subs, s.id ∈ f.opn := fun s hs => List.mem_cons_of_mem _ (List.mem_cons_of_mem _ (List.mem_map.mpr ⟨s, hs, rfl⟩))
  have m0 : f.b0 ∈ f.subs := by unfold Fe.subs; split <;> simp
  have ne : ∀ {c : Nat} {y : AC}, c ≠ 4 → (h.set 4 y)[c]? = h[c]? := fun n => List.getElem?_set_ne (Ne.symm n)
  have g0 := B.gn _ (mo _ (mem _ m0))
  have base : ∀ G' : Gh, (∀ c ps, G c = some ps → G' c = some ps) → Cl G' h → (∀ c, G' c ≠ none → G c ≠ none ∨ c ∈ f.opn) → Bs G' (h.set 4 (.lst (r.reverse.map fun f => AV.id f.id))) A sts L tp r := by
    intro G' mono cl' dom
    have sp' : ∀ c, (c ∈ opn r ∨ G' c ≠ none) → 4 < c := by
      rintro c (hc | hc)
      · exact B.sp c (.inl (tl c hc))
      · rcases dom c hc with z | z
        · exact B.sp c (.inr z)
        · exact B.sp c (.inl (mo c z))
    refine ⟨by rw [ne (by omega)]; exact B.c0, by rw [ne (by omega)]; exact B.c1, by rw [ne (by omega)]; exact B.c2, List.getElem?_set_self l4, B.t3, B.tok.to mono (ne (by rw [B.t3]; omega)), cl'.to fun c hc => ne (by have := sp' c (.inr hc); omega), fun g hg => (B.ff g (List.mem_cons_of_mem _ hg)).to mono fun c hc => ne ?_, (List.nodup_append.mp nd).2.1, fun c hc => ?_, sp'⟩
    · have : c ∈ opn r := by unfold opn; exact List.mem_flatMap.mpr ⟨g, hg, hc⟩
      have := sp' c (.inl this); omega
    · cases e : G' c with
      | none => rfl
      | some ps =>
        rcases dom c (by rw [e]; simp) with z | z
        · exact (z (B.gn c (tl c hc))).elim
        · exact ((List.nodup_append.mp nd).2.2 c z c hc rfl).elim
  have C0 := B.cl.add g0 (fo.s _ m0).1 (fo.s _ m0).2
  cases hb : f.b1 with
  | none =>
    refine ⟨addG G f.b0.id f.b0.ps, base _ (addG_le g0) C0 fun c hc => ?_, ?_⟩
    · by_cases z : c = f.b0.id
      · exact .inr (by rw [z]; exact mem _ m0)
      · rw [addG_ne z] at hc; exact .inl hc
    · unfold Fe.dv Fe.dd Fe.snd Fe.sndV
      rw [hb]
      cases f.k with
      | iff x => exact .if0 addG_same
      | whl x => exact .whl addG_same
      | rep n => exact .rep addG_same
  | some s =>
    have ms : s ∈ f.subs := by unfold Fe.subs; rw [hb]; simp
    have ndf := (List.nodup_append.mp nd).1
    have dne : s.id ≠ f.b0.id := by
      unfold Fe.opn Fe.subs at ndf
      rw [hb] at ndf
      simp at ndf
      exact fun e => ndf.2.2 e.symm
    have g1 : addG G f.b0.id f.b0.ps s.id = none := by rw [addG_ne dne]; exact B.gn _ (mo _ (mem _ ms))
    have C1 := C0.add g1 (fo.s _ ms).1 fun p hp => ((fo.s _ ms).2 p hp).mono (addG_le g0)
    have hk := fo.e (by rw [hb]; simp)
    refine ⟨addG (addG G f.b0.id f.b0.ps) s.id s.ps, base _ (fun c ps e => addG_le g1 c ps (addG_le g0 c ps e)) C1 fun c hc => ?_, ?_⟩
    · by_cases z : c = s.id
      · exact .inr (by rw [z]; exact mem _ ms)
      · rw [addG_ne z] at hc
        by_cases z : c = f.b0.id
        · exact .inr (by rw [z]; exact mem _ m0)
        · rw [addG_ne z] at hc; exact .inl hc
    · unfold Fe.dv Fe.dd Fe.snd Fe.sndV
      rw [hb]
      cases e : f.k with
      | iff x => exact .iff (by rw [addG_ne (Ne.symm dne)]; exact addG_same) addG_same
      | whl x => rw [e] at hk; exact absurd (show ("while" : Str) = "if" from hk) (by decide)
      | rep n => rw [e] at hk; exact absurd (show ("repeat" : Str) = "if" from hk) (by decide)
end

/-! the lines that a block stands for -/
abbrev lEnd : List Str := ["end"]
abbrev lElse : List Str := ["else"]
inductive LB (R : List Str) : Bool → List Dd → List (List Str) → Prop
  | nil {v : Bool} : LB R v [] []
  | leaf {v : Bool} {f : Lf} {ds : List Dd} {ls : List (List Str)} (o : f.ok R v) (t : LB R v ds ls) : LB R v (f.dd :: ds) (f.wds :: ls)
  | if0 {v : Bool} {x : Str} {p : List Dd} {l : List (List Str)} {ds : List Dd} {ls : List (List Str)} (n : Nm x) (a : LB R false p l) (t : LB R v ds ls) : LB R v (.iff x p [] :: ds) (["if", x] :: (l ++ lEnd :: ls))
  | if1 {v : Bool} {x : Str} {p q : List Dd} {l m : List (List Str)} {ds : List Dd} {ls : List (List Str)} (n : Nm x) (a : LB R false p l) (b : LB R false q m) (t : LB R v ds ls) : LB R v (.iff x p q :: ds) (["if", x] :: (l ++ lElse :: (m ++ lEnd :: ls)))
  | whl {v : Bool} {x : Str} {p : List Dd} {l : List (List Str)} {ds : List Dd} {ls : List (List Str)} (n : Nm x) (a : LB R false p l) (t : LB R v ds ls) : LB R v (.whl x p :: ds) (["while", x] :: (l ++ lEnd :: ls))
  | rep {v : Bool} {n : Nat} {p : List Dd} {l : List (List Str)} {ds : List Dd} {ls : List (List Str)} (b : n ≤ 99) (a : LB R v p l) (t : LB R v ds ls) : LB R v (.rep (n : Nat) p :: ds) (["repeat", nS n] :: (l ++ lEnd :: ls))
theorem LB.app {R : List Str} {v : Bool} {ds es : List Dd} {ls ms : List (List Str)} (a : LB R v ds ls) (b : LB R v es ms) : LB R v (ds ++ es) (ls ++ ms) := by
  induction a with
  | nil => exact b
  | leaf o t ih => exact .leaf o (ih b)
  | if0 n p t _ ih => rw [List.cons_append, List.cons_append, List.append_assoc]; exact .if0 n p (ih b)
  | if1 n p q t _ _ ih => rw [List.cons_append, List.cons_append, List.append_assoc, List.cons_append, List.append_assoc]; exact .if1 n p q (ih b)
  | whl n p t _ ih => rw [List.cons_append, List.cons_append, List.append_assoc]; exact .whl n p (ih b)
  | rep n p t _ ih => rw [List.cons_append, List.cons_append, List.append_assoc]; exact .rep n p (ih b)
def Fe.rp (f : Fe) : Bool := decide (f.k.nm = "repeat")
def visF (fs : List Fe) : Bool := fs.all Fe.rp
def Fe.ls (f : Fe) : List (List Str) := [f.k.nm, f.k.wd] :: (f.b0.ls ++ match f.b1 with
  | none => []
  | some s => lElse :: s.ls)
def LnF (R : List Str) : List Fe → Prop
  | [] => True
  | f :: r => (∀ s ∈ f.subs, LB R (visF (f :: r)) s.ds s.ls) ∧ LnF R r
def dpF : List Fe → Prop
  | [] => True
  | f :: r => (∀ s ∈ f.subs, Dd.deps s.ds + (r.length + 1) ≤ 12) ∧ dpF r
def Fe.sz (f : Fe) : Nat := 1 + (Dd.szs f.b0.ds + Dd.szs f.snd)
def szF : List Fe → Nat
  | [] => 0
  | f :: r => f.sz + szF r
structure Ps (R : List Str) (H L : List (List Str)) (tp : Sb) (fs : List Fe) (k : Nat) : Prop where
  l : L = H ++ tp.ls ++ fs.reverse.flatMap Fe.ls
  t : LB R true tp.ds tp.ls
  f : LnF R fs
  sz : Dd.szs tp.ds + szF fs ≤ k
  dt : Dd.deps tp.ds ≤ 12
  df : dpF fs
theorem Fe.upd_ls {f : Fe} {s : Sb} {l : List (List Str)} (e : s.ls = f.cur.ls ++ l) : (f.upd s).ls = f.ls ++ l := by
  unfold Fe.upd Fe.ls
  unfold Fe.cur at e
  cases h : f.b1 with
  | none => rw [h] at e; simp [e]
  | some t => rw [h] at e; simp [e]
theorem Fe.upd_sz {f : Fe} {s : Sb} {d : Dd} (e : s.ds = f.cur.ds ++ [d]) : (f.upd s).sz = f.sz + d.sz := by
  unfold Fe.upd Fe.sz Fe.snd
  unfold Fe.cur at e
  cases h : f.b1 with
  | none => rw [h] at e; simp only [e, Dd.szs_app, Dd.szs]; omega
  | some t => rw [h] at e; simp only [e, Dd.szs_app, Dd.szs]; omega
theorem Fe.upd_k {f : Fe} {s : Sb} : (f.upd s).k = f.k := by unfold Fe.upd; split <;> rfl
theorem vis_upd {f : Fe} {s : Sb} {r : List Fe} : visF (f.upd s :: r) = visF (f :: r) := by
  unfold visF
  rw [List.all_cons, List.all_cons]
  unfold Fe.rp; rw [Fe.upd_k]
theorem vis_dep {fs : List Fe} (h : dpF fs) : fs.length ≤ 12 := by
  cases fs with
  | nil => exact Nat.zero_le _
  | cons f r =>
    have := h.1 f.cur cur_sub
    rw [List.length_cons]; omega
/-- a deed more in the block under way -/
theorem Ps.add {R : List Str} {H L : List (List Str)} {tp : Sb} {fs : List Fe} {k : Nat} (P : Ps R H L tp fs k) {v : AV} {d : Dd} {l : List (List Str)} (b : LB R (visF fs) [d] l) (hd : d.dep + fs.length ≤ 12) {k' : Nat} (hk : k + d.sz ≤ k') :
    Ps R H (L ++ l) (updS tp fs ⟨(curS tp fs).id, (curS tp fs).ps ++ [(v, d)], (curS tp fs).ls ++ l⟩).1 (updS tp fs ⟨(curS tp fs).id, (curS tp fs).ps ++ [(v, d)], (curS tp fs).ls ++ l⟩).2 k' := by
  have hds : ∀ s : Sb, (⟨s.id, s.ps ++ [(v, d)], s.ls ++ l⟩ : Sb).ds = s.ds ++ [d] := fun s => by unfold Sb.ds; rw [List.map_append]; rfl
  have hsz := P.sz
  cases fs with
  | nil =>
    show Ps R H (L ++ l) ⟨tp.id, tp.ps ++ [(v, d)], tp.ls ++ l⟩ [] k'
    refine ⟨by rw [P.l]; simp, ?_, trivial, ?_, ?_, trivial⟩
    · rw [hds]; exact P.t.app b
    · rw [hds, Dd.szs_app, Dd.szs, Dd.szs]; omega
    · rw [hds, Dd.deps_app, Dd.deps, Dd.deps]
      have := P.dt
      rw [List.length_nil] at hd
      omega
  | cons f r =>
    show Ps R H (L ++ l) tp (f.upd ⟨f.cur.id, f.cur.ps ++ [(v, d)], f.cur.ls ++ l⟩ :: r) k'
    refine ⟨?_, P.t, ⟨fun s hs => ?_, P.f.2⟩, ?_, P.dt, ⟨fun s hs => ?_, P.df.2⟩⟩
    · rw [P.l, List.reverse_cons, List.reverse_cons, List.flatMap_append, List.flatMap_append, List.flatMap_singleton, List.flatMap_singleton, Fe.upd_ls rfl]
      simp
    · rw [vis_upd]
      rcases upd_subs hs with rfl | ⟨rfl, nb⟩
      · rw [hds]; exact (P.f.1 _ cur_sub).app b
      · exact P.f.1 _ (by unfold Fe.subs; split <;> simp)
    · rw [szF] at hsz ⊢
      rw [Fe.upd_sz (hds _)]; omega
    · rcases upd_subs hs with rfl | ⟨rfl, nb⟩
      · rw [hds, Dd.deps_app, Dd.deps, Dd.deps]
        have := P.df.1 _ (cur_sub (f := f))
        rw [List.length_cons] at hd
        omega
      · exact P.df.1 _ (by unfold Fe.subs; split <;> simp)
/-- a block opened -/
theorem Ps.opened {R : List Str} {H L : List (List Str)} {tp : Sb} {fs : List Fe} {k : Nat} (P : Ps R H L tp fs k) (hl : fs.length < 12) {i b n : Nat} {kd : Kd} : Ps R H (L ++ [[kd.nm, kd.wd]]) tp (⟨i, b, kd, ⟨n, [], []⟩, none⟩ :: fs) (k + 1) := by
  have em : (⟨n, [], []⟩ : Sb).ds = [] := rfl
  refine ⟨?_, P.t, ⟨fun s hs => ?_, P.f⟩, ?_, P.dt, ⟨fun s hs => ?_, P.df⟩⟩
  · rw [P.l, List.reverse_cons, List.flatMap_append, List.flatMap_singleton]
    simp [Fe.ls]
  · have : s = ⟨n, [], []⟩ := by simpa [Fe.subs] using hs
    subst this; exact .nil
  · have := P.sz
    rw [szF, Fe.sz, em, Dd.szs]
    show Dd.szs tp.ds + (1 + (0 + Dd.szs []) + szF fs) ≤ _
    rw [Dd.szs]; omega
  · have : s = ⟨n, [], []⟩ := by simpa [Fe.subs] using hs
    subst this
    rw [em, Dd.deps]; omega
/-- the second half -/
theorem Ps.elsed {R : List Str} {H L : List (List Str)} {tp : Sb} {f : Fe} {r : List Fe} {k n : Nat} (P : Ps R H L tp (f :: r) k) (hb : f.b1 = none) : Ps R H (L ++ [lElse]) tp ({ f with b1 := some ⟨n, [], []⟩ } :: r) (k + 1) := by
  have em : (⟨n, [], []⟩ : Sb).ds = [] := rfl
  have m0 : f.b0 ∈ f.subs := by unfold Fe.subs; rw [hb]; simp
  refine ⟨?_, P.t, ⟨fun s hs => ?_, P.f.2⟩, ?_, P.dt, ⟨fun s hs => ?_, P.df.2⟩⟩
  · rw [P.l, List.reverse_cons, List.reverse_cons, List.flatMap_append, List.flatMap_append, List.flatMap_singleton, List.flatMap_singleton]
    simp [Fe.ls, hb]
  · have : s = f.b0 ∨ s = ⟨n, [], []⟩ := by simpa [Fe.subs] using hs
    rcases this with rfl | rfl
    · exact P.f.1 _ m0
    · exact .nil
  · have := P.sz
    rw [szF] at this ⊢
    have e1 : f.sz = 1 + (Dd.szs f.b0.ds + 0) := by unfold Fe.sz Fe.snd; rw [hb]; show _ + (_ + Dd.szs []) = _; rw [Dd.szs]
    have e2 : Fe.sz { f with b1 := some ⟨n, [], []⟩ } = 1 + (Dd.szs f.b0.ds + 0) := by unfold Fe.sz Fe.snd; show _ + (_ + Dd.szs []) = _; rw [Dd.szs]
    omega
  · have : s = f.b0 ∨ s = ⟨n, [], []⟩ := by simpa [Fe.subs] using hs
    rcases this with rfl | rfl
    · exact P.df.1 _ m0
    · have := P.df.1 _ m0
      rw [em, Dd.deps]; omega
/-- what a block closed stands for -/
theorem Fe.told {R : List Str} {f : Fe} {r : List Fe} (hs : ∀ s ∈ f.subs, LB R (visF (f :: r)) s.ds s.ls) (hk : f.k.ok) (he : f.b1 ≠ none → f.k.nm = "if") : LB R (visF r) [f.dd] (f.ls ++ [lEnd]) := by
  have m0 : f.b0 ∈ f.subs := by unfold Fe.subs; split <;> simp
  have h0 := hs _ m0
  have vis : visF (f :: r) = (f.rp && visF r) := by unfold visF; rw [List.all_cons]
  rw [vis] at h0 hs
  unfold Fe.rp at h0 hs
  unfold Fe.dd Fe.ls Fe.snd
  cases ek : f.k with
  | iff x =>
    rw [ek] at h0 hs hk
    have z : decide ((Kd.iff x).nm = "repeat") = false := decide_eq_false (show ¬ ("if" : Str) = "repeat" by decide)
    rw [z, Bool.false_and] at h0 hs
    cases hb : f.b1 with
    | none =>
      have := LB.if0 (v := visF r) hk h0 .nil
      simpa [Kd.nm, Kd.wd] using this
    | some s =>
      have := LB.if1 (v := visF r) hk h0 (hs s (by unfold Fe.subs; rw [hb]; simp)) .nil
      simpa [Kd.nm, Kd.wd] using this
  | whl x =>
    rw [ek] at h0 hs hk he
    have z : decide ((Kd.whl x).nm = "repeat") = false := decide_eq_false (show ¬ ("while" : Str) = "repeat" by decide)
    rw [z, Bool.false_and] at h0
    have hb : f.b1 = none := by
      cases hb : f.b1 with
      | none => rfl
      | some s => exact absurd (show ("while" : Str) = "if" from he (by rw [hb]; simp)) (by decide)
    rw [hb]
    have := LB.whl (v := visF r) hk h0 .nil
    simpa [Kd.nm, Kd.wd] using this
  | rep n =>
    rw [ek] at h0 hs hk he
    have z : decide ((Kd.rep n).nm = "repeat") = true := decide_eq_true rfl
    rw [z, Bool.true_and] at h0
    have hb : f.b1 = none := by
      cases hb : f.b1 with
      | none => rfl
      | some s => exact absurd (show ("repeat" : Str) = "if" from he (by rw [hb]; simp)) (by decide)
    rw [hb]
    have := LB.rep (v := visF r) hk h0 .nil
    simpa [Kd.nm, Kd.wd] using this
theorem Fe.dd_sz {f : Fe} : f.dd.sz ≤ f.sz := by
  unfold Fe.dd Fe.sz
  cases f.k with
  | iff x => rw [Dd.sz]; omega
  | whl x => rw [Dd.sz]; omega
  | rep n => rw [Dd.sz]; omega
theorem Fe.dd_dep {f : Fe} {r : List Fe} (h : ∀ s ∈ f.subs, Dd.deps s.ds + (r.length + 1) ≤ 12) : f.dd.dep + r.length ≤ 12 := by
  have m0 : f.b0 ∈ f.subs := by unfold Fe.subs; split <;> simp
  have h0 := h _ m0
  have h1 : Dd.deps f.snd + (r.length + 1) ≤ 12 := by
    unfold Fe.snd
    cases hb : f.b1 with
    | none => show Dd.deps [] + _ ≤ _; rw [Dd.deps]; omega
    | some s => exact h s (by unfold Fe.subs; rw [hb]; simp)
  unfold Fe.dd
  cases f.k with
  | iff x => rw [Dd.dep]; omega
  | whl x => rw [Dd.dep]; omega
  | rep n => rw [Dd.dep]; omega
/-- the end of a block: what is told behind it -/
theorem Ps.popped {R : List Str} {H L : List (List Str)} {tp : Sb} {f : Fe} {r : List Fe} {k : Nat} (P : Ps R H L tp (f :: r) k) (hk : f.k.ok) (he : f.b1 ≠ none → f.k.nm = "if") {v : AV} :
    Ps R H (L ++ [lEnd]) (updS tp r ⟨(curS tp r).id, (curS tp r).ps ++ [(v, f.dd)], (curS tp r).ls ++ (f.ls ++ [lEnd])⟩).1 (updS tp r ⟨(curS tp r).id, (curS tp r).ps ++ [(v, f.dd)], (curS tp r).ls ++ (f.ls ++ [lEnd])⟩).2 (k + 1) := by
  have sz := P.sz
  rw [szF] at sz
  have hl := P.l
  rw [List.reverse_cons, List.flatMap_append, List.flatMap_singleton, ← List.append_assoc] at hl
  have e : L ++ [lEnd] = (H ++ tp.ls ++ r.reverse.flatMap Fe.ls) ++ (f.ls ++ [lEnd]) := by rw [hl, List.append_assoc]
  have dz := Fe.dd_sz (f := f)
  have P0 : Ps R H (H ++ tp.ls ++ r.reverse.flatMap Fe.ls) tp r (k + 1 - f.dd.sz) := ⟨rfl, P.t, P.f.2, by omega, P.dt, P.df.2⟩
  rw [e]
  exact P0.add (Fe.told P.f.1 hk he) (Fe.dd_dep P.df.1) (by omega)

/-! the builder's steps -/
theorem thn_of {r r' : Rs Ou} {m : SV} {P : AV → AH → Prop} (e : r = r') (h : (ouR (r'.thn m)).is P) : (ouR (r.thn m)).is P := e ▸ h
section
variable {G : Gh} {h : AH} {A : List Str} {sts : List (Str × Int)} {L H : List (List Str)} {R : List Str} {tp : Sb} {fs r : List Fe} {f : Fe} {k : Nat}
theorem last_ix {h : AH} {n : Nat} {l : List AV} {x : AV} (e : h[n]? = some (.lst (l ++ [x]))) : opIx (.id n) (.int (-1)) h = .ok x h := by rw [x_ixd e, at_last]; rfl
theorem Bs.top (B : Bs G h A sts L tp (f :: r)) : h[4]? = some (.lst (r.reverse.map (fun f => AV.id f.id) ++ [.id f.id])) := by rw [B.c4, List.reverse_cons, List.map_append]; rfl
theorem subs_last {f : Fe} : ∃ l : List AV, (f.subs.map fun s => AV.id s.id) = l ++ [.id f.cur.id] := by
  unfold Fe.subs Fe.cur
  cases f.b1 with
  | none => exact ⟨[], rfl⟩
  | some s => exact ⟨[.id f.b0.id], rfl⟩
theorem f_here (B : Bs G h A sts L tp fs) : m_L_here [.id 3, .id 4] h = .ok (.id (curS tp fs).id) h := by
  apply is_eq
  rw [em_L_here]
  unfold q_L_here
  walk_at "v"
  rw [x_lend B.c4]
  walk_at "v"
  rw [List.length_map, List.length_reverse]
  cases fs with
  | nil =>
    rw [if_neg (by simp)]
    walk_at "v"
    rw [show curS tp [] = tp from rfl, B.t3]
  | cons f r =>
    have fo := B.ff f List.mem_cons_self
    obtain ⟨l, el⟩ := subs_last (f := f)
    have eb := fo.b
    rw [el] at eb
    rw [if_pos (by rw [List.length_cons]; omega)]
    walk_at "v"
    rw [last_ix B.top]
    walk_at "v"
    rw [x_ixd fo.i, at_2]
    walk_at "v"
    rw [last_ix eb]
    walk_at "v"
    rfl
theorem cur_len : (curS tp fs).ps.length ≤ Dd.szs tp.ds + szF fs := by
  have ln : ∀ s : Sb, s.ps.length ≤ Dd.szs s.ds := fun s => by
    have := Dd.len_szs (ds := s.ds)
    unfold Sb.ds at *
    rw [List.length_map] at this; exact this
  cases fs with
  | nil => have := ln tp; show tp.ps.length ≤ _; omega
  | cons f r =>
    show f.cur.ps.length ≤ _
    have := ln f.cur
    rw [szF, Fe.sz]
    have : Dd.szs f.cur.ds ≤ Dd.szs f.b0.ds + Dd.szs f.snd := by
      unfold Fe.cur Fe.snd
      cases f.b1 with
      | none => exact Nat.le_add_right _ _
      | some s => exact Nat.le_add_left _ _
    omega
/-- what stands behind a step -/
def Nxt (A : List Str) (sts : List (Str × Int)) (R : List Str) (H L : List (List Str)) (k : Nat) (P : List Fe → Prop) (h' : AH) : Prop := ∃ (l : List Str) (G' : Gh) (tp' : Sb) (fs' : List Fe), Bs G' h' A sts (L ++ [l]) tp' fs' ∧ Ps R H (L ++ [l]) tp' fs' (k + 1) ∧ P fs'
theorem it_cl {k : Kd} : cl k.it = true := by cases k <;> rfl
theorem f_ended (B : Bs G h A sts L tp (f :: r)) (P : Ps R H L tp (f :: r) k) (hk : k ≤ 1000) (hL : L.length ≤ 10000) : (m_L_ended [.id 3, .id 4, .id 2] h).is fun v h' => v = .non ∧ Nxt A sts R H L k (fun fs' => fs'.length = r.length) h' := by
  obtain ⟨G', B', rd⟩ := B.popped
  have fo := B.ff f List.mem_cons_self
  have sp := fun c hc => B.sp c (.inl (by rw [opn_cons]; exact List.mem_append.mpr (.inl hc)) : c ∈ opn (f :: r) ∨ _)
  have i5 : 4 < f.id := sp _ (by unfold Fe.opn; simp)
  have b5 : 4 < f.br := sp _ (by unfold Fe.opn; simp)
  have fi : (h.set 4 (.lst (r.reverse.map fun f => AV.id f.id)))[f.id]? = some (.lst [.str f.k.nm, f.k.it, .id f.br]) := by rw [List.getElem?_set_ne (by omega)]; exact fo.i
  have fb : (h.set 4 (.lst (r.reverse.map fun f => AV.id f.id)))[f.br]? = some (.lst (f.subs.map fun s => AV.id s.id)) := by rw [List.getElem?_set_ne (by omega)]; exact fo.b
  have s0 : atI (f.subs.map fun s => AV.id s.id) 0 = some (.id f.b0.id) := by unfold Fe.subs; cases f.b1 <;> rfl
  have s1 : atI ((f.subs.map fun s => AV.id s.id) ++ [AV.lst []]) 1 = some f.sndV := by unfold Fe.subs Fe.sndV; cases f.b1 <;> rfl
  have sz := P.sz
  rw [szF, Fe.sz] at sz
  have hh := f_here B'
  have cl := cur_len (tp := tp) (fs := r)
  have P2 := P.popped fo.k fo.e (v := f.dv)
  have B2 := B'.put rd (f.ls ++ [lEnd])
  have B3 := B2.line lEnd
  have cc : (h.set 4 (.lst (r.reverse.map fun f => AV.id f.id)))[(curS tp r).id]? = some (.lst ((curS tp r).ps.map (·.1))) := by
    cases r with
    | nil => exact B'.tok.1
    | cons g t => exact ((B'.ff g List.mem_cons_self).s _ cur_sub).1
  generalize eh : h.set 4 (.lst (r.reverse.map fun f => AV.id f.id)) = h1 at *
  generalize eu : updS tp r ⟨(curS tp r).id, (curS tp r).ps ++ [(f.dv, f.dd)], (curS tp r).ls ++ (f.ls ++ [lEnd])⟩ = u at *
  have ul : u.2.length = r.length := by rw [← eu]; cases r <;> rfl
  rw [em_L_ended]
  unfold q_L_ended
  walk_at "v"
  rw [ls_id B.top]
  walk_at "v"
  rw [x_pop B.top, eh]
  walk_at "v"
  rw [x_ixd fi, at_0]
  walk_at "v"
  rw [x_ixd fi, at_1]
  walk_at "v"
  rw [x_ixd fi, at_2]
  walk_at "v"
  rw [x_ixd fb, s0]
  walk_at "v"
  rw [x_ixd fi, at_0]
  walk_at "v"
  refine thn_of (r' := Rs.ok (Ou.nx [some (.id 3), some (.id 4), some (.id 2), some (.id f.id), some f.dv]) h1) ?_ ?_
  · unfold Fe.dv
    cases ek : f.k with
    | iff x =>
      rw [if_pos (show (Kd.iff x).nm = "if" from rfl), x_ixd fi, at_2]
      walk_at "v"
      rw [x_addL (ls_id fb) ls_lst, if_pos (by unfold Fe.subs; cases f.b1 <;> simp)]
      walk_at "v"
      rw [s1]
      walk_at "v"
      rfl
    | whl x =>
      rw [if_neg (show ¬ (Kd.whl x).nm = "if" from show ¬ ("while" : Str) = "if" by decide)]
      rfl
    | rep n =>
      rw [if_neg (show ¬ (Kd.rep n).nm = "if" from show ¬ ("repeat" : Str) = "if" by decide)]
      rfl
  · walk_at "v"
    rw [hh]
    walk_at "v"
    rw [ls_id cc]
    walk_at "v"
    rw [x_app cc, if_pos (by rw [List.length_map]; omega)]
    walk_at "v"
    rw [ls_id B2.c2]
    walk_at "v"
    rw [x_app B2.c2, if_pos (by rw [List.length_map]; omega)]
    walk_at "v"
    exact ⟨lEnd, G', _, _, B3, P2, ul⟩
end

/-! the fences told deep -/
theorem LB.oks {R : List Str} {v : Bool} {ds : List Dd} {ls : List (List Str)} (a : LB R v ds ls) : Dd.oks ds := by
  induction a with
  | nil => rw [Dd.oks]; trivial
  | leaf o t ih => rw [Dd.oks]; exact ⟨(Lf.dd_ok o).1, ih⟩
  | if0 n p t ih1 ih => rw [Dd.oks, Dd.ok]; exact ⟨⟨n.so, ih1, by rw [Dd.oks]; trivial⟩, ih⟩
  | if1 n p q t ih1 ih2 ih => rw [Dd.oks, Dd.ok]; exact ⟨⟨n.so, ih1, ih2⟩, ih⟩
  | whl n p t ih1 ih => rw [Dd.oks, Dd.ok]; exact ⟨⟨n.so, ih1⟩, ih⟩
  | rep n p t ih1 ih => rw [Dd.oks, Dd.ok]; exact ⟨ih1, ih⟩
theorem ds_cl : ∀ {ds : List Dd}, Dd.oks ds → cl (.lst (Dd.avs ds)) = true := fun {ds} o => by
  rw [cl_lst, Dd.avs_map]
  exact cls_all fun x hx => by
    obtain ⟨d, hd, rfl⟩ := List.mem_map.mp hx
    exact d.cl (Dd.oks_all.mp o d hd)
section
variable {G : Gh} {h : AH} {A : List Str} {sts : List (Str × Int)} {L H : List (List Str)} {R : List Str} {tp : Sb} {fs r : List Fe} {f : Fe} {k : Nat}
def fvF (f : Fe) : Str × AV × AV := (f.k.nm, f.k.it, .lst (f.subs.map fun s => .lst (Dd.avs s.ds)))
theorem sb_deep (C : Cl G h) {s : Sb} (o : SbOk G h s) {n : Nat} (hd : Dd.deps s.ds ≤ n) : avSub (avId h (n + 1)) (.id s.id) = some (.lst (Dd.avs s.ds)) := by
  rw [avSub, avId, o.1]
  dsimp only
  rw [(res_all C n).2 s.ps o.2 hd]; rfl
theorem fe_deep (C : Cl G h) (o : FeOk G h f) (hd : ∀ s ∈ f.subs, Dd.deps s.ds ≤ 12) : avSub (avId h 29) (.id f.id) = some (fnc (fvF f)) := by
  rw [avSub, avId, o.i]
  dsimp only
  have ls : ∀ l : List Sb, (∀ s ∈ l, s ∈ f.subs) → avSubs (avId h 27) (l.map fun s => AV.id s.id) = some (l.map fun s => .lst (Dd.avs s.ds)) := by
    intro l
    induction l with
    | nil => intro _; rw [List.map_nil, avSubs]; rfl
    | cons s l ih =>
      intro hl
      have m := hl s List.mem_cons_self
      rw [List.map_cons, avSubs, sb_deep C (o.s s m) (n := 26) (by have := hd s m; omega), ih fun t ht => hl t (List.mem_cons_of_mem _ ht)]; rfl
  have br : avSub (avId h 28) (.id f.br) = some (.lst (f.subs.map fun s => .lst (Dd.avs s.ds))) := by
    rw [avSub, avId, o.b]
    dsimp only
    rw [ls f.subs fun _ z => z]; rfl
  rw [avSubs, avSubs, avSubs, avSubs, br, av_cl (x := .str f.k.nm) rfl, av_cl (x := f.k.it) it_cl]
  rfl
theorem fes_deep (B : Bs G h A sts L tp fs) (hd : dpF fs) : avOf h (.id 4) = some (.lst ((fs.reverse.map fvF).map fnc)) := by
  have all : ∀ l : List Fe, (∀ f ∈ l, FeOk G h f ∧ ∀ s ∈ f.subs, Dd.deps s.ds ≤ 12) → avSubs (avId h 29) (l.map fun f => AV.id f.id) = some ((l.map fvF).map fnc) := by
    intro l
    induction l with
    | nil => intro _; rw [List.map_nil, avSubs]; rfl
    | cons f l ih =>
      intro hl
      obtain ⟨o, d⟩ := hl f List.mem_cons_self
      rw [List.map_cons, avSubs, fe_deep B.cl o d, ih fun g hg => hl g (List.mem_cons_of_mem _ hg)]; rfl
  have dp : ∀ fs : List Fe, dpF fs → ∀ f ∈ fs, ∀ s ∈ f.subs, Dd.deps s.ds ≤ 12 := by
    intro fs
    induction fs with
    | nil => intro _ f hf; cases hf
    | cons g r ih =>
      intro hd f hf s hs
      rcases List.mem_cons.mp hf with rfl | hf
      · have := hd.1 s hs; omega
      · exact ih hd.2 f hf s hs
  unfold avOf
  rw [avSub, avId, B.c4]
  dsimp only
  rw [all fs.reverse fun f hf => ⟨B.ff f (List.mem_reverse.mp hf), dp fs hd f (List.mem_reverse.mp hf)⟩]; rfl
theorem fv_rp : (fs.reverse.map fvF).all isRp = visF fs := by
  unfold visF
  rw [List.all_map, List.all_reverse]
  rfl
theorem fv_cl (P : LnF R fs) : ∀ q ∈ fs.reverse.map fvF, cl (fnc q) = true := by
  have all : ∀ fs : List Fe, LnF R fs → ∀ f ∈ fs, ∀ s ∈ f.subs, Dd.oks s.ds := by
    intro fs
    induction fs with
    | nil => intro _ f hf; cases hf
    | cons g r ih =>
      intro hd f hf s hs
      rcases List.mem_cons.mp hf with rfl | hf
      · exact (hd.1 s hs).oks
      · exact ih hd.2 f hf s hs
  intro q hq
  obtain ⟨f, hf, rfl⟩ := List.mem_map.mp hq
  have o := all fs P f (List.mem_reverse.mp hf)
  unfold fnc fvF
  dsimp only
  rw [cl_lst, cls_cons, cls_cons, cls_cons, it_cl, cl_lst]
  have : cls (f.subs.map fun s => AV.lst (Dd.avs s.ds)) = true := cls_all fun y hy => by
    obtain ⟨s, hs, rfl⟩ := List.mem_map.mp hy
    exact ds_cl (o s hs)
  rw [this]; rfl
def lfW : Lf → List (AV × Str)
  | .put s x => [(.str "put", "put"), (.str s, s), (.str x, x)]
  | .get s x => [(.str "get", "get"), (.str s, s), (.str x, x)]
  | .give x => [(.str "give", "give"), (.str x, x)]
  | .set x a z b => [(.str "set", "set"), (.str x, x), (a.av, a.wd), (.str z, z), (b.av, b.wd)]
theorem lf_av {f : Lf} : f.dd.av = .tup ((lfW f).map (·.1)) := by
  cases f with
  | put s x => show Dd.av (.put s x) = _; rw [Dd.av]; rfl
  | get s x => show Dd.av (.get s x) = _; rw [Dd.av]; rfl
  | give x => show Dd.av (.give x) = _; rw [Dd.av]; rfl
  | set x a z b => show Dd.av (.set x a.vl z b.vl) = _; rw [Dd.av, Vw.vl_av, Vw.vl_av]; rfl
theorem lf_flat {f : Lf} : flatT f.dd.av = true := by
  rw [lf_av]
  cases f with
  | set x a z b => cases a <;> cases b <;> rfl
  | _ => rfl
theorem lf_str {R : List Str} {v : Bool} {f : Lf} (o : f.ok R v) : ∀ p ∈ lfW f, ∀ h, fStr [p.1] h = .ok (.str p.2) h := by
  intro p hp h
  cases f with
  | put s x =>
    simp only [lfW, List.mem_cons, List.not_mem_nil, or_false] at hp
    rcases hp with rfl | rfl | rfl <;> rfl
  | get s x =>
    simp only [lfW, List.mem_cons, List.not_mem_nil, or_false] at hp
    rcases hp with rfl | rfl | rfl <;> rfl
  | give x =>
    simp only [lfW, List.mem_cons, List.not_mem_nil, or_false] at hp
    rcases hp with rfl | rfl <;> rfl
  | set x a z b =>
    simp only [lfW, List.mem_cons, List.not_mem_nil, or_false] at hp
    rcases hp with rfl | rfl | rfl | rfl | rfl
    · rfl
    · rfl
    · exact v_str o.2.1 h
    · rfl
    · exact v_str o.2.2.2 h
end

/-! one cell -/
section
variable {G : Gh} {h : AH} {A : List Str} {sts : List (Str × Int)} {L H : List (List Str)} {R : List Str} {tp : Sb} {fs r : List Fe} {f : Fe} {k : Nat}
theorem bnd_of {X Y : Rs Bool} {k : Bool → AH → Rs Ou} {P : AV → AH → Prop} (e : X = Y) (g : (ouR (Y.bnd k)).is P) : (ouR (X.bnd k)).is P := e ▸ g
def b3F (way : Int) (fs : List Fe) : Bool := decide (way = 6) && match fs with
  | [] => false
  | f :: _ => decide (f.k.nm = "if") && decide (((f.subs.length : Nat) : Int) = 1)
theorem f_step {c : Int} {deep : Bool} (hc : Builtin.Int.intBits c ≤ 1048576) (B : Bs G h A sts L tp fs) (P : Ps (sts.map (·.1)) H L tp fs k) (hk : k ≤ 1000) (hL : L.length ≤ 10000) (ls : sts.length ≤ 100) (ns : ∀ s ∈ sts, Nm s.1) : (m_L_step [.int c, .bl deep, .id 1, .id 3, .id 4, .id 2] h).is fun v h' => v = .non ∧ Nxt A sts (sts.map (·.1)) H L k (fun _ => True) h' := by
  obtain ⟨n1, a1, b1, e1⟩ := p_mixed (c := c) (k := 1) hc (by omega)
  obtain ⟨n2, a2, b2, e2⟩ := p_mixed (c := c) (k := 2) hc (by omega)
  obtain ⟨x, nx, ex⟩ := p_name a2
  obtain ⟨m, m0, m99, em⟩ := p_from (n := n1 / 16) (lo := 0) (hi := 99) (by decide)
  rw [em_L_step]
  unfold q_L_step
  walk_at "v"
  rw [e1]
  walk_at "v"
  obtain ⟨way, w0, w1, ew⟩ : ∃ way : Int, 0 ≤ way ∧ way < 16 ∧ ((if deep = true then Rs.ok (decide (11 < n1 % 16)) h else Rs.ok false h).bnd (kIfS (mSet 7 (mBin opMod (mVar 7) (mLit (.int 3)))) mSkip [some (.int c), some (.bl deep), some (.id 1), some (.id 3), some (.id 4), some (.id 2), some (.int n1), some (.int (n1 % 16)), none, none, none, none])) = .ok (.nx [some (.int c), some (.bl deep), some (.id 1), some (.id 3), some (.id 4), some (.id 2), some (.int n1), some (.int way), none, none, none, none]) h := by
    cases deep with
    | false => exact ⟨n1 % 16, by omega, by omega, rfl⟩
    | true =>
      by_cases q : 11 < n1 % 16
      · refine ⟨n1 % 16 % 3, by omega, by omega, ?_⟩
        rw [if_pos rfl, decide_eq_true q]
        walk_at "v"
        try rfl
      · refine ⟨n1 % 16, by omega, by omega, ?_⟩
        rw [if_pos rfl, decide_eq_false q]
        rfl
  refine thn_of ew ?_
  walk_at "v"
  have l4 := x_lend (h := h) B.c4
  rw [List.length_map, List.length_reverse] at l4
  have dl := vis_dep P.df
  rw [l4]
  walk_at "v"
  have ic : ∀ (p q : Prop) [Decidable p] [Decidable q], (if p then Rs.ok (decide q) h else Rs.ok false h) = Rs.ok (decide p && decide q) h := fun p q i1 i2 => by
    by_cases z : p
    · rw [if_pos z, decide_eq_true z, Bool.true_and]
    · rw [if_neg z, decide_eq_false z, Bool.false_and]
  rw [ic]
  generalize eb : (decide (way < 3) && decide (((fs.length : Nat) : Int) < 12)) = b
  cases b with
  | true =>
    rw [Bool.and_eq_true] at eb
    have hw := of_decide_eq_true eb.1
    have hl := of_decide_eq_true eb.2
    have em : ∀ h, kCallP m_L_from [.int (n1 / 16), .int 0, .int 99] h = .ok (.int (m : Nat)) h := em
    obtain ⟨kd, ok, eo, ek⟩ : ∃ kd : Kd, kd.ok ∧ atI [AV.str "if", .str "while", .str "repeat"] way = some (.str kd.nm) ∧ kd.it = (if way = 2 then .int (m : Nat) else .str x) := by
      have : way = 0 ∨ way = 1 ∨ way = 2 := by omega
      rcases this with rfl | rfl | rfl
      · exact ⟨.iff x, nx, rfl, by rw [if_neg (by decide)]; rfl⟩
      · exact ⟨.whl x, nx, rfl, by rw [if_neg (by decide)]; rfl⟩
      · exact ⟨.rep m, m99, rfl, by rw [if_pos rfl]; rfl⟩
    have estr : ∀ h, fStr [kd.it] h = .ok (.str kd.wd) h := fun h => by
      cases kd with
      | iff x => rfl
      | whl x => rfl
      | rep n => exact n_str (Nat.lt_of_le_of_lt ok (by decide)) h
    have B2 := B.opened ok
    have B3 := B2.line [kd.nm, kd.wd]
    have P2 := P.opened (by omega) (i := h.length + 2) (b := h.length + 1) (n := h.length) (kd := kd)
    walk_at "v"
    rw [e2]
    walk_at "v"
    rw [ex]
    walk_at "v"
    refine thn_of (r' := Rs.ok (Ou.nx [some (.int c), some (.bl deep), some (.id 1), some (.id 3), some (.id 4), some (.id 2), some (.int n1), some (.int way), some kd.it, none, none, none]) h) ?_ ?_
    · rw [ek]
      by_cases c2 : way = 2
      · rw [if_pos c2, if_pos c2, em]
        rfl
      · rw [if_neg c2, if_neg c2]
    · walk_at "v"
      rw [ls_id B.c4]
      walk_at "v"
      rw [eo]
      walk_at "v"
      have l4' := lt_of_some B.c4
      have eh : h ++ [AC.lst []] ++ [AC.lst [AV.id (List.length h)]] ++ [AC.lst [AV.str kd.nm, kd.it, AV.id (List.length (h ++ [AC.lst []]))]] = h ++ [AC.lst [], AC.lst [.id h.length], AC.lst [.str kd.nm, kd.it, .id (h.length + 1)]] := by
        rw [List.length_append, List.length_singleton]; simp
      have ef : (h ++ [AC.lst []] ++ [AC.lst [AV.id (List.length h)]]).length = h.length + 2 := by simp
      have c4 : (h ++ [AC.lst [], AC.lst [.id h.length], AC.lst [.str kd.nm, kd.it, .id (h.length + 1)]])[4]? = some (.lst (fs.reverse.map fun f => AV.id f.id)) := by rw [app_get l4']; exact B.c4
      rw [eh, ef, x_app c4, if_pos (by rw [List.length_map, List.length_reverse]; omega)]
      have fo := B2.ff _ List.mem_cons_self
      have t4 := last_ix B2.top
      have i0 := x_ixd (i := 0) fo.i
      rw [at_0, og_some] at i0
      have i0 : opIx (.id (h.length + 2)) (.int 0) ((h ++ [AC.lst [], AC.lst [.id h.length], AC.lst [.str kd.nm, kd.it, .id (h.length + 1)]]).set 4 (.lst (fs.reverse.map (fun f => AV.id f.id) ++ [.id (h.length + 2)]))) = .ok (.str kd.nm) _ := i0
      have t4 : opIx (.id 4) (.int (-1)) ((h ++ [AC.lst [], AC.lst [.id h.length], AC.lst [.str kd.nm, kd.it, .id (h.length + 1)]]).set 4 (.lst (fs.reverse.map (fun f => AV.id f.id) ++ [.id (h.length + 2)]))) = .ok (.id (h.length + 2)) _ := t4
      generalize ((h ++ [AC.lst [], AC.lst [.id h.length], AC.lst [.str kd.nm, kd.it, .id (h.length + 1)]]).set 4 (.lst (fs.reverse.map (fun f => AV.id f.id) ++ [.id (h.length + 2)]))) = h2 at *
      walk_at "v"
      rw [ls_id B2.c2]
      walk_at "v"
      rw [t4]
      walk_at "v"
      rw [i0]
      walk_at "v"
      rw [estr]
      walk_at "v"
      rw [x_app B2.c2, if_pos (by rw [List.length_map]; omega)]
      walk_at "v"
      exact ⟨[kd.nm, kd.wd], G, _, _, B3, P2, trivial⟩
  | false =>
    walk_at "v"
    rw [l4]
    walk_at "v"
    rw [ic]
    generalize eb2 : (decide (way < 6) && decide ((0 : Int) < ((fs.length : Nat) : Int))) = b2
    cases b2 with
    | true =>
      have hl : 0 < fs.length := by
        rw [Bool.and_eq_true] at eb2
        have := of_decide_eq_true eb2.2
        omega
      cases fs with
      | nil => exact absurd hl (by simp)
      | cons f r =>
        obtain ⟨v, h', e, rfl, nx⟩ := is_ex (f_ended B P hk hL)
        walk_at "v"
        rw [e]
        walk_at "v"
        obtain ⟨l, G', tp', fs', q1, q2, _⟩ := nx
        exact ⟨l, G', tp', fs', q1, q2, trivial⟩
    | false =>
      walk_at "v"
      rw [l4]
      walk_at "v"
      refine bnd_of (Y := Rs.ok (b3F way fs) h) ?_ ?_
      · unfold b3F
        by_cases c6 : way = 6
        · rw [if_pos c6, decide_eq_true c6, Bool.true_and]
          cases fs with
          | nil =>
            rw [if_neg (by simp)]
          | cons f r =>
            have fo := B.ff f List.mem_cons_self
            have t4 := last_ix B.top
            have i0 : opIx (.id f.id) (.int 0) h = .ok (.str f.k.nm) h := by rw [x_ixd fo.i, at_0, og_some]
            have i2 : opIx (.id f.id) (.int 2) h = .ok (.id f.br) h := by rw [x_ixd fo.i, at_2, og_some]
            rw [if_pos (by rw [List.length_cons]; omega), t4]
            walk_at "v"
            rw [i0]
            walk_at "v"
            rw [t4]
            walk_at "v"
            rw [i2]
            walk_at "v"
            rw [x_lend fo.b]
            walk_at "v"
            rw [ic, List.length_map]
        · rw [if_neg c6, decide_eq_false c6, Bool.false_and]
      generalize eb3 : b3F way fs = b3
      cases b3 with
      | true =>
        obtain ⟨f, r, rfl, hk2, hb⟩ : ∃ f r, fs = f :: r ∧ f.k.nm = "if" ∧ f.b1 = none := by
          cases fs with
          | nil => unfold b3F at eb3; simp at eb3
          | cons f r =>
            unfold b3F at eb3
            rw [Bool.and_eq_true, Bool.and_eq_true] at eb3
            refine ⟨f, r, rfl, of_decide_eq_true eb3.2.1, ?_⟩
            have := of_decide_eq_true eb3.2.2
            unfold Fe.subs at this
            cases hb : f.b1 with
            | none => rfl
            | some s => rw [hb] at this; simp at this
        have fo := B.ff f List.mem_cons_self
        have t4 := last_ix B.top
        have B2 := B.elsed hb hk2
        have B3 := B2.line lElse
        have P2 := P.elsed (n := h.length) hb
        have i5 : 4 < f.br := B.sp _ (.inl (by rw [opn_cons]; exact List.mem_append.mpr (.inl (by unfold Fe.opn; simp))))
        have lb := lt_of_some fo.b
        have sb : (f.subs.map fun s => AV.id s.id) = [.id f.b0.id] := by unfold Fe.subs; rw [hb]; rfl
        have i2 : opIx (.id f.id) (.int 2) h = .ok (.id f.br) h := by rw [x_ixd fo.i, at_2, og_some]
        have eb := fo.b
        rw [sb] at eb
        have eb' : (h ++ [AC.lst []])[f.br]? = some (.lst [.id f.b0.id]) := by rw [app_get lb]; exact eb
        walk_at "v"
        rw [t4]
        walk_at "v"
        rw [i2]
        walk_at "v"
        rw [ls_id eb]
        walk_at "v"
        rw [x_app eb', if_pos (by simp), show ([AV.id f.b0.id] ++ [AV.id (List.length h)]) = [.id f.b0.id, .id h.length] from rfl]
        walk_at "v"
        rw [ls_id B2.c2]
        walk_at "v"
        rw [x_app B2.c2, if_pos (by rw [List.length_map]; omega)]
        walk_at "v"
        exact ⟨lElse, G, _, _, B3, P2, trivial⟩
      | false =>
        walk_at "v"
        obtain ⟨lf, ol, el⟩ := p_singleby (way := way) (c := c) (sts := sts) (FV := fs.reverse.map fvF) hc ls (by rw [List.length_map, List.length_reverse]; omega) ns (fv_cl P.f)
        rw [fv_rp] at ol
        have a1 : avOf h (.id 1) = some (.lst (sts.map sto)) := avOf_id B.c1 (cls_map fun _ => rfl)
        have a4 := fes_deep B P.df
        have ed : dpS h [some (.int c), some (.bl deep), some (.id 1), some (.id 3), some (.id 4), some (.id 2), some (.int n1), some (.int way), none, none, none, none] = [some (.int c), some (.bl deep), some (.lst (sts.map sto)), avOf h (.id 3), some (.lst ((fs.reverse.map fvF).map fnc)), avOf h (.id 2), some (.int n1), some (.int way), none, none, none, none] := by
          show [avOf h (.int c), avOf h (.bl deep), avOf h (.id 1), avOf h (.id 3), avOf h (.id 4), avOf h (.id 2), avOf h (.int n1), avOf h (.int way), none, none, none, none] = _
          rw [a1, a4]; rfl
        have ebx : mBoxD (mCallP m_L_single_by (mCons (mVar 7) (mCons (mVar 0) (mCons (mVar 2) (mCons (mVar 4) mNil))))) [some (.int c), some (.bl deep), some (.id 1), some (.id 3), some (.id 4), some (.id 2), some (.int n1), some (.int way), none, none, none, none] h = .ok lf.dd.av h := x_boxD (h' := []) (by
          rw [ed]
          walk_at "v"
          rw [el]) lf_flat
        obtain ⟨dok, ddp, dsz⟩ := Lf.dd_ok ol
        have rl : RD G (.tup ((lfW lf).map (·.1))) lf.dd := by rw [← lf_av]; exact .leaf ddp dok
        have B2 := B.put rl [lf.wds]
        have B3 := B2.line lf.wds
        have P2 := P.add (v := .tup ((lfW lf).map (·.1))) (.leaf ol .nil : LB (sts.map (·.1)) (visF fs) [lf.dd] [lf.wds]) (by omega) (k' := k + 1) (by omega)
        have cl := cur_len (tp := tp) (fs := fs)
        have sz := P.sz
        have cc : h[(curS tp fs).id]? = some (.lst ((curS tp fs).ps.map (·.1))) := by
          cases fs with
          | nil => exact B.tok.1
          | cons g t => exact ((B.ff g List.mem_cons_self).s _ cur_sub).1
        have hh := f_here B
        have lc := fun S (hS : ∃ s0 s1 s2 s3 s4 s5 s6 s7 s8 s9 s10, S = [s0, s1, s2, s3, s4, s5, s6, s7, s8, s9, s10, none]) => lc_map (t := qc_L_step_1 S) (enc := fun p : AV × Str => p.1) (g := fun p => AV.str p.2) (h := h.set (curS tp fs).id (.lst ((curS tp fs).ps.map (·.1) ++ [.tup ((lfW lf).map (·.1))]))) (lfW lf) [] fun p hp => (by
          obtain ⟨s0, s1, s2, s3, s4, s5, s6, s7, s8, s9, s10, rfl⟩ := hS
          apply is_eq
          rw [eqc_L_step_1]
          walk_at "v"
          rw [lf_str ol p hp]
          walk_at "v")
        rw [ebx, lf_av]
        walk_at "v"
        rw [hh]
        walk_at "v"
        rw [ls_id cc]
        walk_at "v"
        rw [x_app cc, if_pos (by rw [List.length_map]; omega)]
        walk_at "v"
        rw [x_kLc (by have : (lfW lf).length ≤ 5 := by { cases lf <;> simp [lfW] }; rw [List.length_map]; omega) (lc _ ⟨_, _, _, _, _, _, _, _, _, _, _, rfl⟩)]
        try unfold kF
        walk_at "v"
        refine thn_of (r' := Rs.ok (Ou.nx [some (.int c), some (.bl deep), some (.id 1), some (.id 3), some (.id 4), some (.id 2), some (.int n1), some (.int way), none, some (.tup ((lfW lf).map (·.1))), some (lnA lf.wds), none]) (h.set (curS tp fs).id (.lst ((curS tp fs).ps.map (·.1) ++ [.tup ((lfW lf).map (·.1))])))) ?_ ?_
        · clear B3 B2 P2 lc ebx
          cases lf with
          | put s x => rfl
          | get s x => rfl
          | give x => rfl
          | set x a z b => rfl
        · walk_at "v"
          rw [ls_id B2.c2]
          walk_at "v"
          rw [x_app B2.c2, if_pos (by rw [List.length_map]; omega)]
          walk_at "v"
          exact ⟨lf.wds, G, _, _, B3, P2, trivial⟩
end

/-! the whole text -/
theorem x_ninL {w : Str} {ks : List Str} {h : AH} : opNotIn (.str w) (.lst (ks.map AV.str)) h = .ok (.bl (!decide (w ∈ ks))) h := by
  have a := (x_inS (w := w) (h := h) (ks := ks) rfl).2
  have b := (x_in (h := h) (x := .str w) (y := .tup (ks.map AV.str)) (v := .str w) (vs := ks.map V.str) rfl (by show fvs (ks.map AV.str) = _; exact fvs_str ks) (fun _ q => by cases q)).2
  rw [a] at b
  have c := (x_in (h := h) (x := .str w) (y := .lst (ks.map AV.str)) (v := .str w) (vs := ks.map V.str) rfl (by show fvs (ks.map AV.str) = _; exact fvs_str ks) (fun _ q => by cases q)).2
  rw [c, ← b]
theorem x_ninD {w : Str} {ks : List Str} {h : AH} {n : Nat} (e : h[n]? = some (.lst (ks.map AV.str))) : opNotIn (.str w) (.id n) h = .ok (.bl (!decide (w ∈ ks))) h := by
  have a := (x_inS (w := w) (h := h) (ks := ks) rfl).2
  have b := (x_in (h := h) (x := .str w) (y := .tup (ks.map AV.str)) (v := .str w) (vs := ks.map V.str) rfl (by show fvs (ks.map AV.str) = _; exact fvs_str ks) (fun _ q => by cases q)).2
  rw [a] at b
  have c := (x_in (h := h) (x := .str w) (y := .id n) (v := .str w) (vs := ks.map V.str) rfl (by rw [s_id e]; exact fvs_str ks) (fun _ q => by cases q)).2
  rw [c, ← b]
def lnAsk (x : Str) : List Str := ["ask", x]
def lnSto (x : Str) (m : Nat) : List Str := ["store", x, nS m]
section
variable {G : Gh} {h : AH} {A : List Str} {sts : List (Str × Int)} {L H : List (List Str)} {R : List Str} {tp : Sb} {fs r : List Fe} {f : Fe} {k : Nat}
inductive HL : List Str → List (Str × Int) → List (List Str) → Prop
  | nil : HL [] [] []
  | ask {A : List Str} {sts : List (Str × Int)} {L : List (List Str)} {x : Str} (t : HL A sts L) (n : Nm x) (i : x ∉ A) : HL (A ++ [x]) sts (L ++ [lnAsk x])
  | sto {A : List Str} {sts : List (Str × Int)} {L : List (List Str)} {x : Str} {m : Nat} (t : HL A sts L) (n : Nm x) (i : x ∉ sts.map (·.1)) (a : 1 ≤ m) (b : m ≤ 2000) : HL A (sts ++ [(x, ((m : Nat) : Int))]) (L ++ [lnSto x m])
theorem HL.nm (t : HL A sts L) : (∀ x ∈ A, Nm x) ∧ (∀ s ∈ sts, Nm s.1) ∧ A.length + sts.length = L.length := by
  induction t with
  | nil => exact ⟨fun _ h => (by cases h), fun _ h => (by cases h), rfl⟩
  | ask t n i ih =>
    refine ⟨fun x hx => ?_, ih.2.1, by have := ih.2.2; simp; omega⟩
    rcases List.mem_append.mp hx with hx | hx
    · exact ih.1 x hx
    · rw [List.mem_singleton.mp hx]; exact n
  | sto t n i a b ih =>
    refine ⟨ih.1, fun x hx => ?_, by have := ih.2.2; simp; omega⟩
    rcases List.mem_append.mp hx with hx | hx
    · exact ih.2.1 x hx
    · rw [List.mem_singleton.mp hx]; exact n
def hdH (A : List Str) (sts : List (Str × Int)) (L : List (List Str)) : AH := [.lst (A.map AV.str), .lst (sts.map sto), .lst (L.map lnA), .lst [], .lst []]
/-- nothing built yet -/
theorem bs_0 : Bs (fun _ => none) (hdH A sts L) A sts L ⟨3, [], []⟩ [] := by
  refine ⟨rfl, rfl, rfl, rfl, rfl, ⟨rfl, fun p hp => (by cases hp)⟩, fun c ps e => (by cases e), fun f hf => (by cases hf), List.nodup_nil, fun c hc => (by cases hc), fun c hc => ?_⟩
  rcases hc with h | h
  · cases h
  · exact (h rfl).elim
theorem ps_0 : Ps R L L ⟨3, [], []⟩ [] 0 := ⟨by simp, .nil, trivial, by show Dd.szs [] + 0 ≤ 0; rw [Dd.szs]; exact Nat.le_refl _, by show Dd.deps [] ≤ 12; rw [Dd.deps]; omega, trivial⟩
/-- one row ahead -/
theorem f_ahead {ns : List Int} (hb : ∀ z ∈ ns, Builtin.Int.intBits z ≤ 1048576) {j : Nat} (hj : j < 10) (t : HL A sts L) (lA : L.length ≤ 100) {o5 o6 o7 o9 o10 o11 : Option AV} :
    (q_L_build_3 [some (.scr (ns.map AV.int)), some (.id 0), some (.id 1), some (.id 2), some (.id 3), o5, o6, o7, some (.int (j : Nat)), o9, o10, o11] (hdH A sts L)).is fun o h' => ∃ o9 o10, o = .nx [some (.scr (ns.map AV.int)), some (.id 0), some (.id 1), some (.id 2), some (.id 3), o5, o6, o7, some (.int (j : Nat)), o9, o10, o11] ∧ ∃ A' sts' L', HL A' sts' L' ∧ h' = hdH A' sts' L' ∧ L'.length ≤ L.length + 1 := by
  obtain ⟨n7, a7, b7, e7⟩ := p_mixed (c := cellF ns (j + 1)) (k := 7) (cell_bits hb _) (by omega)
  obtain ⟨x, nx, ex⟩ := p_name (n := n7 / 2) (by omega)
  obtain ⟨m, m0, m1, em⟩ := p_from (n := n7 / 2 / 10 ^ 15) (lo := 1) (hi := 2000) (by decide)
  have pc : ∀ h, kCallP m_L_cell_at [.scr (ns.map AV.int), .int (1 + (j : Nat))] h = .ok (.int (cellF ns (j + 1))) h := fun h => by
    rw [show (1 : Int) + (j : Nat) = ((j + 1 : Nat) : Int) by omega]; exact p_cell
  obtain ⟨nA, nS', lAS⟩ := t.nm
  unfold q_L_build_3
  walk_at "v"
  rw [pc]
  walk_at "v"
  rw [e7]
  walk_at "v"
  rw [ex]
  walk_at "v"
  have p15 : ∀ h, opPow (.int 10) (.int 15) h = .ok (.int 1000000000000000) h := fun h => by rw [x_pow (show CPow 10 15 from ⟨by decide, by decide, by decide⟩)]; rfl
  have box : mBoxD (mBin opNotIn (mVar 10) (mLc2 kF (mSq (mVar 2)) qc_L_build_1)) [some (.scr (ns.map AV.int)), some (.id 0), some (.id 1), some (.id 2), some (.id 3), o5, o6, o7, some (.int (j : Nat)), some (.int n7), some (.str x), o11] (hdH A sts L) = .ok (.bl (!decide (x ∈ sts.map (·.1)))) (hdH A sts L) := by
    refine x_boxD (h' := []) ?_ rfl
    have a1 : avOf (hdH A sts L) (.id 1) = some (.lst (sts.map sto)) := avOf_id rfl (cls_map fun _ => rfl)
    have ed : dpS (hdH A sts L) [some (.scr (ns.map AV.int)), some (.id 0), some (.id 1), some (.id 2), some (.id 3), o5, o6, o7, some (.int (j : Nat)), some (.int n7), some (.str x), o11] = [avOf (hdH A sts L) (.scr (ns.map AV.int)), avOf (hdH A sts L) (.id 0), some (.lst (sts.map sto)), avOf (hdH A sts L) (.id 2), avOf (hdH A sts L) (.id 3), o5.bind (avOf (hdH A sts L)), o6.bind (avOf (hdH A sts L)), o7.bind (avOf (hdH A sts L)), some (.int (j : Nat)), some (.int n7), some (.str x), o11.bind (avOf (hdH A sts L))] := by rw [← a1]; rfl
    rw [ed]
    walk_at "v"
    rw [x_kLc (by rw [List.length_map]; omega) (lc_map (enc := sto) (g := fun s : Str × Int => .str s.1) sts [] fun s hs => (by
      apply is_eq
      rw [eqc_L_build_1]
      unfold sto
      walk_at "v"))]
    unfold kF
    walk_at "v"
    rw [List.nil_append, show (sts.map fun s : Str × Int => AV.str s.1) = (sts.map (·.1)).map AV.str by rw [List.map_map]; rfl, x_ninL]
  have c0 : (hdH A sts L)[0]? = some (.lst (A.map AV.str)) := rfl
  have c1 : (hdH A sts L)[1]? = some (.lst (sts.map sto)) := rfl
  by_cases c : n7 % 2 = 0
  · rw [if_pos c, x_ninD c0]
    by_cases mx : x ∈ A
    · rw [decide_eq_true mx]
      walk_at "v"
      rw [if_neg (by omega)]
      walk_at "v"
      exact ⟨_, _, rfl, A, sts, L, t, rfl, by omega⟩
    · rw [decide_eq_false mx]
      walk_at "v"
      rw [ls_id c0]
      walk_at "v"
      rw [x_app c0, if_pos (by rw [List.length_map]; omega)]
      have eh : (hdH A sts L).set 0 (.lst (A.map AV.str ++ [.str x])) = hdH (A ++ [x]) sts L := by unfold hdH; rw [List.map_append]; rfl
      have eh2 : (hdH (A ++ [x]) sts L).set 2 (.lst (L.map lnA ++ [.lst [.str "ask", .str x]])) = hdH (A ++ [x]) sts (L ++ [lnAsk x]) := by unfold hdH; rw [List.map_append (f := lnA)]; rfl
      have c2 : (hdH (A ++ [x]) sts L)[2]? = some (.lst (L.map lnA)) := rfl
      rw [eh]
      walk_at "v"
      rw [ls_id c2]
      walk_at "v"
      rw [x_app c2, if_pos (by rw [List.length_map]; omega), eh2]
      walk_at "v"
      rw [if_neg (by omega)]
      walk_at "v"
      exact ⟨_, _, rfl, A ++ [x], sts, L ++ [lnAsk x], .ask t nx mx, rfl, by rw [List.length_append, List.length_singleton]; omega⟩
  · rw [if_neg c]
    walk_at "v"
    rw [if_pos (by omega), box]
    by_cases mx : x ∈ sts.map (·.1)
    · rw [decide_eq_true mx]
      walk_at "v"
      exact ⟨_, _, rfl, A, sts, L, t, rfl, by omega⟩
    · rw [decide_eq_false mx]
      walk_at "v"
      have em : ∀ h, kCallP m_L_from [.int (n7 / 2 / 1000000000000000), .int 1, .int 2000] h = .ok (.int (m : Nat)) h := em
      have eh : (hdH A sts L).set 1 (.lst (sts.map sto ++ [.tup [.str x, .int (m : Nat)]])) = hdH A (sts ++ [(x, ((m : Nat) : Int))]) L := by unfold hdH; rw [List.map_append (f := sto)]; rfl
      have eh2 : (hdH A (sts ++ [(x, ((m : Nat) : Int))]) L).set 2 (.lst (L.map lnA ++ [.lst [.str "store", .str x, .str (nS m)]])) = hdH A (sts ++ [(x, ((m : Nat) : Int))]) (L ++ [lnSto x m]) := by unfold hdH; rw [List.map_append (f := lnA)]; rfl
      have c2 : (hdH A (sts ++ [(x, ((m : Nat) : Int))]) L)[2]? = some (.lst (L.map lnA)) := rfl
      have c1' : (hdH A (sts ++ [(x, ((m : Nat) : Int))]) L)[1]? = some (.lst (sts.map sto ++ [.tup [.str x, .int (m : Nat)]])) := by unfold hdH; rw [List.map_append (f := sto)]; rfl
      rw [ls_id c1]
      walk_at "v"
      rw [p15]
      walk_at "v"
      rw [em]
      walk_at "v"
      rw [x_app c1, if_pos (by rw [List.length_map]; omega), eh]
      walk_at "v"
      rw [ls_id c2]
      walk_at "v"
      rw [last_ix c1']
      walk_at "v"
      refine ⟨n_log (Nat.lt_of_le_of_lt m1 (by decide)), ?_⟩
      rw [show Str.ofString (toString ((m : Nat) : Int)) = nS m from rfl]
      rw [x_app c2, if_pos (by rw [List.length_map]; omega), eh2]
      walk_at "v"
      exact ⟨_, _, rfl, A, _, _, .sto t nx mx m0 m1, rfl, by rw [List.length_append, List.length_singleton]; omega⟩
end

/-! the builder whole -/
section
variable {G : Gh} {h : AH} {A : List Str} {sts : List (Str × Int)} {L H : List (List Str)} {R : List Str} {tp : Sb} {fs r : List Fe} {f : Fe} {k : Nat}
/-- all blocks that stand open are ended -/
theorem f_close {s0 o6 o7 o8 o9 o10 o11 : Option AV} : ∀ (m N : Nat) (G : Gh) (h : AH) (L : List (List Str)) (tp : Sb) (fs : List Fe) (k : Nat), fs.length ≤ m → m < N → Bs G h A sts L tp fs → Ps R H L tp fs k → k + m ≤ 1000 → L.length + m ≤ 10000 →
    ∃ G' h' L' tp', mWhN (mTst (mBin opGt (mBlt fLen (mCons (mVar 5) mNil)) (mLit (.int (0))))) q_L_build_1 N [s0, some (.id 0), some (.id 1), some (.id 2), some (.id 3), some (.id 4), o6, o7, o8, o9, o10, o11] h = .ok (.nx [s0, some (.id 0), some (.id 1), some (.id 2), some (.id 3), some (.id 4), o6, o7, o8, o9, o10, o11]) h' ∧ Bs G' h' A sts L' tp' [] ∧ Ps R H L' tp' [] (k + m) ∧ L'.length ≤ L.length + m
  | _, 0, _, _, _, _, _, _, _, q, _, _, _, _ => absurd q (Nat.not_lt_zero _)
  | m, N + 1, G, h, L, tp, fs, k, hm, hN, B, P, hk, hL => by
    have l4 := x_lend (h := h) B.c4
    rw [List.length_map, List.length_reverse] at l4
    have test : (mTst (mBin opGt (mBlt fLen (mCons (mVar 5) mNil)) (mLit (.int (0))))) [s0, some (.id 0), some (.id 1), some (.id 2), some (.id 3), some (.id 4), o6, o7, o8, o9, o10, o11] h = .ok (decide (0 < fs.length)) h := by
      apply is_eq
      walk_at "v"
      rw [l4]
      walk_at "v"
      simp
    show ∃ G' h' L' tp', ((mTst _ _ _).bnd (kWh q_L_build_1 (mWhN _ q_L_build_1 N) _)) = _ ∧ _
    rw [test, b_ok]
    cases fs with
    | nil =>
      refine ⟨G, h, L, tp, ?_, B, ⟨P.l, P.t, P.f, by have := P.sz; omega, P.dt, P.df⟩, by omega⟩
      rw [kWh, if_neg (by simp)]
    | cons f r =>
      rw [List.length_cons] at hm
      obtain ⟨v, h1, e, rfl, l, G', tp', fs', q1, q2, q3⟩ := is_ex (f_ended B P (by omega) (by omega))
      obtain ⟨G2, h2, L2, tp2, e2, B2, P2, l2⟩ := f_close (s0 := s0) (o6 := o6) (o7 := o7) (o8 := o8) (o9 := o9) (o10 := o10) (o11 := o11) (m - 1) N G' h1 (L ++ [l]) tp' fs' (k + 1) (by omega) (by omega) q1 q2 (by omega) (by rw [List.length_append, List.length_singleton]; omega)
      refine ⟨G2, h2, L2, tp2, ?_, B2, ⟨P2.l, P2.t, P2.f, by have := P2.sz; omega, P2.dt, P2.df⟩, by rw [List.length_append, List.length_singleton] at l2; omega⟩
      have one : q_L_build_1 [s0, some (.id 0), some (.id 1), some (.id 2), some (.id 3), some (.id 4), o6, o7, o8, o9, o10, o11] h = .ok (.nx [s0, some (.id 0), some (.id 1), some (.id 2), some (.id 3), some (.id 4), o6, o7, o8, o9, o10, o11]) h1 := by
        unfold q_L_build_1
        walk_at "v"
        rw [e]
        walk_at "v"
      rw [kWh, if_pos (by simp), one]
      exact e2
end

/-! what is built -/
theorem p_build {ns : List Int} (hl : ns.length ≤ 63) (hb : ∀ z ∈ ns, Builtin.Int.intBits z ≤ 1048576) : ∃ (A : List Str) (sts : List (Str × Int)) (L0 : List (List Str)) (ds : List Dd) (ls : List (List Str)), (HL A sts L0 ∧ L0.length ≤ 7 ∧ LB (sts.map (·.1)) true ds ls ∧ Dd.szs ds ≤ 100 ∧ Dd.deps ds ≤ 12 ∧ (L0 ++ ls).length ≤ 1000) ∧
    ∀ h, kCallP m_L_build [.scr (ns.map AV.int)] h = .ok (.tup [.lst (A.map AV.str), .lst (sts.map sto), .lst (Dd.avs ds), .lst ((L0 ++ ls).map lnA)]) h := by
  have g : (m_L_build [.scr (ns.map AV.int)] []).is fun v h' => ∃ (A : List Str) (sts : List (Str × Int)) (L0 : List (List Str)) (ds : List Dd) (ls : List (List Str)), (HL A sts L0 ∧ L0.length ≤ 7 ∧ LB (sts.map (·.1)) true ds ls ∧ Dd.szs ds ≤ 100 ∧ Dd.deps ds ≤ 12 ∧ (L0 ++ ls).length ≤ 1000) ∧ avOf h' v = some (.tup [.lst (A.map AV.str), .lst (sts.map sto), .lst (Dd.avs ds), .lst ((L0 ++ ls).map lnA)]) := by
    obtain ⟨n6, a6, b6, e6⟩ := p_mixed (c := cellF ns 0) (k := 6) (cell_bits hb _) (by omega)
    have pc : ∀ h, kCallP m_L_cell_at [.scr (ns.map AV.int), .int 0] h = .ok (.int (cellF ns 0)) h := fun h => p_cell (k := 0)
    rw [em_L_build]
    unfold q_L_build
    walk_at "v"
    rw [pc]
    walk_at "v"
    rw [e6]
    walk_at "v"
    rw [x_rgi ⟨by omega, by omega⟩, rg_map]
    walk_at "v"
    obtain ⟨S', h', el, p⟩ := for_rest (mg := mNm 8) (b := q_L_build_3) (enc := fun k : Nat => AV.int (k : Nat)) (g := fun (l : List Nat) k => l ++ [k])
      (P := fun r dn S h => (∃ o8 o9 o10, S = [some (.scr (ns.map AV.int)), some (.id 0), some (.id 1), some (.id 2), some (.id 3), some (.id 4), some (.int n6), some (.int (n6 % 7)), o8, o9, o10, none]) ∧ dn ++ r = List.range (n6 % 7).toNat ∧ ∃ A sts L, HL A sts L ∧ h = hdH A sts L ∧ L.length ≤ dn.length)
      (List.range (n6 % 7).toNat) [] [some (.scr (ns.map AV.int)), some (.id 0), some (.id 1), some (.id 2), some (.id 3), some (.id 4), some (.int n6), some (.int (n6 % 7)), none, none, none, none] (hdH [] [] []) ⟨⟨_, _, _, rfl⟩, rfl, [], [], [], .nil, rfl, Nat.le_refl _⟩ (by
      rintro j r dn S h ⟨⟨o8, o9, o10, rfl⟩, hr, A, sts, L, t, rfl, lL⟩
      have hj : j < (n6 % 7).toNat := List.mem_range.mp (by rw [← hr]; simp)
      have ld : dn.length ≤ 7 := by have := congrArg List.length hr; rw [List.length_append, List.length_range] at this; omega
      obtain ⟨o, h', e, p9, p10, rfl, A', sts', L', t', rfl, l'⟩ := is_ex (f_ahead hb (j := j) (by omega) t (by omega) (o5 := some (.id 4)) (o6 := some (.int n6)) (o7 := some (.int (n6 % 7))) (o9 := o9) (o10 := o10) (o11 := none))
      walk_at "v"
      rw [e]
      exact ⟨_, rfl, ⟨_, _, _, rfl⟩, by rw [← hr]; simp, A', sts', L', t', rfl, by rw [List.length_append, List.length_singleton]; omega⟩)
    rw [fold_snoc, List.nil_append] at p
    obtain ⟨⟨o8, o9, o10, rfl⟩, _, A, sts, L0, t, rfl, lL⟩ := p
    rw [List.length_range] at lL
    refine thn_of el ?_
    obtain ⟨nA, nS', lAS⟩ := t.nm
    walk_at "v"
    have hcs := cut_map (f := AV.int) (l := ns) (lo := some (1 + n6 % 7)) (hi := some (161 + n6 % 7))
    cases hcs with
    | intro cs hcs =>
    have ecs := hcs.1
    have lcs := hcs.2.1
    have mcs := hcs.2.2
    clear hcs
    rw [ecs]
    obtain ⟨S', h', el, p⟩ := for_rest (mg := mNm 9) (b := q_L_build_2) (enc := AV.int) (g := fun (l : List Int) k => l ++ [k])
      (P := fun r dn S h => (∃ o9, S = [some (.scr (ns.map AV.int)), some (.id 0), some (.id 1), some (.id 2), some (.id 3), some (.id 4), some (.int n6), some (.int (n6 % 7)), o8, o9, o10, none]) ∧ dn ++ r = cs ∧ ∃ G L tp fs, Bs G h A sts L tp fs ∧ Ps (sts.map (·.1)) L0 L tp fs dn.length ∧ L.length ≤ L0.length + dn.length)
      cs [] [some (.scr (ns.map AV.int)), some (.id 0), some (.id 1), some (.id 2), some (.id 3), some (.id 4), some (.int n6), some (.int (n6 % 7)), o8, o9, o10, none] (hdH A sts L0) ⟨⟨_, rfl⟩, rfl, _, _, _, _, bs_0, ps_0, by omega⟩ (by
      rintro c r dn S h ⟨⟨o9, rfl⟩, hr, G, L, tp, fs, B, P, lL2⟩
      have mc : c ∈ cs := by rw [← hr]; simp
      have ld : dn.length ≤ 63 := by have := congrArg List.length hr; rw [List.length_append] at this; omega
      obtain ⟨v, h1, e, rfl, l, G', tp', fs', q1, q2, _⟩ := is_ex (f_step (c := c) (deep := decide (n6 / 7 % 3 = 0)) (hb c (mcs c mc)) B P (by omega) (by omega) (by omega) nS')
      walk_at "v"
      unfold q_L_build_2
      walk_at "v"
      rw [e]
      walk_at "v"
      refine ⟨_, rfl, ⟨_, rfl⟩, by rw [← hr]; simp, G', _, tp', fs', q1, ?_, ?_⟩
      · rw [List.length_append, List.length_singleton]; exact q2
      · rw [List.length_append, List.length_append, List.length_singleton, List.length_singleton]; omega)
    rw [fold_snoc, List.nil_append] at p
    obtain ⟨⟨p9, rfl⟩, _, G, L, tp, fs, B, P, lL2⟩ := p
    refine thn_of el ?_
    obtain ⟨G2, h2, L2, tp2, e2, B2, P2, l2⟩ := f_close (s0 := some (.scr (ns.map AV.int))) (o6 := some (.int n6)) (o7 := some (.int (n6 % 7))) (o8 := o8) (o9 := p9) (o10 := o10) (o11 := none) 12 bigN G h' L tp fs cs.length (vis_dep P.df) (by unfold bigN; omega) B P (by omega) (by omega)
    walk_at "v"
    refine thn_of (show mWhile _ _ _ _ = _ from e2) ?_
    walk_at "v"
    have eL := P2.l
    rw [List.reverse_nil, List.flatMap_nil, List.append_nil] at eL
    have sz := P2.sz
    have z0 : avSub (avId h2 30) (.id 0) = some (.lst (A.map AV.str)) := avOf_id B2.c0 cls_strs
    have z1 : avSub (avId h2 30) (.id 1) = some (.lst (sts.map sto)) := avOf_id B2.c1 (cls_map fun _ => rfl)
    have z2 : avSub (avId h2 30) (.id 2) = some (.lst (L2.map lnA)) := avOf_id B2.c2 (cls_map fun _ => by unfold lnA; exact strs_cl)
    have z3 := sb_deep B2.cl B2.tok (n := 29) (by have := P2.dt; omega)
    rw [B2.t3] at z3
    refine ⟨A, sts, L0, tp2.ds, tp2.ls, ⟨t, by omega, P2.t, by show Dd.szs tp2.ds ≤ 100; rw [szF] at sz; omega, P2.dt, by rw [← eL]; omega⟩, ?_⟩
    unfold avOf
    rw [avSub, avSubs, avSubs, avSubs, avSubs, avSubs, z0, z1, z2, z3, eL]
    rfl
  obtain ⟨v, h', e, A, sts, L0, ds, ls, ok, a⟩ := is_ex g
  exact ⟨A, sts, L0, ds, ls, ok, fun h => x_callP (ca_all (by rw [cls_cons, cl_scr, cls_ints]; rfl)) e a⟩

/-! like and like -/
theorem forLP_eq {mg : GV} {b : SV} : ∀ (ps : List (AV × AV)), mForLP mg b ps = mForL mg b (ps.map fun p => .tup [p.1, p.2])
  | [] => rfl
  | p :: ps => by
    funext S h
    rw [fp_cons, List.map_cons, f_cons, forLP_eq ps]
inductive Sm : Nat → AV → Prop
  | str {n : Nat} {z : Str} : Sm n (.str z)
  | int {n : Nat} {i : Int} : Sm n (.int i)
  | lst {n : Nat} {xs : List AV} (h : ∀ x ∈ xs, Sm n x) : Sm (n + 1) (.lst xs)
  | tup {n : Nat} {xs : List AV} (h : ∀ x ∈ xs, Sm n x) : Sm (n + 1) (.tup xs)
theorem Sm.up : ∀ {n m : Nat} {v : AV}, Sm n v → n ≤ m → Sm m v := by
  intro n m v s
  induction s generalizing m with
  | str => intro _; exact .str
  | int => intro _; exact .int
  | lst h ih =>
    intro l
    obtain ⟨j, rfl⟩ : ∃ j, m = j + 1 := ⟨m - 1, by omega⟩
    exact .lst fun x hx => ih x hx (by omega)
  | tup h ih =>
    intro l
    obtain ⟨j, rfl⟩ : ∃ j, m = j + 1 := ⟨m - 1, by omega⟩
    exact .tup fun x hx => ih x hx (by omega)
theorem Sm.cl {n : Nat} {v : AV} (s : Sm n v) : Hf.cl v = true := by
  induction s with
  | str => rfl
  | int => rfl
  | lst h ih => rw [cl_lst]; exact cls_all ih
  | tup h ih => rw [cl_tup]; exact cls_all ih
theorem zip_self {α : Type} : ∀ {l : List α} {q : α × α}, q ∈ l.zip l → q.1 = q.2 ∧ q.1 ∈ l
  | [], q, h => by simp at h
  | a :: l, q, h => by
    rw [List.zip_cons_cons] at h
    rcases List.mem_cons.mp h with rfl | h
    · exact ⟨rfl, List.mem_cons_self⟩
    · obtain ⟨a, b⟩ := zip_self h
      exact ⟨a, List.mem_cons_of_mem _ b⟩
theorem p_same : ∀ {n N : Nat} {v : AV}, Sm n v → n < N → ∀ h, kCallP (m_L_same N) [v, v] h = .ok (.bl true) h := by
  intro n N v s hN
  obtain ⟨M, rfl⟩ : ∃ M, N = M + 1 := ⟨N - 1, by omega⟩
  have scl := s.cl
  induction s generalizing M with
  | str =>
    intro h
    refine x_pure (by rw [cls_cons, cls_cons, scl]; rfl) (h0 := []) ?_ rfl
    apply is_eq
    rw [em_L_same]
    unfold q_L_same
    walk_at "v"
    exact congrArg AV.bl (decide_eq_true trivial)
  | int =>
    intro h
    refine x_pure (by rw [cls_cons, cls_cons, scl]; rfl) (h0 := []) ?_ rfl
    apply is_eq
    rw [em_L_same]
    unfold q_L_same
    walk_at "v"
    exact congrArg AV.bl (decide_eq_true trivial)
  | @lst n xs hx ih =>
    intro h
    refine x_pure (by rw [cls_cons, cls_cons, scl]; rfl) (h0 := []) ?_ rfl
    obtain ⟨M', rfl⟩ : ∃ M', M = M' + 1 := ⟨M - 1, by omega⟩
    apply is_eq
    rw [em_L_same]
    unfold q_L_same
    walk_at "v"
    rw [show ktZp0 (mVar 1) [some (AV.lst xs), some (AV.lst xs), none, none] (AV.lst xs) [] = .ok (xs.zip xs) [] from rfl]
    walk_at "v"
    rw [forLP_eq]
    obtain ⟨S', h', e1, p2, p3, rfl, rfl⟩ := for_inv (mg := mPr 2 3) (b := q_L_same_1 (m_L_same (M' + 1))) (P := fun S h => ∃ p2 p3, S = [some (.lst xs), some (.lst xs), p2, p3] ∧ h = [])
      ((xs.zip xs).map fun p => .tup [p.1, p.2]) [some (.lst xs), some (.lst xs), none, none] [] ⟨_, _, rfl, rfl⟩ (by
      rintro a ha S h1 ⟨p2, p3, rfl, rfl⟩
      obtain ⟨⟨u, v⟩, hq, rfl⟩ := List.mem_map.mp ha
      obtain ⟨e1, e2⟩ := zip_self hq
      have e1 : u = v := e1
      subst e1
      have q := ih u e2 M' (by omega) (hx u e2).cl
      walk_at "v"
      unfold q_L_same_1
      walk_at "v"
      rw [q]
      walk_at "v"
      exact ⟨_, rfl, _, _, rfl⟩)
    rw [e1]
    walk_at "v"
  | @tup n xs hx ih =>
    intro h
    refine x_pure (by rw [cls_cons, cls_cons, scl]; rfl) (h0 := []) ?_ rfl
    obtain ⟨M', rfl⟩ : ∃ M', M = M' + 1 := ⟨M - 1, by omega⟩
    apply is_eq
    rw [em_L_same]
    unfold q_L_same
    walk_at "v"
    rw [show ktZp0 (mVar 1) [some (AV.tup xs), some (AV.tup xs), none, none] (AV.tup xs) [] = .ok (xs.zip xs) [] from rfl]
    walk_at "v"
    rw [forLP_eq]
    obtain ⟨S', h', e1, p2, p3, rfl, rfl⟩ := for_inv (mg := mPr 2 3) (b := q_L_same_1 (m_L_same (M' + 1))) (P := fun S h => ∃ p2 p3, S = [some (.tup xs), some (.tup xs), p2, p3] ∧ h = [])
      ((xs.zip xs).map fun p => .tup [p.1, p.2]) [some (.tup xs), some (.tup xs), none, none] [] ⟨_, _, rfl, rfl⟩ (by
      rintro a ha S h1 ⟨p2, p3, rfl, rfl⟩
      obtain ⟨⟨u, v⟩, hq, rfl⟩ := List.mem_map.mp ha
      obtain ⟨e1, e2⟩ := zip_self hq
      have e1 : u = v := e1
      subst e1
      have q := ih u e2 M' (by omega) (hx u e2).cl
      walk_at "v"
      unfold q_L_same_1
      walk_at "v"
      rw [q]
      walk_at "v"
      exact ⟨_, rfl, _, _, rfl⟩)
    rw [e1]
    walk_at "v"
theorem sm_vl {n : Nat} {v : Vl} : Sm n v.av := by cases v <;> constructor
theorem sm_dd : ∀ n : Nat, (∀ d : Dd, d.dep ≤ n → Sm (2 * n + 1) d.av) ∧ (∀ ds : List Dd, Dd.deps ds ≤ n → Sm (2 * n + 2) (.lst (Dd.avs ds))) := by
  intro n
  have list : ∀ n, (∀ d : Dd, d.dep ≤ n → Sm (2 * n + 1) d.av) → (∀ ds : List Dd, Dd.deps ds ≤ n → Sm (2 * n + 2) (.lst (Dd.avs ds))) := by
    intro n one ds hd
    refine .lst fun x hx => ?_
    rw [Dd.avs_map] at hx
    obtain ⟨d, md, rfl⟩ := List.mem_map.mp hx
    have dm : ∀ {ds : List Dd}, d ∈ ds → d.dep ≤ Dd.deps ds := by
      intro ds
      induction ds with
      | nil => intro h; cases h
      | cons e ds ih =>
        intro h
        rw [Dd.deps]
        rcases List.mem_cons.mp h with rfl | h
        · omega
        · have := ih h; omega
    exact one d (by have := dm md; omega)
  have leaf : ∀ (n : Nat) (d : Dd), d.dep = 0 → Sm (2 * n + 1) d.av := by
    intro n d h0
    cases d with
    | give x => rw [Dd.av]; exact .tup fun y hy => by (simp only [List.mem_cons, List.not_mem_nil, or_false] at hy; rcases hy with rfl | rfl <;> exact .str)
    | put s x => rw [Dd.av]; exact .tup fun y hy => by (simp only [List.mem_cons, List.not_mem_nil, or_false] at hy; rcases hy with rfl | rfl | rfl <;> exact .str)
    | get s x => rw [Dd.av]; exact .tup fun y hy => by (simp only [List.mem_cons, List.not_mem_nil, or_false] at hy; rcases hy with rfl | rfl | rfl <;> exact .str)
    | set x a z b => rw [Dd.av]; exact .tup fun y hy => by (simp only [List.mem_cons, List.not_mem_nil, or_false] at hy; rcases hy with rfl | rfl | rfl | rfl | rfl <;> first | exact sm_vl | exact .str)
    | iff x p q => rw [Dd.dep] at h0; omega
    | whl x p => rw [Dd.dep] at h0; omega
    | rep n p => rw [Dd.dep] at h0; omega
  have one : ∀ d : Dd, d.dep ≤ n → Sm (2 * n + 1) d.av := by
    induction n with
    | zero => exact fun d hd => leaf 0 d (by omega)
    | succ n ih =>
      intro d hd
      by_cases h0 : d.dep = 0
      · exact leaf _ d h0
      · have L := list n ih
        cases d with
        | iff x p q =>
          rw [Dd.dep] at hd
          rw [Dd.av]
          exact .tup fun y hy => by
            simp only [List.mem_cons, List.not_mem_nil, or_false] at hy
            rcases hy with rfl | rfl | rfl | rfl
            · exact .str
            · exact .str
            · exact (L p (by omega)).up (by omega)
            · exact (L q (by omega)).up (by omega)
        | whl x p =>
          rw [Dd.dep] at hd
          rw [Dd.av]
          exact .tup fun y hy => by
            simp only [List.mem_cons, List.not_mem_nil, or_false] at hy
            rcases hy with rfl | rfl | rfl
            · exact .str
            · exact .str
            · exact (L p (by omega)).up (by omega)
        | rep j p =>
          rw [Dd.dep] at hd
          rw [Dd.av]
          exact .tup fun y hy => by
            simp only [List.mem_cons, List.not_mem_nil, or_false] at hy
            rcases hy with rfl | rfl | rfl
            · exact .str
            · exact .int
            · exact (L p (by omega)).up (by omega)
        | _ => exact absurd (by rw [Dd.dep]) h0
  exact ⟨one, list n one⟩

/-! the names of deeds -/
mutual
def nmD : Dd → List Str
  | .give x => [x]
  | .put _ x => [x]
  | .get _ x => [x]
  | .set x a _ b => x :: (nmV a ++ nmV b)
  | .iff x p q => (x :: srtU (nmB p)) ++ srtU (nmB q)
  | .whl x p => x :: srtU (nmB p)
  | .rep _ p => srtU (nmB p)
def nmB : List Dd → List Str
  | [] => []
  | d :: ds => nmD d ++ nmB ds
end
theorem nmV_len {v : Vl} : (nmV v).length ≤ 1 := by cases v <;> simp [nmV]
mutual
theorem nmD_len : ∀ d : Dd, (nmD d).length ≤ 3 * d.sz
  | .give x => by rw [nmD, Dd.sz]; simp
  | .put _ x => by rw [nmD, Dd.sz]; simp
  | .get _ x => by rw [nmD, Dd.sz]; simp
  | .set x a _ b => by
    rw [nmD, Dd.sz]
    have := nmV_len (v := a)
    have := nmV_len (v := b)
    simp; omega
  | .iff x p q => by
    rw [nmD, Dd.sz]
    have := nmB_len p
    have := nmB_len q
    have := srtU_len (nmB p)
    have := srtU_len (nmB q)
    simp; omega
  | .whl x p => by
    rw [nmD, Dd.sz]
    have := nmB_len p
    have := srtU_len (nmB p)
    simp; omega
  | .rep _ p => by
    rw [nmD, Dd.sz]
    have := nmB_len p
    have := srtU_len (nmB p)
    omega
theorem nmB_len : ∀ ds : List Dd, (nmB ds).length ≤ 3 * Dd.szs ds
  | [] => by rw [nmB]; simp
  | d :: ds => by
    rw [nmB, Dd.szs, List.length_append]
    have := nmD_len d
    have := nmB_len ds
    omega
end
theorem nmB_flat : ∀ ds : List Dd, flatN (ds.map fun d => (d.av, nmD d)) = nmB ds
  | [] => by rw [nmB]; rfl
  | d :: ds => by rw [nmB, ← nmB_flat ds]; unfold flatN; simp
theorem nm_fst (ds : List Dd) : (ds.map fun d => (d.av, nmD d)).map (·.1) = Dd.avs ds := by rw [Dd.avs_map, List.map_map]; rfl
theorem nb_pg {z : Str} {h : AH} (n1 : z ≠ "put") (n2 : z ≠ "get") : opIn (.str z) (.tup [.str "put", .str "get"]) h = .ok (.bl false) h := by
  have := (x_inS (w := z) (ks := ["put", "get"]) (h := h) rfl).1
  rw [decide_eq_false (by simp [n1, n2])] at this
  exact this
mutual
theorem nb_dd : ∀ (d : Dd) (n : Nat), 2 * d.dep + 1 ≤ n → d.ok → 3 * d.sz < 4000 → NB n (d.av, nmD d)
  | d, 0, hn, _, _ => by omega
  | .give x, n + 1, _, o, _ => fun h => x_pure (by rw [cls_cons, Dd.cl _ o]; rfl) (h0 := []) (y := .lst [.str x]) (by
    apply is_eq
    rw [em_named_by, Dd.av]
    unfold q_named_by
    walk_at "v"
    rw [nb_pg (by decide +kernel) (by decide +kernel)]
    walk_at "v") rfl
  | .put s x, n + 1, _, o, _ => fun h => x_pure (by rw [cls_cons, Dd.cl _ o]; rfl) (h0 := []) (y := .lst [.str x]) (by
    apply is_eq
    rw [em_named_by, Dd.av]
    unfold q_named_by
    walk_at "v"
    rw [show opIn (.str "put") (.tup [.str "put", .str "get"]) [] = .ok (.bl true) [] from (x_inS (w := "put") (ks := ["put", "get"]) rfl).1]
    walk_at "v") rfl
  | .get s x, n + 1, _, o, _ => fun h => x_pure (by rw [cls_cons, Dd.cl _ o]; rfl) (h0 := []) (y := .lst [.str x]) (by
    apply is_eq
    rw [em_named_by, Dd.av]
    unfold q_named_by
    walk_at "v"
    rw [show opIn (.str "get") (.tup [.str "put", .str "get"]) [] = .ok (.bl true) [] from (x_inS (w := "get") (ks := ["put", "get"]) rfl).1]
    walk_at "v") rfl
  | .set x a z b, n + 1, _, o, _ => fun h => x_pure (by rw [cls_cons, Dd.cl _ o]; rfl) (h0 := []) (y := .lst ((x :: (nmV a ++ nmV b)).map AV.str)) (by
    apply is_eq
    rw [em_named_by, Dd.av]
    unfold q_named_by
    walk_at "v"
    have tv : ∀ (v : Vl) (S : AS), S.length = 3 → qc_named_by_1 (m_named n) (m_named_by n) S v.av [] = .ok ((nmV v).head?.map AV.str) [] := by
      intro v S hl
      obtain ⟨a0, a1, a2, rfl⟩ : ∃ a0 a1 a2, S = [a0, a1, a2] := by
        match S, hl with
        | [a0, a1, a2], _ => exact ⟨_, _, _, rfl⟩
      apply is_eq
      rw [eqc_named_by_1]
      cases v <;> unfold Vl.av <;> walk_at "v" <;> rfl
    have tx : ∀ (S : AS), S.length = 3 → qc_named_by_1 (m_named n) (m_named_by n) S (.str x) [] = .ok (some (.str x)) [] := fun S hl => tv (.nm x) S hl
    rw [x_kLc (ys := (x :: (nmV a ++ nmV b)).map AV.str) (h1 := []) (by simp) (by
      rw [c_cons, tx _ rfl, b_ok, c_cons, tv a _ rfl, b_ok, c_cons, tv b _ rfl, b_ok, c_nil]
      cases a <;> cases b <;> rfl)]
    unfold kF
    walk_at "v"
    ) strs_cl
  | .whl x p, n + 1, hn, o, hs => fun h => x_pure (by rw [cls_cons, Dd.cl _ o]; rfl) (h0 := []) (y := .lst ((x :: srtU (nmB p)).map AV.str)) (by
    rw [Dd.dep] at hn
    rw [Dd.sz] at hs
    rw [Dd.ok] at o
    have e := nb_ds p n (by omega) o.2 (by omega) []
    have := srtU_len (nmB p)
    have := nmB_len p
    apply is_eq
    rw [em_named_by, Dd.av]
    unfold q_named_by
    walk_at "v"
    rw [nb_pg (by decide +kernel) (by decide +kernel)]
    walk_at "v"
    rw [e]
    walk_at "v"
    rw [x_addL (xs := [.str x]) rfl rfl, if_pos (by simp; omega)]
    walk_at "v"
    rfl) strs_cl
  | .rep k p, n + 1, hn, o, hs => fun h => x_pure (by rw [cls_cons, Dd.cl _ o]; rfl) (h0 := []) (y := .lst ((srtU (nmB p)).map AV.str)) (by
    rw [Dd.dep] at hn
    rw [Dd.sz] at hs
    rw [Dd.ok] at o
    have e := nb_ds p n (by omega) o (by omega) []
    apply is_eq
    rw [em_named_by, Dd.av]
    unfold q_named_by
    walk_at "v"
    rw [nb_pg (by decide +kernel) (by decide +kernel)]
    walk_at "v"
    rw [e]
    walk_at "v") strs_cl
  | .iff x p q, n + 1, hn, o, hs => fun h => x_pure (by rw [cls_cons, Dd.cl _ o]; rfl) (h0 := []) (y := .lst (((x :: srtU (nmB p)) ++ srtU (nmB q)).map AV.str)) (by
    rw [Dd.dep] at hn
    rw [Dd.sz] at hs
    rw [Dd.ok] at o
    have e := nb_ds p n (by omega) o.2.1 (by omega) []
    have e2 := nb_ds q n (by omega) o.2.2 (by omega) []
    have := srtU_len (nmB p)
    have := srtU_len (nmB q)
    have := nmB_len p
    have := nmB_len q
    apply is_eq
    rw [em_named_by, Dd.av]
    unfold q_named_by
    walk_at "v"
    rw [nb_pg (by decide +kernel) (by decide +kernel)]
    walk_at "v"
    rw [e]
    walk_at "v"
    rw [x_addL (xs := [.str x]) rfl rfl, if_pos (by simp; omega)]
    walk_at "v"
    rw [e2]
    walk_at "v"
    rw [x_addL (xs := [.str x] ++ (srtU (nmB p)).map AV.str) rfl rfl, if_pos (by simp; omega)]
    walk_at "v"
    simp) strs_cl
theorem nb_ds : ∀ (ds : List Dd) (n : Nat), 2 * Dd.deps ds + 2 ≤ n → Dd.oks ds → 3 * Dd.szs ds < 4000 → ∀ h, kCallP (m_named n) [.lst (Dd.avs ds)] h = .ok (.lst ((srtU (nmB ds)).map AV.str)) h
  | ds, 0, hn, _, _ => by omega
  | ds, n + 1, hn, o, hs => fun h => by
    rw [← nm_fst, ← nmB_flat]
    refine pn_named (n := n) (fun d hd => ?_) (by rw [nmB_flat]; have := nmB_len ds; omega)
    obtain ⟨d0, h0, rfl⟩ := List.mem_map.mp hd
    exact ⟨nb_all ds n (by omega) o hs d0 h0, d0.cl (Dd.oks_all.mp o d0 h0)⟩
theorem nb_all : ∀ (ds : List Dd) (n : Nat), 2 * Dd.deps ds + 1 ≤ n → Dd.oks ds → 3 * Dd.szs ds < 4000 → ∀ d ∈ ds, NB n (d.av, nmD d)
  | [], _, _, _, _, d, hd => by cases hd
  | e :: ds, n, hn, o, hs, d, hd => by
    rw [Dd.deps] at hn
    rw [Dd.oks] at o
    rw [Dd.szs] at hs
    by_cases c : d = e
    · rw [c]; exact nb_dd e n (by omega) o.1 (by omega)
    · exact nb_all ds n (by omega) o.2 (by omega) d ((List.mem_cons.mp hd).resolve_left c)
end
theorem nmB_mem {x : Str} : ∀ {ds : List Dd}, x ∈ nmB ds ↔ ∃ d ∈ ds, x ∈ nmD d
  | [] => by rw [nmB]; simp
  | d :: ds => by rw [nmB, List.mem_append, nmB_mem]; simp

/-! the names of a line -/
def NL (p : List Str × List Str) : Prop := ∀ h, kCallP m_L_names [lnA p.1] h = .ok (.lst (p.2.map AV.str)) h
theorem x_inK {w : Str} {ks : List Str} {h : AH} : opIn (.str w) (.lst (ks.map AV.str)) h = .ok (.bl (decide (w ∈ ks))) h := x_inL rfl
theorem ln_cl {l : List Str} : cl (lnA l) = true := strs_cl
theorem ln_ix {l : List Str} {w : Str} {i : Int} {h : AH} (e : atI l i = some w) : opIx (lnA l) (.int i) h = .ok (.str w) h := by unfold lnA; rw [x_ixl, at_map, e]; rfl
theorem nl_0 {w : Str} {l : List Str} (m : w ∈ (["ask", "store", "repeat", "else", "end"] : List Str)) : NL (w :: l, []) := fun h => x_pure (by rw [cls_cons, ln_cl]; rfl) (h0 := []) (by
  apply is_eq
  rw [em_L_names]
  unfold q_L_names
  walk_at "v"
  rw [ln_ix (w := w) at_0]
  walk_at "v"
  rw [show [AV.str "ask", .str "store", .str "repeat", .str "else", .str "end"] = (["ask", "store", "repeat", "else", "end"] : List Str).map AV.str from rfl, x_inK, decide_eq_true m]
  walk_at "v"
  rfl) rfl
theorem nl_2 {w s x : Str} (m : w ∈ (["put", "get"] : List Str)) : NL ([w, s, x], [x]) := fun h => x_pure (by rw [cls_cons, ln_cl]; rfl) (h0 := []) (by
  have n : ¬ w ∈ (["ask", "store", "repeat", "else", "end"] : List Str) := by
    have : ∀ w ∈ (["put", "get"] : List Str), ¬ w ∈ (["ask", "store", "repeat", "else", "end"] : List Str) := by decide
    exact this w m
  apply is_eq
  rw [em_L_names]
  unfold q_L_names
  walk_at "v"
  rw [ln_ix (w := w) rfl]
  walk_at "v"
  rw [show [AV.str "ask", .str "store", .str "repeat", .str "else", .str "end"] = (["ask", "store", "repeat", "else", "end"] : List Str).map AV.str from rfl, x_inK, decide_eq_false n]
  walk_at "v"
  rw [ln_ix (w := w) rfl]
  walk_at "v"
  rw [show [AV.str "put", .str "get"] = (["put", "get"] : List Str).map AV.str from rfl, x_inK, decide_eq_true m]
  walk_at "v"
  rw [ln_ix (w := x) rfl]
  walk_at "v"
  rfl) rfl
theorem nl_1 {w x : Str} (m : w ∈ (["give", "if", "while"] : List Str)) : NL ([w, x], [x]) := fun h => x_pure (by rw [cls_cons, ln_cl]; rfl) (h0 := []) (by
  have n : ¬ w ∈ (["ask", "store", "repeat", "else", "end"] : List Str) := by
    have : ∀ w ∈ (["give", "if", "while"] : List Str), ¬ w ∈ (["ask", "store", "repeat", "else", "end"] : List Str) := by decide
    exact this w m
  have n2 : ¬ w ∈ (["put", "get"] : List Str) := by
    have : ∀ w ∈ (["give", "if", "while"] : List Str), ¬ w ∈ (["put", "get"] : List Str) := by decide
    exact this w m
  apply is_eq
  rw [em_L_names]
  unfold q_L_names
  walk_at "v"
  rw [ln_ix (w := w) rfl]
  walk_at "v"
  rw [show [AV.str "ask", .str "store", .str "repeat", .str "else", .str "end"] = (["ask", "store", "repeat", "else", "end"] : List Str).map AV.str from rfl, x_inK, decide_eq_false n]
  walk_at "v"
  rw [ln_ix (w := w) rfl]
  walk_at "v"
  rw [show [AV.str "put", .str "get"] = (["put", "get"] : List Str).map AV.str from rfl, x_inK, decide_eq_false n2]
  walk_at "v"
  rw [ln_ix (w := w) rfl]
  walk_at "v"
  rw [show [AV.str "give", .str "if", .str "while"] = (["give", "if", "while"] : List Str).map AV.str from rfl, x_inK, decide_eq_true m]
  walk_at "v"
  rw [ln_ix (w := x) rfl]
  walk_at "v"
  rfl) rfl
theorem head_nm {x : Str} (n : Nm x) : ∃ c, atI x.cps.toList 0 = some c ∧ 97 ≤ c := by
  have l1 := n.l1
  cases e : x.cps.toList with
  | nil =>
    have : x.length = 0 := by show x.cps.size = 0; rw [← Array.length_toList, e]; rfl
    omega
  | cons c r => exact ⟨c, at_0, (n.s.l c (by rw [e]; exact List.mem_cons_self)).1⟩
theorem dig_no {c : Nat} (h : 97 ≤ c) : c ∉ (Str.ofString "0123456789").cps.toList := fun m => by
  have : ∀ c ∈ (Str.ofString "0123456789").cps.toList, c < 97 := by decide +kernel
  have := this c m; omega
theorem dig_yes {c : Nat} (h : 48 ≤ c ∧ c ≤ 57) : c ∈ (Str.ofString "0123456789").cps.toList := by
  have : ∀ c : Fin 58, 48 ≤ c.val → c.val ∈ (Str.ofString "0123456789").cps.toList := by decide +kernel
  exact this ⟨c, by omega⟩ h.1
/-- is a word a name, by its first sign -/
theorem w_first {v : Vw} (o : v.ok) : ∃ c, atI v.wd.cps.toList 0 = some c ∧ v.wd.length ≤ 16777216 ∧ (decide (c ∈ (Str.ofString "0123456789").cps.toList) = match v with | .nm _ => false | .nb _ => true) := by
  cases v with
  | nm w =>
    obtain ⟨c, e, hc⟩ := head_nm o
    exact ⟨c, e, by have := o.l8; show w.length ≤ _; omega, decide_eq_false (dig_no hc)⟩
  | nb m =>
    obtain ⟨c, r, e, h1, h2, _⟩ := nS_head (m := m)
    have := nS_30 o
    exact ⟨c, by show atI (nS m).cps.toList 0 = _; rw [e]; exact at_0, by show (nS m).length ≤ _; omega, decide_eq_true (dig_yes ⟨h1, h2⟩)⟩
theorem nl_set {x : Str} {a b : Vw} {z : Str} (nx : Nm x) (oa : a.ok) (ob : b.ok) : NL ([x, "=", a.wd, z, b.wd], x :: (nmV a.vl ++ nmV b.vl)) := fun h => x_pure (by rw [cls_cons, ln_cl]; rfl) (h0 := []) (by
  have nk := nx.nk
  have n1 : ¬ x ∈ (["ask", "store", "repeat", "else", "end"] : List Str) := fun m => nk (by
    have : ∀ w ∈ (["ask", "store", "repeat", "else", "end"] : List Str), w ∈ kwds := by decide
    exact this x m)
  have n2 : ¬ x ∈ (["put", "get"] : List Str) := fun m => nk (by
    have : ∀ w ∈ (["put", "get"] : List Str), w ∈ kwds := by decide
    exact this x m)
  have n3 : ¬ x ∈ (["give", "if", "while"] : List Str) := fun m => nk (by
    have : ∀ w ∈ (["give", "if", "while"] : List Str), w ∈ kwds := by decide
    exact this x m)
  have one : ∀ v : Vw, v.ok → ∀ S : AS, qc_L_names_1 [S[0]?.getD none, none] (.str v.wd) [] = .ok (match v with | .nm w => some (.str w) | .nb _ => none) [] := fun v o S => by
    obtain ⟨c, e, l, d⟩ := w_first o
    apply is_eq
    rw [eqc_L_names_1]
    walk_at "v"
    rw [x_ixs e l]
    walk_at "v"
    rw [inTx_one, d]
    cases v with
    | nm w => rw [if_pos rfl]; exact ⟨rfl, rfl⟩
    | nb m => rw [if_neg (by simp)]; exact ⟨rfl, rfl⟩
  have lc := lc_filter (t := qc_L_names_1 [some (lnA [x, "=", a.wd, z, b.wd]), none]) (enc := fun v : Vw => AV.str v.wd) (g := fun v => match v with | .nm w => some (.str w) | .nb _ => none) (h := []) [.nm x, a, b] [] fun v hv => (by
    have ov : v.ok := by
      simp only [List.mem_cons, List.not_mem_nil, or_false] at hv
      rcases hv with rfl | rfl | rfl
      · exact nx
      · exact oa
      · exact ob
    exact one v ov [some (lnA [x, "=", a.wd, z, b.wd])])
  have fm : ([Vw.nm x, a, b].filterMap fun v => match v with | .nm w => some (AV.str w) | .nb _ => none) = (x :: (nmV a.vl ++ nmV b.vl)).map AV.str := by cases a <;> cases b <;> rfl
  rw [fm, List.nil_append] at lc
  apply is_eq
  rw [em_L_names]
  unfold q_L_names
  walk_at "v"
  rw [ln_ix (w := x) rfl]
  walk_at "v"
  rw [show [AV.str "ask", .str "store", .str "repeat", .str "else", .str "end"] = (["ask", "store", "repeat", "else", "end"] : List Str).map AV.str from rfl, x_inK, decide_eq_false n1]
  walk_at "v"
  rw [ln_ix (w := x) rfl]
  walk_at "v"
  rw [show [AV.str "put", .str "get"] = (["put", "get"] : List Str).map AV.str from rfl, x_inK, decide_eq_false n2]
  walk_at "v"
  rw [ln_ix (w := x) rfl]
  walk_at "v"
  rw [show [AV.str "give", .str "if", .str "while"] = (["give", "if", "while"] : List Str).map AV.str from rfl, x_inK, decide_eq_false n3]
  walk_at "v"
  rw [ln_ix (w := x) rfl]
  walk_at "v"
  rw [ln_ix (w := a.wd) rfl]
  walk_at "v"
  rw [ln_ix (w := b.wd) rfl]
  walk_at "v"
  rw [show [AV.str x, .str a.wd, .str b.wd] = [Vw.nm x, a, b].map (fun v => AV.str v.wd) from rfl, x_kLc (by show 3 ≤ 16777216; omega) lc]
  try unfold kF
  try walk_at "v") (by exact strs_cl)
theorem nl_lf {R : List Str} {v : Bool} {f : Lf} (o : f.ok R v) : NL (f.wds, nmD f.dd) := by
  cases f with
  | put s x => show NL ([_, s, x], nmD (.put s x)); rw [nmD]; exact nl_2 (by decide)
  | get s x => show NL ([_, s, x], nmD (.get s x)); rw [nmD]; exact nl_2 (by decide)
  | give x => show NL ([_, x], nmD (.give x)); rw [nmD]; exact nl_1 (by decide)
  | set x a z b => show NL ([x, "=", a.wd, z, b.wd], nmD (.set x a.vl z b.vl)); rw [nmD]; exact nl_set o.1 o.2.1 o.2.2.2
theorem LB.names {R : List Str} {v : Bool} {ds : List Dd} {ls : List (List Str)} (t : LB R v ds ls) : ∃ ps : List (List Str × List Str), ps.map (·.1) = ls ∧ (∀ p ∈ ps, NL p) ∧ ∀ x, x ∈ (ps.map (·.2)).flatten ↔ x ∈ nmB ds := by
  have app : ∀ {ps qs : List (List Str × List Str)}, (∀ p ∈ ps, NL p) → (∀ p ∈ qs, NL p) → ∀ p ∈ ps ++ qs, NL p := fun a b p hp => by
    rcases List.mem_append.mp hp with h | h
    · exact a p h
    · exact b p h
  have cons : ∀ {p : List Str × List Str} {qs : List (List Str × List Str)}, NL p → (∀ p ∈ qs, NL p) → ∀ q ∈ p :: qs, NL q := fun a b q hq => by
    rcases List.mem_cons.mp hq with rfl | h
    · exact a
    · exact b q h
  have e0 : NL (lEnd, []) := nl_0 (by decide)
  have e1 : NL (lElse, []) := nl_0 (by decide)
  induction t with
  | nil => exact ⟨[], rfl, fun p hp => (by cases hp), fun x => by rw [nmB]; simp⟩
  | @leaf v f ds ls o t ih =>
    obtain ⟨ps, a, b, c⟩ := ih
    exact ⟨(f.wds, nmD f.dd) :: ps, by rw [List.map_cons, a], cons (nl_lf o) b, fun x => by rw [nmB, List.map_cons, List.flatten_cons, List.mem_append, List.mem_append, c]⟩
  | @if0 v x p l ds ls n q t ih1 ih =>
    obtain ⟨ps, a, b, c⟩ := ih1
    obtain ⟨qs, a2, b2, c2⟩ := ih
    refine ⟨(["if", x], [x]) :: (ps ++ (lEnd, []) :: qs), by simp [a, a2], cons (nl_1 (by decide)) (app b (cons e0 b2)), fun y => ?_⟩
    rw [nmB, nmD, nmB]
    have := c y
    have := c2 y
    simp only [List.map_cons, List.map_append, List.flatten_cons, List.flatten_append, List.mem_append, List.mem_cons, List.not_mem_nil, or_false, false_or, srtU_mem] at *
    grind
  | @if1 v x p q l m ds ls n u w t ih1 ih2 ih =>
    obtain ⟨ps, a, b, c⟩ := ih1
    obtain ⟨rs, a3, b3, c3⟩ := ih2
    obtain ⟨qs, a2, b2, c2⟩ := ih
    refine ⟨(["if", x], [x]) :: (ps ++ (lElse, []) :: (rs ++ (lEnd, []) :: qs)), by simp [a, a2, a3], cons (nl_1 (by decide)) (app b (cons e1 (app b3 (cons e0 b2)))), fun y => ?_⟩
    rw [nmB, nmD]
    have := c y
    have := c2 y
    have := c3 y
    simp only [List.map_cons, List.map_append, List.flatten_cons, List.flatten_append, List.mem_append, List.mem_cons, List.not_mem_nil, or_false, false_or, srtU_mem] at *
    grind
  | @whl v x p l ds ls n q t ih1 ih =>
    obtain ⟨ps, a, b, c⟩ := ih1
    obtain ⟨qs, a2, b2, c2⟩ := ih
    refine ⟨(["while", x], [x]) :: (ps ++ (lEnd, []) :: qs), by simp [a, a2], cons (nl_1 (by decide)) (app b (cons e0 b2)), fun y => ?_⟩
    rw [nmB, nmD]
    have := c y
    have := c2 y
    simp only [List.map_cons, List.map_append, List.flatten_cons, List.flatten_append, List.mem_append, List.mem_cons, List.not_mem_nil, or_false, false_or, srtU_mem] at *
    grind
  | @rep v n p l ds ls n' q t ih1 ih =>
    obtain ⟨ps, a, b, c⟩ := ih1
    obtain ⟨qs, a2, b2, c2⟩ := ih
    refine ⟨(["repeat", nS n], []) :: (ps ++ (lEnd, []) :: qs), by simp [a, a2], cons (nl_0 (by decide)) (app b (cons e0 b2)), fun y => ?_⟩
    rw [nmB, nmD]
    have := c y
    have := c2 y
    simp only [List.map_cons, List.map_append, List.flatten_cons, List.flatten_append, List.mem_append, List.mem_cons, List.not_mem_nil, or_false, false_or, srtU_mem] at *
    grind
theorem HL.names {A : List Str} {sts : List (Str × Int)} {L : List (List Str)} (t : HL A sts L) : ∃ ps : List (List Str × List Str), ps.map (·.1) = L ∧ (∀ p ∈ ps, NL p) ∧ ∀ x, x ∉ (ps.map (·.2)).flatten := by
  induction t with
  | nil => exact ⟨[], rfl, fun p hp => (by cases hp), fun x => by simp⟩
  | @ask A sts L x t n i ih =>
    obtain ⟨ps, a, b, c⟩ := ih
    refine ⟨ps ++ [(lnAsk x, [])], by simp [a], fun p hp => ?_, fun y => by have := c y; simp only [List.map_append, List.flatten_append, List.mem_append]; simpa using this⟩
    rcases List.mem_append.mp hp with h | h
    · exact b p h
    · rw [List.mem_singleton.mp h]; exact nl_0 (by decide)
  | @sto A sts L x m t n i u w ih =>
    obtain ⟨ps, a, b, c⟩ := ih
    refine ⟨ps ++ [(lnSto x m, [])], by simp [a], fun p hp => ?_, fun y => by have := c y; simp only [List.map_append, List.flatten_append, List.mem_append]; simpa using this⟩
    rcases List.mem_append.mp hp with h | h
    · exact b p h
    · rw [List.mem_singleton.mp h]; exact nl_0 (by decide)

/-! the law -/
theorem e_lst {ks : List Str} {f : Str → AV} {h : AH} {n : Nat} (e : h[n]? = some (dE ks f)) : kLstD (.id n) h = .ok (.lst (ks.map AV.str)) h := by
  unfold kLstD
  rw [d_id e]
  show (match keysT _ with
    | some zs => Rs.ok (AV.lst (zs.map AV.str)) h
    | none => .no) = _
  rw [keysT_dE]
def tr0 : Str → AV := fun _ => .bl true
theorem tr_up {x : Str} : upE tr0 x (.bl true) = tr0 := by funext y; unfold upE tr0; split <;> rfl
theorem srt_strs {l : List Str} {h : AH} : kSrt (.lst (l.map AV.str)) h = .ok (.lst ((srtT l).map AV.str)) h := by
  unfold kSrt; rw [ls_lst, Option.bind_some, strsOf_map]
theorem nd_le {α : Type} [DecidableEq α] : ∀ (l m : List α), l.Nodup → (∀ x ∈ l, x ∈ m) → l.length ≤ m.length
  | [], _, _, _ => Nat.zero_le _
  | x :: l, m, nd, h => by
    obtain ⟨n1, n2⟩ := List.nodup_cons.mp nd
    have hx := h x List.mem_cons_self
    have := nd_le l (m.erase x) n2 fun y hy => (List.mem_erase_of_ne (fun (z : y = x) => n1 (z ▸ hy))).mpr (h y (List.mem_cons_of_mem _ hy))
    rw [List.length_erase_of_mem hx] at this
    have := List.length_pos_of_mem hx
    rw [List.length_cons]; omega
theorem law_true {ns : List Int} (hl : ns.length ≤ 63) (hb : ∀ z ∈ ns, Builtin.Int.intBits z ≤ 1048576) : ∃ h', m_law [.scr (ns.map AV.int)] [] = .ok (.bl true) h' := by
  obtain ⟨A, sts, L0, ds, ls, ⟨t, l0, lb, sz, dp, lL⟩, eB⟩ := p_build hl hb
  obtain ⟨qs, q1, q2, q3⟩ := t.names
  obtain ⟨ps, p1, p2, p3⟩ := lb.names
  have od := lb.oks
  have nlen := nmB_len ds
  obtain ⟨al, ea, eN, eM⟩ : ∃ al : List (List Str × List Str), (L0 ++ ls) = al.map (·.1) ∧ (∀ p ∈ al, NL p) ∧ (∀ x, x ∈ (al.map (·.2)).flatten ↔ x ∈ nmB ds) := by
    refine ⟨qs ++ ps, by rw [List.map_append, q1, p1], fun p hp => ?_, fun x => ?_⟩
    · rcases List.mem_append.mp hp with h | h
      · exact q2 p h
      · exact p2 p h
    · rw [List.map_append, List.flatten_append, List.mem_append, p3]
      exact ⟨fun h => h.elim (fun z => (q3 x z).elim) id, .inr⟩
  have g : (m_law [.scr (ns.map AV.int)] []).is fun v h => v = .bl true ∧ True := by
    rw [em_law]
    unfold q_law
    walk_at "v"
    rw [eB]
    walk_at "v"
    generalize eM' : AV.tup [.lst (A.map AV.str), .lst (sts.map sto), .lst (Dd.avs ds), .lst ((L0 ++ ls).map lnA)] = made at *
    have i2 : ∀ h, opIx made (.int 2) h = .ok (.lst (Dd.avs ds)) h := fun h => by rw [← eM', x_ixt, at_2, og_some]
    have i3 : ∀ h, opIx made (.int 3) h = .ok (.lst ((L0 ++ ls).map lnA)) h := fun h => by rw [← eM', x_ixt, at_3, og_some]
    rw [ea]
    have kl : ∀ ks : List Str, ks.Nodup → (∀ x ∈ ks, x ∈ nmB ds) → ks.length ≤ 300 := fun ks nd hs => by
      have := nd_le ks (nmB ds) nd hs
      omega
    obtain ⟨S', h', el, p⟩ := for_rest (mg := mNm 3) (b := q_law_1) (enc := fun p : List Str × List Str => lnA p.1) (g := fun (l : List (List Str × List Str)) p => l ++ [p])
      (P := fun r dn S h => (∃ o3 o4, S = [some (.scr (ns.map AV.int)), some made, some (.id 0), o3, o4]) ∧ dn ++ r = al ∧ ∃ ks, h = [dE ks tr0] ∧ ks.Nodup ∧ ∀ x, x ∈ ks ↔ x ∈ (dn.map (·.2)).flatten)
      al [] [some (.scr (ns.map AV.int)), some made, some (.id 0), none, none] ([] ++ [AC.dct []]) ⟨⟨_, _, rfl⟩, rfl, [], rfl, List.nodup_nil, fun x => by simp⟩ (by
      rintro q r dn S h ⟨⟨o3, o4, rfl⟩, hr, ks, rfl, nd, km⟩
      have mq : q ∈ al := by rw [← hr]; simp
      have sub : ∀ x, x ∈ (dn.map (·.2)).flatten ∨ x ∈ q.2 → x ∈ nmB ds := fun x hx => (eM x).mp (by
        rw [← hr, List.map_append, List.flatten_append, List.map_cons, List.flatten_cons]
        rcases hx with h | h
        · exact List.mem_append.mpr (.inl h)
        · exact List.mem_append.mpr (.inr (List.mem_append.mpr (.inl h))))
      walk_at "v"
      unfold q_law_1
      walk_at "v"
      rw [eN q mq]
      walk_at "v"
      obtain ⟨S2, h2, e2, p2⟩ := for_rest (mg := mNm 4) (b := q_law_2) (enc := AV.str) (g := fun (l : List Str) x => l ++ [x])
        (P := fun r2 dn2 S h => (∃ o4, S = [some (.scr (ns.map AV.int)), some made, some (.id 0), some (lnA q.1), o4]) ∧ dn2 ++ r2 = q.2 ∧ ∃ ks2, h = [dE ks2 tr0] ∧ ks2.Nodup ∧ ∀ x, x ∈ ks2 ↔ x ∈ ks ∨ x ∈ dn2)
        q.2 [] [some (.scr (ns.map AV.int)), some made, some (.id 0), some (lnA q.1), o4] [dE ks tr0] ⟨⟨_, rfl⟩, rfl, ks, rfl, nd, fun x => by simp⟩ (by
        rintro x r2 dn2 S h ⟨⟨o4, rfl⟩, hr2, ks2, rfl, nd2, km2⟩
        have l2 := kl ks2 nd2 fun y hy => sub y (by
          rcases (km2 y).mp hy with h | h
          · exact .inl ((km y).mp h)
          · exact .inr (by rw [← hr2]; exact List.mem_append.mpr (.inl h)))
        walk_at "v"
        unfold q_law_2
        walk_at "v"
        rw [x_dp2 (ks := ks2) (g := tr0) rfl (by omega), tr_up]
        exact ⟨_, rfl, ⟨_, rfl⟩, by rw [← hr2]; simp, addK ks2 x, rfl, addK_nodup nd2, fun y => by rw [addK_mem, km2]; simp [or_assoc]⟩)
      rw [fold_snoc, List.nil_append] at p2
      obtain ⟨⟨o4', rfl⟩, _, ks2, rfl, nd2, km2⟩ := p2
      rw [e2]
      refine ⟨_, rfl, ⟨_, _, rfl⟩, by rw [← hr]; simp, ks2, rfl, nd2, fun y => ?_⟩
      rw [km2, km, List.map_append, List.flatten_append, List.mem_append]
      simp)
    rw [fold_snoc, List.nil_append] at p
    obtain ⟨⟨o3, o4, rfl⟩, _, ks, rfl, nd, km⟩ := p
    rw [List.map_map]
    refine thn_of el ?_
    walk_at "v"
    rw [i2]
    walk_at "v"
    rw [nb_ds ds 32 (by omega) od (by omega)]
    walk_at "v"
    rw [x_mLstD]
    walk_at "v"
    rw [e_lst (ks := ks) (f := tr0) rfl]
    walk_at "v"
    have es : srtU (nmB ds) = srtT ks := srtT_congr (ddT_nodup _) nd fun y => by rw [ddT_mem, km, eM]
    have sm1 : Sm 1 (.lst ((srtT ks).map AV.str)) := .lst fun x hx => by
      obtain ⟨z, _, rfl⟩ := List.mem_map.mp hx
      exact .str
    rw [srt_strs, ← es]
    rw [← es] at sm1
    walk_at "v"
    rw [p_same sm1 (by omega)]
    walk_at "v"
    rw [i2]
    walk_at "v"
    rw [eB]
    walk_at "v"
    rw [i2]
    walk_at "v"
    rw [p_same ((sm_dd 12).2 ds dp) (by omega)]
    walk_at "v"
  obtain ⟨v, h', e, rfl, _⟩ := is_ex g
  exact ⟨h', e⟩

theorem main {K : PySem.W.Frag} (Γ : Gm) {H : Hp} {a : Addr} {ns : List Int} (hl : ns.length ≤ 63) (hb : ∀ z ∈ ns, Builtin.Int.intBits z ≤ 1048576) (hS : SqL K H a (ns.map V.int)) : sp_law K Γ [.ref a] H (fun v _ => v = .bl true) fun _ _ _ => False := by
  obtain ⟨h', e⟩ := law_true hl hb
  refine v_law.run (F := H) (φ := []) (h := []) ⟨Same.refl _, fun i j a e => by simp at e, rfl, fun n a c e => by simp at e⟩ (.one (aScr hS .ints)) ?_
  rw [e]
  exact fun F' H' φ' y w e a => iBl a

theorem all_mk {P : Program} {w : World} {K : PySem.W.Frag} {h : Heap} {mg : Str → Option Value} {fa : Addr} (X : K.In h) (G : h.Ns mainGlobals mg) (hfa : mg "law" = some (.ref fa))
    {f0 f1 f2 f3 f4 f5 f6 f7 f8 f9 f10 f11 f12 f13 f14 f15 f16 f17 : Addr} {od0 an0 od1 an1 od2 an2 od3 an3 od4 an4 od5 an5 od6 an6 od7 an7 od8 an8 od9 an9 od10 an10 od11 an11 od12 an12 od13 an13 od14 an14 od15 an15 od16 an16 od17 an17 : Option Addr} {sl0 sl1 sl2 sl3 sl4 sl5 sl6 sl7 sl8 sl9 sl10 sl11 sl12 sl13 sl14 sl15 sl16 sl17 : Array (Option Value)} {oc0 kV0 dc0 pm0 cd0 ct0 oc1 kV1 dc1 pm1 cd1 ct1 oc2 kV2 dc2 pm2 cd2 ct2 oc3 kV3 dc3 pm3 cd3 ct3 oc4 kV4 dc4 pm4 cd4 ct4 oc5 kV5 dc5 pm5 cd5 ct5 oc6 kV6 dc6 pm6 cd6 ct6 oc7 kV7 dc7 pm7 cd7 ct7 oc8 kV8 dc8 pm8 cd8 ct8 oc9 kV9 dc9 pm9 cd9 ct9 oc10 kV10 dc10 pm10 cd10 ct10 oc11 kV11 dc11 pm11 cd11 ct11 oc12 kV12 dc12 pm12 cd12 ct12 oc13 kV13 dc13 pm13 cd13 ct13 oc14 kV14 dc14 pm14 cd14 ct14 oc15 kV15 dc15 pm15 cd15 ct15 oc16 kV16 dc16 pm16 cd16 ct16 oc17 kV17 dc17 pm17 cd17 ct17 : Value}
    (a0 : PySem.W.nsIn K mainGlobals "_law_mixed" = some (some (.ref f0)))
    (l0 : K.lookup f0 = some ⟨oc0, od0, .func (PySem.W.fnOf "_law_mixed" "_law_mixed" (defArgs s_L_mixed) (defBody s_L_mixed) (defScope s_L_mixed) .none kV0 dc0 pm0 an0 cd0 ct0), sl0⟩)
    (c0 : PySem.W.codeIn K cd0 "_law_mixed" = true)
    (k0 : PySem.W.keepIn K (.ref f0) = true)
    (a1 : PySem.W.nsIn K mainGlobals "_law_cell_at" = some (some (.ref f1)))
    (l1 : K.lookup f1 = some ⟨oc1, od1, .func (PySem.W.fnOf "_law_cell_at" "_law_cell_at" (defArgs s_L_cell_at) (defBody s_L_cell_at) (defScope s_L_cell_at) .none kV1 dc1 pm1 an1 cd1 ct1), sl1⟩)
    (c1 : PySem.W.codeIn K cd1 "_law_cell_at" = true)
    (k1 : PySem.W.keepIn K (.ref f1) = true)
    (a2 : PySem.W.nsIn K mainGlobals "_law_letters" = some (some (.ref f2)))
    (l2 : K.lookup f2 = some ⟨oc2, od2, .func (PySem.W.fnOf "_law_letters" "_law_letters" (defArgs s_L_letters) (defBody s_L_letters) (defScope s_L_letters) .none kV2 dc2 pm2 an2 cd2 ct2), sl2⟩)
    (c2 : PySem.W.codeIn K cd2 "_law_letters" = true)
    (k2 : PySem.W.keepIn K (.ref f2) = true)
    (a3 : PySem.W.nsIn K mainGlobals "_law_keywords" = some (some (.ref f3)))
    (l3 : K.lookup f3 = some ⟨oc3, od3, .func (PySem.W.fnOf "_law_keywords" "_law_keywords" (defArgs s_L_keywords) (defBody s_L_keywords) (defScope s_L_keywords) .none kV3 dc3 pm3 an3 cd3 ct3), sl3⟩)
    (c3 : PySem.W.codeIn K cd3 "_law_keywords" = true)
    (k3 : PySem.W.keepIn K (.ref f3) = true)
    (a4 : PySem.W.nsIn K mainGlobals "_law_name_by" = some (some (.ref f4)))
    (l4 : K.lookup f4 = some ⟨oc4, od4, .func (PySem.W.fnOf "_law_name_by" "_law_name_by" (defArgs s_L_name_by) (defBody s_L_name_by) (defScope s_L_name_by) .none kV4 dc4 pm4 an4 cd4 ct4), sl4⟩)
    (c4 : PySem.W.codeIn K cd4 "_law_name_by" = true)
    (k4 : PySem.W.keepIn K (.ref f4) = true)
    (a5 : PySem.W.nsIn K mainGlobals "_law_from" = some (some (.ref f5)))
    (l5 : K.lookup f5 = some ⟨oc5, od5, .func (PySem.W.fnOf "_law_from" "_law_from" (defArgs s_L_from) (defBody s_L_from) (defScope s_L_from) .none kV5 dc5 pm5 an5 cd5 ct5), sl5⟩)
    (c5 : PySem.W.codeIn K cd5 "_law_from" = true)
    (k5 : PySem.W.keepIn K (.ref f5) = true)
    (a6 : PySem.W.nsIn K mainGlobals "_law_here" = some (some (.ref f6)))
    (l6 : K.lookup f6 = some ⟨oc6, od6, .func (PySem.W.fnOf "_law_here" "_law_here" (defArgs s_L_here) (defBody s_L_here) (defScope s_L_here) .none kV6 dc6 pm6 an6 cd6 ct6), sl6⟩)
    (c6 : PySem.W.codeIn K cd6 "_law_here" = true)
    (k6 : PySem.W.keepIn K (.ref f6) = true)
    (a7 : PySem.W.nsIn K mainGlobals "_law_ended" = some (some (.ref f7)))
    (l7 : K.lookup f7 = some ⟨oc7, od7, .func (PySem.W.fnOf "_law_ended" "_law_ended" (defArgs s_L_ended) (defBody s_L_ended) (defScope s_L_ended) .none kV7 dc7 pm7 an7 cd7 ct7), sl7⟩)
    (c7 : PySem.W.codeIn K cd7 "_law_ended" = true)
    (k7 : PySem.W.keepIn K (.ref f7) = true)
    (a8 : PySem.W.nsIn K mainGlobals "_law_value_by" = some (some (.ref f8)))
    (l8 : K.lookup f8 = some ⟨oc8, od8, .func (PySem.W.fnOf "_law_value_by" "_law_value_by" (defArgs s_L_value_by) (defBody s_L_value_by) (defScope s_L_value_by) .none kV8 dc8 pm8 an8 cd8 ct8), sl8⟩)
    (c8 : PySem.W.codeIn K cd8 "_law_value_by" = true)
    (k8 : PySem.W.keepIn K (.ref f8) = true)
    (a9 : PySem.W.nsIn K mainGlobals "_law_set_by" = some (some (.ref f9)))
    (l9 : K.lookup f9 = some ⟨oc9, od9, .func (PySem.W.fnOf "_law_set_by" "_law_set_by" (defArgs s_L_set_by) (defBody s_L_set_by) (defScope s_L_set_by) .none kV9 dc9 pm9 an9 cd9 ct9), sl9⟩)
    (c9 : PySem.W.codeIn K cd9 "_law_set_by" = true)
    (k9 : PySem.W.keepIn K (.ref f9) = true)
    (a10 : PySem.W.nsIn K mainGlobals "_law_single_by" = some (some (.ref f10)))
    (l10 : K.lookup f10 = some ⟨oc10, od10, .func (PySem.W.fnOf "_law_single_by" "_law_single_by" (defArgs s_L_single_by) (defBody s_L_single_by) (defScope s_L_single_by) .none kV10 dc10 pm10 an10 cd10 ct10), sl10⟩)
    (c10 : PySem.W.codeIn K cd10 "_law_single_by" = true)
    (k10 : PySem.W.keepIn K (.ref f10) = true)
    (a11 : PySem.W.nsIn K mainGlobals "_law_step" = some (some (.ref f11)))
    (l11 : K.lookup f11 = some ⟨oc11, od11, .func (PySem.W.fnOf "_law_step" "_law_step" (defArgs s_L_step) (defBody s_L_step) (defScope s_L_step) .none kV11 dc11 pm11 an11 cd11 ct11), sl11⟩)
    (c11 : PySem.W.codeIn K cd11 "_law_step" = true)
    (k11 : PySem.W.keepIn K (.ref f11) = true)
    (a12 : PySem.W.nsIn K mainGlobals "_law_build" = some (some (.ref f12)))
    (l12 : K.lookup f12 = some ⟨oc12, od12, .func (PySem.W.fnOf "_law_build" "_law_build" (defArgs s_L_build) (defBody s_L_build) (defScope s_L_build) .none kV12 dc12 pm12 an12 cd12 ct12), sl12⟩)
    (c12 : PySem.W.codeIn K cd12 "_law_build" = true)
    (k12 : PySem.W.keepIn K (.ref f12) = true)
    (a13 : PySem.W.nsIn K mainGlobals "_law_same" = some (some (.ref f13)))
    (l13 : K.lookup f13 = some ⟨oc13, od13, .func (PySem.W.fnOf "_law_same" "_law_same" (defArgs s_L_same) (defBody s_L_same) (defScope s_L_same) .none kV13 dc13 pm13 an13 cd13 ct13), sl13⟩)
    (c13 : PySem.W.codeIn K cd13 "_law_same" = true)
    (k13 : PySem.W.keepIn K (.ref f13) = true)
    (a14 : PySem.W.nsIn K mainGlobals "_law_names" = some (some (.ref f14)))
    (l14 : K.lookup f14 = some ⟨oc14, od14, .func (PySem.W.fnOf "_law_names" "_law_names" (defArgs s_L_names) (defBody s_L_names) (defScope s_L_names) .none kV14 dc14 pm14 an14 cd14 ct14), sl14⟩)
    (c14 : PySem.W.codeIn K cd14 "_law_names" = true)
    (k14 : PySem.W.keepIn K (.ref f14) = true)
    (a15 : PySem.W.nsIn K mainGlobals "named" = some (some (.ref f15)))
    (l15 : K.lookup f15 = some ⟨oc15, od15, .func (PySem.W.fnOf "named" "named" (defArgs s_named) (defBody s_named) (defScope s_named) .none kV15 dc15 pm15 an15 cd15 ct15), sl15⟩)
    (c15 : PySem.W.codeIn K cd15 "named" = true)
    (k15 : PySem.W.keepIn K (.ref f15) = true)
    (a16 : PySem.W.nsIn K mainGlobals "named_by" = some (some (.ref f16)))
    (l16 : K.lookup f16 = some ⟨oc16, od16, .func (PySem.W.fnOf "named_by" "named_by" (defArgs s_named_by) (defBody s_named_by) (defScope s_named_by) .none kV16 dc16 pm16 an16 cd16 ct16), sl16⟩)
    (c16 : PySem.W.codeIn K cd16 "named_by" = true)
    (k16 : PySem.W.keepIn K (.ref f16) = true)
    (a17 : PySem.W.nsIn K mainGlobals "law" = some (some (.ref f17)))
    (l17 : K.lookup f17 = some ⟨oc17, od17, .func (PySem.W.fnOf "law" "law" (defArgs s_law) (defBody s_law) (defScope s_law) .none kV17 dc17 pm17 an17 cd17 ct17), sl17⟩)
    (c17 : PySem.W.codeIn K cd17 "law" = true)
    (k17 : PySem.W.keepIn K (.ref f17) = true)
    (z_bool : PySem.W.nsIn K mainGlobals "bool" = some none)
    (z_int : PySem.W.nsIn K mainGlobals "int" = some none)
    (z_isinstance : PySem.W.nsIn K mainGlobals "isinstance" = some none)
    (z_len : PySem.W.nsIn K mainGlobals "len" = some none)
    (z_list : PySem.W.nsIn K mainGlobals "list" = some none)
    (z_range : PySem.W.nsIn K mainGlobals "range" = some none)
    (z_set : PySem.W.nsIn K mainGlobals "set" = some none)
    (z_sorted : PySem.W.nsIn K mainGlobals "sorted" = some none)
    (z_str : PySem.W.nsIn K mainGlobals "str" = some none)
    (z_tuple : PySem.W.nsIn K mainGlobals "tuple" = some none)
    (z_zip : PySem.W.nsIn K mainGlobals "zip" = some none)
    : ∃ fd : FuncData, (∀ (s : Shared) (v : Value), BindsTo s fd ⟨[v], []⟩ [("_law_script", v)]) ∧ ∀ base : Heap, K.In base → base.Ns mainGlobals mg → FnOk P w K mg base CX0 41 fa fd ["_law_script"] (spL K) := by
  have e := hfa.symm.trans (PySem.W.mg_of X G a17)
  cases e
  let Γ : Gm := gam []
  have m_bool := PySem.W.mg_none_of X G z_bool
  have m_int := PySem.W.mg_none_of X G z_int
  have m_isinstance := PySem.W.mg_none_of X G z_isinstance
  have m_len := PySem.W.mg_none_of X G z_len
  have m_list := PySem.W.mg_none_of X G z_list
  have m_range := PySem.W.mg_none_of X G z_range
  have m_set := PySem.W.mg_none_of X G z_set
  have m_sorted := PySem.W.mg_none_of X G z_sorted
  have m_str := PySem.W.mg_none_of X G z_str
  have m_tuple := PySem.W.mg_none_of X G z_tuple
  have m_zip := PySem.W.mg_none_of X G z_zip
  have U_L_mixed := fun_mk (st := s_L_mixed) l0 c0 k0
  have U_L_cell_at := fun_mk (st := s_L_cell_at) l1 c1 k1
  have U_L_letters := fun_mk (st := s_L_letters) l2 c2 k2
  have U_L_keywords := fun_mk (st := s_L_keywords) l3 c3 k3
  have U_L_name_by := fun_mk (st := s_L_name_by) l4 c4 k4
  have U_L_from := fun_mk (st := s_L_from) l5 c5 k5
  have U_L_here := fun_mk (st := s_L_here) l6 c6 k6
  have U_L_ended := fun_mk (st := s_L_ended) l7 c7 k7
  have U_L_value_by := fun_mk (st := s_L_value_by) l8 c8 k8
  have U_L_set_by := fun_mk (st := s_L_set_by) l9 c9 k9
  have U_L_single_by := fun_mk (st := s_L_single_by) l10 c10 k10
  have U_L_step := fun_mk (st := s_L_step) l11 c11 k11
  have U_L_build := fun_mk (st := s_L_build) l12 c12 k12
  have U_L_same := fun_mk (st := s_L_same) l13 c13 k13
  have U_L_names := fun_mk (st := s_L_names) l14 c14 k14
  have U_named := fun_mk (st := s_named) l15 c15 k15
  have U_named_by := fun_mk (st := s_named_by) l16 c16 k16
  have U_law := fun_mk (st := s_law) l17 c17 k17
  refine ⟨PySem.W.fnOf "law" "law" (defArgs s_law) (defBody s_law) (defScope s_law) .none kV17 dc17 pm17 an17 cd17 ct17, fun s v => .of_eq rfl, fun base _ _ => ?_⟩
  have O_L_mixed := okf_L_mixed (P := P) (w := w) (K := K) (mg := mg) (base := base) (Γ := Γ) U_L_mixed 
  have F_L_mixed : Fn P w K mg base CX0 _ "_law_mixed" _ _ := ⟨_, _, PySem.W.mg_of X G a0, k0, bd_L_mixed U_L_mixed, O_L_mixed⟩
  have O_L_cell_at := okf_L_cell_at (P := P) (w := w) (K := K) (mg := mg) (base := base) (Γ := Γ) U_L_cell_at m_len
  have F_L_cell_at : Fn P w K mg base CX0 _ "_law_cell_at" _ _ := ⟨_, _, PySem.W.mg_of X G a1, k1, bd_L_cell_at U_L_cell_at, O_L_cell_at⟩
  have O_L_letters := okf_L_letters (P := P) (w := w) (K := K) (mg := mg) (base := base) (Γ := Γ) U_L_letters m_range
  have F_L_letters : Fn P w K mg base CX0 _ "_law_letters" _ _ := ⟨_, _, PySem.W.mg_of X G a2, k2, bd_L_letters U_L_letters, O_L_letters⟩
  have O_L_keywords := okf_L_keywords (P := P) (w := w) (K := K) (mg := mg) (base := base) (Γ := Γ) U_L_keywords 
  have F_L_keywords : Fn P w K mg base CX0 _ "_law_keywords" _ _ := ⟨_, _, PySem.W.mg_of X G a3, k3, bd_L_keywords U_L_keywords, O_L_keywords⟩
  have O_L_name_by := okf_L_name_by (P := P) (w := w) (K := K) (mg := mg) (base := base) (Γ := Γ) U_L_name_by F_L_keywords F_L_letters
  have F_L_name_by : Fn P w K mg base CX0 _ "_law_name_by" _ _ := ⟨_, _, PySem.W.mg_of X G a4, k4, bd_L_name_by U_L_name_by, O_L_name_by⟩
  have O_L_from := okf_L_from (P := P) (w := w) (K := K) (mg := mg) (base := base) (Γ := Γ) U_L_from 
  have F_L_from : Fn P w K mg base CX0 _ "_law_from" _ _ := ⟨_, _, PySem.W.mg_of X G a5, k5, bd_L_from U_L_from, O_L_from⟩
  have O_L_here := okf_L_here (P := P) (w := w) (K := K) (mg := mg) (base := base) (Γ := Γ) U_L_here m_len
  have F_L_here : Fn P w K mg base CX0 _ "_law_here" _ _ := ⟨_, _, PySem.W.mg_of X G a6, k6, bd_L_here U_L_here, O_L_here⟩
  have O_L_ended := okf_L_ended (P := P) (w := w) (K := K) (mg := mg) (base := base) (Γ := Γ) U_L_ended F_L_here
  have F_L_ended : Fn P w K mg base CX0 _ "_law_ended" _ _ := ⟨_, _, PySem.W.mg_of X G a7, k7, bd_L_ended U_L_ended, O_L_ended⟩
  have O_L_value_by := okf_L_value_by (P := P) (w := w) (K := K) (mg := mg) (base := base) (Γ := Γ) U_L_value_by F_L_name_by
  have F_L_value_by : Fn P w K mg base CX0 _ "_law_value_by" _ _ := ⟨_, _, PySem.W.mg_of X G a8, k8, bd_L_value_by U_L_value_by, O_L_value_by⟩
  have O_L_set_by := okf_L_set_by (P := P) (w := w) (K := K) (mg := mg) (base := base) (Γ := Γ) U_L_set_by F_L_mixed F_L_value_by
  have F_L_set_by : Fn P w K mg base CX0 _ "_law_set_by" _ _ := ⟨_, _, PySem.W.mg_of X G a9, k9, bd_L_set_by U_L_set_by, O_L_set_by⟩
  have O_L_single_by := okf_L_single_by (P := P) (w := w) (K := K) (mg := mg) (base := base) (Γ := Γ) U_L_single_by F_L_mixed F_L_name_by F_L_set_by m_len
  have F_L_single_by : Fn P w K mg base CX0 _ "_law_single_by" _ _ := ⟨_, _, PySem.W.mg_of X G a10, k10, bd_L_single_by U_L_single_by, O_L_single_by⟩
  have O_L_step := okf_L_step (P := P) (w := w) (K := K) (mg := mg) (base := base) (Γ := Γ) U_L_step F_L_ended F_L_from F_L_here F_L_mixed F_L_name_by F_L_single_by m_len m_str
  have F_L_step : Fn P w K mg base CX0 _ "_law_step" _ _ := ⟨_, _, PySem.W.mg_of X G a11, k11, bd_L_step U_L_step, O_L_step⟩
  have O_L_build := okf_L_build (P := P) (w := w) (K := K) (mg := mg) (base := base) (Γ := Γ) U_L_build F_L_cell_at F_L_ended F_L_from F_L_mixed F_L_name_by F_L_step m_len m_range m_str
  have F_L_build : Fn P w K mg base CX0 _ "_law_build" _ _ := ⟨_, _, PySem.W.mg_of X G a12, k12, bd_L_build U_L_build, O_L_build⟩
  have R_L_same : ∀ n, FnOk P w K mg base CX0 (0 + n) f13 (PySem.W.fnOf "_law_same" "_law_same" (defArgs s_L_same) (defBody s_L_same) (defScope s_L_same) .none kV13 dc13 pm13 an13 cd13 ct13) ["_law_found", "_law_due"] (sp_L_same K Γ n) := by
    intro n
    induction n with
    | zero => exact fn_no
    | succ n ih =>
      have h0 := ih
      have F_L_same : Fn P w K mg base CX0 _ "_law_same" _ _ := ⟨_, _, PySem.W.mg_of X G a13, k13, bd_L_same U_L_same, h0⟩
      exact okf_L_same (P := P) (w := w) (K := K) (mg := mg) (base := base) (Γ := Γ) U_L_same m_bool m_int m_isinstance m_len m_list m_str m_tuple m_zip F_L_same
  have O_L_same := R_L_same 40
  have F_L_same : Fn P w K mg base CX0 _ "_law_same" _ _ := ⟨_, _, PySem.W.mg_of X G a13, k13, bd_L_same U_L_same, O_L_same⟩
  have O_L_names := okf_L_names (P := P) (w := w) (K := K) (mg := mg) (base := base) (Γ := Γ) U_L_names 
  have F_L_names : Fn P w K mg base CX0 _ "_law_names" _ _ := ⟨_, _, PySem.W.mg_of X G a14, k14, bd_L_names U_L_names, O_L_names⟩
  have R_named : ∀ n, FnOk P w K mg base CX0 (0 + n) f15 (PySem.W.fnOf "named" "named" (defArgs s_named) (defBody s_named) (defScope s_named) .none kV15 dc15 pm15 an15 cd15 ct15) ["block"] (sp_named K Γ n) ∧ FnOk P w K mg base CX0 (0 + n) f16 (PySem.W.fnOf "named_by" "named_by" (defArgs s_named_by) (defBody s_named_by) (defScope s_named_by) .none kV16 dc16 pm16 an16 cd16 ct16) ["deed"] (sp_named_by K Γ n) := by
    intro n
    induction n with
    | zero => exact ⟨fn_no, fn_no⟩
    | succ n ih =>
      obtain ⟨h0, h1⟩ := ih
      have F_named : Fn P w K mg base CX0 _ "named" _ _ := ⟨_, _, PySem.W.mg_of X G a15, k15, bd_named U_named, h0⟩
      have F_named_by : Fn P w K mg base CX0 _ "named_by" _ _ := ⟨_, _, PySem.W.mg_of X G a16, k16, bd_named_by U_named_by, h1⟩
      exact ⟨okf_named (P := P) (w := w) (K := K) (mg := mg) (base := base) (Γ := Γ) U_named m_set m_sorted F_named_by, okf_named_by (P := P) (w := w) (K := K) (mg := mg) (base := base) (Γ := Γ) U_named_by m_isinstance m_str F_named⟩
  have O_named := (R_named 32).1
  have O_named_by := (R_named 32).2
  have F_named : Fn P w K mg base CX0 _ "named" _ _ := ⟨_, _, PySem.W.mg_of X G a15, k15, bd_named U_named, O_named⟩
  have F_named_by : Fn P w K mg base CX0 _ "named_by" _ _ := ⟨_, _, PySem.W.mg_of X G a16, k16, bd_named_by U_named_by, O_named_by⟩
  exact (okf_law (P := P) (w := w) (K := K) (mg := mg) (base := base) (Γ := Γ) U_law F_L_build F_L_names F_L_same F_named m_list m_sorted).imp fun vs H Q E h => h Γ

end Hf

open PySem PySem.W PyProof.Rows in
set_option maxRecDepth 100000 in
set_option maxHeartbeats 0 in
theorem PySem.Challenge.cw_handflow_k05_named_holds : PySem.Challenge.rw_handflow_k05_named.Holds := by
  w_on; o_law; k_head; (case hw => w_witness2)
  k_fill
  refine Hf.walkB (l := PySem.Challenge.rw_handflow_k05_named) (k := 41) (fun _ => L2.CX0) Hf.spL "_law_script" rfl rfl ⟨rfl, by decide, by decide⟩ (fun w h Y => PySem.W.kIn_of Y) ?F (fun K H a ns hl hb _ hS => fun Γ => Hf.main Γ hl hb hS) fun _ _ _ _ _ z => z
  case F =>
    intro w mg fa h KX G hmg
    have hmg1 : mg "law" = some (.ref fa) := hmg
    clear hmg
    refine' Hf.all_mk KX G hmg1 ?a0 ?l0 ?c0 ?k0 ?a1 ?l1 ?c1 ?k1 ?a2 ?l2 ?c2 ?k2 ?a3 ?l3 ?c3 ?k3 ?a4 ?l4 ?c4 ?k4 ?a5 ?l5 ?c5 ?k5 ?a6 ?l6 ?c6 ?k6 ?a7 ?l7 ?c7 ?k7 ?a8 ?l8 ?c8 ?k8 ?a9 ?l9 ?c9 ?k9 ?a10 ?l10 ?c10 ?k10 ?a11 ?l11 ?c11 ?k11 ?a12 ?l12 ?c12 ?k12 ?a13 ?l13 ?c13 ?k13 ?a14 ?l14 ?c14 ?k14 ?a15 ?l15 ?c15 ?k15 ?a16 ?l16 ?c16 ?k16 ?a17 ?l17 ?c17 ?k17 ?z_bool ?z_int ?z_isinstance ?z_len ?z_list ?z_range ?z_set ?z_sorted ?z_str ?z_tuple ?z_zip
    (case a0 => k_is)
    (case l0 => k_is)
    (case c0 => k_is)
    (case k0 => k_is)
    (case a1 => k_is)
    (case l1 => k_is)
    (case c1 => k_is)
    (case k1 => k_is)
    (case a2 => k_is)
    (case l2 => k_is)
    (case c2 => k_is)
    (case k2 => k_is)
    (case a3 => k_is)
    (case l3 => k_is)
    (case c3 => k_is)
    (case k3 => k_is)
    (case a4 => k_is)
    (case l4 => k_is)
    (case c4 => k_is)
    (case k4 => k_is)
    (case a5 => k_is)
    (case l5 => k_is)
    (case c5 => k_is)
    (case k5 => k_is)
    (case a6 => k_is)
    (case l6 => k_is)
    (case c6 => k_is)
    (case k6 => k_is)
    (case a7 => k_is)
    (case l7 => k_is)
    (case c7 => k_is)
    (case k7 => k_is)
    (case a8 => k_is)
    (case l8 => k_is)
    (case c8 => k_is)
    (case k8 => k_is)
    (case a9 => k_is)
    (case l9 => k_is)
    (case c9 => k_is)
    (case k9 => k_is)
    (case a10 => k_is)
    (case l10 => k_is)
    (case c10 => k_is)
    (case k10 => k_is)
    (case a11 => k_is)
    (case l11 => k_is)
    (case c11 => k_is)
    (case k11 => k_is)
    (case a12 => k_is)
    (case l12 => k_is)
    (case c12 => k_is)
    (case k12 => k_is)
    (case a13 => k_is)
    (case l13 => k_is)
    (case c13 => k_is)
    (case k13 => k_is)
    (case a14 => k_is)
    (case l14 => k_is)
    (case c14 => k_is)
    (case k14 => k_is)
    (case a15 => k_is)
    (case l15 => k_is)
    (case c15 => k_is)
    (case k15 => k_is)
    (case a16 => k_is)
    (case l16 => k_is)
    (case c16 => k_is)
    (case k16 => k_is)
    (case a17 => k_is)
    (case l17 => k_is)
    (case c17 => k_is)
    (case k17 => k_is)
    (case z_bool => k_is)
    (case z_int => k_is)
    (case z_isinstance => k_is)
    (case z_len => k_is)
    (case z_list => k_is)
    (case z_range => k_is)
    (case z_set => k_is)
    (case z_sorted => k_is)
    (case z_str => k_is)
    (case z_tuple => k_is)
    (case z_zip => k_is)
#print axioms PySem.Challenge.cw_handflow_k05_named_holds
