import PyProof.Rows.All
import Wide.All
import OpenK.AllK
import Wide.FinOn
import HandS.ForMost
import HandS.ForExc
import HandS.Walk
import HandS.IsInst
import HandS.Replace
import KE.GoesEnum
import PyProof.NeKinds
import HandS.Style
import HandS.StrMore
import KE.GoesZip
import KE.GoesMore
import KE.KItemsList
import HandS.Deep
import PyProof.ListStr
import PyProof.StrOps
import HandS.Set
import HandS.SetKeys
import HandS.SetFor
import HandS.SetTxtIn
import PyProof.Rows.SortShellAny
import PyProof.Rows.SortKeyStr
import HandS.SortInts
import HandS.TupMul
import PyProof.ListRange
import HandS.Text
import HandS.Exc
import HandS.ExcOwn
import HandS.ExcInit
import HandS.ExcIs
import HandS.ExcField
import HandS.FStr
import HandS.ClsMeth
import HandS.WordsExc
import HandS.Small
import HandS.Lambda
import HandS.EndTab
import KE.KNest
import HandS.TupAny
import KE.KDictKeyed
import HandS.Dict
import HandS.More
import HandS.SetBool
import PyProof.CollectStr
import KE.KDictZip
import KE.KDictPairs
import HandS.MakeKwOnly
import KE.DataMinMax
import KE.LtData
import PyProof.DictWalks
import PySem.Challenge.RW_packrow_k56_cheapest_by_search
set_option Elab.async false
set_option linter.all false
set_option maxRecDepth 100000
set_option maxHeartbeats 4000000
namespace Pk
open PySem PySem.Spec PyProof.Rows L2

/-! ### texts as lists of code points -/
abbrev S (l : List Nat) : Str := ⟨l.toArray⟩
abbrev tl (x : Str) : List Nat := x.cps.toList
theorem S_tl (x : Str) : S (tl x) = x := by cases x; rfl
theorem tl_S (l : List Nat) : tl (S l) = l := rfl
theorem S_inj {a b : List Nat} (h : S a = S b) : a = b := by
  have h' := congrArg tl h
  exact h'
theorem S_eq_iff {a b : List Nat} : S a = S b ↔ a = b := ⟨S_inj, fun h => by rw [h]⟩
theorem len_S (x : Str) : x.length = (tl x).length := by simp [tl, Str.length]
theorem app_S (x y : Str) : x ++ y = S (tl x ++ tl y) := by
  rw [← S_tl (x ++ y)]
  congr 1
  show (x ++ y).cps.toList = x.cps.toList ++ y.cps.toList
  rw [← Array.toList_append]
  rfl
/-- what stands between lo and hi -/
def cutL {α : Type} (l : List α) (lo hi : Option Int) : List α := (l.drop (HT.sIx l.length 0 lo)).take (HT.sIx l.length l.length hi - HT.sIx l.length 0 lo)
theorem cutS_S (z : Str) (lo hi : Option Int) : cutS z lo hi = S (cutL (tl z) lo hi) := by
  have e : (tl z).length = z.length := (len_S z).symm
  unfold cutS cutL
  rw [e]
theorem sIx_some (n d : Nat) {k : Int} (h : 0 ≤ k) : HT.sIx n d (some k) = min k.toNat n := by
  obtain ⟨m, rfl⟩ := Int.eq_ofNat_of_zero_le h
  exact HT.sIx_nat n d m
theorem cutL_to {α : Type} (l : List α) {k : Int} (h : 0 ≤ k) : cutL l none (some k) = l.take k.toNat := by
  unfold cutL
  rw [HT.sIx_none, sIx_some _ _ h, List.drop_zero, Nat.sub_zero]
  by_cases e : k.toNat ≤ l.length
  · rw [Nat.min_eq_left e]
  · rw [Nat.min_eq_right (by omega), List.take_of_length_le (Nat.le_refl _), List.take_of_length_le (by omega)]
theorem cutL_from {α : Type} (l : List α) {k : Int} (h : 0 ≤ k) : cutL l (some k) none = l.drop k.toNat := by
  unfold cutL
  rw [HT.sIx_none, sIx_some _ _ h]
  by_cases e : k.toNat ≤ l.length
  · rw [Nat.min_eq_left e, List.take_of_length_le (by rw [List.length_drop]; exact Nat.le_refl _)]
  · rw [Nat.min_eq_right (by omega), List.drop_of_length_le (Nat.le_refl _), List.drop_of_length_le (by omega), List.take_nil]
theorem cutL_mid {α : Type} (l : List α) {j k : Int} (h : 0 ≤ j) (h' : j ≤ k) : cutL l (some j) (some k) = (l.drop j.toNat).take (k.toNat - j.toNat) := by
  unfold cutL
  rw [sIx_some _ _ h, sIx_some _ _ (by omega)]
  by_cases e : j.toNat ≤ l.length
  · rw [Nat.min_eq_left e]
    by_cases e2 : k.toNat ≤ l.length
    · rw [Nat.min_eq_left e2]
    · rw [Nat.min_eq_right (by omega), List.take_of_length_le (by rw [List.length_drop]; exact Nat.le_refl _), List.take_of_length_le (by rw [List.length_drop]; omega)]
  · rw [Nat.min_eq_right (show l.length ≤ k.toNat by omega), Nat.min_eq_right (show l.length ≤ j.toNat by omega), List.drop_of_length_le (Nat.le_refl _), List.drop_of_length_le (by omega), List.take_nil, List.take_nil]
theorem cutL_len {α : Type} (l : List α) (lo hi : Option Int) : (cutL l lo hi).length ≤ l.length := by
  unfold cutL
  rw [List.length_take, List.length_drop]
  omega

/-! ### judgements weakened -/
section
variable {X : Cx}
theorem pe_imp {e : Expr} {t t' : TE} (h : PE X e t) (f : ∀ σ H Q, t' σ H Q → t σ H Q) : PE X e t' := ⟨fun pins s σ H Q I q => h.run pins s σ H Q I (f σ H Q q)⟩
theorem pt_imp {e : Expr} {t t' : TT} (h : PT X e t) (f : ∀ σ H Q, t' σ H Q → t σ H Q) : PT X e t' := ⟨fun pins s σ H Q I q => h.run pins s σ H Q I (f σ H Q q)⟩
theorem ps_imp {e : Stmt} {t t' : TS} (h : PS X e t) (f : ∀ D σ H, t' D σ H → t D σ H) : PS X e t' := ⟨fun pins s σ H D I q => h.run pins s σ H D I (f D σ H q)⟩
theorem pi_imp {tg e : Expr} {t t' : TI} (h : PI X tg e t) (f : ∀ σ H R, t' σ H R → t σ H R) : PI X tg e t' := ⟨fun pins s σ H R I q => h.run pins s σ H R I (f σ H R q)⟩
theorem opr_imp {f : Value → Value → Sem Value} {r r' : R2} (h : OpR X f r) (g : ∀ x y H Q, r' x y H Q → r x y H Q) : OpR X f r' := fun pins s σ H x y v u Q I rx ry q => h pins s σ H x y v u Q I rx ry (g _ _ _ _ q)

/-! ### names -/
def gV (i : Nat) : TE := fun σ H Q => match σ[i]? with
  | some (some v) => Q v H
  | _ => False
theorem gv (i : Nat) {x : Str} {pos : Pos} (hN : X.N[i]? = some x := by rfl) (hv : Vis X.env.scope x := by first | exact Or.inl rfl | exact Or.inr (Or.inl rfl) | exact Or.inr (Or.inr rfl)) (hd : (x == ("__debug__" : Str)) = false := by decide)
    (hcd : (x == ("__classdict__" : Str)) = false := by decide) : PE X (.Name x pos) (gV i) := pe_imp (pe_var hN hv hd hcd) fun σ H Q h => by
  unfold gV at h
  unfold tVar
  split at h
  · rename_i v e
    exact ⟨v, e, h⟩
  · exact h.elim
/-- a module's constant: a text, a number -/
theorem g_str {x : Str} {z : Str} {pos : Pos} (hm : ∃ t, X.mg x = some (.str z t)) (hg : Gl X x := by rfl) (hd : (x == ("__debug__" : Str)) = false := by decide) : PE X (.Name x pos) (tC (.str z)) := by
  obtain ⟨t, hm⟩ := hm
  exact pe_glob hg hm ⟨t, rfl⟩ hd
theorem g_int {x : Str} {z : Int} {pos : Pos} (hm : ∃ t, X.mg x = some (.int z t)) (hg : Gl X x := by rfl) (hd : (x == ("__debug__" : Str)) = false := by decide) : PE X (.Name x pos) (tC (.int z)) := by
  obtain ⟨t, hm⟩ := hm
  exact pe_glob hg hm ⟨t, rfl⟩ hd

/-! ### operators by the kinds of their values -/
def gAdd (K : PySem.W.Frag) : R2 := fun x y H Q => match x, y with
  | .int i, .int j => Q (.int (i + j)) H
  | .str a, .str b => (tl a).length + (tl b).length ≤ 1000000 ∧ Q (.str (S (tl a ++ tl b))) H
  | .ref a, .ref b => (∃ xs zs, H a = some (.lst xs) ∧ H b = some (.lst zs) ∧ xs.length + zs.length ≤ 1000000 ∧ ∀ p, H p = none → Q (.ref p) (upd H p (.lst (xs ++ zs)))) ∨
      (∃ xs ys, SqT K H a xs ∧ SqT K H b ys ∧ xs ≠ [] ∧ xs.length + ys.length ≤ 1000000 ∧ (ys = [] → Q (.ref a) H) ∧ (ys ≠ [] → ∀ p, H p = none → Q (.ref p) (upd H p (.tup (xs ++ ys)))))
  | _, _ => False
theorem line6 : 1000000 ≤ sizeLine := by rw [sizeLine_eq]; decide
theorem op_addG0 : OpR X (binaryOp .Add) (gAdd X.K) := by
  intro pins s σ H x y v u Q I rx ry h
  unfold gAdd at h
  split at h
  · exact op_add pins s σ H _ _ v u Q I rx ry ⟨_, _, rfl, rfl, h⟩
  · refine op_add_str pins s σ H _ _ v u Q I rx ry ⟨_, _, rfl, rfl, ?_, ?_⟩
    · rw [len_S, len_S]; exact Nat.le_trans h.1 line6
    · rw [app_S]; exact h.2
  · rcases h with ⟨xs, zs, h1, h2, h3, h4⟩ | ⟨xs, ys, h1, h2, h3, h4, h5⟩
    · exact op_cat pins s σ H _ _ v u Q I rx ry ⟨_, _, _, _, rfl, rfl, h1, h2, Nat.le_trans h3 line6, h4⟩
    · exact op_catT pins s σ H _ _ v u Q I rx ry ⟨_, _, _, _, rfl, rfl, h1, h2, h3, Nat.le_trans h4 line6, h5⟩
  · exact h.elim
def gSub : R2 := fun x y H Q => match x, y with
  | .int i, .int j => Q (.int (i - j)) H
  | _, _ => False
theorem op_subG : OpR X (binaryOp .Sub) gSub := by
  intro pins s σ H x y v u Q I rx ry h
  unfold gSub at h
  split at h
  · exact op_sub pins s σ H _ _ v u Q I rx ry ⟨_, _, rfl, rfl, h⟩
  · exact h.elim
/-- a text n times -/
def repL {α : Type} (n : Nat) (l : List α) : List α := (List.replicate n l).flatten
theorem repL_one {α : Type} (n : Nat) (c : α) : repL n [c] = List.replicate n c := by
  induction n with
  | zero => rfl
  | succ n ih =>
    show [c] ++ repL n [c] = _
    rw [ih]; rfl
theorem repL_len {α : Type} (n : Nat) (l : List α) : (repL n l).length = n * l.length := by
  induction n with
  | zero => simp [repL]
  | succ n ih =>
    show (l ++ repL n l).length = _
    rw [List.length_append, ih, Nat.succ_mul]; omega
theorem foldl_arr (z : Array Nat) : ∀ (n : Nat) (acc : Array Nat), ((List.replicate n z).foldl (· ++ ·) acc).toList = acc.toList ++ repL n z.toList
  | 0, acc => by simp [repL]
  | n + 1, acc => by
    show ((List.replicate n z).foldl (· ++ ·) (acc ++ z)).toList = _
    rw [foldl_arr z n (acc ++ z)]
    show (acc ++ z).toList ++ repL n z.toList = acc.toList ++ (z.toList ++ repL n z.toList)
    rw [Array.toList_append, List.append_assoc]
theorem op_mul_str : OpR X (binaryOp .Mult) (fun x y H Q => ∃ a k, x = .str a ∧ y = .int k ∧ -1000000 ≤ k ∧ k ≤ 1000000 ∧ (tl a).length * k.toNat ≤ 1000000 ∧ Q (.str (S (repL k.toNat (tl a)))) H) := by
  intro pins s σ H x y v u Q I rx ry h
  obtain ⟨a, k, rfl, rfl, h0, h1, h2, q⟩ := h
  obtain ⟨t, rfl⟩ := rx
  obtain ⟨t', rfl⟩ := ry
  refine PySem.P.mul_str ?_ (fun _ _ => ?_) (fun _ _ => ?_) ?_
  · rw [decide_eq_false (show ¬ k < -(2 ^ 63 : Int) by omega), decide_eq_false (show ¬ k ≥ 2 ^ 63 by omega)]; rfl
  · intro hh
    rw [len_S] at hh
    by_cases hk : k < 1
    · omega
    · have hk1 : 1 ≤ k := by omega
      have e1 : ((tl a).length : Int) * k ≤ 1000000 := by
        have : ((tl a).length : Int) * (k.toNat : Int) ≤ 1000000 := by have := Int.ofNat_le.mpr h2; rwa [Int.natCast_mul] at this
        rwa [Int.toNat_of_nonneg (by omega)] at this
      have e2 : (((2 : Int) ^ 63 - 1) / k) * k ≤ (2 : Int) ^ 63 - 1 := Int.ediv_mul_le _ (by omega)
      have e3 : (((2 : Int) ^ 63 - 1) / k + 1) * k ≤ ((tl a).length : Int) * k := Int.mul_le_mul_of_nonneg_right (by omega) (by omega)
      have e4 : (2 : Int) ^ 63 - 1 < (((2 : Int) ^ 63 - 1) / k + 1) * k := Int.lt_ediv_add_one_mul_self _ (by omega)
      omega
  · rw [len_S]
    unfold PySem.Builtin.Str.tooLong
    exact decide_eq_false (by have := line6; omega)
  · have fin : ∀ (r : Str) (t2 : Tok) (tk : Nat), r = S (repL k.toNat (tl a)) → EP X pins σ Q (.str r t2) { s with toks := tk } := fun r t2 tk e => ⟨.str r, H, I.tok _, ⟨_, rfl⟩, by rw [e]; exact q⟩
    by_cases hk : k < 1
    · rw [if_pos hk]
      have e : k.toNat = 0 := by omega
      exact ⟨by decide, fin _ _ _ (by rw [e]; rfl)⟩
    · rw [if_neg hk]
      by_cases hc : (k == 1 || a.length == 0) = true
      · rw [if_pos hc]
        refine fin _ _ _ ?_
        rw [Bool.or_eq_true] at hc
        rcases hc with hc | hc
        · have e : k = 1 := by simpa using hc
          subst e
          show a = S (tl a ++ [])
          rw [List.append_nil, S_tl]
        · have e : (tl a).length = 0 := by rw [← len_S]; simpa using hc
          have e2 : tl a = [] := List.length_eq_zero_iff.mp e
          have e3 : repL k.toNat (tl a) = [] := List.length_eq_zero_iff.mp (by rw [repL_len, e, Nat.mul_zero])
          rw [e3, ← e2, S_tl]
      · rw [if_neg hc]
        have er : (⟨(List.replicate k.toNat a.cps).foldl (· ++ ·) #[]⟩ : Str) = S (repL k.toNat (tl a)) := by
          rw [← S_tl ⟨(List.replicate k.toNat a.cps).foldl (· ++ ·) #[]⟩]
          show S ((List.replicate k.toNat a.cps).foldl (· ++ ·) #[]).toList = _
          rw [foldl_arr]
          rfl
        refine ⟨?_, fin _ _ _ er⟩
        rw [er, len_S]
        show (repL k.toNat (tl a)).length ≤ sizeLine
        rw [repL_len]
        have := line6
        have e5 : k.toNat * (tl a).length ≤ 1000000 := by rw [Nat.mul_comm]; exact h2
        omega
def gMul (K : PySem.W.Frag) : R2 := fun x y H Q => match x, y with
  | .int i, .int j => CMul i j ∧ Q (.int (i * j)) H
  | .str a, .int k => (-1000000 ≤ k ∧ k ≤ 1000000 ∧ (tl a).length * k.toNat ≤ 1000000) ∧ Q (.str (S (repL k.toNat (tl a)))) H
  | .ref a, .int k => ∃ xs, H a = some (.lst xs) ∧ (0 ≤ k ∧ k ≤ 1000000 ∧ xs.length * k.toNat ≤ 1000000) ∧ ∀ p, H p = none → Q (.ref p) (upd H p (.lst (repL k.toNat xs)))
  | _, _ => False
theorem op_mulG0 : OpR X (binaryOp .Mult) (gMul X.K) := by
  intro pins s σ H x y v u Q I rx ry h
  unfold gMul at h
  split at h
  · exact op_mul pins s σ H _ _ v u Q I rx ry ⟨_, _, rfl, rfl, h.1, h.2⟩
  · exact op_mul_str pins s σ H _ _ v u Q I rx ry ⟨_, _, rfl, rfl, h.1.1, h.1.2.1, h.1.2.2, h.2⟩
  · obtain ⟨xs, h1, ⟨h2, h3, h4⟩, h5⟩ := h
    exact op_rep pins s σ H _ _ v u Q I rx ry ⟨_, _, _, rfl, rfl, h1, by omega, by omega, Nat.le_trans h4 line6, h5⟩
  · exact h.elim
def gDiv : R2 := fun x y H Q => match x, y with
  | .int i, .int j => (0 < j ∧ j < 1073741824) ∧ Q (.int (i / j)) H
  | _, _ => False
theorem op_divG : OpR X (binaryOp .FloorDiv) gDiv := by
  intro pins s σ H x y v u Q I rx ry h
  unfold gDiv at h
  split at h
  · exact op_fdiv pins s σ H _ _ v u Q I rx ry ⟨_, _, rfl, rfl, h.1, h.2⟩
  · exact h.elim
def gMod : R2 := fun x y H Q => match x, y with
  | .int i, .int j => 0 < j ∧ Q (.int (i % j)) H
  | _, _ => False
theorem op_modG : OpR X (binaryOp .Mod) gMod := by
  intro pins s σ H x y v u Q I rx ry h
  unfold gMod at h
  split at h
  · exact op_mod pins s σ H _ _ v u Q I rx ry ⟨_, _, rfl, rfl, h.1, h.2⟩
  · exact h.elim
def gPow : R2 := fun x y H Q => match x, y with
  | .int i, .int j => CPow i j ∧ Q (.int (i ^ j.toNat)) H
  | _, _ => False
theorem op_powG : OpR X (binaryOp .Pow) gPow := by
  intro pins s σ H x y v u Q I rx ry h
  unfold gPow at h
  split at h
  · exact op_pow pins s σ H _ _ v u Q I rx ry ⟨_, _, rfl, rfl, h.1, h.2⟩
  · exact h.elim
def gNeg : V → Hp → VK → Prop := fun x H Q => match x with
  | .int i => Q (.int (-i)) H
  | _ => False
theorem un_negG : UnR X (unaryOp .USub) gNeg := by
  intro pins s σ H x v Q I rx h
  unfold gNeg at h
  split at h
  · exact un_neg pins s σ H _ v Q I rx ⟨_, rfl, h⟩
  · exact h.elim

/-! ### comparisons -/
def gEqW (K : PySem.W.Frag) (ng : Bool → Bool) : R2 := fun x y H Q => match x, y with
  | .int i, .int j => Q (.bl (ng (decide (i = j)))) H
  | .str a, .str b => Q (.bl (ng (decide (tl a = tl b)))) H
  | .bl a, .bl b => Q (.bl (ng (decide (a = b)))) H
  | .non, .non => Q (.bl (ng true)) H
  | .non, .int _ => Q (.bl (ng false)) H
  | .non, .str _ => Q (.bl (ng false)) H
  | .int _, .non => Q (.bl (ng false)) H
  | .str _, .non => Q (.bl (ng false)) H
  | .int _, .str _ => Q (.bl (ng false)) H
  | .str _, .int _ => Q (.bl (ng false)) H
  | x, y => (∃ a b, x = .ref a ∧ y = .ref b ∧ (∃ xs, ((SqL K H a xs ∧ SqL K H b []) ∨ (SqT K H a xs ∧ SqT K H b [])) ∧ Q (.bl (ng xs.isEmpty)) H)) ∨
      ∃ d e, Dp K H x d ∧ Dp K H y e ∧ SeqAt.shaped d = true ∧ SeqAt.shaped e = true ∧ Q (.bl (ng (PyData.eqv d e))) H
theorem dec_tl (a b : Str) : decide (V.str a = V.str b) = decide (tl a = tl b) := by
  rw [Bool.eq_iff_iff, decide_eq_true_iff, decide_eq_true_iff]
  constructor
  · intro h
    rw [V.str.inj h]
  · intro h
    rw [← S_tl a, ← S_tl b]
    show V.str (S (tl a)) = V.str (S (tl b))
    rw [h]
theorem dec_i (a b : Int) : decide (V.int a = V.int b) = decide (a = b) := by
  rw [Bool.eq_iff_iff, decide_eq_true_iff, decide_eq_true_iff]
  exact ⟨V.int.inj, fun h => by rw [h]⟩
theorem dec_b (a b : Bool) : decide (V.bl a = V.bl b) = decide (a = b) := by
  rw [Bool.eq_iff_iff, decide_eq_true_iff, decide_eq_true_iff]
  exact ⟨V.bl.inj, fun h => by rw [h]⟩
theorem arr_nil {its : List Value} (h : Vals [] its) : its = [] := by cases h; rfl
theorem op_eqG0 (hu : X.A.units + 64 < cLine) : OpR X (compareOp .Eq) (gEqW X.K id) := by
  intro pins s σ H x y v u Q I rx ry h
  unfold gEqW at h
  split at h
  · exact op_eq pins s σ H _ _ v u Q I rx ry ⟨rfl, by rw [dec_i]; exact h⟩
  · exact op_eq pins s σ H _ _ v u Q I rx ry ⟨rfl, by rw [dec_tl]; exact h⟩
  · exact op_eq pins s σ H _ _ v u Q I rx ry ⟨rfl, by rw [dec_b]; exact h⟩
  · exact op_eq pins s σ H _ _ v u Q I rx ry ⟨rfl, h⟩
  · exact op_eq pins s σ H _ _ v u Q I rx ry ⟨rfl, h⟩
  · exact op_eq pins s σ H _ _ v u Q I rx ry ⟨rfl, h⟩
  · exact op_eq pins s σ H _ _ v u Q I rx ry ⟨rfl, h⟩
  · exact op_eq pins s σ H _ _ v u Q I rx ry ⟨rfl, h⟩
  · exact op_eq pins s σ H _ _ v u Q I rx ry ⟨rfl, h⟩
  · exact op_eq pins s σ H _ _ v u Q I rx ry ⟨rfl, h⟩
  · rcases h with ⟨a, b, rfl, rfl, xs, hab, h⟩ | h
    · cases rx
      cases ry
      have hu0 : X.A.units < cLine := by omega
      rcases hab with ⟨ha, hb⟩ | ⟨ha, hb⟩
      · obtain ⟨its, rv, pa, _⟩ := I.list ha
        obtain ⟨itb, rb, pb, _⟩ := I.list hb
        have eb := arr_nil rb
        subst eb
        cases rv with
        | nil => exact SeqAt.eq_listAt (e := fun _ => true) pa.isList pb.isList rfl hu0 (fun j h1 => absurd h1 (Nat.not_lt_zero _)) ⟨.bl true, H, I, rfl, h⟩
        | cons r1 r2 => exact SeqAt.eq_list_lengthsAt pa.isList pb.isList (by simp) hu0 ⟨.bl false, H, I, rfl, h⟩
      · obtain ⟨its, rv, pa, _⟩ := I.tuple ha
        obtain ⟨itb, rb, pb, _⟩ := I.tuple hb
        have eb := arr_nil rb
        subst eb
        refine SeqAt.eq_tupleAt (e := fun _ => true) pa pb hu0 (fun j _ h2 => absurd h2 (Nat.not_lt_zero _)) ?_
        cases rv with
        | nil => exact ⟨.bl true, H, I, rfl, h⟩
        | cons r1 r2 => exact ⟨.bl false, H, I, by simp [L2.RelV], h⟩
    · exact op_eqD hu pins s σ H _ _ v u Q I rx ry h
theorem op_neG0 (hu : X.A.units + 64 < cLine) : OpR X (compareOp .NotEq) (gEqW X.K not) := by
  intro pins s σ H x y v u Q I rx ry h
  unfold gEqW at h
  split at h
  · exact op_ne pins s σ H _ _ v u Q I rx ry ⟨rfl, by rw [dec_i]; exact h⟩
  · exact op_ne pins s σ H _ _ v u Q I rx ry ⟨rfl, by rw [dec_tl]; exact h⟩
  · exact op_ne pins s σ H _ _ v u Q I rx ry ⟨rfl, by rw [dec_b]; exact h⟩
  · exact op_ne pins s σ H _ _ v u Q I rx ry ⟨rfl, h⟩
  · exact op_ne pins s σ H _ _ v u Q I rx ry ⟨rfl, h⟩
  · exact op_ne pins s σ H _ _ v u Q I rx ry ⟨rfl, h⟩
  · exact op_ne pins s σ H _ _ v u Q I rx ry ⟨rfl, h⟩
  · exact op_ne pins s σ H _ _ v u Q I rx ry ⟨rfl, h⟩
  · exact op_ne pins s σ H _ _ v u Q I rx ry ⟨rfl, h⟩
  · exact op_ne pins s σ H _ _ v u Q I rx ry ⟨rfl, h⟩
  · rcases h with ⟨a, b, rfl, rfl, xs, hab, h⟩ | h
    · cases rx
      cases ry
      have hu0 : X.A.units < cLine := by omega
      rcases hab with ⟨ha, hb⟩ | ⟨ha, hb⟩
      · obtain ⟨its, rv, pa, _⟩ := I.list ha
        obtain ⟨itb, rb, pb, _⟩ := I.list hb
        have eb := arr_nil rb
        subst eb
        cases rv with
        | nil => exact SeqAt.RcNeAt.lists (e := fun _ => true) pa.isList pb.isList rfl hu0 (fun j h1 => absurd h1 (Nat.not_lt_zero _)) _ _ _ _ ⟨.bl false, H, I, rfl, h⟩
        | cons r1 r2 => exact SeqAt.RcNeAt.lists_lengths pa.isList pb.isList (by simp) hu0 _ _ _ _ ⟨.bl true, H, I, rfl, h⟩
      · obtain ⟨its, rv, pa, _⟩ := I.tuple ha
        obtain ⟨itb, rb, pb, _⟩ := I.tuple hb
        have eb := arr_nil rb
        subst eb
        refine SeqAt.RcNeAt.tuples (e := fun _ => true) pa pb hu0 (fun j _ h2 => absurd h2 (Nat.not_lt_zero _)) _ _ _ _ ?_
        cases rv with
        | nil => exact ⟨.bl false, H, I, rfl, h⟩
        | cons r1 r2 => exact ⟨.bl true, H, I, by simp [L2.RelV], h⟩
    · exact op_neD hu pins s σ H _ _ v u Q I rx ry h
def gCmp (f : Int → Int → Bool) (g : List Nat → List Nat → Bool) : R2 := fun x y H Q => match x, y with
  | .int i, .int j => Q (.bl (f i j)) H
  | .str a, .str b => Q (.bl (g (tl a) (tl b))) H
  | _, _ => False
theorem op_cmpG {op : CmpOp} {f : Int → Int → Bool} {g : List Nat → List Nat → Bool} (h1 : OpR X (compareOp op) (rI0 fun i j => .bl (f i j)))
    (h2 : OpR X (compareOp op) (fun x y H Q => ∃ i j, x = .str i ∧ y = .str j ∧ Q (.bl (g i.cps.toList j.cps.toList)) H)) : OpR X (compareOp op) (gCmp f g) := by
  intro pins s σ H x y v u Q I rx ry h
  unfold gCmp at h
  split at h
  · exact h1 pins s σ H _ _ v u Q I rx ry ⟨_, _, rfl, rfl, h⟩
  · exact h2 pins s σ H _ _ v u Q I rx ry ⟨_, _, rfl, rfl, h⟩
  · exact h.elim
theorem op_ltG : OpR X (compareOp .Lt) (gCmp (fun i j => decide (i < j)) fun a b => decide (a < b)) := op_cmpG op_lt op_lt_str
theorem op_leG : OpR X (compareOp .LtE) (gCmp (fun i j => decide (i ≤ j)) fun a b => !decide (b < a)) := op_cmpG op_le op_le_str
theorem op_gtG : OpR X (compareOp .Gt) (gCmp (fun i j => decide (j < i)) fun a b => decide (b < a)) := op_cmpG op_gt op_gt_str
theorem op_geG : OpR X (compareOp .GtE) (gCmp (fun i j => decide (j ≤ i)) fun a b => !decide (a < b)) := op_cmpG op_ge op_ge_str
/-- x in y: one sign in a text, or among items -/
def gIn (K : PySem.W.Frag) (neg : Bool) : R2 := fun x y H Q => match x, y with
  | .str a, .str z => ∃ c, tl a = [c] ∧ Q (.bl (if neg then !decide (c ∈ tl z) else decide (c ∈ tl z))) H
  | x, .ref p => ∃ xs, (SqL K H p xs ∨ SqT K H p xs) ∧ flatV x = true ∧ xs.all flatV = true ∧ Q (.bl (if neg then !inV x xs else inV x xs)) H
  | _, _ => False
theorem sign_of {a : Str} {c : Nat} (h : tl a = [c]) : a = ⟨#[c]⟩ := by
  rw [← S_tl a, h]
theorem op_inG0 : OpR X (compareOp .In) (gIn X.K false) := by
  intro pins s σ H x y v u Q I rx ry h
  unfold gIn at h
  split at h
  · obtain ⟨c, e, h⟩ := h
    rw [sign_of e] at rx
    exact op_in_sign pins s σ H _ _ v u Q I rx ry ⟨c, _, rfl, rfl, h⟩
  · obtain ⟨xs, h1, h2, h3, h4⟩ := h
    exact op_in_seq pins s σ H _ _ v u Q I rx ry ⟨_, xs, rfl, h1, h2, h3, h4⟩
  · exact h.elim
theorem op_notInG0 : OpR X (compareOp .NotIn) (gIn X.K true) := by
  intro pins s σ H x y v u Q I rx ry h
  unfold gIn at h
  split at h
  · obtain ⟨c, e, h⟩ := h
    rw [sign_of e] at rx
    exact op_notIn_sign pins s σ H _ _ v u Q I rx ry ⟨c, _, rfl, rfl, h⟩
  · obtain ⟨xs, h1, h2, h3, h4⟩ := h
    exact op_notIn_seq pins s σ H _ _ v u Q I rx ry ⟨_, xs, rfl, h1, h2, h3, h4⟩
  · exact h.elim
def gIs (ng : Bool → Bool) : R2 := fun x y H Q => match y with
  | .non => Q (.bl (ng (match x with | .non => true | _ => false))) H
  | _ => False
theorem dec_non (x : V) : decide (x = V.non) = (match x with | .non => true | _ => false) := by cases x <;> rfl
theorem op_isG : OpR X (compareOp .Is) (gIs id) := by
  intro pins s σ H x y v u Q I rx ry h
  unfold gIs at h
  split at h
  · exact op_isN pins s σ H _ _ v u Q I rx ry ⟨rfl, by rw [dec_non]; exact h⟩
  · exact h.elim
theorem op_isNotG : OpR X (compareOp .IsNot) (gIs not) := by
  intro pins s σ H x y v u Q I rx ry h
  unfold gIs at h
  split at h
  · exact op_notN pins s σ H _ _ v u Q I rx ry ⟨rfl, by rw [dec_non]; exact h⟩
  · exact h.elim

/-! ### tests -/
def gTest (t : TE) : TT := fun σ H Q => t σ H fun x H' => match x with
  | .bl k => Q k H'
  | _ => False
variable {a b c : Expr} {ta tb tc : TE} {pos : Pos}
/-- readings that may be weakened behind -/
def Mono (t : TE) : Prop := ∀ σ H Q Q', (∀ v H', Q v H' → Q' v H') → t σ H Q → t σ H Q'
end
end Pk

namespace Pk
open PySem PySem.Spec PyProof.Rows L2
section
variable {X : Cx} {a b c : Expr} {ta tb tc : TE} {pos : Pos}
/-! ### tests: the value is a truth value -/
theorem pt_cmpG {op : CmpOp} {r : R2} (ho : OpR X (compareOp op) r) (ha : PE X a ta) (hb : PE X b tb) (hm : behindInMarks op b = false) : PT X (.Compare a [op] [b] pos) (gTest (tOp r ta tb)) := by
  refine ⟨fun pins s σ H Q I h => ?_⟩
  refine wpAny_isTrue_Compare1 (thn (ha.run pins s σ H _ I h) fun v s1 ⟨x, H1, I1, r1, q1⟩ => thn (hb.run pins s1 σ H1 _ I1 q1) fun u s2 ⟨y, H2, I2, r2, q2⟩ =>
    thn (ho pins s2 σ H2 x y v u _ I2 r1 r2 q2) fun d s3 ⟨z, H3, I3, r3, q3⟩ => ?_) hm
  cases z with
  | bl k => cases r3; exact wpAny_truthy_bool ⟨H3, I3, q3⟩
  | _ => exact q3.elim
/-- low <= value <= high -/
def gChain (r r' : R2) (ta tb tc : TE) : TE := fun σ H Q => ta σ H fun x H1 => tb σ H1 fun y H2 => r x y H2 fun z H3 => match z with
  | .bl k => if k = true then tc σ H3 fun w' H4 => r' y w' H4 Q else Q (.bl false) H3
  | _ => False
theorem pe_chainG {op op' : CmpOp} {r r' : R2} (ho : OpR X (compareOp op) r) (ho' : OpR X (compareOp op') r') (ha : PE X a ta) (hb : PE X b tb) (hc : PE X c tc)
    (hm : lastMarks [op, op'] [b, c] = false := by with_unfolding_all rfl) : PE X (.Compare a [op, op'] [b, c] pos) (gChain r r' ta tb tc) := by
  refine ⟨fun pins s σ H Q I h => ?_⟩
  refine Compare_chain (thn (ha.run pins s σ H _ I h) fun v s1 ⟨x, H1, I1, r1, q1⟩ => chain_link (thn (hb.run pins s1 σ H1 _ I1 q1) fun u s2 ⟨y, H2, I2, r2, q2⟩ =>
    thn (ho pins s2 σ H2 x y v u _ I2 r1 r2 q2) fun d s3 ⟨z, H3, I3, r3, q3⟩ => ?_)) hm
  cases z with
  | bl k =>
    cases r3
    refine wpAny_truthy_bool ?_
    cases k with
    | false => exact ite_ff ⟨.bl false, H3, I3, rfl, q3⟩
    | true => exact ite_tt (chain_last (thn (hc.run pins s3 σ H3 _ I3 q3) fun w' s4 ⟨z', H4, I4, r4, q4⟩ => ho' pins s4 σ H4 y z' u w' Q I4 r2 r4 q4))
  | _ => exact q3.elim
theorem pt_chainG {op op' : CmpOp} {r r' : R2} (ho : OpR X (compareOp op) r) (ho' : OpR X (compareOp op') r') (ha : PE X a ta) (hb : PE X b tb) (hc : PE X c tc)
    (hm : lastMarks [op, op'] [b, c] = false := by with_unfolding_all rfl) : PT X (.Compare a [op, op'] [b, c] pos) (gTest (gChain r r' ta tb tc)) := by
  refine ⟨fun pins s σ H Q I h => ?_⟩
  refine isTrue_chain (thn (ha.run pins s σ H _ I h) fun v s1 ⟨x, H1, I1, r1, q1⟩ => test_link (thn (hb.run pins s1 σ H1 _ I1 q1) fun u s2 ⟨y, H2, I2, r2, q2⟩ =>
    thn (ho pins s2 σ H2 x y v u _ I2 r1 r2 q2) fun d s3 ⟨z, H3, I3, r3, q3⟩ => ?_)) hm
  cases z with
  | bl k =>
    cases r3
    refine wpAny_truthy_bool ?_
    cases k with
    | false => exact ite_ff ⟨H3, I3, q3⟩
    | true =>
      refine ite_tt (test_last (thn (hc.run pins s3 σ H3 _ I3 q3) fun w' s4 ⟨z', H4, I4, r4, q4⟩ => thn (ho' pins s4 σ H4 y z' u w' _ I4 r2 r4 q4) fun d' s5 ⟨z2, H5, I5, r5, q5⟩ => ?_))
      cases z2 with
      | bl k2 => cases r5; exact wpAny_truthy_bool ⟨H5, I5, q5⟩
      | _ => exact q5.elim
  | _ => exact q3.elim
/-- the truth of a value -/
def gTru (K : PySem.W.Frag) (t : TE) : TT := fun σ H Q => t σ H fun x H' => match x with
  | .bl k => Q k H'
  | .non => Q false H'
  | .int i => Q (i != 0) H'
  | .str z => (tl z).length ≤ 1000000 ∧ Q (!(tl z).isEmpty) H'
  | .ref p => ∃ xs, (SqL K H' p xs ∨ SqT K H' p xs) ∧ Q (!xs.isEmpty) H'
  | _ => False
theorem pt_truG0 (ha : PE X a ta) (he : ∀ whole, isTrue a X.env whole = (do let v ← whole; standAt a.pos; holding [v] (truthy v)) := by intro _; rfl) : PT X a (gTru X.K ta) := by
  refine ⟨fun pins s σ H Q I h => ?_⟩
  refine isTrue_plain (thn (ha.run pins s σ H _ I h) fun v s1 ⟨x, H1, I1, r1, q1⟩ => ?_) (he _)
  have go : ∀ k, TruV X.K x H1 k → Q k H1 → wpAny (model X.prog X.w) X.A (truthy v) (TP X pins σ Q) X.xe s1 := fun k h1 h2 => tru_ok pins s1 σ H1 x v Q I1 r1 ⟨k, h1, h2⟩
  cases x with
  | bl k => exact go k rfl q1
  | non => exact go false rfl q1
  | int i => exact go _ rfl q1
  | str z =>
    refine go _ ⟨?_, ?_⟩ q1.2
    · rw [len_S]; exact Nat.le_trans q1.1 line6
    · rw [len_S]; cases tl z with
      | nil => rfl
      | cons x r => simp; omega
  | ref p =>
    obtain ⟨xs, h1, h2⟩ := q1
    rcases h1 with h1 | h1
    · exact go _ (.inl ⟨xs, h1, rfl⟩) h2
    · exact go _ (.inr (.inl ⟨xs, h1, rfl⟩)) h2
  | _ => exact q1.elim
/-! ### places, slices -/
def gIx (K : PySem.W.Frag) : R2 := fun x y H Q => match x, y with
  | .ref p, .int i => ∃ xs v, (SqL K H p xs ∨ SqT K H p xs) ∧ atI xs i = some v ∧ Q v H
  | .str z, .int i => ∃ k, (tl z).length ≤ 1000000 ∧ atI (tl z) i = some k ∧ Q (.str (S [k])) H
  | _, _ => False
theorem ixG0 : IxR X (gIx X.K) := by
  intro vl sl pins s σ H x y v u Q I rx ry h hs
  unfold gIx at h
  split at h
  · obtain ⟨xs, z, h1, h2, h3⟩ := h
    rcases h1 with h1 | h1
    · exact ix_list vl sl pins s σ H _ _ v u Q I rx ry ⟨_, xs, _, z, rfl, rfl, h1, h2, h3⟩ hs
    · exact ix_tup vl sl pins s σ H _ _ v u Q I rx ry ⟨_, xs, _, z, rfl, rfl, h1, h2, h3⟩ hs
  · obtain ⟨k, h1, h2, h3⟩ := h
    exact ix_str vl sl pins s σ H _ _ v u Q I rx ry ⟨_, _, k, rfl, rfl, by rw [len_S]; exact Nat.le_trans h1 line6, h2, h3⟩ hs
  · exact h.elim
def gPart (t : TE) : TO := fun σ H Q => t σ H fun x H1 => match x with
  | .int i => Q (some i) H1
  | _ => False
theorem po_someG (h : PE X a ta) : PO X (some a) (gPart ta) := by
  refine ⟨fun pins s σ H Q I hw => ?_⟩
  rw [evalPart_some]
  refine thn (h.run pins s σ H _ I hw) fun u s1 ⟨x, H1, I1, r1, q1⟩ => ?_
  cases x with
  | int i =>
    obtain ⟨t, rfl⟩ := r1
    exact ⟨some i, H1, I1, .int i t, q1⟩
  | _ => exact q1.elim
theorem cutV_L (xs : List V) (lo hi : Option Int) : cutV xs lo hi = cutL xs lo hi := rfl
def gSl (K : PySem.W.Frag) : V → Option Int → Option Int → Hp → VK → Prop := fun x lo hi H Q => match x with
  | .str z => (tl z).length ≤ 1000000 ∧ Q (.str (S (cutL (tl z) lo hi))) H
  | .ref p => (∃ xs, SqL K H p xs ∧ ∀ q, H q = none → Q (.ref q) (upd H q (.lst (cutL xs lo hi)))) ∨
      (∃ xs, SqT K H p xs ∧ ¬ (HT.sIx xs.length 0 lo = 0 ∧ HT.sIx xs.length xs.length hi = xs.length) ∧ ∀ q, H q = none → Q (.ref q) (upd H q (.tup (cutL xs lo hi))))
  | _ => False
theorem slG0 : SlR X (gSl X.K) := by
  intro pins s σ H x v vl vu lo hi sl Q I rx hs pl pu h
  unfold gSl at h
  split at h
  · exact sl_str pins s σ H _ v vl vu lo hi sl Q I rx hs pl pu ⟨_, rfl, by rw [len_S]; exact Nat.le_trans h.1 line6, by rw [cutS_S]; exact h.2⟩
  · rcases h with ⟨xs, h1, h2⟩ | ⟨xs, h1, h2, h3⟩
    · exact sl_list pins s σ H _ v vl vu lo hi sl Q I rx hs pl pu ⟨_, xs, rfl, h1, h2⟩
    · exact sl_tup pins s σ H _ v vl vu lo hi sl Q I rx hs pl pu ⟨_, xs, rfl, h1, h2, h3⟩
  · exact h.elim
/-! ### built-ins -/
abbrev RC := List V → Hp → VK → Prop
def gLen (K : PySem.W.Frag) : RC := fun vs H Q => match vs with
  | [.str z] => (tl z).length ≤ 1000000 ∧ Q (.int (tl z).length) H
  | [.ref p] => ∃ xs, (SqL K H p xs ∨ SqT K H p xs) ∧ Q (.int xs.length) H
  | _ => False
theorem cr_lenG0 : CallR X (.builtin "len") (gLen X.K) := by
  intro pins s σ H xs us Q I r h
  unfold gLen at h
  split at h
  · refine call_len_str pins s σ H _ us Q I r ⟨_, rfl, by rw [len_S]; exact Nat.le_trans h.1 line6, by rw [len_S]; exact h.2⟩
  · obtain ⟨ys, h1, h2⟩ := h
    exact call_len_seq pins s σ H _ us Q I r ⟨_, ys, rfl, h1, h2⟩
  · exact h.elim
def gAbs : RC := fun vs H Q => match vs with
  | [.int i] => Q (.int (if i < 0 then -i else i)) H
  | _ => False
theorem cr_absG : CallR X (.builtin "abs") gAbs := by
  intro pins s σ H xs us Q I r h
  unfold gAbs at h
  split at h
  · exact call_abs pins s σ H _ us Q I r ⟨_, rfl, h⟩
  · exact h.elim
/-- tuple(a new list) -/
def gTuple (K : PySem.W.Frag) : RC := fun vs H Q => match vs with
  | [.ref p] => ∃ ys, SqL K H p ys ∧ ∀ l, H l = none → Q (.ref l) (upd H l (.tup ys))
  | _ => False
theorem cr_tupleG0 : CallR X (.type "tuple") (gTuple X.K) := by
  intro pins s σ H xs us Q I r h
  unfold gTuple at h
  split at h
  · obtain ⟨ys, h1, h2⟩ := h
    exact call_tuple_of pins s σ H _ us Q I r ⟨_, ys, rfl, .inl ⟨h1, h2⟩⟩
  · exact h.elim
def gList (K : PySem.W.Frag) : RC := fun vs H Q => match vs with
  | [.ref p] => ∃ ys, (SqL K H p ys ∨ SqT K H p ys) ∧ ∀ l, H l = none → Q (.ref l) (upd H l (.lst ys))
  | _ => False
theorem cr_listG0 : CallR X (.type "list") (gList X.K) := by
  intro pins s σ H xs us Q I r h
  unfold gList at h
  split at h
  · obtain ⟨ys, h1, h2⟩ := h
    exact call_list_of pins s σ H _ us Q I r ⟨_, ys, rfl, h1, h2⟩
  · exact h.elim
def gAll (K : PySem.W.Frag) : RC := fun vs H Q => match vs with
  | [.ref p] => ∃ bs : List Bool, SqL K H p (bs.map V.bl) ∧ Q (.bl (bs.all id)) H
  | _ => False
theorem cr_allG0 (hc : X.calm = true := by rfl) : CallR X (.builtin "all") (gAll X.K) := by
  intro pins s σ H xs us Q I r h
  unfold gAll at h
  split at h
  · obtain ⟨ys, h1, h2⟩ := h
    exact cr_all hc pins s σ H _ us Q I r ⟨_, ys, rfl, h1, h2⟩
  · exact h.elim
def gSum (K : PySem.W.Frag) : RC := fun vs H Q => match vs with
  | [.ref p] => ∃ ns : List Int, SqL K H p (ns.map V.int) ∧ Q (.int ns.sum) H
  | _ => False
theorem cr_sumG0 (hc : X.calm = true := by rfl) : CallR X (.builtin "sum") (gSum X.K) := by
  intro pins s σ H xs us Q I r h
  unfold gSum at h
  split at h
  · obtain ⟨ys, h1, h2⟩ := h
    exact cr_sum hc pins s σ H _ us Q I r ⟨_, ys, rfl, h1, h2⟩
  · exact h.elim
/-! ### isinstance of the built-in kinds -/
inductive Knd where | kint | kbool | kstr | ktuple | klist
def Knd.nm : Knd → String
  | .kint => "int" | .kbool => "bool" | .kstr => "str" | .ktuple => "tuple" | .klist => "list"
def Knd.ofInt : Knd → Bool | .kint => true | _ => false
def Knd.ofBl : Knd → Bool | .kint => true | .kbool => true | _ => false
def Knd.ofStr : Knd → Bool | .kstr => true | _ => false
def Knd.ofTup : Knd → Bool | .ktuple => true | _ => false
def Knd.ofLst : Knd → Bool | .klist => true | _ => false
def gIsi (K : PySem.W.Frag) (k : Knd) : RC := fun vs H Q => match vs with
  | [.int _, .ty _] => Q (.bl k.ofInt) H
  | [.bl _, .ty _] => Q (.bl k.ofBl) H
  | [.str _, .ty _] => Q (.bl k.ofStr) H
  | [.non, .ty _] => Q (.bl false) H
  | [.ref p, .ty _] => ((∃ xs, SqL K H p xs) ∧ Q (.bl k.ofLst) H) ∨ ((∃ xs, SqT K H p xs) ∧ Q (.bl k.ofTup) H)
  | _ => False
theorem tyX_L {K : PySem.W.Frag} {H : Hp} {p : Addr} {xs : List V} (h : SqL K H p xs) : TyX K H (.ref p) (.type "list") := by
  rcases h with (h | ⟨o, h⟩) | ⟨o, its, n, h, hc, _⟩
  · exact .base (.lst h)
  · exact .base (.frz h)
  · exact .kList h hc
theorem tyX_T {K : PySem.W.Frag} {H : Hp} {p : Addr} {xs : List V} (h : SqT K H p xs) : TyX K H (.ref p) (.type "tuple") := by
  rcases h with (h | ⟨o, h⟩) | ⟨o, its, n, h, hc, _⟩
  · exact .base (.tup h)
  · exact .fTuple h
  · exact .kTuple h hc
def tagOf (v : V) : List V → Prop
  | [_, w] => v = w
  | _ => False
theorem cr_isiG0 (k : Knd) : CallR X (.builtin "isinstance") (fun vs H Q => tagOf (.ty k.nm) vs ∧ gIsi X.K k vs H Q) := by
  intro pins s σ H xs us Q I r h
  obtain ⟨ht, h⟩ := h
  unfold gIsi at h
  have go : ∀ (x : V) (t : String) (bb : Bool), xs = [x, .ty k.nm] → TyX X.K H x (.type t) → kitB t k.nm = some bb → Q (.bl bb) H → wpAny (model X.prog X.w) X.A (call (.builtin "isinstance") us) (EP X pins σ Q) X.xe s :=
    fun x t bb e1 e2 e3 e4 => call_isi pins s σ H xs us Q I r ⟨x, .ty k.nm, _, _, bb, e1, .ty _, e2, kit_ty e3, e4⟩
  split at h
  · cases ht
    exact go _ "int" _ rfl (.base (.int _)) (by cases k <;> decide +kernel) h
  · cases ht
    exact go _ "bool" _ rfl (.base (.bl _)) (by cases k <;> decide +kernel) h
  · cases ht
    exact go _ "str" _ rfl (.base (.str _)) (by cases k <;> decide +kernel) h
  · cases ht
    exact go _ "NoneType" _ rfl (.base .non) (by cases k <;> decide +kernel) h
  · cases ht
    rcases h with ⟨⟨ys, hx⟩, h⟩ | ⟨⟨ys, hx⟩, h⟩
    · exact go _ "list" _ rfl (tyX_L hx) (by cases k <;> decide +kernel) h
    · exact go _ "tuple" _ rfl (tyX_T hx) (by cases k <;> decide +kernel) h
  · exact h.elim
/-! ### methods -/
abbrev RM := V → List V → Hp → VK → Prop
def gAppend : RM := fun x vs H Q => match x, vs with
  | .ref l, [y] => ∃ xs, H l = some (.lst xs) ∧ xs.length < 1000000 ∧ Q .non (upd H l (.lst (xs ++ [y])))
  | _, _ => False
theorem mt_appendG : MtM X "list.append" gAppend := by
  intro pins s σ H x xs v us Q I rx r h
  unfold gAppend at h
  split at h
  · obtain ⟨ys, h1, h2, h3⟩ := h
    exact mt_append pins s σ H _ _ v us Q I rx r ⟨_, ys, _, rfl, rfl, h1, Nat.lt_of_lt_of_le h2 line6, h3⟩
  · exact h.elim
def gExtend : RM := fun x vs H Q => match x, vs with
  | .ref l, [.ref b] => ∃ xs zs, H l = some (.lst xs) ∧ H b = some (.lst zs) ∧ xs.length + zs.length ≤ 1000000 ∧ Q .non (upd H l (.lst (xs ++ zs)))
  | _, _ => False
theorem mt_extendG : MtM X "list.extend" gExtend := by
  intro pins s σ H x xs v us Q I rx r h
  unfold gExtend at h
  split at h
  · obtain ⟨ys, zs, h1, h2, h3, h4⟩ := h
    exact mt_extend pins s σ H _ _ v us Q I rx r ⟨_, _, ys, zs, rfl, rfl, h1, h2, Nat.le_trans h3 line6, h4⟩
  · exact h.elim
def gPop : RM := fun x vs H Q => match x, vs with
  | .ref l, [] => ∃ xs y, H l = some (.lst (xs ++ [y])) ∧ Q y (upd H l (.lst xs))
  | .ref l, [.int i] => ∃ xs k y, H l = some (.lst xs) ∧ i = ((k : Nat) : Int) ∧ k < 1000000 ∧ xs[k]? = some y ∧ Q y (upd H l (.lst (xs.eraseIdx k)))
  | _, _ => False
theorem mt_popG : MtM X "list.pop" gPop := by
  intro pins s σ H x xs v us Q I rx r h
  unfold gPop at h
  split at h
  · obtain ⟨ys, y, h1, h2⟩ := h
    refine mt_pop pins s σ H _ _ v us Q I rx r ⟨_, _, y, rfl, rfl, h1, ?_, ?_⟩
    · rw [List.length_append]; simp
    · rw [List.dropLast_concat]; exact h2
  · obtain ⟨ys, k, y, h1, h2, h3, h4, h5⟩ := h
    subst h2
    refine mt_popAt pins s σ H _ _ v us Q I rx r ⟨_, ys, _, k, y, rfl, rfl, h1, by omega, by omega, ?_, h4, h5⟩
    have hk : k < ys.length := (List.getElem?_eq_some_iff.mp h4).1
    have e := (ixN_seq (n := ys.length) (i := (k : Int)) (j := k) (by unfold ixN; rw [if_pos (by omega), if_pos (by omega)]; simp)).1
    exact e
  · exact h.elim
end
end Pk

namespace Pk
open PySem PySem.Spec PyProof.Rows L2
/-! ### iterators that hand out tuples, by the library's walks -/
def Jt (n : Nat) (G : Hp → Prop) (Y : Nat → List V → Prop) : It :=
  ⟨fun i H => i < n ∧ G H, fun i H v H' => ∃ T xs, v = .ref T ∧ H T = none ∧ H' = upd H T (.tup xs) ∧ Y i xs, fun i H => n ≤ i ∧ G H⟩
theorem turn_wt {P : Program} {w : World} {K : PySem.W.Frag} {elts : List Expr} {kk : Nat} {tpos : Pos} (e : Addr) (fp : List Addr) (n : Nat) (own : Nat → Heap → Prop) (G : Hp → Prop) (Y : Nat → List V → Prop)
    (mem : e ∈ fp) (obj : ∀ i h, own i h → ∀ b ∈ fp, ∃ o, h.get? b = some o ∧ ∀ v, o.data ≠ .cell v)
    (keep : ∀ i h h', own i h → (∀ b ∈ fp, ∀ o, h.get? b = some o → h'.get? b = some o) → own i h')
    (small : ∀ i h, own i h → i ≤ n)
    (hW : ∀ (X : Cx) (pins : List (Addr × Obj)) (s : Shared) (σ : L2.St) (H : Hp) (i : Nat), X.prog = P → X.w = w → X.K = K → X.calm = true → Inv X pins σ H s → G H → own i s.heap →
      ∃ FP WR Pt St Mid, WalksT X.prog X.w X.A e FP WR n Pt St Mid ∧ (∀ b ∈ WR, b ∈ fp) ∧ St i s.heap ∧ (∀ j h, j ≤ n → St j h → own j h) ∧
        ∀ j vals, Pt j vals → ∃ xs, Vals xs vals.toList ∧ Y j xs ∧ xs.length ≤ 1000)
    (slf : ∀ (A : Around) (i : Nat) (s : Shared) (Q : Value → Shared → Prop) (E : Value → Shared → Prop), own i s.heap → Q (.ref e) s → wpAny (model P w) A (pyIter (.ref e)) Q E s) :
    Turn P w K (.Tuple elts kk tpos) (Jt n G Y) fp e own where
  mem := mem
  obj := obj
  keep := keep
  item := by
    intro X hP hw hK hc i pins s σ H E I hf st hg
    obtain ⟨FP, WR, Pt, St, Mid, W, hsub, hst, hown, hv⟩ := hW X pins s σ H i hP hw hK hc I hg.2 st
    subst hP hw hK
    refine W.item i s _ _ hg.1 hst fun T vals h' tk hPt hT hTup hMid hk => ⟨_, rfl, W.go elts kk tpos i T { s with heap := h', toks := tk } _ _ hMid fun h2 hSt hk2 => ?_⟩
    obtain ⟨xs, rv, hY, hz⟩ := hv i vals hPt
    have hTn : H T = none := I.hok.fresh hT
    have hT2 : h2.IsTuple T vals := hTup.at fun o q => hk2 T o (W.apart i T h' hMid) q
    have new : ObjOk X.prog X.w (upd H T (.tup xs)) h2 T (.tup xs) := ⟨Nat.le_of_lt (small1000 hz), vals.toList, rv, by show h2.IsTuple T vals.toList.toArray; rw [Array.toArray_toList]; exact hT2⟩
    have I1 : Inv X pins σ (upd H T (.tup xs)) { s with heap := h2, toks := tk } :=
      I.turnedNew (ch := WR) (fun b o hb q => hk2 b o hb (hk b o hb q)) (fun b hb => hf b (hsub b hb)) hT new
    refine ⟨.ref T, _, I1, rfl, ⟨T, xs, rfl, hTn, rfl, hY⟩, hown (i + 1) h2 hg.1 hSt, fun b hb => ?_⟩
    have hb' : b ≠ T := fun z => by
      obtain ⟨o, ho, _⟩ := obj i s.heap st b hb
      exact absurd (Nat.lt_of_lt_of_le (Heap.lt_size ho) (by rw [z]; exact hT)) (Nat.lt_irrefl _)
    rw [upd_ne hb']
    exact (hf b hb).1
  done := by
    intro X hP hw hK hc i pins s σ H E I hf st hg
    obtain ⟨FP, WR, Pt, St, Mid, W, hsub, hst, hown, hv⟩ := hW X pins s σ H i hP hw hK hc I hg.2 st
    have ei : i = n := Nat.le_antisymm (small i s.heap st) hg.1
    subst hP hw hK ei
    exact W.done s _ _ hst fun h' tk hk => ⟨rfl, I.turnedL (ch := WR) hk fun b hb => hf b (hsub b hb)⟩
  self := fun A i s Q E st h => slf A i s Q E st h

def YEn (xs : List V) : Nat → List V → Prop := fun i ys => ∃ x, xs[i]? = some x ∧ ys = [.int (i : Nat), x]
theorem walk_jt {n : Nat} {G : Hp → Prop} {Y : Nat → List V → Prop} : Walk (Jt n G Y) n G (fun i H v H' => ∃ T xs, v = .ref T ∧ H T = none ∧ H' = upd H T (.tup xs) ∧ Y i xs) :=
  ⟨fun i H hi hg => ⟨hi, hg⟩, fun H hg => ⟨Nat.le_refl _, hg⟩, fun i H x H' hi hg y => y⟩

theorem arrGet (a : Array Value) (i : Nat) : a.toList[i]? = a[i]? := by simp

/-- enumerate(a tuple) -/
theorem turn_enT {P : Program} {w : World} {K : PySem.W.Frag} {elts : List Expr} {kk : Nat} {tpos : Pos} (t e it : Addr) (xs : List V) :
    Turn P w K (.Tuple elts kk tpos) (Jt xs.length (fun H => SqT K H t xs) (YEn xs)) [e, it] e (fun i h => i ≤ xs.length ∧ (∃ old, IsEnum h e it ((i : Nat) : Int) old) ∧ h.IsTupleIter it t i ∧ e ≠ it) := by
  refine turn_wt e [e, it] xs.length _ _ _ (by simp) (fun i h st b hb => ?_) (fun i h h' st k => ?_) (fun i h st => st.1) (fun X pins s σ H i hP hw hK hc I hg st => ?_) (fun A i s Q E st h => ?_)
  · obtain ⟨_, ⟨old, he⟩, ⟨o, ho, hc, hd⟩, _⟩ := st
    have e' : b = e ∨ b = it := by simpa using hb
    rcases e' with z | z
    · rw [z]; exact ⟨_, he, fun v q => nomatch q⟩
    · rw [z]; exact ⟨o, ho, fun v q => by rw [hd] at q; cases q⟩
  · obtain ⟨hi, ⟨old, he⟩, hit, hne⟩ := st
    exact ⟨hi, ⟨old, k e (by simp) _ he⟩, hit.at fun o q => k it (by simp) o q, hne⟩
  · subst hP hw hK
    obtain ⟨its, rv, ht, hz⟩ := I.tuple hg
    obtain ⟨hi, ⟨old, he⟩, hit, hne⟩ := st
    have hti : t ≠ it := fun z => by
      obtain ⟨o1, h1, c1, _⟩ := ht
      obtain ⟨o2, h2, c2, _⟩ := hit
      rw [z, h2] at h1
      cases h1
      rw [c1] at c2
      exact absurd c2 (by decide +kernel)
    have hte : e ≠ t := fun z => by
      obtain ⟨o1, h1, c1, _⟩ := ht
      rw [← z, he] at h1
      cases h1
      exact absurd (show Value.type "enumerate" = Value.type "tuple" from c1) (by decide +kernel)
    have hlen : its.toArray.size = xs.length := by rw [List.size_toArray]; exact rv.length.symm
    have D := Draws.tuple (prog := X.prog) (w := X.w) (A := X.A.in1) (I.ok.hd hc) it t hti its.toArray
    rw [hlen] at D
    refine ⟨_, _, _, _, _, WalksT.enumerateD D e hne (by simp; exact ⟨hne, hte⟩) (by simp), fun b hb => hb, ⟨⟨old, he⟩, hit, ht⟩, fun j h hj hs => ⟨hj, hs.1, hs.2.1, hne⟩, fun j vals hv => ?_⟩
    obtain ⟨tk, x, hx, rfl⟩ := hv
    have hx' : its[j]? = some x := by simpa using hx
    have hj : j < xs.length := by rw [rv.length]; exact (List.getElem?_eq_some_iff.mp hx').1
    obtain ⟨u, hu, ru⟩ := rv.get (List.getElem?_eq_getElem hj)
    rw [hx'] at hu
    cases hu
    exact ⟨[.int (j : Nat), xs[j]], .cons ⟨tk, rfl⟩ (.cons ru .nil), ⟨_, List.getElem?_eq_getElem hj, rfl⟩, by show 2 ≤ 1000; decide⟩
  · obtain ⟨_, ⟨old, he⟩, _⟩ := st
    exact wpAny_pyIter_enum he h
/-- enumerate(a text) -/
def sgs (x : Str) : List V := (tl x).map fun k => V.str (S [k])
theorem turn_enS {P : Program} {w : World} {K : PySem.W.Frag} {elts : List Expr} {kk : Nat} {tpos : Pos} (x : Str) (tk : Tok) (e it : Addr) :
    Turn P w K (.Tuple elts kk tpos) (Jt (tl x).length (fun _ => True) (YEn (sgs x))) [e, it] e (fun i h => i ≤ (tl x).length ∧ (∃ old, IsEnum h e it ((i : Nat) : Int) old) ∧ h.IsStrIter it (strIterType x) x tk i ∧ e ≠ it) := by
  refine turn_wt e [e, it] (tl x).length _ _ _ (by simp) (fun i h st b hb => ?_) (fun i h h' st k => ?_) (fun i h st => st.1) (fun X pins s σ H i hP hw hK hc I hg st => ?_) (fun A i s Q E st h => ?_)
  · obtain ⟨_, ⟨old, he⟩, ⟨o, ho, hc, hd⟩, _⟩ := st
    have e' : b = e ∨ b = it := by simpa using hb
    rcases e' with z | z
    · rw [z]; exact ⟨_, he, fun v q => nomatch q⟩
    · rw [z]; exact ⟨o, ho, fun v q => by rw [hd] at q; cases q⟩
  · obtain ⟨hi, ⟨old, he⟩, ⟨o, ho, r⟩, hne⟩ := st
    exact ⟨hi, ⟨old, k e (by simp) _ he⟩, ⟨o, k it (by simp) o ho, r⟩, hne⟩
  · subst hP hw hK
    obtain ⟨hi, ⟨old, he⟩, hit, hne⟩ := st
    have hlen : x.cps.size = (tl x).length := by simp
    have D := Draws.text (prog := X.prog) (w := X.w) (A := X.A.in1) (I.ok.hd hc) it x tk
    rw [hlen] at D
    refine ⟨_, _, _, _, _, WalksT.enumerateD D e hne (by simp; exact hne) (by simp), fun b hb => hb, ⟨⟨old, he⟩, hit⟩, fun j h hj hs => ⟨hj, hs.1, hs.2, hne⟩, fun j vals hv => ?_⟩
    obtain ⟨t2, v, ⟨cc, u, hx, rfl⟩, rfl⟩ := hv
    have hx' : (tl x)[j]? = some cc := by simpa using hx
    exact ⟨[.int (j : Nat), .str (S [cc])], .cons ⟨t2, rfl⟩ (.cons ⟨u, rfl⟩ .nil), ⟨_, by unfold sgs; rw [List.getElem?_map, hx']; rfl, rfl⟩, by show 2 ≤ 1000; decide⟩
  · obtain ⟨_, ⟨old, he⟩, _⟩ := st
    exact wpAny_pyIter_enum he h

theorem enum_new1 {v : Value} {o : Obj} {G : Heap → Prop} (B : Begins v o G) :
    Meets (Builtin.«enumerate.__new__» ⟨[.type "enumerate", v], []⟩) (fun _ R s => G s.heap ∧
      R (.ok (.ret (.ref (s.heap.push o).objs.size))) { s with heap := (s.heap.push o).push { cls := .type "enumerate", data := .fields #[.none, .bool false, .ref s.heap.objs.size, rawInt 0, .none, .none] } }) :=
  .of_wp fun prog w A R s h => by
    obtain ⟨hp, g, d, tk, os⟩ := s
    obtain ⟨h1, h⟩ := h
    have hsub := sub_enumerate
    have q1 : ∀ {A' : Around} {E : Value → Shared → Prop} {Q : Value → Shared → Prop}, Q (.ref hp.objs.size) ⟨hp.push o, g, d, tk, os⟩ → wpAny (model prog w) A' (pyIter v) Q E ⟨hp, g, d, tk, os⟩ :=
      fun q => B.iter prog w _ _ ⟨hp, g, d, tk, os⟩ _ h1 q
    wp_walk using q1
    refine wpAny_stack_any fun st => wpAny_pure ?_
    split
    · rename_i cl _ _ _ _ _
      cases (cl == Value.type "enumerate")
      · wp_walk using q1
        exact ⟨_, rfl, h⟩
      · wp_walk using q1
        exact ⟨_, rfl, h⟩
    · wp_walk using q1
      exact ⟨_, rfl, h⟩
theorem enum_call1 {prog : Program} {w : World} {A : Around} {E : Value → Shared → Prop} {s : Shared} {v : Value} {o : Obj} {G : Heap → Prop} {Q : Value → Shared → Prop} (B : Begins v o G) (h1 : G s.heap)
    (h : ∀ h', IsEnum h' (s.heap.objs.size + 1) s.heap.objs.size 0 .none → h'.get? s.heap.objs.size = some o → (∀ b o, s.heap.get? b = some o → h'.get? b = some o) → Q (.ref (s.heap.objs.size + 1)) { s with heap := h' }) :
    wpAny (model prog w) A (call (.type "enumerate") [v]) Q E s := by
  refine callType_new F.called_enumerate (by decide) (F.typeCall_enumerate_1 _) (F.newCall_enumerate_1 _) (fun obj => F.args_object_init_2 obj _) F.entry_enumerate_new (enum_new1 B) ⟨h1, ?_⟩
  have hz : (s.heap.push o).objs.size = s.heap.objs.size + 1 := Heap.size_push ..
  show _ ∧ _
  rw [hz]
  have he : IsEnum ((s.heap.push o).push { cls := .type "enumerate", data := .fields #[.none, .bool false, .ref s.heap.objs.size, rawInt 0, .none, .none] }) (s.heap.objs.size + 1) s.heap.objs.size 0 .none := by
    have q := Heap.get?_push_size (s.heap.push o) (o := { cls := .type "enumerate", data := .fields #[.none, .bool false, .ref s.heap.objs.size, rawInt 0, .none, .none] }) rfl
    rw [hz] at q
    exact q
  exact ⟨⟨_, he, rfl⟩, h _ he (Heap.get?_push_of_some _ (Heap.get?_push_size _ B.free)) fun b o x => Heap.get?_push_of_some _ (Heap.get?_push_of_some _ x)⟩
section
variable {X : Cx} {e : Expr} {ta : TA} {p pos tpos : Pos} {elts : List Expr} {kk : Nat}
/-- for i, x in enumerate(a text, a tuple) -/
def gEnum (K : PySem.W.Frag) (ta : TA) : TI := fun σ H R => ta σ H fun vs H1 => match vs with
  | [.str x] => R (Jt (tl x).length (fun _ => True) (YEn (sgs x))) H1
  | [.ref t] => ∃ xs, SqT K H1 t xs ∧ R (Jt xs.length (fun H => SqT K H t xs) (YEn xs)) H1
  | _ => False
theorem pi_enumG0 (hm : X.mg "enumerate" = none) (ha : PA X [e] ta) (hg : Gl X "enumerate" := by rfl) (hs : starEach [e] X.env = [(false, eval e X.env)] := by rfl) (hc : X.calm = true := by rfl) :
    PI X (.Tuple elts kk tpos) (.Call (.Name "enumerate" p) [e] [] pos) (gEnum X.K ta) := by
  refine ⟨fun pins s σ H R I h => ?_⟩
  refine Call_ (ld_blt I hg hm boot_enumerate (PyProof.Rows.callWith_type1 (thn (ha.run pos pins s σ H _ I h) fun us s1 ⟨vs, H1, I1, r1, q1⟩ => ?_) hs rfl))
  have fpo : ∀ b, b ∈ [s1.heap.objs.size + 1, s1.heap.objs.size] → FpOk X pins H1 b := fun b hb => by
    have e' : b = s1.heap.objs.size + 1 ∨ b = s1.heap.objs.size := by simpa using hb
    have hle : s1.heap.objs.size ≤ b := by
      rcases e' with z | z
      · rw [z]; exact Nat.le_add_right _ _
      · rw [z]; exact Nat.le_refl _
    exact I1.fpOk hle (I1.hok.fresh hle)
  dsimp only at q1
  split at q1
  · rename_i x
    obtain ⟨u, rfl, tk, rfl⟩ := vals1 r1
    refine enum_call1 (begins_text x tk) trivial fun h' he ho hk => wpAny_pyIter_enum he ?_
    have I2 : Inv X pins σ H1 { s1 with heap := h' } := I1.kept (t' := s1.toks) hk
    exact ⟨s1.heap.objs.size + 1, _, _, _, H1, rfl, I2, turn_enS x tk (s1.heap.objs.size + 1) s1.heap.objs.size, ⟨Nat.zero_le _, ⟨.none, he⟩, ⟨_, ho, rfl, rfl⟩, Nat.succ_ne_self _⟩, fpo, q1⟩
  · rename_i t
    obtain ⟨u, rfl, r2⟩ := vals1 r1
    cases r2
    obtain ⟨xs, hq, q⟩ := q1
    obtain ⟨its, rv, ht, hz⟩ := I1.tuple hq
    refine enum_call1 (begins_tuple t its.toArray) ht fun h' he ho hk => wpAny_pyIter_enum he ?_
    have I2 : Inv X pins σ H1 { s1 with heap := h' } := I1.kept (t' := s1.toks) hk
    exact ⟨s1.heap.objs.size + 1, _, _, _, H1, rfl, I2, turn_enT t (s1.heap.objs.size + 1) s1.heap.objs.size xs, ⟨Nat.zero_le _, ⟨.none, he⟩, ⟨_, ho, rfl, rfl⟩, Nat.succ_ne_self _⟩, fpo, q⟩
  · exact q1.elim
end
section
variable {X : Cx}
/-! ### methods of texts -/
def abc : List Nat := [97, 98, 99, 100, 101, 102]
/-- "abcdef".index(a letter of it) -/
def gIndex : RM := fun x vs H Q => match x, vs with
  | .str a, [.str b] => ∃ k, tl a = abc ∧ tl b = [k] ∧ (97 ≤ k ∧ k ≤ 102) ∧ Q (.int ((k : Int) - 97)) H
  | _, _ => False
theorem occ_abc {k : Nat} (h : 97 ≤ k ∧ k ≤ 102) : Builtin.Str.occurrences (S abc) (S [k]) 0 (S abc).length 1 = [k - 97] := by
  have e : k = 97 ∨ k = 98 ∨ k = 99 ∨ k = 100 ∨ k = 101 ∨ k = 102 := by omega
  rcases e with rfl | rfl | rfl | rfl | rfl | rfl <;> decide +kernel
theorem mt_indexG : MtR X "str.index" gIndex := by
  intro pins s σ H x xs v us Q I rx r h
  unfold gIndex at h
  split at h
  · obtain ⟨k, h1, h2, h3, h4⟩ := h
    rename_i a b
    have ea : a = S abc := by rw [← S_tl a, h1]
    have eb : b = S [k] := by rw [← S_tl b, h2]
    subst ea eb
    refine mt_sindex pins s σ H _ _ v us Q I rx r ⟨_, _, k - 97, [], rfl, rfl, occ_abc h3, ?_⟩
    rw [show (((k - 97 : Nat) : Nat) : Int) = (k : Int) - 97 by omega]
    exact h4
  · exact h.elim
theorem cnt_count (k : Nat) : ∀ l : List Nat, cnt k l = ((l.count k : Nat) : Int)
  | [] => rfl
  | n :: r => by
    rw [cnt_cons, cnt_count k r, List.count_cons]
    by_cases h : n = k
    · subst h; rw [if_pos rfl, if_pos (by simp)]; omega
    · rw [if_neg h, if_neg (by simpa using h)]; omega
/-- row.count(a letter) -/
def gCount : RM := fun x vs H Q => match x, vs with
  | .str a, [.str b] => ∃ k, tl b = [k] ∧ Q (.int ((tl a).count k : Nat)) H
  | _, _ => False
theorem mt_countG : MtR X "str.count" gCount := by
  intro pins s σ H x xs v us Q I rx r h
  unfold gCount at h
  split at h
  · obtain ⟨k, h2, h4⟩ := h
    rename_i a b
    have eb : b = ⟨#[k]⟩ := sign_of h2
    subst eb
    refine mt_count pins s σ H _ _ v us Q I rx r ⟨_, _, rfl, rfl, ?_⟩
    have e : Txt.count a ⟨#[k]⟩ = (((tl a).count k : Nat) : Int) := by
      rw [count_is, ← cnt_count]
      rfl
    rw [e]
    exact h4
  · exact h.elim
def gJoin (K : PySem.W.Frag) : RM := fun x vs H Q => match x, vs with
  | .str a, [.ref p] => ∃ ys : List (List Nat), SqL K H p (ys.map fun l => V.str (S l)) ∧ (ys.map List.length).sum + ys.length * (tl a).length ≤ 1000000 ∧ Q (.str (S (TL.joinL (tl a) ys))) H
  | _, _ => False
theorem map_len_S : ∀ ys : List (List Nat), (ys.map S).map (·.length) = ys.map List.length
  | [] => rfl
  | y :: r => by
    show (S y).length :: (r.map S).map (·.length) = y.length :: r.map List.length
    rw [map_len_S r, len_S]
theorem map_tl_S : ∀ ys : List (List Nat), (ys.map S).map TL.tl = ys
  | [] => rfl
  | y :: r => by
    show TL.tl (S y) :: (r.map S).map TL.tl = y :: r
    rw [map_tl_S r]
theorem mt_joinG0 : MtR X "str.join" (gJoin X.K) := by
  intro pins s σ H x xs v us Q I rx r h
  unfold gJoin at h
  split at h
  · obtain ⟨ys, h2, h3, h4⟩ := h
    rename_i a b
    refine mt_join pins s σ H _ _ v us Q I rx r ⟨a, b, ys.map S, rfl, rfl, .inl ?_, ?_, ?_⟩
    · rw [List.map_map]; exact h2
    · rw [map_len_S, List.length_map, len_S]
      exact Nat.le_trans h3 (by decide)
    · have e : Txt.join a (ys.map S) = S (TL.joinL (tl a) ys) := by
        rw [TL.join_eq, ← S_tl (Str.join a (ys.map S))]
        have e2 : tl (Str.join a (ys.map S)) = TL.joinL (tl a) ((ys.map S).map TL.tl) := TL.tl_join a (ys.map S)
        rw [e2, map_tl_S]
      rw [e]
      exact h4
  · exact h.elim
theorem joinL_nil : ∀ ys : List (List Nat), TL.joinL [] ys = ys.flatten
  | [] => rfl
  | [p] => by simp [TL.joinL]
  | p :: q :: r => by
    show p ++ ([] ++ TL.joinL [] (q :: r)) = p ++ (q :: r).flatten
    rw [List.nil_append, joinL_nil (q :: r)]
end
/-! ### defs that are called -/
structure Cal (P : Program) (w : World) (K : PySem.W.Frag) (mg : Str → Option Value) (base : Heap) (CX : CXT) (k : Nat) (x : Str) (ps : List Str) (sp : Sp) : Prop where
  ex : ∃ f fd, mg x = some (.ref f) ∧ PySem.W.keepIn K (.ref f) = true ∧ Binds K fd ps [] ∧ FnOk P w K mg base CX k f fd ps sp
def tCal (sp : Sp) (E : XK) (t : TA) : TE := fun σ H Q => t σ H fun vs H1 => sp vs H1 Q E
section
variable {X : Cx} {CX : CXT} {k : Nat} {ps : List Str} {sp : Sp} {E : XK} {x : Str} {p pos : Pos} {e : Expr} {es : List Expr} {t : TA}
theorem pe_cal (C : Cal X.prog X.w X.K X.mg X.base CX k x ps sp) (hr : Room k X.A) (hx : Passes CX X E)
    (ha : PA X (e :: es) t) (hg : Gl X x := by rfl) (hdb : (x == ("__debug__" : Str)) = false := by decide) (he : starEach (e :: es) X.env = (false, eval e X.env) :: starEach es X.env := by rfl) (hpl : (backTo pos (starEach es X.env)).any (·.1) = false := by rfl) :
    PE X (.Call (.Name x p) (e :: es) [] pos) (tCal sp E t) := by
  obtain ⟨f, fd, hm, hk, hb, F⟩ := C.ex
  have h : tCal sp E t = tCall sp [] E t := by
    funext σ H Q
    show t σ H (fun vs H1 => sp vs H1 Q E) = t σ H fun vs H1 => sp (vs ++ []) H1 Q E
    congr
    funext vs H1
    rw [List.append_nil]
  rw [h]
  exact pe_call F hr hg hm hk hb .nil hx ha hdb he hpl
theorem Cal.mk' {P : Program} {w : World} {K : PySem.W.Frag} {mg : Str → Option Value} {base : Heap} {f : Addr} {fd : FuncData} {q : Str} {st : Stmt} (F : Fun K x q st f fd) (hm : mg x = some (.ref f)) (b : Binds K fd ps []) (h : FnOk P w K mg base CX k f fd ps sp) : Cal P w K mg base CX k x ps sp :=
  ⟨f, fd, hm, F.kp, b, h⟩
end
/-! ### heaps -/
theorem same_upd {H : Hp} {p : Addr} {o : HO} (h : H p = none) : Same H (upd H p o) := fun b x e => by
  rw [upd_ne (ne_of_none e h)]
  exact e
theorem _root_.L2.Same.tup {K : PySem.W.Frag} {H H' : Hp} {a : Addr} {xs : List V} (e : Same H H') (h : SqT K H a xs) : SqT K H' a xs := by
  rcases h with (h | ⟨o, h⟩) | h
  · exact .inl (.inl (e _ _ h))
  · exact .inl (.inr ⟨o, e _ _ h⟩)
  · exact .inr h
/-- all but what stands at d -/
def SameB (d : Addr) (H H' : Hp) : Prop := ∀ b o, b ≠ d → H b = some o → H' b = some o
theorem SameB.of {d : Addr} {H H' : Hp} (h : Same H H') : SameB d H H' := fun b o _ e => h b o e
theorem SameB.trans {d : Addr} {H H1 H2 : Hp} (a : SameB d H H1) (b : SameB d H1 H2) : SameB d H H2 := fun c o n h => b c o n (a c o n h)
theorem SameB.refl (d : Addr) (H : Hp) : SameB d H H := fun _ _ _ h => h
theorem sameB_upd {d : Addr} {H : Hp} {o : HO} : SameB d H (upd H d o) := fun b x n e => by rw [upd_ne n]; exact e
theorem SameB.tup {K : PySem.W.Frag} {d : Addr} {H H' : Hp} {a : Addr} {xs ys : List V} (e : SameB d H H') (hd : H d = some (.lst ys)) (h : SqT K H a xs) : SqT K H' a xs := by
  rcases h with (h | ⟨o, h⟩) | h
  · exact .inl (.inl (e _ _ (ne_of h hd (by intro z; cases z)) h))
  · exact .inl (.inr ⟨o, e _ _ (ne_of h hd (by intro z; cases z)) h⟩)
  · exact .inr h
end Pk

namespace Pk
open PySem PySem.Spec PyProof.Rows L2
/-! ### the built-in names stand as they are -/
structure Bi (mg : Str → Option Value) : Prop where
  len : mg "len" = none
  range : mg "range" = none
  enumerate : mg "enumerate" = none
  isinstance : mg "isinstance" = none
  tuple : mg "tuple" = none
  list : mg "list" = none
  abs : mg "abs" = none
  all : mg "all" = none
  zip : mg "zip" = none
  sum : mg "sum" = none
  int : mg "int" = none
  min : mg "min" = none
  max : mg "max" = none
  sorted : mg "sorted" = none
  set : mg "set" = none
  dict : mg "dict" = none
  str : mg "str" = none
  any : mg "any" = none
  bool : mg "bool" = none
theorem bt_len : bootBuiltins "len" = some (.builtin "len") := by decide +kernel
theorem bt_isinstance : bootBuiltins "isinstance" = some (.builtin "isinstance") := by decide +kernel
theorem bt_abs : bootBuiltins "abs" = some (.builtin "abs") := by decide +kernel
theorem bt_all : bootBuiltins "all" = some (.builtin "all") := by decide +kernel
theorem bt_any : bootBuiltins "any" = some (.builtin "any") := by decide +kernel
theorem bt_sum : bootBuiltins "sum" = some (.builtin "sum") := by decide +kernel
theorem bt_min : bootBuiltins "min" = some (.builtin "min") := by decide +kernel
theorem bt_max : bootBuiltins "max" = some (.builtin "max") := by decide +kernel
theorem bt_sorted : bootBuiltins "sorted" = some (.builtin "sorted") := by decide +kernel
theorem bt_tuple : bootBuiltins "tuple" = some (.type "tuple") := by decide +kernel
theorem bt_list : bootBuiltins "list" = some (.type "list") := by decide +kernel
theorem bt_int : bootBuiltins "int" = some (.type "int") := by decide +kernel
theorem bt_str : bootBuiltins "str" = some (.type "str") := by decide +kernel
theorem bt_bool : bootBuiltins "bool" = some (.type "bool") := by decide +kernel
theorem bt_set : bootBuiltins "set" = some (.type "set") := by decide +kernel
theorem bt_dict : bootBuiltins "dict" = some (.type "dict") := by decide +kernel
section
variable {X : Cx} {a b : Expr} {ta tb : TE} {pos : Pos} {rest : List Expr}
/-- a written text -/
theorem pe_strC {x : Str} {j : Nat} (l : List Nat) (h : x = S l) : PE X (.Constant (.str x) j pos) (tC (.str (S l))) := h ▸ pe_str
/-- not, and, or of truth values -/
def gNotV (ta : TE) : TE := fun σ H Q => ta σ H fun x H1 => match x with
  | .bl k => Q (.bl (!k)) H1
  | _ => False
theorem pe_notG (ha : PE X a ta) : PE X (.UnaryOp .Not a pos) (gNotV ta) := by
  refine ⟨fun pins s σ H Q I h => ?_⟩
  refine UnaryOp_ (thn (ha.run pins s σ H _ I h) fun v s1 ⟨x, H1, I1, r1, q1⟩ => ?_)
  cases x with
  | bl k => cases r1; exact not_of (wpAny_truthy_bool ⟨.bl (!k), H1, I1, rfl, q1⟩)
  | _ => exact q1.elim
def gAndV (ta tb : TE) : TE := fun σ H Q => ta σ H fun x H1 => match x with
  | .bl k => if k = true then tb σ H1 Q else Q (.bl false) H1
  | _ => False
def gOrV (ta tb : TE) : TE := fun σ H Q => ta σ H fun x H1 => match x with
  | .bl k => if k = true then Q (.bl true) H1 else tb σ H1 Q
  | _ => False
theorem pe_andG (ha : PE X a ta) (hb : PE X (.BoolOp .And (b :: rest) pos) tb) : PE X (.BoolOp .And (a :: b :: rest) pos) (gAndV ta tb) := by
  refine ⟨fun pins s σ H Q I h => ?_⟩
  refine BoolOp_and (thn (ha.run pins s σ H _ I h) fun v s1 ⟨x, H1, I1, r1, q1⟩ => ?_)
  cases x with
  | bl k =>
    cases r1
    refine wpAny_truthy_bool ?_
    cases k with
    | true => exact hb.run pins s1 σ H1 Q I1 q1
    | false => exact ⟨.bl false, H1, I1, rfl, q1⟩
  | _ => exact q1.elim
theorem pe_orG (ha : PE X a ta) (hb : PE X (.BoolOp .Or (b :: rest) pos) tb) : PE X (.BoolOp .Or (a :: b :: rest) pos) (gOrV ta tb) := by
  refine ⟨fun pins s σ H Q I h => ?_⟩
  refine BoolOp_or (thn (ha.run pins s σ H _ I h) fun v s1 ⟨x, H1, I1, r1, q1⟩ => ?_)
  cases x with
  | bl k =>
    cases r1
    refine wpAny_truthy_bool ?_
    cases k with
    | false => exact hb.run pins s1 σ H1 Q I1 q1
    | true => exact ⟨.bl true, H1, I1, rfl, q1⟩
  | _ => exact q1.elim
/-- what is walked: a text, a list, a tuple -/
def gSeq (K : PySem.W.Frag) (ta : TE) : TI := fun σ H R => ta σ H fun v H1 => match v with
  | .str x => R (Its x) H1
  | .ref p => (∃ xs, SqL K H1 p xs ∧ R (Itl K p) H1) ∨ (∃ xs, SqT K H1 p xs ∧ R (Itt K p) H1)
  | _ => False
theorem pi_seqG0 {tg : Expr} (ha : PE X a ta) : PI X tg a (gSeq X.K ta) := by
  refine ⟨fun pins s σ H R I h => ?_⟩
  refine thn (ha.run pins s σ H _ I h) fun v s1 ⟨y, H1, I1, r1, q1⟩ => ?_
  cases y with
  | str x =>
    obtain ⟨t, rfl⟩ := r1
    cases ha : x.cps.all (· < 128)
    · exact wpAny_pyIter_wide ha (pi_one (tk := s1.toks) I1 _ (turn_str _ x t "str_iterator" (.inr rfl)) ⟨_, Heap.get?_push_size _ rfl, rfl, rfl⟩ q1)
    · exact wpAny_pyIter_ascii ha (pi_one (tk := s1.toks) I1 _ (turn_str _ x t "str_ascii_iterator" (.inl rfl)) ⟨_, Heap.get?_push_size _ rfl, rfl, rfl⟩ q1)
  | ref p =>
    cases r1
    rcases q1 with ⟨xs, hq, q⟩ | ⟨xs, hq, q⟩
    · obtain ⟨its, rv, pl, hz⟩ := I1.list hq
      exact wpAny_pyIter_list pl.isList (pi_one (tk := s1.toks) I1 _ (turn_list p _) ⟨_, Heap.get?_push_size _ rfl, rfl, rfl⟩ q)
    · obtain ⟨its, rv, pl, hz⟩ := I1.tuple hq
      exact wpAny_pyIter_tuple (show s1.heap.IsTuple p its.toArray from pl) (pi_one (tk := s1.toks) I1 _ (turn_tuple p _) ⟨_, Heap.get?_push_size _ rfl, rfl, rfl⟩ q)
  | _ => exact q1.elim
/-- (a, b) = a tuple -/
def gNm (K : PySem.W.Frag) (is : List Nat) : TG := fun v σ H Q => match v with
  | .ref p => ∃ xs, SqT K H p xs ∧ (match is, xs with
    | [i, j], [x, y] => Q ((σ.set i (some x)).set j (some y)) H
    | [i, j, k], [x, y, z] => Q (((σ.set i (some x)).set j (some y)).set k (some z)) H
    | _, _ => False)
  | _ => False
theorem pg_imp {tg : Expr} {t t' : TG} (h : PG X tg t) (f : ∀ v σ H Q, t' v σ H Q → t v σ H Q) : PG X tg t' := ⟨fun pins s σ H v u Q I r q => h.run pins s σ H v u Q I r (f v σ H Q q)⟩
theorem pg_nm0 {es : List Expr} {is : List Nat} {k n : Nat} {t : TGs} (h : PGs X es t) (ht : ∀ xs σ H Q, (match is, xs with
    | [i, j], [x, y] => Q ((σ.set i (some x)).set j (some y)) H
    | [i, j, k], [x, y, z] => Q (((σ.set i (some x)).set j (some y)).set k (some z)) H
    | _, _ => False) → xs.length = n ∧ t xs σ H Q) (hc : X.calm = true := by rfl)
    (hn : (assignEach es X.env).length = n := by rfl) (hst : (assignEach es X.env).findIdx? (·.1) = none := by rfl) : PG X (.Tuple es k pos) (gNm X.K is) := by
  refine pg_imp (pg_tup (n := n) hc h hn hst) fun v σ H Q q => ?_
  unfold gNm at q
  split at q
  · obtain ⟨xs, h1, h2⟩ := q
    obtain ⟨h3, h4⟩ := ht xs σ H Q h2
    exact ⟨_, xs, rfl, h1, h3, h4⟩
  · exact q.elim
theorem nm2 {i j : Nat} : ∀ (xs : List V) (σ : L2.St) (H : Hp) (Q : L2.St → Hp → Prop), (match [i, j], xs with
    | [i, j], [x, y] => Q ((σ.set i (some x)).set j (some y)) H
    | [i, j, k], [x, y, z] => Q (((σ.set i (some x)).set j (some y)).set k (some z)) H
    | _, _ => False) → xs.length = 2 ∧ gCons (gName i) (gCons (gName j) gNil) xs σ H Q
  | [x, y], σ, H, Q, h => ⟨rfl, x, [y], rfl, y, [], rfl, rfl, h⟩
  | [], _, _, _, h => h.elim
  | [_], _, _, _, h => h.elim
  | _ :: _ :: _ :: _, _, _, _, h => h.elim
theorem nm3 {i j l : Nat} : ∀ (xs : List V) (σ : L2.St) (H : Hp) (Q : L2.St → Hp → Prop), (match [i, j, l], xs with
    | [i, j], [x, y] => Q ((σ.set i (some x)).set j (some y)) H
    | [i, j, k], [x, y, z] => Q (((σ.set i (some x)).set j (some y)).set k (some z)) H
    | _, _ => False) → xs.length = 3 ∧ gCons (gName i) (gCons (gName j) (gCons (gName l) gNil)) xs σ H Q
  | [x, y, z], σ, H, Q, h => ⟨rfl, x, [y, z], rfl, y, [z], rfl, z, [], rfl, rfl, h⟩
  | [], _, _, _, h => h.elim
  | [_], _, _, _, h => h.elim
  | [_, _], _, _, _, h => h.elim
  | _ :: _ :: _ :: _ :: _, _, _, _, h => h.elim
/-- name op= e -/
def gAug (i : Nat) (te : TE) (r : R2) : TS := fun D σ H => match σ[i]? with
  | some (some x) => te σ H fun y H1 => r x y H1 fun z H2 => D.nx (σ.set i (some z)) H2
  | _ => False
theorem ps_augG {i : Nat} {x : Str} {e : Expr} {te : TE} {op : Operator} {r : R2} {pos' : Pos} (hN : X.N.Nodup) (hi : X.N[i]? = some x) (hx : Loc X.env.scope x) (he : PE X e te) (ho : OpR X (inplaceOp op) r)
    (hf : X.fn x = true ∨ X.env.scope.names.lookup x = some .local := by first | exact .inl rfl | exact .inr rfl | assumption) :
    PS X (.AugAssign (.Name x pos') op e pos) (gAug i te r) := ps_imp (ps_aug (ti := r) hN hi hx he ho hf) fun D σ H h => by
  unfold gAug at h
  split at h
  · rename_i v e1
    exact ⟨v, e1, h⟩
  · exact h.elim
def gIAdd (K : PySem.W.Frag) : R2 := fun x y H Q => match x, y with
  | .int i, .int j => Q (.int (i + j)) H
  | .str a, .str b => (tl a).length + (tl b).length ≤ 1000000 ∧ Q (.str (S (tl a ++ tl b))) H
  | .ref l, .ref p => ∃ xs zs, H l = some (.lst xs) ∧ H p = some (.lst zs) ∧ xs.length + zs.length ≤ 1000000 ∧ Q (.ref l) (upd H l (.lst (xs ++ zs)))
  | _, _ => False
theorem iop_addG0 : OpR X (inplaceOp .Add) (gIAdd X.K) := by
  intro pins s σ H x y v u Q I rx ry h
  unfold gIAdd at h
  split at h
  · exact iop_add pins s σ H _ _ v u Q I rx ry ⟨_, _, rfl, rfl, h⟩
  · refine iop_add_str pins s σ H _ _ v u Q I rx ry ⟨_, _, rfl, rfl, ?_, ?_⟩
    · rw [len_S, len_S]; exact Nat.le_trans h.1 line6
    · rw [app_S]; exact h.2
  · obtain ⟨xs, zs, h1, h2, h3, h4⟩ := h
    exact iop_ext pins s σ H _ _ v u Q I rx ry ⟨_, _, xs, zs, rfl, rfl, h1, h2, Nat.le_trans h3 line6, h4⟩
  · exact h.elim
theorem iop_subG : OpR X (inplaceOp .Sub) gSub := by
  intro pins s σ H x y v u Q I rx ry h
  unfold gSub at h
  split at h
  · exact iop_sub pins s σ H _ _ v u Q I rx ry ⟨_, _, rfl, rfl, h⟩
  · exact h.elim
end
/-- l[k] = v, a list by place -/
def gSetL : TSet := fun o i v H Q => match o, i with
  | .ref p, .int k => ∃ xs j, H p = some (.lst xs) ∧ ixN xs.length k = some j ∧ Q (upd H p (.lst (xs.set j v)))
  | _, _ => False
theorem set_listG {X : Cx} : PSet X gSetL := by
  intro pins s σ H o i v ov iv u Q I ro ri rv h
  unfold gSetL at h
  split at h
  · obtain ⟨xs, j, h1, h2, h3⟩ := h
    exact set_list pins s σ H _ _ v ov iv u Q I ro ri rv ⟨_, xs, _, j, rfl, rfl, h1, h2, h3⟩
  · exact h.elim
theorem ixN_nat {n k : Nat} (h : k < n) : ixN n ((k : Nat) : Int) = some k := by
  unfold ixN
  rw [if_pos (by omega), if_pos (by omega)]
  simp
theorem SameB.free {d D : Addr} {H H1 : Hp} (h : SameB d H H1) (hD : H1 D = none) (hne : D ≠ d) : H D = none := by
  cases e : H D with
  | none => rfl
  | some o => rw [h D o hne e] at hD; cases hD
theorem SameB.at {d D : Addr} {H H1 : Hp} {o : HO} (h : SameB d H H1) (hD : H D = none) : SameB d H (upd H1 D o) := fun b x n e => by
  rw [upd_ne (ne_of_none e hD)]
  exact h b x n e
theorem SameB.d {d : Addr} {H H1 : Hp} {o : HO} (h : SameB d H H1) : SameB d H (upd H1 d o) := h.trans sameB_upd
theorem _root_.L2.Same.at {D : Addr} {H H1 : Hp} {o : HO} (h : Same H H1) (hD : H D = none) : Same H (upd H1 D o) := fun b x e => by
  rw [upd_ne (ne_of_none e hD)]
  exact h b x e
theorem upd_self {H : Hp} {a : Addr} {o : HO} (h : H a = some o) : upd H a o = H := by
  funext b
  by_cases e : b = a
  · subst e; rw [upd_same, h]
  · rw [upd_ne e]
/-- what stands behind a statement, said once for all its ways -/
def tCut (t u : TS) : TS := fun D σ H => ∃ M : L2.St → Hp → Prop, t { D with nx := M } σ H ∧ ∀ σ' H', M σ' H' → u D σ' H'
theorem pss_cutG {X : Cx} {st : Stmt} {rest : List Stmt} {t u : TS} (h1 : PS X st t) (h2 : PSs X rest u) : PSs X (st :: rest) (tCut t u) := by
  refine ⟨fun pins s σ H D I h => ?_⟩
  obtain ⟨M, h, hM⟩ := h
  refine wpAny_execs_cons (thn (h1.run pins s σ H { D with nx := M } I h) fun f s1 q => ?_)
  cases f with
  | next =>
    obtain ⟨σ1, H1, I1, q1⟩ := q
    exact h2.run pins s1 σ1 H1 D I1 (hM σ1 H1 q1)
  | ret v => exact q
  | brk => exact q
  | cont => exact q

/-! ### the same, the written part named -/
section
variable {X : Cx} {K : PySem.W.Frag}
theorem op_addG (hK : X.K = K := by rfl) : OpR X (binaryOp .Add) (gAdd K) := hK ▸ op_addG0
theorem op_mulG (hK : X.K = K := by rfl) : OpR X (binaryOp .Mult) (gMul K) := hK ▸ op_mulG0
theorem iop_addG (hK : X.K = K := by rfl) : OpR X (inplaceOp .Add) (gIAdd K) := hK ▸ iop_addG0
theorem op_eqG (hu : X.A.units + 64 < cLine) (hK : X.K = K := by rfl) : OpR X (compareOp .Eq) (gEqW K id) := hK ▸ op_eqG0 hu
theorem op_neG (hu : X.A.units + 64 < cLine) (hK : X.K = K := by rfl) : OpR X (compareOp .NotEq) (gEqW K not) := hK ▸ op_neG0 hu
theorem op_inG (hK : X.K = K := by rfl) : OpR X (compareOp .In) (gIn K false) := hK ▸ op_inG0
theorem op_notInG (hK : X.K = K := by rfl) : OpR X (compareOp .NotIn) (gIn K true) := hK ▸ op_notInG0
theorem ixG (hK : X.K = K := by rfl) : IxR X (gIx K) := hK ▸ ixG0
theorem slG (hK : X.K = K := by rfl) : SlR X (gSl K) := hK ▸ slG0
theorem cr_lenG (hK : X.K = K := by rfl) : CallR X (.builtin "len") (gLen K) := hK ▸ cr_lenG0
theorem cr_tupleG (hK : X.K = K := by rfl) : CallR X (.type "tuple") (gTuple K) := hK ▸ cr_tupleG0
theorem cr_listG (hK : X.K = K := by rfl) : CallR X (.type "list") (gList K) := hK ▸ cr_listG0
theorem cr_allG (hc : X.calm = true) (hK : X.K = K := by rfl) : CallR X (.builtin "all") (gAll K) := hK ▸ cr_allG0 hc
theorem cr_sumG (hc : X.calm = true) (hK : X.K = K := by rfl) : CallR X (.builtin "sum") (gSum K) := hK ▸ cr_sumG0 hc
theorem cr_isiG (k : Knd) (hK : X.K = K := by rfl) : CallR X (.builtin "isinstance") (fun vs H Q => tagOf (.ty k.nm) vs ∧ gIsi K k vs H Q) := hK ▸ cr_isiG0 k
theorem mt_joinG (hK : X.K = K := by rfl) : MtR X "str.join" (gJoin K) := hK ▸ mt_joinG0
variable {a e o : Expr} {es : List Expr} {ta to : TE} {pos p tpos apos cpos : Pos} {elts : List Expr} {kk : Nat} {t : TA} {T id : String} {name : Str} {r : RM}
theorem pt_truG (ha : PE X a ta) (hK : X.K = K := by rfl) (he : ∀ whole, isTrue a X.env whole = (do let v ← whole; standAt a.pos; holding [v] (truthy v)) := by intro _; rfl) : PT X a (gTru K ta) := hK ▸ pt_truG0 ha he
theorem pi_seqG {tg : Expr} (ha : PE X a ta) (hK : X.K = K := by rfl) : PI X tg a (gSeq K ta) := hK ▸ pi_seqG0 ha
theorem pi_enumG (hm : X.mg "enumerate" = none) (ha : PA X [e] t) (hK : X.K = K := by rfl) (hg : Gl X "enumerate" := by rfl) (hs : starEach [e] X.env = [(false, eval e X.env)] := by rfl) (hc : X.calm = true := by rfl) :
    PI X (.Tuple elts kk tpos) (.Call (.Name "enumerate" p) [e] [] pos) (gEnum K t) := hK ▸ pi_enumG0 hm ha hg hs hc
theorem pg_nm {es : List Expr} {is : List Nat} {k n : Nat} {t : TGs} (h : PGs X es t) (ht : ∀ xs σ H Q, (match is, xs with
    | [i, j], [x, y] => Q ((σ.set i (some x)).set j (some y)) H
    | [i, j, k], [x, y, z] => Q (((σ.set i (some x)).set j (some y)).set k (some z)) H
    | _, _ => False) → xs.length = n ∧ t xs σ H Q) (hK : X.K = K := by rfl) (hc : X.calm = true := by rfl)
    (hn : (assignEach es X.env).length = n := by rfl) (hst : (assignEach es X.env).findIdx? (·.1) = none := by rfl) : PG X (.Tuple es k pos) (gNm K is) := hK ▸ pg_nm0 h ht hc hn hst
/-- methods of built-in kinds -/
def gBM (K : PySem.W.Frag) (T : String) (r : RM) (to : TE) (t : TA) : TE := fun σ H Q => to σ H fun x H1 => tyV K T x H1 ∧ t σ H1 fun xs H2 => r x xs H2 Q
theorem pe_bmG (pa : PlainAttrs T) (slot : Slot T name id) (hty : typeOf (.builtin id) = pure (.type "method_descriptor")) (hm : MtR X id r) (ho : PE X o to) (ha : PA X (e :: es) t) (hK : X.K = K := by rfl)
    (hbase : attributeBase o name X.env (eval o X.env) = eval o X.env := by rfl)
    (hfew : ((backTo cpos (starEach (e :: es) X.env)).all (fun x => !x.1) && (backToKw cpos (keywordEach [] X.env)).all (fun x => x.1.isSome)
      && decide ((e :: es).length + ([] : List Keyword).length + (if ([] : List Keyword).isEmpty then 0 else 1) < 30)) = true := by rfl)
    (hline : (apos.endLine == cpos.line) = true := by rfl) (hs : starEach (e :: es) X.env = (false, eval e X.env) :: starEach es X.env := by rfl) (hplain : (backTo cpos (starEach es X.env)).any (·.1) = false := by rfl) :
    PE X (.Call (.Attribute o name apos) (e :: es) [] cpos) (gBM K T r to t) := hK ▸ pe_bm pa slot hty hm ho ha hbase hfew hline hs hplain
def gBM0 (K : PySem.W.Frag) (T : String) (r : RM) (to : TE) : TE := fun σ H Q => to σ H fun x H1 => tyV K T x H1 ∧ r x [] H1 Q
theorem pe_bm0G (pa : PlainAttrs T) (slot : Slot T name id) (hty : typeOf (.builtin id) = pure (.type "method_descriptor")) (hm : MtR X id r) (ho : PE X o to) (hK : X.K = K := by rfl)
    (hbase : attributeBase o name X.env (eval o X.env) = eval o X.env := by rfl) (hline : (apos.endLine == cpos.line) = true := by rfl) : PE X (.Call (.Attribute o name apos) [] [] cpos) (gBM0 K T r to) := hK ▸ pe_bm0 pa slot hty hm ho hbase hline
end
theorem iteB {c A B : Prop} [Decidable c] (h : (c → A) ∧ (¬ c → B)) : if c then A else B := by
  by_cases e : c
  · rw [if_pos e]; exact h.1 e
  · rw [if_neg e]; exact h.2 e
end Pk

namespace Pk
open PySem PySem.Spec PyProof.Rows L2
/-! ### x[::-1] of a list, of a text -/
theorem sliceBack (n : Nat) : Builtin.Str.strSliceIndices none none (-1) n = (List.range n).map fun k => n - 1 - k := by
  unfold Builtin.Str.strSliceIndices sliceRange
  simp only [show ¬ ((-1 : Int) > 0) by decide, if_false]
  by_cases h : n = 0
  · subst h; rfl
  · rw [if_pos (show ((n : Int) - 1) > -1 by omega)]
    have e : (((n : Int) - 1 - -1 - -1 - 1) / (- -1)).toNat = n := by
      rw [show ((n : Int) - 1 - -1 - -1 - 1) / (- -1) = (n : Int) by rw [show (- -1 : Int) = 1 by decide, Int.ediv_one]; omega]
      exact Int.toNat_natCast n
    rw [e]
    refine List.map_congr_left fun k hk => ?_
    rw [List.mem_range] at hk
    omega
theorem pick_back (l : List Nat) : ((List.range l.length).map fun k => l.length - 1 - k).filterMap (fun i => l[i]?) = l.reverse := by
  refine List.ext_getElem? fun i => ?_
  have e : ((List.range l.length).map fun k => l.length - 1 - k).filterMap (fun i => l[i]?) = (List.range l.length).map fun k => l.getD (l.length - 1 - k) 0 := by
    rw [List.filterMap_map]
    have : ∀ ks : List Nat, (∀ k ∈ ks, k < l.length) → ks.filterMap ((fun i => l[i]?) ∘ fun k => l.length - 1 - k) = ks.map fun k => l.getD (l.length - 1 - k) 0 := by
      intro ks
      induction ks with
      | nil => intro _; rfl
      | cons k r ih =>
        intro h
        have hk := h k (by simp)
        have e2 : l[l.length - 1 - k]? = some (l.getD (l.length - 1 - k) 0) := by
          rw [List.getD_eq_getElem?_getD, List.getElem?_eq_getElem (by omega)]; rfl
        rw [List.filterMap_cons]
        simp only [Function.comp, e2, List.map_cons]
        rw [← ih fun k hk => h k (by simp [hk])]
    exact this _ fun k hk => List.mem_range.mp hk
  rw [e]
  by_cases hi : i < l.length
  · rw [List.getElem?_map, List.getElem?_range hi, List.getElem?_reverse hi]
    show some (l.getD (l.length - 1 - i) 0) = _
    rw [List.getD_eq_getElem?_getD, List.getElem?_eq_getElem (by omega)]; rfl
  · rw [List.getElem?_eq_none (by simp; omega), List.getElem?_eq_none (by simp; omega)]
section
variable {X : Cx} {K : PySem.W.Frag}
def gRev (K : PySem.W.Frag) (te : TE) : TE := fun σ H Q => te σ H fun x H1 => match x with
  | .ref a => ∃ xs, SqL K H1 a xs ∧ ∀ p, H1 p = none → Q (.ref p) (upd H1 p (.lst xs.reverse))
  | .str z => (tl z).length ≤ 1000000 ∧ Q (.str (S (tl z).reverse)) H1
  | _ => False
theorem pe_revG0 {e : Expr} {te : TE} {k : Nat} {p1 p2 p3 pos : Pos} (he : PE X e te) : PE X (.Subscript e (.Slice none none (some (.UnaryOp .USub (.Constant (.int 1) k p1) p2)) p3) pos) (gRev X.K te) := by
  refine ⟨fun pins s σ H Q I h => ?_⟩
  refine Subscript_ (thn (he.run pins s σ H _ I h) fun v s1 ⟨x, H1, I1, r1, q1⟩ => ?_)
  have hst : PO X (some (.UnaryOp .USub (.Constant (.int 1) k p1) p2)) (tPart (tUn (rU fun i => .int (-i)) (tC (.int 1)))) := po_some (pe_un un_neg pe_int)
  refine wpAny_Slice (thn (po_none.run pins s1 σ H1 (fun o H2 => o = none ∧ H2 = H1) I1 ⟨rfl, rfl⟩) fun vl s2 ⟨l, H2, I2, pl, el, e2⟩ => ?_)
  subst el e2
  refine thn (po_none.run pins s2 σ H2 (fun o H3 => o = none ∧ H3 = H2) I2 ⟨rfl, rfl⟩) fun vu s3 ⟨u, H3, I3, pu, eu, e3⟩ => ?_
  subst eu e3
  refine thn (hst.run pins s3 σ H3 (fun o H4 => o = some (-1) ∧ H4 = H3) I3 ⟨1, rfl, -1, rfl, rfl, rfl⟩) fun vs s4 ⟨o, H4, I4, ps, eo, e4⟩ => ?_
  subst eo e4
  have I5 : Inv X pins σ H4 { s4 with heap := s4.heap.push { cls := .type "slice", data := .fields #[vl, vu, vs] } } := I4.kept (t' := s4.toks) fun b ob q => Heap.get?_push_of_some _ q
  cases x with
  | ref a =>
    obtain ⟨xs, hx, q⟩ := q1
    cases r1
    obtain ⟨its, r, ht, hz⟩ := I5.list hx
    have hlen := r.length
    show wpAny (model X.prog X.w) X.A (subscriptTail e (.Slice none none (some (.UnaryOp .USub (.Constant (.int 1) k p1) p2)) p3) (.ref a) (.ref s4.heap.objs.size)) (EP X pins σ Q) X.xe { s4 with heap := s4.heap.push { cls := .type "slice", data := .fields #[vl, vu, vs] } }
    refine tail_any (ops := [.ref a, .ref s4.heap.objs.size]) ht.isList.typeIs (PySem.slot_list_getitem.lookup) ?_ (by with_unfolding_all rfl)
    refine wpAny_getItem_list_slice ht.isList (Heap.IsSliceOf.new _ vl vu vs) pl pu ps (by decide) ?_ (by rw [List.size_toArray]; omega)
    rw [PySem.W.krv_pick]
    refine ⟨.ref _, _, I5.laid (t' := s4.toks) (o := .lst xs.reverse) (fun b ob q => Heap.get?_push_of_some _ q) (Nat.le_refl _) ?_, rfl, q _ (I5.hok.fresh (Nat.le_refl _))⟩
    exact ⟨by rw [List.length_reverse]; exact hz, _, 0, r.reverse, Heap.get?_push_size _ rfl⟩
  | str z =>
    obtain ⟨t, rfl⟩ := r1
    obtain ⟨hz, q⟩ := q1
    have evs : ∃ tk, vs = .int (-1) tk := by cases ps; exact ⟨_, rfl⟩
    obtain ⟨tk, rfl⟩ := evs
    have evl : vl = .none := by cases pl; rfl
    have evu : vu = .none := by cases pu; rfl
    subst evl evu
    show wpAny (model X.prog X.w) X.A (subscriptTail e (.Slice none none (some (.UnaryOp .USub (.Constant (.int 1) k p1) p2)) p3) (.str z t) (.ref s4.heap.objs.size)) (EP X pins σ Q) X.xe { s4 with heap := s4.heap.push { cls := .type "slice", data := .fields #[.none, .none, .int (-1) tk] } }
    refine tail_any (ops := [.str z t, .ref s4.heap.objs.size]) (typeIs_str _ _ _) (F.slot_str_getitem.lookup) ?_ (by with_unfolding_all rfl)
    refine wpAny_getItem_str_slice (l := none) (u := none) (st := some (-1, tk)) ⟨_, Heap.get?_push_size _ rfl, rfl, rfl⟩ rfl ?_
    have ep : slicePicked z none none (some (-1, tk)) = (List.range (tl z).length).map fun k => (tl z).length - 1 - k := by
      show Builtin.Str.strSliceIndices none none (-1) z.length = _
      rw [sliceBack, len_S]
    have em : sliceMade z t none none (some (-1, tk)) = .str (S (tl z).reverse) := by
      unfold sliceMade
      rw [if_neg (by simp), ep]
      have e3 : ((List.range (tl z).length).map fun k => (tl z).length - 1 - k).filterMap (fun i => z.cps[i]?) = (tl z).reverse := by
        rw [← pick_back (tl z)]
        congr 1
        funext i
        simp
      rw [e3]
    rw [em]
    exact ⟨by rw [len_S, tl_S, List.length_reverse]; exact Nat.le_trans hz line6, .str _, H4, I5.tok _, ⟨_, rfl⟩, q⟩
  | _ => exact q1.elim
theorem pe_revG {e : Expr} {te : TE} {k : Nat} {p1 p2 p3 pos : Pos} (he : PE X e te) (hK : X.K = K := by rfl) : PE X (.Subscript e (.Slice none none (some (.UnaryOp .USub (.Constant (.int 1) k p1) p2)) p3) pos) (gRev K te) := hK ▸ pe_revG0 he
end
end Pk

namespace Pk
open PySem PySem.Spec PyProof.Rows L2
/-! ### zip -/
theorem addNe {b : Addr} {i j : Nat} (h : i ≠ j) : (b + i : Addr) ≠ (b + j : Addr) := fun z => h (Nat.add_left_cancel z)
theorem addNeL {b : Addr} {i : Nat} (h : i ≠ 0) : (b + i : Addr) ≠ b := fun z => h (Nat.add_left_cancel (k := 0) z)
theorem addNeR {b : Addr} {i : Nat} (h : i ≠ 0) : b ≠ (b + i : Addr) := fun z => addNeL h z.symm
/-- what zip takes: a text, a tuple, a list -/
inductive Src
  | txt (x : Str)
  | tup (t : Addr) (xs : List V)
  | lst (t : Addr) (xs : List V)
def Src.items : Src → List V
  | .txt x => sgs x
  | .tup _ xs => xs
  | .lst _ xs => xs
def Src.ok (K : PySem.W.Frag) (H : Hp) : Src → Prop
  | .txt _ => True
  | .tup t xs => SqT K H t xs
  | .lst t xs => SqL K H t xs
def Src.of (v : V) : Src → Prop
  | .txt x => v = .str x
  | .tup t _ => v = .ref t
  | .lst t _ => v = .ref t
def Src.at (h : Heap) (it : Addr) (i : Nat) : Src → Prop
  | .txt x => ∃ tk, h.IsStrIter it (strIterType x) x tk i
  | .tup t _ => h.IsTupleIter it t i
  | .lst t _ => h.IsListIter it t i
def Src.fp (it : Addr) : Src → List Addr
  | .txt _ => [it]
  | .tup t _ => [it, t]
  | .lst t _ => [it, t]
def Src.off (b : Addr) : Src → Prop
  | .txt _ => True
  | .tup t _ => t ≠ b
  | .lst t _ => t ≠ b
theorem Src.off_fp {S : Src} {it b : Addr} (h : S.off b) (h2 : b ≠ it) : b ∉ S.fp it := by
  cases S with
  | txt x => intro z; exact h2 (List.mem_singleton.mp z)
  | tup t xs =>
    intro z
    have z' : b = it ∨ b = t := by simpa [Src.fp] using z
    rcases z' with z | z
    · exact h2 z
    · exact h z.symm
  | lst t xs =>
    intro z
    have z' : b = it ∨ b = t := by simpa [Src.fp] using z
    rcases z' with z | z
    · exact h2 z
    · exact h z.symm
theorem Src.it_fp {S : Src} {it : Addr} : it ∈ S.fp it := by cases S <;> simp [Src.fp]
theorem Src.at_obj {S : Src} {h : Heap} {it : Addr} {i : Nat} (st : S.at h it i) : ∃ o, h.get? it = some o ∧ ∀ v, o.data ≠ .cell v := by
  cases S with
  | txt x => obtain ⟨tk, o, ho, hc, hd⟩ := st; exact ⟨o, ho, fun v q => by rw [hd] at q; cases q⟩
  | tup t xs => obtain ⟨o, ho, hc, hd⟩ := st; exact ⟨o, ho, fun v q => by rw [hd] at q; cases q⟩
  | lst t xs => obtain ⟨o, ho, hc, hd⟩ := st; exact ⟨o, ho, fun v q => by rw [hd] at q; cases q⟩
theorem Src.at_keep {S : Src} {h h' : Heap} {it : Addr} {i : Nat} (st : S.at h it i) (k : ∀ o, h.get? it = some o → h'.get? it = some o) : S.at h' it i := by
  cases S with
  | txt x => obtain ⟨tk, o, ho, r⟩ := st; exact ⟨tk, o, k o ho, r⟩
  | tup t xs => obtain ⟨o, ho, r⟩ := st; exact ⟨o, k o ho, r⟩
  | lst t xs => obtain ⟨o, ho, r⟩ := st; exact ⟨o, k o ho, r⟩
theorem Src.drawsA {X : Cx} {pins : List (Addr × Obj)} {s : Shared} {σ : L2.St} {H : Hp} {it : Addr} {i : Nat} (S : Src) (I : Inv X pins σ H s) {A' : Around} (hh : A'.handled = none) (g : S.ok X.K H) (ho : S.off it) (st : S.at s.heap it i) :
    ∃ P St, Draws X.prog X.w A' it (S.fp it) S.items.length P St ∧ (∀ j v, P j v → ∃ y, S.items[j]? = some y ∧ RelV y v) ∧ St i s.heap ∧ (∀ j h, St j h → S.at h it j) := by
  cases S with
  | txt x =>
    obtain ⟨tk, st⟩ := st
    have D := Draws.text (prog := X.prog) (w := X.w) (A := A') hh it x tk
    have hlen : x.cps.size = (Src.txt x).items.length := by show _ = (sgs x).length; unfold sgs; simp
    rw [hlen] at D
    refine ⟨_, _, D, fun j v hv => ?_, st, fun j h st => ⟨tk, st⟩⟩
    obtain ⟨c, u, hx, rfl⟩ := hv
    have hx' : (tl x)[j]? = some c := by simpa using hx
    exact ⟨.str (Pk.S [c]), by show (sgs x)[j]? = _; unfold sgs; rw [List.getElem?_map, hx']; rfl, ⟨u, rfl⟩⟩
  | tup t xs =>
    obtain ⟨its, rv, ht, hz⟩ := I.tuple g
    have D := Draws.tuple (prog := X.prog) (w := X.w) (A := A') hh it t ho its.toArray
    have hlen : its.toArray.size = (Src.tup t xs).items.length := by rw [List.size_toArray]; exact rv.length.symm
    rw [hlen] at D
    refine ⟨_, _, D, fun j v hv => ?_, ⟨st, ht⟩, fun j h st => st.1⟩
    have hx' : its[j]? = some v := by simpa using hv
    have hj : j < xs.length := by rw [rv.length]; exact (List.getElem?_eq_some_iff.mp hx').1
    obtain ⟨u, hu, ru⟩ := rv.get (List.getElem?_eq_getElem hj)
    rw [hx'] at hu
    cases hu
    exact ⟨xs[j], List.getElem?_eq_getElem hj, ru⟩
  | lst t xs =>
    obtain ⟨its, rv, ⟨o, n, h1, h2, h3, h4⟩, hz⟩ := I.list g
    have ht : s.heap.IsList t its.toArray := ⟨o, h1, h2, n, h4⟩
    have D := Draws.list (prog := X.prog) (w := X.w) (A := A') hh it t ho its.toArray
    have hlen : its.toArray.size = (Src.lst t xs).items.length := by rw [List.size_toArray]; exact rv.length.symm
    rw [hlen] at D
    refine ⟨_, _, D, fun j v hv => ?_, ⟨st, ht⟩, fun j h st => st.1⟩
    have hx' : its[j]? = some v := by simpa using hv
    have hj : j < xs.length := by rw [rv.length]; exact (List.getElem?_eq_some_iff.mp hx').1
    obtain ⟨u, hu, ru⟩ := rv.get (List.getElem?_eq_getElem hj)
    rw [hx'] at hu
    cases hu
    exact ⟨xs[j], List.getElem?_eq_getElem hj, ru⟩
theorem Src.draws {X : Cx} {pins : List (Addr × Obj)} {s : Shared} {σ : L2.St} {H : Hp} {it : Addr} {i : Nat} (S : Src) (I : Inv X pins σ H s) (hc : X.calm = true) (g : S.ok X.K H) (ho : S.off it) (st : S.at s.heap it i) :
    ∃ P St, Draws X.prog X.w X.A.in1 it (S.fp it) S.items.length P St ∧ (∀ j v, P j v → ∃ y, S.items[j]? = some y ∧ RelV y v) ∧ St i s.heap ∧ (∀ j h, St j h → S.at h it j) := S.drawsA I (I.ok.hd hc) g ho st
/-- iter(v) -/
theorem Src.begins {X : Cx} {pins : List (Addr × Obj)} {s : Shared} {σ : L2.St} {H : Hp} {v : V} {u : Value} (S : Src) (I : Inv X pins σ H s) (e : S.of v) (r : RelV v u) (g : S.ok X.K H) :
    ∃ o G, Begins u o G ∧ G s.heap ∧ (∀ (h : Heap) (it : Addr), h.get? it = some o → S.at h it 0) ∧ ∀ b, s.heap.objs.size ≤ b → S.off b := by
  cases S with
  | txt x =>
    cases (show v = .str x from e)
    obtain ⟨tk, rfl⟩ := r
    exact ⟨_, _, begins_text x tk, trivial, fun h it ho => ⟨tk, _, ho, rfl, rfl⟩, fun _ _ => trivial⟩
  | tup t xs =>
    cases (show v = .ref t from e)
    cases r
    obtain ⟨its, rv, ht, hz⟩ := I.tuple g
    refine ⟨_, _, begins_tuple t its.toArray, ht, fun h it ho => ⟨_, ho, rfl, rfl⟩, fun b hb z => ?_⟩
    obtain ⟨o, ho, _⟩ := ht
    exact absurd (Heap.lt_size ho) (by rw [z]; exact Nat.not_lt.mpr hb)
  | lst t xs =>
    cases (show v = .ref t from e)
    cases r
    obtain ⟨its, rv, ⟨o, n, h1, h2, h3, h4⟩, hz⟩ := I.list g
    have ht : s.heap.IsList t its.toArray := ⟨o, h1, h2, n, h4⟩
    refine ⟨_, _, begins_list t its.toArray, ht, fun h it ho => ⟨_, ho, rfl, rfl⟩, fun b hb z => ?_⟩
    exact absurd (Heap.lt_size h1) (by rw [z]; exact Nat.not_lt.mpr hb)

def YZ3 (a b c : List V) : Nat → List V → Prop := fun i ys => ∃ x y z, a[i]? = some x ∧ b[i]? = some y ∧ c[i]? = some z ∧ ys = [x, y, z]
def YZ2 (a b : List V) : Nat → List V → Prop := fun i ys => ∃ x y, a[i]? = some x ∧ b[i]? = some y ∧ ys = [x, y]
theorem turn_zip3 {P : Program} {w : World} {K : PySem.W.Frag} {elts : List Expr} {kk : Nat} {tpos : Pos} (S1 S2 S3 : Src) (b0 : Addr) (h1 : ∀ b, b0 ≤ b → S1.off b) (h2 : ∀ b, b0 ≤ b → S2.off b) (h3 : ∀ b, b0 ≤ b → S3.off b) :
    Turn P w K (.Tuple elts kk tpos) (Jt (min (min S1.items.length S2.items.length) S3.items.length) (fun H => S1.ok K H ∧ S2.ok K H ∧ S3.ok K H) (YZ3 S1.items S2.items S3.items)) [b0 + 5, b0 + 3, b0 + 4, b0, b0 + 1, b0 + 2] (b0 + 5)
      (fun i h => i ≤ min (min S1.items.length S2.items.length) S3.items.length ∧ IsZip h (b0 + 5) (b0 + 3) (b0 + 4) .none ∧ IsTupOf3 h (b0 + 3) (.ref b0) (.ref (b0 + 1)) (.ref (b0 + 2)) ∧ (∃ a1 a2 a3, IsTupOf3 h (b0 + 4) a1 a2 a3) ∧ S1.at h b0 i ∧ S2.at h (b0 + 1) i ∧ S3.at h (b0 + 2) i) := by
  refine turn_wt (b0 + 5) [b0 + 5, b0 + 3, b0 + 4, b0, b0 + 1, b0 + 2] (min (min S1.items.length S2.items.length) S3.items.length) _ _ _ (by simp) (fun i h st b hb => ?_) (fun i h h' st k => ?_) (fun i h st => st.1) (fun X pins s σ H i hP hw hK hc I hg st => ?_) (fun A i s Q E st h => ?_)
  · obtain ⟨_, hz, hTI, ⟨a1, a2, a3, hTO⟩, st1, st2, st3⟩ := st
    have e' : b = b0 + 5 ∨ b = b0 + 3 ∨ b = b0 + 4 ∨ b = b0 ∨ b = b0 + 1 ∨ b = b0 + 2 := by simpa using hb
    rcases e' with z | z | z | z | z | z
    · rw [z]; exact ⟨_, hz, fun v q => nomatch q⟩
    · rw [z]; exact ⟨_, hTI, fun v q => nomatch q⟩
    · rw [z]; exact ⟨_, hTO, fun v q => nomatch q⟩
    · rw [z]; exact Src.at_obj st1
    · rw [z]; exact Src.at_obj st2
    · rw [z]; exact Src.at_obj st3
  · obtain ⟨hi, hz, hTI, ⟨a1, a2, a3, hTO⟩, st1, st2, st3⟩ := st
    exact ⟨hi, k _ (by simp) _ hz, k _ (by simp) _ hTI, ⟨a1, a2, a3, k _ (by simp) _ hTO⟩, Src.at_keep st1 (k _ (by simp)), Src.at_keep st2 (k _ (by simp)), Src.at_keep st3 (k _ (by simp))⟩
  · subst hP hw hK
    obtain ⟨hi, hz, hTI, hTO, st1, st2, st3⟩ := st
    obtain ⟨g1, g2, g3⟩ := hg
    obtain ⟨P1, T1, D1, v1, s1, t1⟩ := S1.draws I hc g1 (h1 _ (Nat.le_refl _)) st1
    obtain ⟨P2, T2, D2, v2, s2, t2⟩ := S2.draws I hc g2 (h2 (b0 + 1) (Nat.le_add_right _ _)) st2
    obtain ⟨P3, T3, D3, v3, s3, t3⟩ := S3.draws I hc g3 (h3 (b0 + 2) (Nat.le_add_right _ _)) st3
    have sep : ZipSep3 (b0 + 5) (b0 + 3) (b0 + 4) b0 (b0 + 1) (b0 + 2) (S1.fp b0) (S2.fp (b0 + 1)) (S3.fp (b0 + 2)) := ⟨by first | exact addNe (by decide) | exact addNeL (by decide) | exact addNeR (by decide), by first | exact addNe (by decide) | exact addNeL (by decide) | exact addNeR (by decide), by first | exact addNe (by decide) | exact addNeL (by decide) | exact addNeR (by decide), by first | exact addNe (by decide) | exact addNeL (by decide) | exact addNeR (by decide), Src.it_fp, Src.off_fp (h1 _ (by first | exact Nat.le_refl _ | exact Nat.le_add_right _ _)) (by first | exact addNe (by decide) | exact addNeL (by decide) | exact addNeR (by decide)), Src.off_fp (h1 _ (by first | exact Nat.le_refl _ | exact Nat.le_add_right _ _)) (by first | exact addNe (by decide) | exact addNeL (by decide) | exact addNeR (by decide)),
      by first | exact addNe (by decide) | exact addNeL (by decide) | exact addNeR (by decide), Src.it_fp, Src.off_fp (h2 _ (by first | exact Nat.le_refl _ | exact Nat.le_add_right _ _)) (by first | exact addNe (by decide) | exact addNeL (by decide) | exact addNeR (by decide)), Src.off_fp (h2 _ (by first | exact Nat.le_refl _ | exact Nat.le_add_right _ _)) (by first | exact addNe (by decide) | exact addNeL (by decide) | exact addNeR (by decide)), by first | exact addNe (by decide) | exact addNeL (by decide) | exact addNeR (by decide), Src.it_fp, Src.off_fp (h3 _ (by first | exact Nat.le_refl _ | exact Nat.le_add_right _ _)) (by first | exact addNe (by decide) | exact addNeL (by decide) | exact addNeR (by decide)), Src.off_fp (h3 _ (by first | exact Nat.le_refl _ | exact Nat.le_add_right _ _)) (by first | exact addNe (by decide) | exact addNeL (by decide) | exact addNeR (by decide)),
      Src.off_fp (h2 _ (by first | exact Nat.le_refl _ | exact Nat.le_add_right _ _)) (by first | exact addNe (by decide) | exact addNeL (by decide) | exact addNeR (by decide)), Src.off_fp (h3 _ (by first | exact Nat.le_refl _ | exact Nat.le_add_right _ _)) (by first | exact addNe (by decide) | exact addNeL (by decide) | exact addNeR (by decide)), Src.off_fp (h1 _ (by first | exact Nat.le_refl _ | exact Nat.le_add_right _ _)) (by first | exact addNe (by decide) | exact addNeL (by decide) | exact addNeR (by decide)), Src.off_fp (h3 _ (by first | exact Nat.le_refl _ | exact Nat.le_add_right _ _)) (by first | exact addNe (by decide) | exact addNeL (by decide) | exact addNeR (by decide)), Src.off_fp (h1 _ (by first | exact Nat.le_refl _ | exact Nat.le_add_right _ _)) (by first | exact addNe (by decide) | exact addNeL (by decide) | exact addNeR (by decide)), Src.off_fp (h2 _ (by first | exact Nat.le_refl _ | exact Nat.le_add_right _ _)) (by first | exact addNe (by decide) | exact addNeL (by decide) | exact addNeR (by decide))⟩
    refine ⟨_, _, _, _, _, WalksT.zipD3 sep D1 D2 D3, fun b hb => ?_, ⟨hz, hTI, hTO, s1, s2, s3⟩, fun j h hj hs => ⟨hj, hs.1, hs.2.1, hs.2.2.1, t1 _ _ hs.2.2.2.1, t2 _ _ hs.2.2.2.2.1, t3 _ _ hs.2.2.2.2.2⟩, fun j vals hv => ?_⟩
    · have e' : b = b0 + 5 ∨ b = b0 + 4 ∨ b = b0 ∨ b = b0 + 1 ∨ b = b0 + 2 := by simpa using hb
      rcases e' with z | z | z | z | z <;> simp [z]
    · obtain ⟨x1, x2, x3, p1, p2, p3, rfl⟩ := hv
      obtain ⟨y1, e1, r1⟩ := v1 j x1 p1
      obtain ⟨y2, e2, r2⟩ := v2 j x2 p2
      obtain ⟨y3, e3, r3⟩ := v3 j x3 p3
      exact ⟨[y1, y2, y3], .cons r1 (.cons r2 (.cons r3 .nil)), ⟨_, _, _, e1, e2, e3, rfl⟩, by show 3 ≤ 1000; decide⟩
  · obtain ⟨_, hz, _⟩ := st
    exact wpAny_pyIter_zip hz h
theorem turn_zip2 {P : Program} {w : World} {K : PySem.W.Frag} {elts : List Expr} {kk : Nat} {tpos : Pos} (S1 S2 : Src) (b0 : Addr) (h1 : ∀ b, b0 ≤ b → S1.off b) (h2 : ∀ b, b0 ≤ b → S2.off b) :
    Turn P w K (.Tuple elts kk tpos) (Jt (min S1.items.length S2.items.length) (fun H => S1.ok K H ∧ S2.ok K H) (YZ2 S1.items S2.items)) [b0 + 4, b0 + 2, b0 + 3, b0, b0 + 1] (b0 + 4)
      (fun i h => i ≤ min S1.items.length S2.items.length ∧ IsZip h (b0 + 4) (b0 + 2) (b0 + 3) .none ∧ IsTupOf2 h (b0 + 2) (.ref b0) (.ref (b0 + 1)) ∧ (∃ a1 a2, IsTupOf2 h (b0 + 3) a1 a2) ∧ S1.at h b0 i ∧ S2.at h (b0 + 1) i) := by
  refine turn_wt (b0 + 4) [b0 + 4, b0 + 2, b0 + 3, b0, b0 + 1] (min S1.items.length S2.items.length) _ _ _ (by simp) (fun i h st b hb => ?_) (fun i h h' st k => ?_) (fun i h st => st.1) (fun X pins s σ H i hP hw hK hc I hg st => ?_) (fun A i s Q E st h => ?_)
  · obtain ⟨_, hz, hTI, ⟨a1, a2, hTO⟩, st1, st2⟩ := st
    have e' : b = b0 + 4 ∨ b = b0 + 2 ∨ b = b0 + 3 ∨ b = b0 ∨ b = b0 + 1 := by simpa using hb
    rcases e' with z | z | z | z | z
    · rw [z]; exact ⟨_, hz, fun v q => nomatch q⟩
    · rw [z]; exact ⟨_, hTI, fun v q => nomatch q⟩
    · rw [z]; exact ⟨_, hTO, fun v q => nomatch q⟩
    · rw [z]; exact Src.at_obj st1
    · rw [z]; exact Src.at_obj st2
  · obtain ⟨hi, hz, hTI, ⟨a1, a2, hTO⟩, st1, st2⟩ := st
    exact ⟨hi, k _ (by simp) _ hz, k _ (by simp) _ hTI, ⟨a1, a2, k _ (by simp) _ hTO⟩, Src.at_keep st1 (k _ (by simp)), Src.at_keep st2 (k _ (by simp))⟩
  · subst hP hw hK
    obtain ⟨hi, hz, hTI, hTO, st1, st2⟩ := st
    obtain ⟨g1, g2⟩ := hg
    obtain ⟨P1, T1, D1, v1, s1, t1⟩ := S1.draws I hc g1 (h1 _ (Nat.le_refl _)) st1
    obtain ⟨P2, T2, D2, v2, s2, t2⟩ := S2.draws I hc g2 (h2 (b0 + 1) (Nat.le_add_right _ _)) st2
    have sep : ZipSep2 (b0 + 4) (b0 + 2) (b0 + 3) b0 (b0 + 1) (S1.fp b0) (S2.fp (b0 + 1)) := ⟨by first | exact addNe (by decide) | exact addNeL (by decide) | exact addNeR (by decide), by first | exact addNe (by decide) | exact addNeL (by decide) | exact addNeR (by decide), by first | exact addNe (by decide) | exact addNeL (by decide) | exact addNeR (by decide), by first | exact addNe (by decide) | exact addNeL (by decide) | exact addNeR (by decide), Src.it_fp, Src.off_fp (h1 _ (by first | exact Nat.le_refl _ | exact Nat.le_add_right _ _)) (by first | exact addNe (by decide) | exact addNeL (by decide) | exact addNeR (by decide)), Src.off_fp (h1 _ (by first | exact Nat.le_refl _ | exact Nat.le_add_right _ _)) (by first | exact addNe (by decide) | exact addNeL (by decide) | exact addNeR (by decide)),
      by first | exact addNe (by decide) | exact addNeL (by decide) | exact addNeR (by decide), Src.it_fp, Src.off_fp (h2 _ (by first | exact Nat.le_refl _ | exact Nat.le_add_right _ _)) (by first | exact addNe (by decide) | exact addNeL (by decide) | exact addNeR (by decide)), Src.off_fp (h2 _ (by first | exact Nat.le_refl _ | exact Nat.le_add_right _ _)) (by first | exact addNe (by decide) | exact addNeL (by decide) | exact addNeR (by decide)),
      Src.off_fp (h2 _ (by first | exact Nat.le_refl _ | exact Nat.le_add_right _ _)) (by first | exact addNe (by decide) | exact addNeL (by decide) | exact addNeR (by decide)), Src.off_fp (h1 _ (by first | exact Nat.le_refl _ | exact Nat.le_add_right _ _)) (by first | exact addNe (by decide) | exact addNeL (by decide) | exact addNeR (by decide))⟩
    refine ⟨_, _, _, _, _, WalksT.zipD2 sep D1 D2, fun b hb => ?_, ⟨hz, hTI, hTO, s1, s2⟩, fun j h hj hs => ⟨hj, hs.1, hs.2.1, hs.2.2.1, t1 _ _ hs.2.2.2.1, t2 _ _ hs.2.2.2.2⟩, fun j vals hv => ?_⟩
    · have e' : b = b0 + 4 ∨ b = b0 + 3 ∨ b = b0 ∨ b = b0 + 1 := by simpa using hb
      rcases e' with z | z | z | z <;> simp [z]
    · obtain ⟨x1, x2, p1, p2, rfl⟩ := hv
      obtain ⟨y1, e1, r1⟩ := v1 j x1 p1
      obtain ⟨y2, e2, r2⟩ := v2 j x2 p2
      exact ⟨[y1, y2], .cons r1 (.cons r2 .nil), ⟨_, _, e1, e2, rfl⟩, by show 2 ≤ 1000; decide⟩
  · obtain ⟨_, hz, _⟩ := st
    exact wpAny_pyIter_zip hz h
section
variable {X : Cx} {e e2 e3 : Expr} {ta : TA} {p pos tpos : Pos} {elts : List Expr} {kk : Nat}
def gZip3 (K : PySem.W.Frag) (ta : TA) : TI := fun σ H R => ta σ H fun vs H1 => ∃ (u1 u2 u3 : V) (S1 S2 S3 : Src), vs = [u1, u2, u3] ∧ (S1.of u1 ∧ S1.ok K H1) ∧ (S2.of u2 ∧ S2.ok K H1) ∧ (S3.of u3 ∧ S3.ok K H1) ∧
  R (Jt (min (min S1.items.length S2.items.length) S3.items.length) (fun H => S1.ok K H ∧ S2.ok K H ∧ S3.ok K H) (YZ3 S1.items S2.items S3.items)) H1
def gZip2 (K : PySem.W.Frag) (ta : TA) : TI := fun σ H R => ta σ H fun vs H1 => ∃ (u1 u2 : V) (S1 S2 : Src), vs = [u1, u2] ∧ (S1.of u1 ∧ S1.ok K H1) ∧ (S2.of u2 ∧ S2.ok K H1) ∧
  R (Jt (min S1.items.length S2.items.length) (fun H => S1.ok K H ∧ S2.ok K H) (YZ2 S1.items S2.items)) H1
theorem pi_zip3G0 (hm : X.mg "zip" = none) (ha : PA X [e, e2, e3] ta) (hg : Gl X "zip" := by rfl) (hs : starEach [e, e2, e3] X.env = (false, eval e X.env) :: starEach [e2, e3] X.env := by rfl) (hpl : (backTo pos (starEach [e2, e3] X.env)).any (·.1) = false := by rfl) :
    PI X (.Tuple elts kk tpos) (.Call (.Name "zip" p) [e, e2, e3] [] pos) (gZip3 X.K ta) := by
  refine ⟨fun pins s σ H R I h => ?_⟩
  refine Call_ (ld_blt I hg hm PyProof.Rows.boot_zip (PyProof.Rows.callWith_type1 (thn (ha.run pos pins s σ H _ I h) fun us s1 ⟨vs, H1, I1, r1, q1⟩ => ?_) hs hpl))
  obtain ⟨u1, u2, u3, S1, S2, S3, rfl, ⟨f1, k1⟩, ⟨f2, k2⟩, ⟨f3, k3⟩, q⟩ := q1
  cases r1 with
  | cons r1 rr =>
  cases rr with
  | cons r2 rr =>
  cases rr with
  | cons r3 rr =>
  cases rr
  obtain ⟨o1, G1, B1, g1, a1, n1⟩ := S1.begins I1 f1 r1 k1
  obtain ⟨o2, G2, B2, g2, a2, n2⟩ := S2.begins I1 f2 r2 k2
  obtain ⟨o3, G3, B3, g3, a3, n3⟩ := S3.begins I1 f3 r3 k3
  refine zip_begins3 B1 B2 B3 g1 g2 g3 fun h' hz hTI hTO h1 h2 h3 hsz hk => wpAny_pyIter_zip hz ?_
  have I2 : Inv X pins σ H1 { s1 with heap := h' } := I1.kept (t' := s1.toks) hk
  refine ⟨s1.heap.objs.size + 5, _, _, _, H1, rfl, I2, turn_zip3 S1 S2 S3 s1.heap.objs.size n1 n2 n3, ⟨Nat.zero_le _, hz, hTI, ⟨_, _, _, hTO⟩, a1 _ _ h1, a2 _ _ h2, a3 _ _ h3⟩, fun c hc => ?_, q⟩
  have e' : c = s1.heap.objs.size + 5 ∨ c = s1.heap.objs.size + 3 ∨ c = s1.heap.objs.size + 4 ∨ c = s1.heap.objs.size ∨ c = s1.heap.objs.size + 1 ∨ c = s1.heap.objs.size + 2 := by simpa using hc
  have hle : s1.heap.objs.size ≤ c := by
    rcases e' with z | z | z | z | z | z
    all_goals first | (rw [z]; exact Nat.le_add_right _ _) | (rw [z]; exact Nat.le_refl _)
  exact I1.fpOk hle (I1.hok.fresh hle)
theorem pi_zip2G0 (hm : X.mg "zip" = none) (ha : PA X [e, e2] ta) (hg : Gl X "zip" := by rfl) (hs : starEach [e, e2] X.env = (false, eval e X.env) :: starEach [e2] X.env := by rfl) (hpl : (backTo pos (starEach [e2] X.env)).any (·.1) = false := by rfl) :
    PI X (.Tuple elts kk tpos) (.Call (.Name "zip" p) [e, e2] [] pos) (gZip2 X.K ta) := by
  refine ⟨fun pins s σ H R I h => ?_⟩
  refine Call_ (ld_blt I hg hm PyProof.Rows.boot_zip (PyProof.Rows.callWith_type1 (thn (ha.run pos pins s σ H _ I h) fun us s1 ⟨vs, H1, I1, r1, q1⟩ => ?_) hs hpl))
  obtain ⟨u1, u2, S1, S2, rfl, ⟨f1, k1⟩, ⟨f2, k2⟩, q⟩ := q1
  cases r1 with
  | cons r1 rr =>
  cases rr with
  | cons r2 rr =>
  cases rr
  obtain ⟨o1, G1, B1, g1, a1, n1⟩ := S1.begins I1 f1 r1 k1
  obtain ⟨o2, G2, B2, g2, a2, n2⟩ := S2.begins I1 f2 r2 k2
  refine zip_begins2 B1 B2 g1 g2 fun h' hz hTI hTO h1 h2 hsz hk => wpAny_pyIter_zip hz ?_
  have I2 : Inv X pins σ H1 { s1 with heap := h' } := I1.kept (t' := s1.toks) hk
  refine ⟨s1.heap.objs.size + 4, _, _, _, H1, rfl, I2, turn_zip2 S1 S2 s1.heap.objs.size n1 n2, ⟨Nat.zero_le _, hz, hTI, ⟨_, _, hTO⟩, a1 _ _ h1, a2 _ _ h2⟩, fun c hc => ?_, q⟩
  have e' : c = s1.heap.objs.size + 4 ∨ c = s1.heap.objs.size + 2 ∨ c = s1.heap.objs.size + 3 ∨ c = s1.heap.objs.size ∨ c = s1.heap.objs.size + 1 := by simpa using hc
  have hle : s1.heap.objs.size ≤ c := by
    rcases e' with z | z | z | z | z
    all_goals first | (rw [z]; exact Nat.le_add_right _ _) | (rw [z]; exact Nat.le_refl _)
  exact I1.fpOk hle (I1.hok.fresh hle)
theorem pi_zip3G {K : PySem.W.Frag} (hm : X.mg "zip" = none) (ha : PA X [e, e2, e3] ta) (hK : X.K = K := by rfl) (hg : Gl X "zip" := by rfl) (hs : starEach [e, e2, e3] X.env = (false, eval e X.env) :: starEach [e2, e3] X.env := by rfl) (hpl : (backTo pos (starEach [e2, e3] X.env)).any (·.1) = false := by rfl) :
    PI X (.Tuple elts kk tpos) (.Call (.Name "zip" p) [e, e2, e3] [] pos) (gZip3 K ta) := hK ▸ pi_zip3G0 hm ha hg hs hpl
theorem pi_zip2G {K : PySem.W.Frag} (hm : X.mg "zip" = none) (ha : PA X [e, e2] ta) (hK : X.K = K := by rfl) (hg : Gl X "zip" := by rfl) (hs : starEach [e, e2] X.env = (false, eval e X.env) :: starEach [e2] X.env := by rfl) (hpl : (backTo pos (starEach [e2] X.env)).any (·.1) = false := by rfl) :
    PI X (.Tuple elts kk tpos) (.Call (.Name "zip" p) [e, e2] [] pos) (gZip2 K ta) := hK ▸ pi_zip2G0 hm ha hg hs hpl
end
end Pk

namespace Pk
open PySem PySem.Spec PyProof.Rows L2
/-! ### list(zip(a, b)) -/
abbrev ZipF (h : Heap) (z TI TO T : Addr) (f : Bool) : Prop :=
  h.get? z = some { cls := .type "zip", dict := none, data := .fields #[rawInt T, .bool f, .bool false, .ref TI, .ref TO], slots := #[] }
section
variable {prog : Program} {w : World} {A : Around} {E : Value → Shared → Prop} {s : Shared} {z TI TO i1 i2 T : Addr} {f : Bool} {fp1 fp2 : List Addr} {n1 n2 i : Nat} {P1 P2 : Nat → Value → Prop} {St1 St2 : Nat → Heap → Prop}
theorem owned_busy {oT : Obj} {Q : Bool → Shared → Prop} (hz : ZipF s.heap z TI TO T f) (hT : s.heap.get? T = some oT) (hQ : ∀ h', ZipF h' z TI TO T true → Heap.SameBut z s.heap h' → Q false { s with heap := h' }) :
    wpAny (model prog w) A (Builtin.SmallTypes.ownedTupleIsFree (.ref z)) Q E s := by
  obtain ⟨hp, g, d, tk0, os⟩ := s
  unfold Builtin.SmallTypes.ownedTupleIsFree
  refine wpAny_bind (wpAny_field hz rfl (x := rawInt T) rfl ?_)
  show wpAny _ _ (loadIfAlive ((T : Int).toNat) >>= _) _ _ _
  rw [Int.toNat_natCast]
  refine wpAny_bind (PySem.W.kdx_alive hT ?_)
  simp only [Option.isNone_some, Bool.false_eq_true, if_false]
  refine wpAny_bind (wpAny_field hz rfl (x := .bool f) rfl ?_)
  cases f with
  | true =>
    rw [if_neg (show ¬ ((Value.bool true != Value.bool true) = true) from Bool.false_ne_true)]
    exact wpAny_pure (hQ hp hz (Heap.SameBut.refl _ _))
  | false =>
    rw [if_pos (show (Value.bool false != Value.bool true) = true from rfl)]
    refine wpAny_bind (wpAny_setField_rec hz (by simp) fun h3 hz3 hs3 => ?_)
    replace hz3 : ZipF h3 z TI TO T true := hz3
    exact wpAny_pure (hQ h3 hz3 hs3)
theorem zip2_out_item {oT : Obj} {Q : Value → Shared → Prop} (S : ZipSep2 z TI TO i1 i2 fp1 fp2) (D1 : Draws prog w A i1 fp1 n1 P1 St1) (D2 : Draws prog w A i2 fp2 n2 P2 St2)
    (hz : ZipF s.heap z TI TO T f) (hT : s.heap.get? T = some oT) (hTI : IsTupOf2 s.heap TI (.ref i1) (.ref i2)) (st1 : St1 i s.heap) (st2 : St2 i s.heap) (hlt1 : i < n1) (hlt2 : i < n2)
    (hQ : ∀ x1 x2 h' tk, P1 i x1 → P2 i x2 → ZipF h' z TI TO T true → St1 (i + 1) h' → St2 (i + 1) h' → IsTupOf2 h' s.heap.objs.size x1 x2 →
      (∀ c o, c ≠ z → c ≠ i1 → c ≠ i2 → s.heap.get? c = some o → h'.get? c = some o) → Q (.ref s.heap.objs.size) { s with heap := h', toks := tk }) :
    wpAny (model prog w) A (Builtin.«zip.__next__» ⟨[.ref z], []⟩) (fun fin s' => ∃ v, fin = .done (.ret v) ∧ Q v s') E s := by
  obtain ⟨hp, g, d, tk0, os⟩ := s
  show wpAny _ _ (field (.ref z) 2 >>= _) _ _ _
  refine wpAny_bind (wpAny_field hz rfl (x := .bool false) rfl ?_)
  show wpAny _ _ (field (.ref z) 3 >>= _) _ _ _
  refine wpAny_bind (wpAny_field hz rfl (x := .ref TI) rfl ?_)
  refine wpAny_bind (wpAny_seqItems hTI rfl ?_)
  show wpAny _ _ (Builtin.SmallTypes.ownedTupleIsFree (.ref z) >>= _) _ _ _
  refine wpAny_bind (owned_busy hz hT fun g0 hz0 hs0 => ?_)
  replace hs0 : Heap.SameBut z hp g0 := hs0
  simp only [Bool.false_eq_true, if_false]
  refine wpAny_bind ?_
  simp only [← Array.forIn_toList, List.forIn_cons, List.forIn_nil]
  refine wpAny_bind (wpAny_bind (wpAny_holding ?_))
  show wpAny _ _ (Builtin.SmallTypes.nextOf (.ref i1) >>= _) _ _ ⟨g0, g, d, tk0, os⟩
  refine wpAny_bind (D1.item i _ _ _ hlt1 (D1.over st1 hs0 S.zf1) fun x1 p1 tk1 hx1 sn1 hp1 => wpAny_pure ?_)
  replace hp1 : Heap.SameBut i1 g0 p1 := hp1
  refine wpAny_pure ?_
  refine wpAny_bind (wpAny_bind (wpAny_holding ?_))
  show wpAny _ _ (Builtin.SmallTypes.nextOf (.ref i2) >>= _) _ _ ⟨p1, g, d, tk1, os⟩
  refine wpAny_bind (D2.item i _ _ _ hlt2 (D2.over (D2.over st2 hs0 S.zf2) hp1 S.sep1_2) fun x2 p2 tk2 hx2 sn2 hp2 => wpAny_pure ?_)
  replace hp2 : Heap.SameBut i2 p1 p2 := hp2
  refine wpAny_pure (wpAny_pure ?_)
  refine wpAny_bind (wpAny_newTuple (wpAny_pure ⟨_, rfl, ?_⟩) (hsz := by show 2 ≤ sizeLine; rw [sizeLine_eq]; decide))
  have hsz : p2.objs.size = hp.objs.size := by rw [hp2.1, hp1.1, hs0.1]
  have hzz : ZipF p2 z TI TO T true := hp2.extBut _ _ S.zi2 (hp1.extBut _ _ S.zi1 hz0)
  show Q (.ref p2.objs.size) ⟨p2.push { cls := .type "tuple", data := .seq #[x1, x2] }, g, d, tk2, os⟩
  have up : ∀ c o, p2.get? c = some o → (p2.push { cls := .type "tuple", data := .seq #[x1, x2] }).get? c = some o := fun c o e => Heap.get?_push_of_some _ e
  have hT2 : IsTupOf2 (p2.push { cls := .type "tuple", data := .seq #[x1, x2] }) p2.objs.size x1 x2 := Heap.get?_push_size _ rfl
  rw [hsz] at hT2 ⊢
  exact hQ x1 x2 _ tk2 hx1 hx2 (up _ _ hzz) (D1.frame _ _ _ (D1.over sn1 hp2 S.sep2_1) fun b _ o e => up b o e) (D2.frame _ _ _ sn2 fun b _ o e => up b o e) hT2
    fun c o cz c1 c2 e => up c o (hp2.extBut _ _ c2 (hp1.extBut _ _ c1 (hs0.extBut _ _ cz e)))
theorem zip2_out_end {oT : Obj} {Q : Fin → Shared → Prop} (S : ZipSep2 z TI TO i1 i2 fp1 fp2) (D1 : Draws prog w A i1 fp1 n1 P1 St1) (D2 : Draws prog w A i2 fp2 n2 P2 St2)
    (hz : ZipF s.heap z TI TO T f) (hT : s.heap.get? T = some oT) (hTI : IsTupOf2 s.heap TI (.ref i1) (.ref i2)) (st1 : St1 i s.heap) (st2 : St2 i s.heap) (hle1 : i ≤ n1) (hle2 : i ≤ n2) (hend : i = n1 ∨ i = n2)
    (hE : ∀ h' tk e, (∀ c o, c ≠ z → c ≠ i1 → c ≠ i2 → s.heap.get? c = some o → h'.get? c = some o) → (∃ o, h'.get? e = some o ∧ o.cls = .type "StopIteration") → E (.ref e) { s with heap := h', toks := tk }) :
    wpAny (model prog w) A (Builtin.«zip.__next__» ⟨[.ref z], []⟩) Q E s := by
  obtain ⟨hp, g, d, tk0, os⟩ := s
  show wpAny _ _ (field (.ref z) 2 >>= _) _ _ _
  refine wpAny_bind (wpAny_field hz rfl (x := .bool false) rfl ?_)
  show wpAny _ _ (field (.ref z) 3 >>= _) _ _ _
  refine wpAny_bind (wpAny_field hz rfl (x := .ref TI) rfl ?_)
  refine wpAny_bind (wpAny_seqItems hTI rfl ?_)
  show wpAny _ _ (Builtin.SmallTypes.ownedTupleIsFree (.ref z) >>= _) _ _ _
  refine wpAny_bind (owned_busy hz hT fun g0 hz0 hs0 => ?_)
  replace hs0 : Heap.SameBut z hp g0 := hs0
  simp only [Bool.false_eq_true, if_false]
  refine wpAny_bind ?_
  simp only [← Array.forIn_toList, List.forIn_cons, List.forIn_nil]
  refine wpAny_bind (wpAny_bind (wpAny_holding ?_))
  show wpAny _ _ (Builtin.SmallTypes.nextOf (.ref i1) >>= _) _ _ ⟨g0, g, d, tk0, os⟩
  by_cases hlt1 : i < n1
  · refine wpAny_bind (D1.item i _ _ _ hlt1 (D1.over st1 hs0 S.zf1) fun x1 p1 tk1 hx1 sn1 hp1 => wpAny_pure ?_)
    replace hp1 : Heap.SameBut i1 g0 p1 := hp1
    refine wpAny_pure ?_
    refine wpAny_bind (wpAny_bind (wpAny_holding ?_))
    show wpAny _ _ (Builtin.SmallTypes.nextOf (.ref i2) >>= _) _ _ ⟨p1, g, d, tk1, os⟩
    have hi2 : i = n2 := by omega
    refine wpAny_bind (D2.done ⟨p1, g, d, tk1, os⟩ _ _ (by rw [← hi2]; exact D2.over (D2.over st2 hs0 S.zf2) hp1 S.sep1_2) fun q e hq he => ?_)
    replace hq : Heap.ExtBut i2 p1 q := hq
    exact hE q tk1 e (fun c o cz c1 c2 x => hq _ _ c2 (hp1.extBut _ _ c1 (hs0.extBut _ _ cz x))) he
  · have hi1 : i = n1 := by omega
    refine wpAny_bind (D1.done ⟨g0, g, d, tk0, os⟩ _ _ (by rw [← hi1]; exact D1.over st1 hs0 S.zf1) fun q e hq he => ?_)
    replace hq : Heap.ExtBut i1 g0 q := hq
    exact hE q tk0 e (fun c o cz c1 c2 x => hq _ _ c1 (hs0.extBut _ _ cz x)) he
theorem pyNext_zip2_out_item {oT : Obj} {Q : Option Value → Shared → Prop} (S : ZipSep2 z TI TO i1 i2 fp1 fp2) (D1 : Draws prog w A.in1 i1 fp1 n1 P1 St1) (D2 : Draws prog w A.in1 i2 fp2 n2 P2 St2)
    (hz : ZipF s.heap z TI TO T f) (hT : s.heap.get? T = some oT) (hTI : IsTupOf2 s.heap TI (.ref i1) (.ref i2)) (st1 : St1 i s.heap) (st2 : St2 i s.heap) (hlt1 : i < n1) (hlt2 : i < n2)
    (hQ : ∀ x1 x2 h' tk, P1 i x1 → P2 i x2 → ZipF h' z TI TO T true → St1 (i + 1) h' → St2 (i + 1) h' → IsTupOf2 h' s.heap.objs.size x1 x2 →
      (∀ c o, c ≠ z → c ≠ i1 → c ≠ i2 → s.heap.get? c = some o → h'.get? c = some o) → Q (some (.ref s.heap.objs.size)) { s with heap := h', toks := tk }) :
    wpAny (model prog w) A (pyNext (.ref z)) Q E s := by
  have hTy : s.TypeIs (.ref z) "zip" := ⟨_, hz, rfl⟩
  unfold pyNext
  exact wpAny_bind (wpAny_attempt (wpAny_callSpecial?_slot (name := Str.ofString "__next__") hTy PySem.F.slot_zip_next
    (wpAny_call_entry PySem.F.slot_zip_next hTy PySem.F.entry_zip_next
      (zip2_out_item S D1 D2 hz hT hTI st1 st2 hlt1 hlt2 fun x1 x2 h' tk y1 y2 b1 d1 d2 b5 b7 => wpAny_pure (hQ x1 x2 h' tk y1 y2 b1 d1 d2 b5 b7)) (PySem.F.args_zip_next_1 _))))
theorem pyNext_zip2_out_end {oT : Obj} {Q : Option Value → Shared → Prop} (S : ZipSep2 z TI TO i1 i2 fp1 fp2) (D1 : Draws prog w A.in1 i1 fp1 n1 P1 St1) (D2 : Draws prog w A.in1 i2 fp2 n2 P2 St2)
    (hz : ZipF s.heap z TI TO T f) (hT : s.heap.get? T = some oT) (hTI : IsTupOf2 s.heap TI (.ref i1) (.ref i2)) (st1 : St1 i s.heap) (st2 : St2 i s.heap) (hle1 : i ≤ n1) (hle2 : i ≤ n2) (hend : i = n1 ∨ i = n2)
    (hQ : ∀ h' tk, (∀ c o, c ≠ z → c ≠ i1 → c ≠ i2 → s.heap.get? c = some o → h'.get? c = some o) → Q none { s with heap := h', toks := tk }) : wpAny (model prog w) A (pyNext (.ref z)) Q E s := by
  have hTy : s.TypeIs (.ref z) "zip" := ⟨_, hz, rfl⟩
  unfold pyNext
  refine wpAny_bind (wpAny_attempt (wpAny_callSpecial?_slot (name := Str.ofString "__next__") hTy PySem.F.slot_zip_next
    (wpAny_call_entry PySem.F.slot_zip_next hTy PySem.F.entry_zip_next (zip2_out_end S D1 D2 hz hT hTI st1 st2 hle1 hle2 hend fun h' tk e hk he => ?_) (PySem.F.args_zip_next_1 _))))
  obtain ⟨o, ho, hc⟩ := he
  refine wpAny_bind (wpAny_isInstance (T := "StopIteration") (b := true) ⟨o, ho, hc⟩ isSubtype_stop ?_)
  exact wpAny_pure (hQ _ _ hk)
end
/-! the list is filled -/
theorem zip_no_len : typeLookup (.type "zip") "__len__" = pure none := by rw [typeLookup_type, builtinLookup_eq_fast]; kernel_rfl
theorem zip_no_hint : typeLookup (.type "zip") "__length_hint__" = pure none := by rw [typeLookup_type, builtinLookup_eq_fast]; kernel_rfl
/-- the zip over S1 and S2 with its cells at b0.., i items drawn; T the tuple drawn last -/
structure ZAt (K : PySem.W.Frag) (S1 S2 : Src) (b0 : Addr) (h : Heap) (H : Hp) (i : Nat) : Prop where
  z : IsZip h (b0 + 4) (b0 + 2) (b0 + 3) .none ∨ ∃ T f xs, ZipF h (b0 + 4) (b0 + 2) (b0 + 3) T f ∧ H T = some (.tup xs)
  ti : IsTupOf2 h (b0 + 2) (.ref b0) (.ref (b0 + 1))
  to : ∃ a1 a2, IsTupOf2 h (b0 + 3) a1 a2
  s1 : S1.at h b0 i
  s2 : S2.at h (b0 + 1) i
/-- the tuples drawn -/
def ZAcc (S1 S2 : Src) (H : Hp) (acc : List V) : Prop := ∀ (j : Nat) (v : V), acc[j]? = some v → ∃ T x y, v = .ref T ∧ S1.items[j]? = some x ∧ S2.items[j]? = some y ∧ H T = some (.tup [x, y])
section
variable {X : Cx} {pins : List (Addr × Obj)} {σ : L2.St} {A1 : Around}
theorem Src.ok_upd {K : PySem.W.Frag} {S : Src} {H : Hp} {a : Addr} {o : HO} (h : S.ok K H) (hs : Same H (upd H a o)) : S.ok K (upd H a o) := by
  cases S with
  | txt x => trivial
  | tup t xs => exact hs.tup h
  | lst t xs => exact hs.seq h
theorem Src.ok_updB {K : PySem.W.Frag} {S : Src} {H : Hp} {a : Addr} {o : HO} (h : S.ok K H) (ho : S.off a) : S.ok K (upd H a o) := by
  cases S with
  | txt x => trivial
  | tup t xs =>
    rcases h with (h | ⟨o, h⟩) | h
    · exact .inl (.inl (by rw [upd_ne ho]; exact h))
    · exact .inl (.inr ⟨o, by rw [upd_ne ho]; exact h⟩)
    · exact .inr h
  | lst t xs =>
    rcases h with (h | ⟨o, h⟩) | h
    · exact .inl (.inl (by rw [upd_ne ho]; exact h))
    · exact .inl (.inr ⟨o, by rw [upd_ne ho]; exact h⟩)
    · exact .inr h
theorem zsep {S1 S2 : Src} {b0 : Addr} (h1 : ∀ b, b0 ≤ b → S1.off b) (h2 : ∀ b, b0 ≤ b → S2.off b) : ZipSep2 (b0 + 4) (b0 + 2) (b0 + 3) b0 (b0 + 1) (S1.fp b0) (S2.fp (b0 + 1)) := ⟨by first | exact addNe (by decide) | exact addNeL (by decide) | exact addNeR (by decide), by first | exact addNe (by decide) | exact addNeL (by decide) | exact addNeR (by decide), by first | exact addNe (by decide) | exact addNeL (by decide) | exact addNeR (by decide), by first | exact addNe (by decide) | exact addNeL (by decide) | exact addNeR (by decide), Src.it_fp, Src.off_fp (h1 _ (Nat.le_add_right _ _)) (by first | exact addNe (by decide) | exact addNeL (by decide) | exact addNeR (by decide)), Src.off_fp (h1 _ (Nat.le_add_right _ _)) (by first | exact addNe (by decide) | exact addNeL (by decide) | exact addNeR (by decide)),
      by first | exact addNe (by decide) | exact addNeL (by decide) | exact addNeR (by decide), Src.it_fp, Src.off_fp (h2 _ (Nat.le_add_right _ _)) (by first | exact addNe (by decide) | exact addNeL (by decide) | exact addNeR (by decide)), Src.off_fp (h2 _ (Nat.le_add_right _ _)) (by first | exact addNe (by decide) | exact addNeL (by decide) | exact addNeR (by decide)),
      Src.off_fp (h2 _ (Nat.le_refl _)) (by first | exact addNe (by decide) | exact addNeL (by decide) | exact addNeR (by decide)), Src.off_fp (h1 _ (Nat.le_add_right _ _)) (by first | exact addNe (by decide) | exact addNeL (by decide) | exact addNeR (by decide))⟩
variable {S1 S2 : Src} {b0 : Addr} {H : Hp} {s : Shared} {i : Nat}
abbrev zcells (b0 : Addr) : List Addr := [b0 + 4, b0 + 2, b0 + 3, b0, b0 + 1]
theorem zip_next (hh : A1.handled = none) (h1 : ∀ b, b0 ≤ b → S1.off b) (h2 : ∀ b, b0 ≤ b → S2.off b) (I : Inv X pins σ H s) (Z : ZAt X.K S1 S2 b0 s.heap H i) (hf : ∀ b ∈ zcells b0, FpOk X pins H b) (g1 : S1.ok X.K H) (g2 : S2.ok X.K H) {Q : Option Value → Shared → Prop} {E : Value → Shared → Prop}
    (hi : i < min S1.items.length S2.items.length)
    (hQ : ∀ h' tk y1 y2, S1.items[i]? = some y1 → S2.items[i]? = some y2 → H s.heap.objs.size = none → Inv X pins σ (upd H s.heap.objs.size (.tup [y1, y2])) { s with heap := h', toks := tk } → ZAt X.K S1 S2 b0 h' (upd H s.heap.objs.size (.tup [y1, y2])) (i + 1) → Q (some (.ref s.heap.objs.size)) { s with heap := h', toks := tk }) :
    wpAny (model X.prog X.w) A1 (pyNext (.ref (b0 + 4))) Q E s := by
  obtain ⟨hz, hTI, ⟨a1, a2, hTO⟩, st1, st2⟩ := Z
  obtain ⟨P1, T1, D1, v1, s1, t1⟩ := S1.drawsA I (A' := A1.in1) hh g1 (h1 _ (Nat.le_refl _)) st1
  obtain ⟨P2, T2, D2, v2, s2, t2⟩ := S2.drawsA I (A' := A1.in1) hh g2 (h2 (b0 + 1) (Nat.le_add_right _ _)) st2
  have hn : H s.heap.objs.size = none := I.hok.fresh (Nat.le_refl _)
  have sep := zsep h1 h2
  have hi1 : i < S1.items.length := Nat.lt_of_lt_of_le hi (Nat.min_le_left _ _)
  have hi2 : i < S2.items.length := Nat.lt_of_lt_of_le hi (Nat.min_le_right _ _)
  have fp4 : ∀ b ∈ [b0 + 4, b0 + 3, b0, b0 + 1], FpOk X pins H b := fun b hb => hf b (by
    have e' : b = b0 + 4 ∨ b = b0 + 3 ∨ b = b0 ∨ b = b0 + 1 := by simpa using hb
    rcases e' with z | z | z | z <;> simp [z])
  have newI : ∀ {h' : Heap} {tk : Nat} {x1 x2 : Value} {y1 y2 : V}, (∀ c o, c ∉ [b0 + 4, b0 + 3, b0, b0 + 1] → s.heap.get? c = some o → h'.get? c = some o) → RelV y1 x1 → RelV y2 x2 → IsTupOf2 h' s.heap.objs.size x1 x2 → Inv X pins σ (upd H s.heap.objs.size (.tup [y1, y2])) { s with heap := h', toks := tk } :=
    fun {h' tk x1 x2 y1 y2} hk r1 r2 hT => I.turnedNew (ch := [b0 + 4, b0 + 3, b0, b0 + 1]) hk fp4 (Nat.le_refl _) ⟨by show 2 ≤ sizeLine; rw [sizeLine_eq]; decide, [x1, x2], .cons r1 (.cons r2 .nil), ⟨_, hT, rfl, 0, rfl⟩⟩
  rcases hz with hz | ⟨T, f, xs, hz, hT⟩
  · refine wpAny_pyNext_zipD2_item sep D1 D2 hz hTI hTO s1 s2 hi1 hi2 fun x1 x2 h' tk p1 p2 b1 b2 d1 d2 b5 b6 hk => ?_
    obtain ⟨y1, e1, r1⟩ := v1 i x1 p1
    obtain ⟨y2, e2, r2⟩ := v2 i x2 p2
    have hk' : ∀ c o, c ∉ [b0 + 4, b0 + 3, b0, b0 + 1] → s.heap.get? c = some o → h'.get? c = some o := fun c o hc e => hk c o (fun q => hc (by simp [q])) (fun q => hc (by simp [q])) (fun q => hc (by simp [q])) (fun q => hc (by simp [q])) e
    exact hQ h' tk y1 y2 e1 e2 hn (newI hk' r1 r2 b5) ⟨.inr ⟨_, false, _, b1, upd_same⟩, hk _ _ sep.TIz sep.TITO sep.TIi1 sep.TIi2 hTI, ⟨_, _, b2⟩, t1 _ _ d1, t2 _ _ d2⟩
  · obtain ⟨_, its, rv, ⟨oT, hoT, _⟩⟩ := I.hok T _ hT
    have hTO' := hTO
    refine pyNext_zip2_out_item sep D1 D2 hz hoT hTI s1 s2 hi1 hi2 fun x1 x2 h' tk p1 p2 b1 d1 d2 b5 hk => ?_
    obtain ⟨y1, e1, r1⟩ := v1 i x1 p1
    obtain ⟨y2, e2, r2⟩ := v2 i x2 p2
    have hk' : ∀ c o, c ∉ [b0 + 4, b0 + 3, b0, b0 + 1] → s.heap.get? c = some o → h'.get? c = some o := fun c o hc e => hk c o (fun q => hc (by simp [q])) (fun q => hc (by simp [q])) (fun q => hc (by simp [q])) e
    exact hQ h' tk y1 y2 e1 e2 hn (newI hk' r1 r2 b5) ⟨.inr ⟨T, true, xs, b1, by rw [upd_ne (ne_of_none hT hn)]; exact hT⟩, hk _ _ sep.TIz sep.TIi1 sep.TIi2 hTI, ⟨_, _, hk _ _ sep.TOz sep.Ti1 sep.Ti2 hTO⟩, t1 _ _ d1, t2 _ _ d2⟩
theorem zip_stop (hh : A1.handled = none) (h1 : ∀ b, b0 ≤ b → S1.off b) (h2 : ∀ b, b0 ≤ b → S2.off b) (I : Inv X pins σ H s) (Z : ZAt X.K S1 S2 b0 s.heap H i) (hf : ∀ b ∈ zcells b0, FpOk X pins H b) (g1 : S1.ok X.K H) (g2 : S2.ok X.K H) {Q : Option Value → Shared → Prop} {E : Value → Shared → Prop}
    (hi : i = min S1.items.length S2.items.length)
    (hQ : ∀ h' tk, Inv X pins σ H { s with heap := h', toks := tk } → Q none { s with heap := h', toks := tk }) :
    wpAny (model X.prog X.w) A1 (pyNext (.ref (b0 + 4))) Q E s := by
  obtain ⟨hz, hTI, ⟨a1, a2, hTO⟩, st1, st2⟩ := Z
  obtain ⟨P1, T1, D1, v1, s1, t1⟩ := S1.drawsA I (A' := A1.in1) hh g1 (h1 _ (Nat.le_refl _)) st1
  obtain ⟨P2, T2, D2, v2, s2, t2⟩ := S2.drawsA I (A' := A1.in1) hh g2 (h2 (b0 + 1) (Nat.le_add_right _ _)) st2
  have sep := zsep h1 h2
  have hle1 : i ≤ S1.items.length := by rw [hi]; exact Nat.min_le_left _ _
  have hle2 : i ≤ S2.items.length := by rw [hi]; exact Nat.min_le_right _ _
  have hend : i = S1.items.length ∨ i = S2.items.length := by omega
  have fp4 : ∀ b ∈ [b0 + 4, b0 + 3, b0, b0 + 1], FpOk X pins H b := fun b hb => hf b (by
    have e' : b = b0 + 4 ∨ b = b0 + 3 ∨ b = b0 ∨ b = b0 + 1 := by simpa using hb
    rcases e' with z | z | z | z <;> simp [z])
  rcases hz with hz | ⟨T, f, xs, hz, hT⟩
  · exact wpAny_pyNext_zipD2_end sep D1 D2 hz hTI hTO s1 s2 hle1 hle2 hend fun h' tk hk => hQ h' tk (I.turnedL (ch := [b0 + 4, b0 + 3, b0, b0 + 1]) (fun c o hc e => hk c o (fun q => hc (by simp [q])) (fun q => hc (by simp [q])) (fun q => hc (by simp [q])) (fun q => hc (by simp [q])) e) fp4)
  · obtain ⟨_, its, rv, ⟨oT, hoT, _⟩⟩ := I.hok T _ hT
    exact pyNext_zip2_out_end sep D1 D2 hz hoT hTI s1 s2 hle1 hle2 hend fun h' tk hk => hQ h' tk (I.turnedL (ch := [b0 + 4, b0 + 3, b0, b0 + 1]) (fun c o hc e => hk c o (fun q => hc (by simp [q])) (fun q => hc (by simp [q])) (fun q => hc (by simp [q])) e) fp4)
theorem fp_upd {b a : Addr} {o : HO} (h : FpOk X pins H b) (hne : b ≠ a) : FpOk X pins (upd H a o) b := ⟨by rw [upd_ne hne]; exact h.1, h.2⟩
theorem ZAt.obj (Z : ZAt X.K S1 S2 b0 s.heap H i) : ∀ b ∈ zcells b0, ∃ o, s.heap.get? b = some o := fun b hb => by
  obtain ⟨hz, hTI, ⟨a1, a2, hTO⟩, st1, st2⟩ := Z
  have e' : b = b0 + 4 ∨ b = b0 + 2 ∨ b = b0 + 3 ∨ b = b0 ∨ b = b0 + 1 := by simpa using hb
  rcases e' with z | z | z | z | z
  · rw [z]
    rcases hz with hz | ⟨_, _, _, hz, _⟩
    · exact ⟨_, hz⟩
    · exact ⟨_, hz⟩
  · rw [z]; exact ⟨_, hTI⟩
  · rw [z]; exact ⟨_, hTO⟩
  · rw [z]; obtain ⟨o, h, _⟩ := Src.at_obj st1; exact ⟨o, h⟩
  · rw [z]; obtain ⟨o, h, _⟩ := Src.at_obj st2; exact ⟨o, h⟩
theorem ZAt.keep {h h' : Heap} {H' : Hp} (Z : ZAt X.K S1 S2 b0 h H i) (k : ∀ b ∈ zcells b0, ∀ o, h.get? b = some o → h'.get? b = some o) (hT : ∀ T xs, H T = some (.tup xs) → H' T = some (.tup xs)) : ZAt X.K S1 S2 b0 h' H' i := by
  obtain ⟨hz, hTI, ⟨a1, a2, hTO⟩, st1, st2⟩ := Z
  refine ⟨?_, k _ (by simp) _ hTI, ⟨a1, a2, k _ (by simp) _ hTO⟩, Src.at_keep st1 (k _ (by simp)), Src.at_keep st2 (k _ (by simp))⟩
  rcases hz with hz | ⟨T, f, xs, hz, h⟩
  · exact .inl (k _ (by simp) _ hz)
  · exact .inr ⟨T, f, xs, k _ (by simp) _ hz, hT _ _ h⟩
theorem zip_loop {H0 : Hp} {q : Addr} {Rs : Result → Shared → Prop} (hh : A1.handled = none) (h1 : ∀ b, b0 ≤ b → S1.off b) (h2 : ∀ b, b0 ≤ b → S2.off b) (q1 : S1.off q) (q2 : S2.off q) (hq0 : H0 q = none) (hn : min S1.items.length S2.items.length ≤ 1000)
    (hdone : ∀ acc H s, Inv X pins σ H s → Same H0 H → H q = some (.lst acc) → acc.length = min S1.items.length S2.items.length → ZAcc S1 S2 H acc → Rs (.ok (.ret .none)) s) :
    ∀ (k i : Nat) (acc : List V) (H : Hp) (s : Shared), min S1.items.length S2.items.length - i = k → i ≤ min S1.items.length S2.items.length → Inv X pins σ H s → Same H0 H → H q = some (.lst acc) → acc.length = i → ZAcc S1 S2 H acc → ZAt X.K S1 S2 b0 s.heap H i →
      (∀ b ∈ zcells b0, FpOk X pins H b) → S1.ok X.K H → S2.ok X.K H → codeAny (model X.prog X.w) A1 (.builtin "list.extend.loop" ⟨[.ref q, .ref (b0 + 4), .none], []⟩) Rs s := by
  intro k
  induction k with
  | zero =>
    intro i acc H s hk hi I s0 hq hl hA Z hf g1 g2
    refine codeAny_builtin PySem.F.entry_extend_loop ?_
    rw [Around.under_plainId PySem.F.plain_extend_loop _]
    show wpAny _ A1.in1 (pyNext (.ref (b0 + 4)) >>= _) _ _ s
    refine wpAny_bind (zip_stop (A1 := A1.in1) hh h1 h2 I Z hf g1 g2 (by omega) fun h' tk I' => wpAny_pure (hdone acc H _ I' s0 hq (by omega) hA))
  | succ k ih =>
    intro i acc H s hk hi I s0 hq hl hA Z hf g1 g2
    refine codeAny_builtin PySem.F.entry_extend_loop ?_
    rw [Around.under_plainId PySem.F.plain_extend_loop _]
    show wpAny _ A1.in1 (pyNext (.ref (b0 + 4)) >>= _) _ _ s
    refine wpAny_bind (zip_next (A1 := A1.in1) hh h1 h2 I Z hf g1 g2 (by omega) fun h' tk y1 y2 e1 e2 hTn I' Z' => ?_)
    generalize hTe : s.heap.objs.size = T at *
    show wpAny _ A1.in1 (updateSeq q (·.push (.ref T)) >>= _) _ _ _
    have hqT : q ≠ T := ne_of_none hq hTn
    have hq' : upd H T (.tup [y1, y2]) q = some (.lst acc) := by rw [upd_ne hqT]; exact hq
    obtain ⟨z, its, kn, r2, hl2, e⟩ := I'.lstM hq'
    refine wpAny_bind (wpAny_updateSeq e rfl (wpAny_pure ⟨plainId_quiet PySem.F.plain_extend_loop _, ?_⟩) (by rw [List.size_toArray]; omega) (by show (its.toArray.push (.ref T)).size ≤ sizeLine + 1; rw [Array.size_push, List.size_toArray]; omega))
    have hcell : ∀ b ∈ zcells b0, b ≠ T ∧ b ≠ q := fun b hb => ⟨fun z => by
      obtain ⟨o, ho⟩ := Z.obj b hb
      rw [z, ← hTe] at ho
      exact absurd (Heap.lt_size ho) (Nat.lt_irrefl _), fun z => by
      have := (hf b hb).1
      rw [z, hq] at this
      cases this⟩
    have hlen : (acc ++ [V.ref T]).length ≤ sizeLine := by
      rw [List.length_append, List.length_singleton]
      exact Nat.le_of_lt (small1000 (by omega))
    have sT : Same H (upd H T (.tup [y1, y2])) := same_upd hTn
    refine ih (i + 1) (acc ++ [.ref T]) _ _ (by omega) (by omega) (I'.lset (its' := its ++ [.ref T]) (t' := tk) hq' e (by simp) (r2.append (.cons (show L2.RelV (.ref T) (.ref T) from rfl) .nil)) hlen) ?_ upd_same (by rw [List.length_append, List.length_singleton]; omega) ?_ ?_ ?_ ?_ ?_
    · exact (s0.trans sT).at hq0
    · intro j v hv
      by_cases hj : j < acc.length
      · rw [List.getElem?_append_left hj] at hv
        obtain ⟨T', x, y, rfl, ex, ey, hT'⟩ := hA j v hv
        have : T' ≠ q := fun z => by rw [z, hq] at hT'; cases hT'
        exact ⟨T', x, y, rfl, ex, ey, by rw [upd_ne this]; exact sT _ _ hT'⟩
      · rw [List.getElem?_append_right (by omega)] at hv
        have ej : j - acc.length = 0 := by
          have := (List.getElem?_eq_some_iff.mp hv).1
          simp at this
          omega
        rw [ej] at hv
        cases hv
        have ej' : j = i := by omega
        subst ej'
        exact ⟨T, y1, y2, rfl, e1, e2, by rw [upd_ne hqT.symm]; exact upd_same⟩
    · refine Z'.keep (fun b hb o ho => (Heap.get?_update_other _ _ (Ne.symm (hcell b hb).2)).trans ho) fun T' xs hT' => ?_
      have : T' ≠ q := fun z => by rw [z, hq'] at hT'; cases hT'
      rw [upd_ne this]
      exact hT'
    · intro b hb
      exact fp_upd (fp_upd (hf b hb) (hcell b hb).1) (hcell b hb).2
    · exact Src.ok_updB (Src.ok_upd g1 sT) q1
    · exact Src.ok_updB (Src.ok_upd g2 sT) q2
/-- list(zip(e, e2)) -/
def gListZip (K : PySem.W.Frag) (ta : TA) : TE := fun σ H Q => ta σ H fun vs H1 => ∃ (u1 u2 : V) (S1 S2 : Src), vs = [u1, u2] ∧ (S1.of u1 ∧ S1.ok K H1) ∧ (S2.of u2 ∧ S2.ok K H1) ∧ min S1.items.length S2.items.length ≤ 1000 ∧
  ∀ q acc H', Same H1 H' → H1 q = none → H' q = some (.lst acc) → acc.length = min S1.items.length S2.items.length → ZAcc S1 S2 H' acc → Q (.ref q) H'
theorem pe_listZip0 {e e2 : Expr} {ta : TA} {p pos p2 pos2 : Pos} (hl : X.mg "list" = none) (hm : X.mg "zip" = none) (ha : PA X [e, e2] ta) (hc : X.calm = true) (hgl : Gl X "list" := by rfl) (hg : Gl X "zip" := by rfl)
    (hs1 : starEach [.Call (.Name "zip" p) [e, e2] [] pos] X.env = (false, eval (.Call (.Name "zip" p) [e, e2] [] pos) X.env) :: starEach [] X.env := by rfl)
    (hs : starEach [e, e2] X.env = (false, eval e X.env) :: starEach [e2] X.env := by rfl) (hpl : (backTo pos (starEach [e2] X.env)).any (·.1) = false := by rfl) :
    PE X (.Call (.Name "list" p2) [.Call (.Name "zip" p) [e, e2] [] pos] [] pos2) (gListZip X.K ta) := by
  refine ⟨fun pins s σ H Q I h => ?_⟩
  refine wpAny_Call_Name_kw (ld_blt I hgl hl bt_list ?_ (by decide) (by decide))
  refine PyProof.Rows.callWith_type1 ?_ hs1 rfl
  rw [hs1]
  show wpAny _ _ (spliced ((false, eval (.Call (.Name "zip" p) [e, e2] [] pos) X.env) :: backTo pos2 (starEach [] X.env))) _ _ s
  refine Calls.spliced_cons ?_
  refine wpAny_Call_Name_kw (ld_blt I hg hm PyProof.Rows.boot_zip ?_ (by decide) (by decide))
  refine PyProof.Rows.callWith_type1 (thn (ha.run pos pins s σ H _ I h) fun us s1 ⟨vs, H1, I1, r1, q1⟩ => ?_) hs hpl
  obtain ⟨u1, u2, S1, S2, rfl, ⟨f1, k1⟩, ⟨f2, k2⟩, hlen, q⟩ := q1
  cases r1 with
  | cons r1 rr =>
  cases rr with
  | cons r2 rr =>
  cases rr
  obtain ⟨o1, G1, B1, g1, a1, n1⟩ := S1.begins I1 f1 r1 k1
  obtain ⟨o2, G2, B2, g2, a2, n2⟩ := S2.begins I1 f2 r2 k2
  refine zip_begins2 B1 B2 g1 g2 fun h' hz hTI hTO h1 h2 hsz hk => ?_
  have I2 : Inv X pins σ H1 { s1 with heap := h' } := I1.kept (t' := s1.toks) hk
  have hf : ∀ b ∈ zcells s1.heap.objs.size, FpOk X pins H1 b := fun c hcm => by
    have e' : c = s1.heap.objs.size + 4 ∨ c = s1.heap.objs.size + 2 ∨ c = s1.heap.objs.size + 3 ∨ c = s1.heap.objs.size ∨ c = s1.heap.objs.size + 1 := by simpa using hcm
    have hle : s1.heap.objs.size ≤ c := by
      rcases e' with z | z | z | z | z
      all_goals first | (rw [z]; exact Nat.le_add_right _ _) | (rw [z]; exact Nat.le_refl _)
    exact I1.fpOk hle (I1.hok.fresh hle)
  have Z : ZAt X.K S1 S2 s1.heap.objs.size h' H1 0 := ⟨.inl hz, hTI, ⟨_, _, hTO⟩, a1 _ _ h1, a2 _ _ h2⟩
  refine Calls.spliced_nil ?_
  generalize s1.heap.objs.size = b0 at *
  have sz : b0 + 4 < h'.objs.size := Heap.lt_size hz
  have hcellq : ∀ b ∈ zcells b0, b ≠ h'.objs.size := fun b hb z => by
    obtain ⟨o, ho⟩ := ZAt.obj (s := { s1 with heap := h' }) Z b hb
    rw [z] at ho
    exact absurd (Heap.lt_size ho) (Nat.lt_irrefl _)
  have hfr : H1 h'.objs.size = none := I2.hok.fresh (Nat.le_refl _)
  have q1 : S1.off h'.objs.size := n1 _ (by exact Nat.le_trans (Nat.le_add_right _ 4) (Nat.le_of_lt sz))
  have q2 : S2.off h'.objs.size := n2 _ (by exact Nat.le_trans (Nat.le_add_right _ 4) (Nat.le_of_lt sz))
  refine callType_codes (Q₁ := fun obj s₁ => obj = .ref h'.objs.size ∧ s₁ = { s1 with heap := h'.push { cls := .type "list", data := .seq #[] } }) PySem.F.called_list (PySem.F.typeCall_list_1 _) PySem.F.entry_list_init
    (code_list_new _ ⟨rfl, rfl⟩) fun obj s₁ h₁ => ?_
  obtain ⟨rfl, rfl⟩ := h₁
  have hS : (h'.push { cls := .type "list", data := .seq #[] }).get? h'.objs.size = some { cls := .type "list", data := .seq #[] } := Heap.get?_push_size _ rfl
  refine ⟨⟨_, hS, rfl⟩, PySem.F.args_list_init_2 _ _, ?_⟩
  have I3 : Inv X pins σ (upd H1 h'.objs.size (.lst [])) { s1 with heap := h'.push { cls := .type "list", data := .seq #[] } } := I2.lnew (its := []) (t' := s1.toks) .nil (Nat.zero_le _)
  have Z3 : ZAt X.K S1 S2 b0 (h'.push { cls := .type "list", data := .seq #[] }) (upd H1 h'.objs.size (.lst [])) 0 := Z.keep (fun b _ o ho => Heap.get?_push_of_some _ ho) fun T xs hT => by
    rw [upd_ne (ne_of_none hT hfr)]; exact hT
  have hz3 : IsZip (h'.push { cls := .type "list", data := .seq #[] }) (b0 + 4) (b0 + 2) (b0 + 3) .none := Heap.get?_push_of_some _ hz
  generalize hqe : h'.objs.size = qq at *
  generalize h'.push { cls := .type "list", data := .seq #[] } = h3 at *
  show wpAny _ _ (do let old ← Builtin.List.listItems (.ref qq); Builtin.List.listUpdate (.ref qq) (fun _ => #[]); letGo old.toList.reverse; Builtin.List.listExtendWith (.ref qq) (.ref (b0 + 4)) .none) _ _ _
  refine wpAny_bind ?_
  unfold Builtin.List.listItems
  refine wpAny_bind (wpAny_seqItems hS rfl (wpAny_pure ?_))
  show wpAny _ _ (updateSeq qq (fun _ => #[]) >>= fun _ => letGo (#[] : Array Value).toList.reverse >>= fun _ => Builtin.List.listExtendWith (.ref qq) (.ref (b0 + 4)) .none) _ _ _
  refine wpAny_bind (wpAny_updateSeq hS rfl ?_)
  have I4 := I3.lset (f := fun _ => #[]) (its := []) (its' := []) (ys := []) (t' := s1.toks) upd_same hS rfl .nil (Nat.zero_le _)
  rw [upd_upd] at I4
  have upk : ∀ {h : Heap} {g : Array Value → Array Value} (b : Addr), b ∈ zcells b0 → ∀ o, h.get? b = some o → (h.update qq (Obj.mapSeq g)).get? b = some o := fun b hb o ho => (Heap.get?_update_other _ _ (Ne.symm (hcellq b hb))).trans ho
  have Z4 := Z3.keep (h' := h3.update qq (Obj.mapSeq fun _ => #[])) (H' := upd H1 qq (.lst [])) (fun b hb => upk b hb) fun T xs hT => hT
  have hz4 : IsZip (h3.update qq (Obj.mapSeq fun _ => #[])) (b0 + 4) (b0 + 2) (b0 + 3) .none := upk _ (by simp) _ hz3
  refine wpAny_bind (wpAny_letGo ?_)
  generalize h3.update qq (Obj.mapSeq fun _ => #[]) = h4 at *
  have hne : qq ≠ b0 + 4 := (hcellq (b0 + 4) (by simp)).symm
  have hT4 : Shared.TypeIs { s1 with heap := h4 } (.ref (b0 + 4)) "zip" := ⟨_, hz4, rfl⟩
  unfold Builtin.List.listExtendWith
  refine wpAny_bind (wpAny_typeOf hT4 ?_)
  have e1 : Builtin.List.listSameRef (.ref qq) (.ref (b0 + 4)) = false := by simp [Builtin.List.listSameRef, hne]
  have e2 : (Value.type "zip" == Value.type "list") = false := by decide
  have e3 : (Value.type "zip" == Value.type "tuple") = false := by decide
  simp only [e1, e2, e3, Bool.or_false, Bool.false_eq_true, if_false]
  refine wpAny_bind (wpAny_pyIter_zip hz4 ?_)
  refine wpAny_bind (wpAny_holding ?_)
  unfold Builtin.List.listLengthHint
  refine wpAny_bind (wpAny_specialOf hT4 zip_no_len ?_)
  show wpAny _ _ (specialOf (Value.ref (b0 + 4)) (Str.ofString "__length_hint__") >>= _) _ _ _
  refine wpAny_bind (wpAny_specialOf hT4 zip_no_hint ?_)
  refine wpAny_pure ?_
  show wpAny _ _ (rule "list.extend.makes-room" >>= fun _ => Builtin.List.listTouch (.ref qq) >>= fun _ =>
    again (.builtin "list.extend.loop" ⟨[.ref qq, .ref (b0 + 4), .none], []⟩)) _ _ _
  refine wpAny_bind (wpAny_rule ?_)
  refine wpAny_bind ?_
  show wpAny _ _ (updateSeq qq (·.push .none) >>= fun _ => updateSeq qq (·.pop)) _ _ _
  obtain ⟨zz, its, kk, r3, hl3, e3⟩ := I4.lstM upd_same
  cases r3
  refine wpAny_bind (wpAny_updateSeq e3 rfl ?_)
  have I5 := I4.lset (f := (·.push Value.none)) (its' := [Value.none]) (ys := [.non]) (t' := s1.toks) upd_same e3 (by simp) (.cons rfl .nil) (by rw [List.length_singleton, sizeLine_eq]; decide)
  have Z5 := Z4.keep (h' := h4.update qq (Obj.mapSeq (·.push Value.none))) (H' := upd H1 qq (.lst [])) (fun b hb => upk b hb) fun T xs hT => hT
  rw [upd_upd] at I5
  obtain ⟨z4, its4, k4, r4, hl4, e4⟩ := I5.lstM upd_same
  obtain ⟨u4, rfl, ru4⟩ := r4.one
  refine wpAny_updateSeq e4 rfl ?_ (by show 1 ≤ sizeLine; rw [sizeLine_eq]; decide) (by show 0 ≤ sizeLine + 1; exact Nat.zero_le _)
  have I6 := I5.lset (f := (·.pop)) (its := [u4]) (its' := []) (ys := []) (t' := s1.toks) upd_same e4 (by rfl) .nil (Nat.zero_le _)
  rw [upd_upd] at I6
  have Z6 := Z5.keep (h' := (h4.update qq (Obj.mapSeq (·.push Value.none))).update qq (Obj.mapSeq (·.pop))) (H' := upd H1 qq (.lst [])) (fun b hb => upk b hb) fun T xs hT => hT
  refine wpAny_pure ⟨plainId_quiet PySem.F.plain_extend_loop _, zip_loop (A1 := X.A.in1) (H0 := H1) (I.ok.hd hc) n1 n2 q1 q2 hfr hlen (fun acc H' s' I' s0 hq hl hA => ?_) _ 0 [] _ _ rfl (Nat.zero_le _) I6 (same_upd hfr) upd_same rfl (fun j v hv => by simp at hv) Z6 (fun b hb => fp_upd (hf b hb) (hcellq b hb)) (Src.ok_updB k1 q1) (Src.ok_updB k2 q2)⟩
  exact ⟨rfl, .ref qq, H', I', rfl, q qq acc H' s0 hfr hq hl hA⟩
theorem pe_listZip {K : PySem.W.Frag} {e e2 : Expr} {ta : TA} {p pos p2 pos2 : Pos} (hl : X.mg "list" = none) (hm : X.mg "zip" = none) (ha : PA X [e, e2] ta) (hK : X.K = K := by rfl) (hc : X.calm = true := by rfl) (hgl : Gl X "list" := by rfl) (hg : Gl X "zip" := by rfl)
    (hs1 : starEach [.Call (.Name "zip" p) [e, e2] [] pos] X.env = (false, eval (.Call (.Name "zip" p) [e, e2] [] pos) X.env) :: starEach [] X.env := by rfl)
    (hs : starEach [e, e2] X.env = (false, eval e X.env) :: starEach [e2] X.env := by rfl) (hpl : (backTo pos (starEach [e2] X.env)).any (·.1) = false := by rfl) :
    PE X (.Call (.Name "list" p2) [.Call (.Name "zip" p) [e, e2] [] pos] [] pos2) (gListZip K ta) := hK ▸ pe_listZip0 hl hm ha hc hgl hg hs1 hs hpl
end
end Pk

namespace Pk
open PySem PySem.Spec PyProof.Rows L2
section
variable {prog : Program} {w : World} {A : Around} {E : Value → Shared → Prop} {s : Shared} {l : Addr}
theorem sum_intTup {xs : Array (Int × Tok)} {Q : Value → Shared → Prop} (hh : A.handled = none) (hl : s.heap.IsTuple l (intItems xs))
    (h : ∀ h' tk t', (∀ b o, s.heap.get? b = some o → h'.get? b = some o) → Q (.int (preSum (numAt xs) xs.size) t') { s with heap := h', toks := tk }) :
    wpAny (model prog w) A (call (.builtin "sum") [.ref l]) Q E s := by
  have hlt : l < s.heap.objs.size := by
    obtain ⟨o, ho, _⟩ := hl
    exact Heap.lt_size ho
  refine call_sum_walkG (wpAny_pyIter_tuple hl ?_)
  refine ⟨_, [s.heap.objs.size, l], [s.heap.objs.size], _, _, _, numAt xs, rfl, Walks.tuple (A := A.in1) hh _ l (Nat.ne_of_lt hlt) (intItems xs), ⟨⟨_, Heap.get?_push_size _ rfl, rfl, rfl⟩, hl.push _⟩, ?_, (fun _ _ => intItems_at), fun h' tk t' hk => ?_⟩
  · intro b hb
    have e' : b = s.heap.objs.size ∨ b = l := by simpa using hb
    rw [Heap.size_push]
    rcases e' with z | z
    · rw [z]; exact Nat.lt_succ_self _
    · rw [z]; exact Nat.lt_succ_of_lt hlt
  have := h h' tk t' (fun b o e => hk b o (fun hm => by rw [List.mem_singleton.mp hm] at e; exact absurd (Heap.lt_size e) (Nat.lt_irrefl _)) (Heap.get?_push_of_some _ e))
  simpa [intItems] using this
theorem sum_rawT {its : List Value} {ns : List Int} {Q : Value → Shared → Prop} (hh : A.handled = none) (hl : s.heap.IsTuple l its.toArray) (hi : IntsAre its ns)
    (h : ∀ h' tk t', (∀ b o, s.heap.get? b = some o → h'.get? b = some o) → Q (.int ns.sum t') { s with heap := h', toks := tk }) : wpAny (model prog w) A (call (.builtin "sum") [.ref l]) Q E s := by
  obtain ⟨xs, e⟩ := hi.allInts.items
  have hn : numsOf (intItems xs).toList = ns := by rw [← e]; exact hi.numsOf
  rw [nums_intItems] at hn
  rw [e] at hl
  refine sum_intTup hh hl fun h' tk t' hk => ?_
  have := h h' tk t' hk
  rw [preSum_eq, List.take_of_length_le (by simp), hn]; exact this
end
section
variable {X : Cx} {K : PySem.W.Frag}
/-- sum of a list, a tuple of ints -/
def gSum2 (K : PySem.W.Frag) : RC := fun vs H Q => match vs with
  | [.ref p] => ∃ ns : List Int, (SqL K H p (ns.map V.int) ∨ SqT K H p (ns.map V.int)) ∧ Q (.int ns.sum) H
  | _ => False
theorem cr_sum2G0 (hc : X.calm = true := by rfl) : CallR X (.builtin "sum") (gSum2 X.K) := by
  intro pins s σ H xs us Q I r h
  unfold gSum2 at h
  split at h
  · obtain ⟨ys, h1 | h1, h2⟩ := h
    · exact cr_sum hc pins s σ H _ us Q I r ⟨_, ys, rfl, h1, h2⟩
    · obtain ⟨its, rv, hl, _⟩ := I.tuple h1
      rw [Vals.ref1 r]
      exact sum_rawT (I.ok.hd hc) hl rv.ints fun h' tk t' hk => ⟨.int _, H, I.kept hk, ⟨_, rfl⟩, h2⟩
  · exact h.elim
theorem cr_sumG2 (hc : X.calm = true) (hK : X.K = K := by rfl) : CallR X (.builtin "sum") (gSum2 K) := hK ▸ cr_sum2G0 hc
end
end Pk

namespace Pk
open PySem PySem.Spec PyProof.Rows L2
section
variable {J : It} {n : Nat} {G : Hp → Prop} {Y : Nat → Hp → V → Hp → Prop}
/-- a walk whose turns are told by B (the comprehension's outer and inner turns) -/
theorem out_it (w : Walk J n G Y) {B : (Hp → Prop) → V → Hp → Prop} {Qd : Hp → Prop} {Hs : Hp} (Pv : Nat → Hp → Prop) (h0 : Pv 0 Hs) (hG : ∀ i H, i ≤ n → Pv i H → G H)
    (hs : ∀ i x H H', i < n → Pv i H → Y i H x H' → B (Pv (i + 1)) x H') (hd : ∀ H, Pv n H → Qd H) :
    ∃ W : Nat → Nat → Hp → Prop, (∃ m, W 0 m Hs) ∧ ∀ i m H, W i m H → (J.stop i H ∧ Qd H) ∨ (J.go i H ∧ ∃ Nx : Hp → Prop, (∀ H', Nx H' → ∃ m', m' < m ∧ W (i + 1) m' H') ∧ ∀ x H', J.yld i H x H' → B Nx x H') := by
  refine ⟨fun i m H => m = n - i ∧ i ≤ n ∧ Pv i H, ⟨n, by simp, Nat.zero_le _, h0⟩, ?_⟩
  rintro i m H ⟨rfl, hi, p⟩
  have q := hG i H hi p
  by_cases hlt : i < n
  · exact .inr ⟨w.goes i H hlt q, Pv (i + 1), fun H' p' => ⟨n - (i + 1), by omega, rfl, hlt, p'⟩, fun x H' y => hs i x H H' hlt p (w.yields i H x H' hlt q y)⟩
  · have e : i = n := by omega
    subst e
    exact .inl ⟨w.stops H q, hd H p⟩
end
theorem g_ref {X : Cx} {x : Str} {a : Addr} {pos : Pos} (hm : X.mg x = some (.ref a)) (hg : Gl X x := by rfl) (hd : (x == ("__debug__" : Str)) = false := by decide) : PE X (.Name x pos) (tC (.ref a)) := pe_glob hg hm rfl hd
end Pk
namespace Pk
open PySem PySem.Spec PyProof.Rows L2
section
variable {X : Cx} {K : PySem.W.Frag}
theorem un65 {k : Nat} {A : Around} (r : Room k A) : A.units + 65 < cLine := by have := r.un; omega
theorem op_notInD (hu : X.A.units + 65 < cLine) (hK : X.K = K := by rfl) : OpR X (compareOp .NotIn) (rNotInD K) := hK ▸ L2.op_notInD hu
theorem op_inD (hu : X.A.units + 65 < cLine) (hK : X.K = K := by rfl) : OpR X (compareOp .In) (rInD K) := hK ▸ L2.op_inD hu
end
end Pk

namespace Pk
open PySem PySem.Spec PyProof.Rows L2
section
variable {X : Cx} {K : PySem.W.Frag}
/-- list of a list, a tuple, a text -/
def gList2 (K : PySem.W.Frag) : RC := fun vs H Q => match vs with
  | [.ref p] => ∃ ys, (SqL K H p ys ∨ SqT K H p ys) ∧ ∀ l, H l = none → Q (.ref l) (upd H l (.lst ys))
  | [.str x] => (tl x).length ≤ 1000 ∧ ∀ l, H l = none → Q (.ref l) (upd H l (.lst (sgs x)))
  | _ => False
theorem vals_of_get : ∀ {xs : List V} {us : List Value}, xs.length = us.length → (∀ (j : Nat) (x : V) (u : Value), xs[j]? = some x → us[j]? = some u → RelV x u) → Vals xs us
  | [], [], _, _ => .nil
  | [], _ :: _, h, _ => by simp at h
  | _ :: _, [], h, _ => by simp at h
  | x :: xs, u :: us, h, hr => .cons (hr 0 x u rfl rfl) (vals_of_get (by simpa using h) fun j y v h1 h2 => hr (j + 1) y v h1 h2)
theorem cr_list2G0 (hc : X.calm = true) : CallR X (.type "list") (gList2 X.K) := by
  intro pins s σ H xs us Q I r h
  unfold gList2 at h
  split at h
  · exact cr_listG0 pins s σ H _ us Q I r h
  · rename_i x
    obtain ⟨u, rfl, tk, rfl⟩ := vals1 r
    obtain ⟨hl, q⟩ := h
    have hsz : x.cps.size = (tl x).length := by simp
    refine call_list_str (I.ok.hd hc) x tk (hn := by rw [hsz]; exact Nat.le_of_lt (small1000 hl)) fun h' tk' acc' c' hk hS' hacc => ?_
    have hn : H s.heap.objs.size = none := I.hok.fresh (Nat.le_refl _)
    have hv : Vals (sgs x) acc'.toList := vals_of_get (by unfold sgs; rw [List.length_map, ← hsz]; have := hacc.1; simp [this]) fun j y v h1 h2 => by
      obtain ⟨c, w', hx, rfl⟩ := hacc.2 j v (by simpa using h2)
      have hx' : (tl x)[j]? = some c := by simpa using hx
      unfold sgs at h1
      rw [List.getElem?_map, hx'] at h1
      cases h1
      exact ⟨w', rfl⟩
    have hlen : (sgs x).length ≤ sizeLine := by unfold sgs; rw [List.length_map]; exact Nat.le_of_lt (small1000 hl)
    exact ⟨.ref s.heap.objs.size, upd H s.heap.objs.size (.lst (sgs x)), I.laid (o := .lst (sgs x)) (t' := tk') hk (Nat.le_refl _) ⟨hlen, acc'.toList, c', hv, by rw [Array.toArray_toList]; exact hS'⟩, rfl, q _ hn⟩
  · exact h.elim
theorem cr_listG2 (hc : X.calm = true) (hK : X.K = K := by rfl) : CallR X (.type "list") (gList2 K) := hK ▸ cr_list2G0 hc
end
end Pk

namespace Pk
open PySem PySem.Spec PyProof.Rows L2
/-! ### the least text of a list -/
theorem cmp_strs {prog : Program} {w : World} {A : Around} {P : Nat → Value → Prop} (val : Nat → Str) (hval : ∀ i v, P i v → ∃ t, v = .str (val i) t) :
    CmpOf prog w A .Lt P (fun i j => decide ((val i).cps.toList < (val j).cps.toList)) := fun i j vi vj s Q E hi hj h => by
  obtain ⟨t, rfl⟩ := hval i vi hi
  obtain ⟨u, rfl⟩ := hval j vj hj
  exact PyProof.Rows.lt_str h
theorem ltl_trans {a b c : List Nat} (h : a < b) (h2 : b < c) : a < c := List.lt_trans h h2
theorem ltl_irr (a : List Nat) : ¬ a < a := List.lt_irrefl a
theorem best_strs (val : Nat → List Nat) : ∀ k, argBest (fun i j => decide (val i < val j)) k ≤ k ∧ ∀ j, j ≤ k → ¬ val j < val (argBest (fun i j => decide (val i < val j)) k)
  | 0 => ⟨Nat.le_refl _, fun j hj => by
      have : j = 0 := by omega
      subst this
      exact ltl_irr _⟩
  | k + 1 => by
    obtain ⟨h1, h2⟩ := best_strs val k
    show (if decide (val (k + 1) < val (argBest (fun i j => decide (val i < val j)) k)) then k + 1 else argBest (fun i j => decide (val i < val j)) k) ≤ k + 1 ∧ ∀ j, j ≤ k + 1 → ¬ val j < val (if decide (val (k + 1) < val (argBest (fun i j => decide (val i < val j)) k)) then k + 1 else argBest (fun i j => decide (val i < val j)) k)
    by_cases h : val (k + 1) < val (argBest (fun i j => decide (val i < val j)) k)
    · rw [decide_eq_true h]
      refine ⟨Nat.le_refl _, fun j hj hlt => ?_⟩
      rcases Nat.lt_or_ge j (k + 1) with hj2 | hj2
      · exact h2 j (by omega) (ltl_trans hlt h)
      · have : j = k + 1 := by omega
        subst this
        exact ltl_irr _ hlt
    · rw [decide_eq_false h]
      refine ⟨Nat.le_succ_of_le h1, fun j hj => ?_⟩
      rcases Nat.lt_or_ge j (k + 1) with hj2 | hj2
      · exact h2 j (by omega)
      · have : j = k + 1 := by omega
        subst this
        exact h
theorem vals_txt : ∀ {ts : List (List Nat)} {us : List Value}, Vals (ts.map fun l => V.str (S l)) us → ∀ {i : Nat} {v : Value}, us[i]? = some v → ∃ l t, ts[i]? = some l ∧ v = .str (S l) t
  | [], us, h, i, v, hv => by cases h; simp at hv
  | l :: ts, us, h, i, v, hv => by
    cases h with
    | cons r1 r2 =>
      cases i with
      | zero =>
        obtain ⟨t, rfl⟩ := r1
        cases hv
        exact ⟨l, t, rfl, rfl⟩
      | succ i => exact vals_txt r2 hv
section
variable {X : Cx} {K : PySem.W.Frag}
def gMin (K : PySem.W.Frag) : RC := fun vs H Q => match vs with
  | [.ref p] => (∃ ns : List Int, SqL K H p (ns.map V.int) ∧ 0 < ns.length ∧ ∀ m ∈ ns, (∀ y ∈ ns, m ≤ y) → Q (.int m) H) ∨
      (∃ ts : List (List Nat), SqL K H p (ts.map fun l => V.str (S l)) ∧ 0 < ts.length ∧ ∀ m ∈ ts, (∀ y ∈ ts, ¬ y < m) → Q (.str (S m)) H)
  | [.int i, .int j] => Q (.int (if j < i then j else i)) H
  | _ => False
theorem cr_minG0 (hc : X.calm = true) : CallR X (.builtin "min") (gMin X.K) := by
  intro pins s σ H xs us Q I r h
  unfold gMin at h
  split at h
  · rename_i p
    rcases h with ⟨ns, h1, h2, h3⟩ | ⟨ts, h1, h2, h3⟩
    · exact cr_min hc pins s σ H _ us Q I r ⟨_, ns, rfl, h1, h2, h3⟩
    · obtain ⟨its, rv, hl, _⟩ := I.list h1
      rw [Vals.ref1 r]
      have hlen : its.length = ts.length := by have := rv.length; rw [List.length_map] at this; exact this.symm
      have hval : ∀ (i : Nat) (v : Value), its.toArray[i]? = some v → ∃ t, v = .str (S (ts.getD i [])) t := fun i v hv => by
        obtain ⟨l, t, e1, e2⟩ := vals_txt rv (i := i) (v := v) (by simpa using hv)
        exact ⟨t, by rw [e2, List.getD_eq_getElem?_getD, e1]; rfl⟩
      have hlt : ∀ a, s.heap.IsList a its.toArray → a < s.heap.objs.size := fun a ha => by
        obtain ⟨o, ho, _⟩ := ha
        exact Heap.lt_size ho
      have hp := hlt p hl.isList
      refine call_min_walk (wpAny_pyIter_list hl.isList ?_)
      refine ⟨_, [s.heap.objs.size, p], [s.heap.objs.size], _, _, _, _, rfl, Walks.list (A := X.A.in1) (I.ok.hd hc) _ p (Nat.ne_of_lt hp) its.toArray, ⟨⟨_, Heap.get?_push_size _ rfl, rfl, rfl⟩, hl.isList.push _⟩, ?_, by rw [List.size_toArray, hlen]; exact h2, cmp_strs (fun i => S (ts.getD i [])) hval, fun v h' tk hP hk => ?_⟩
      · intro b hb
        have e' : b = s.heap.objs.size ∨ b = p := by simpa using hb
        rw [Heap.size_push]
        rcases e' with z | z
        · rw [z]; exact Nat.lt_succ_self _
        · rw [z]; exact Nat.lt_succ_of_lt hp
      obtain ⟨t, rfl⟩ := hval _ v hP
      obtain ⟨b1, b2⟩ := best_strs (fun i => ts.getD i []) (its.toArray.size - 1)
      rw [List.size_toArray, hlen] at b1 b2
      have hbl : argBest (fun i j => decide (ts.getD i [] < ts.getD j [])) (ts.length - 1) < ts.length := by omega
      have I2 : Inv X pins σ H { s with heap := h', toks := tk } := I.kept fun b o e => hk b o (fun hm => by rw [List.mem_singleton.mp hm] at e; exact absurd (Heap.lt_size e) (Nat.lt_irrefl _)) (Heap.get?_push_of_some _ e)
      refine ⟨.str (S _), H, I2, ⟨t, rfl⟩, h3 _ ?_ fun y hy hlt => ?_⟩
      · rw [List.size_toArray, hlen]
        show ts.getD (argBest (fun i j => decide (ts.getD i [] < ts.getD j [])) (ts.length - 1)) [] ∈ ts
        rw [List.getD_eq_getElem?_getD, List.getElem?_eq_getElem hbl]
        exact List.getElem_mem _
      · obtain ⟨j, hj, rfl⟩ := List.getElem_of_mem hy
        have e : ts.getD j [] = ts[j] := by rw [List.getD_eq_getElem?_getD, List.getElem?_eq_getElem hj]; rfl
        rw [List.size_toArray, hlen] at hlt
        refine b2 j (by omega) ?_
        show ts.getD j [] < _
        rw [e]
        exact hlt
  · exact call_min2 hc pins s σ H _ us Q I r ⟨_, _, rfl, h⟩
  · exact h.elim
theorem cr_minG (hc : X.calm = true) (hK : X.K = K := by rfl) : CallR X (.builtin "min") (gMin K) := hK ▸ cr_minG0 hc
def gMax (K : PySem.W.Frag) : RC := fun vs H Q => match vs with
  | [.int i, .int j] => Q (.int (if j > i then j else i)) H
  | [.ref p] => ∃ ns : List Int, SqL K H p (ns.map V.int) ∧ 0 < ns.length ∧ ∀ m ∈ ns, (∀ y ∈ ns, y ≤ m) → Q (.int m) H
  | _ => False
theorem cr_maxG0 (hc : X.calm = true) : CallR X (.builtin "max") (gMax X.K) := by
  intro pins s σ H xs us Q I r h
  unfold gMax at h
  split at h
  · exact call_max2 hc pins s σ H _ us Q I r ⟨_, _, rfl, h⟩
  · obtain ⟨ns, h1, h2, h3⟩ := h
    exact cr_max hc pins s σ H _ us Q I r ⟨_, ns, rfl, h1, h2, h3⟩
  · exact h.elim
theorem cr_maxG (hc : X.calm = true) (hK : X.K = K := by rfl) : CallR X (.builtin "max") (gMax K) := hK ▸ cr_maxG0 hc
def gInt : RC := fun vs H Q => match vs with
  | [.int i] => Q (.int i) H
  | [.bl k] => Q (.int (if k then 1 else 0)) H
  | _ => False
theorem cr_intG0 : CallR X (.type "int") gInt := by
  intro pins s σ H xs us Q I r h
  unfold gInt at h
  split at h
  · exact call_int1 pins s σ H _ us Q I r (.inl ⟨_, rfl, h⟩)
  · exact call_int1 pins s σ H _ us Q I r (.inr ⟨_, rfl, h⟩)
  · exact h.elim
theorem cr_intG : CallR X (.type "int") gInt := cr_intG0
end
end Pk

namespace Pk
open PySem PySem.Spec PyProof.Rows L2
/-! ### sets of numbers and texts, with their walk -/
def kOf : Value → Key
  | .int k _ => .inl k
  | .str x _ => .inr x
  | _ => .inl 0
theorem kOf_is {k : Key} {v : Value} (h : keyIs k v = true) : kOf v = k := by
  rcases keyIs_shape h with ⟨i, t, rfl, rfl⟩ | ⟨x, t, rfl, rfl⟩ <;> rfl
theorem is_kOf {k : Key} {v : Value} (h : keyIs k v = true) : keyIs (kOf v) v = true := by rw [kOf_is h]; exact h
theorem scan_is {k : Key} {v : Value} (h : keyIs k v = true) : v.scannable = true := by
  rcases keyIs_shape h with ⟨i, t, rfl, rfl⟩ | ⟨x, t, rfl, rfl⟩ <;> rfl
def GdE (w : World) (e : Int × Value) : Prop := keyIs (kOf e.2) e.2 = true ∧ e.1 = keyH w (kOf e.2)
abbrev esK (es : Array (Int × Value)) : List Key := es.toList.map fun e => kOf e.2
/-- the set at a, its members -/
def SetG (w : World) (h : Heap) (a : Addr) (ks : List Key) : Prop :=
  ∃ o es ep t, h.get? a = some o ∧ o.ExactSet ∧ o.data = .set es ep t ∧ (∀ e ∈ es.toList, GdE w e) ∧ (esK es).Perm ks ∧ ks.Nodup ∧ es.size < scanBound ∧ t.fits es.size = true ∧ Ris t.place.toList ∧
    (w.params.followText "set-order" = true ∨ t.led = true)
theorem SetG.at {w : World} {h h' : Heap} {a : Addr} {ks : List Key} (R : SetG w h a ks) (k : ∀ o, h.get? a = some o → h'.get? a = some o) : SetG w h' a ks := by
  obtain ⟨o, es, ep, t, ho, r⟩ := R
  exact ⟨o, es, ep, t, k o ho, r⟩
theorem gd_elems {P : Program} {w : World} {l : List (Int × Value)} (g : ∀ e ∈ l, GdE w e) : ElemsOf (mixKind P w) l := fun e he => ⟨⟨kOf e.2, (g e he).1, (g e he).2⟩, scan_is (g e he).1⟩
section
variable {P : Program} {w : World} {A : Around} {E : Value → Shared → Prop} {s : Shared} {a : Addr} {ks : List Key}
theorem setG_tail {g : Bool → Sem Unit} (hg : ∀ (b : Bool) (s₁ : Shared) (Q' : Unit → Shared → Prop), Q' () s₁ → wpAny (model P w) A (g b) Q' E s₁) {o : Obj} {es es1 : Array (Int × Value)} {ep : Nat} {t t2 : SetTable}
    (ho : s.heap.get? a = some o) (hex : o.ExactSet) (hd : o.data = .set es ep t) (g1 : ∀ e ∈ es1.toList, GdE w e) (p1 : (esK es1).Perm ks) (nd : ks.Nodup) (hb1 : es1.size < scanBound) (hf2 : t2.fits es1.size = true) (hr : Ris t2.place.toList)
    (hl : w.params.followText "set-order" = true ∨ t2.led = true) {wasDummy : Bool} {R : Option Bool → Shared → Prop} (hR : ∀ h', Heap.SameBut a s.heap h' → SetG w h' a ks → R (some true) { s with heap := h' }) :
    wpAny (model P w) A (do
        storeSet a es1 t2
        if (!wasDummy && t2.tooFull) = true then do
            g (relayAll t2 es1 (SetTable.grown es1.size)).2.2
            storeSet a (relayAll t2 es1 (SetTable.grown es1.size)).1 (relayAll t2 es1 (SetTable.grown es1.size)).2.1
            pure (some true)
          else pure (some true)) R E s := by
  refine wpAny_bind (wpAny_storeSet_of ho hd ?_ (fits_of_scanBound hb1))
  have ho1 := store_at (es' := es1) (t' := t2) ho hd
  have sb1 := Heap.SameBut.update s.heap a (Obj.putSet es1 t2)
  split
  · have pm := relayAll_perm t2 es1 (SetTable.grown es1.size)
    have hf3 := relayAll_fits t2 es1 (SetTable.grown es1.size)
    have hr3 := relayAll_ris t2 es1 (SetTable.grown es1.size)
    have hl3 := relayAll_led t2 es1 (SetTable.grown es1.size)
    generalize relayAll t2 es1 (SetTable.grown es1.size) = Z at pm hf3 hr3 hl3 ⊢
    obtain ⟨es2, t3, gave⟩ := Z
    dsimp only at pm hf3 hr3 hl3 ⊢
    have hb2 : es2.size < scanBound := by rw [← Array.length_toList, pm.length_eq, Array.length_toList]; exact hb1
    refine wpAny_bind (hg _ _ _ (wpAny_bind (wpAny_storeSet_of ho1 rfl ?_ (fits_of_scanBound hb2))))
    have ho2 := store_at (es' := es2) (t' := t3) ho1 rfl
    exact wpAny_pure (hR _ (sb1.trans (Heap.SameBut.update _ a _)) ⟨_, es2, _, t3, ho2, hex, rfl, fun e he => g1 e (pm.mem_iff.mp he), (pm.map _).trans p1, nd, hb2, hf3, hr3, hl.imp id fun z => by rw [hl3]; exact z⟩)
  · exact wpAny_pure (hR _ sb1 ⟨_, es1, _, t2, ho1, hex, rfl, g1, p1, nd, hb1, hf2, hr, hl⟩)
/-- one more member -/
noncomputable def addK (ks : List Key) (k : Key) : List Key := @ite _ (k ∈ ks) (Classical.propDecidable _) ks (k :: ks)
theorem addK_mem {ks : List Key} {k j : Key} : j ∈ addK ks k ↔ j ∈ ks ∨ j = k := by
  unfold addK
  split
  · rename_i h
    exact ⟨.inl, fun z => z.elim id fun e => e ▸ h⟩
  · rw [List.mem_cons]
    exact Or.comm
theorem setG_add {k : Key} {u : Value} {Q : Bool → Shared → Prop} (hk : keyIs k u = true) (R : SetG w s.heap a ks) (room : ks.length + 1 < scanBound)
    (hQ : ∀ (b : Bool) (h' : Heap), Heap.SameBut a s.heap h' → SetG w h' a (addK ks k) → Q b { s with heap := h' }) : wpAny (model P w) A (setAddHashed a u ((mixKind P w).hash k)) Q E s := by
  obtain ⟨o, es, ep, t, ho, hex, hd, g, pk, nd, hb, hf, hr, hl⟩ := R
  have hkey : (mixKind P w).is k u = true := hk
  have hsc := scan_is hk
  have hel : ElemsOf (mixKind P w) es.toList := gd_elems g
  have isk : ∀ e ∈ es.toList, (mixKind P w).is k e.2 = true ↔ kOf e.2 = k := fun e he => ⟨fun z => kOf_is z, fun z => by rw [← z]; exact (g e he).1⟩
  unfold setAddHashed setAddHashedIn
  refine wpAny_holding (wpAny_bind (wpAny_setState_of ho hd hf ?_))
  dsimp only
  rw [byScan_of hsc hb hel]
  simp only [↓reduceIte]
  unfold setAddByScan
  refine wpAny_bind (wpAny_bind (wpAny_rule (wpAny_bind (wpAny_setScan_of hkey ho hd hf hel ?_))))
  cases hfi : List.findIdx? (fun e => (mixKind P w).is k e.2) es.toList with
  | some j =>
    dsimp only
    obtain ⟨hj, pj, _⟩ := List.findIdx?_eq_some_iff_getElem.mp hfi
    have hin : k ∈ ks := pk.mem_iff.mp (List.mem_map.mpr ⟨_, List.getElem_mem hj, (isk _ (List.getElem_mem hj)).mp pj⟩)
    have ea : addK ks k = ks := if_pos hin
    rw [ea] at hQ
    exact wpAny_pure (wpAny_pure (hQ _ _ (Heap.SameBut.refl a s.heap) ⟨o, es, ep, t, ho, hex, hd, g, pk, nd, hb, hf, hr, hl⟩))
  | none =>
    dsimp only
    have hnk : k ∉ ks := fun z => by
      obtain ⟨e, he, q⟩ := List.mem_map.mp (pk.mem_iff.mpr z)
      have c := List.findIdx?_eq_none_iff.mp hfi e he
      rw [(isk e he).mpr q] at c
      cases c
    have ea : addK ks k = k :: ks := if_neg hnk
    rw [ea] at hQ
    have hgw : ∀ (b : Bool) {s₁ : Shared} {Q' : Unit → Shared → Prop}, Q' () s₁ → wpAny (model P w) A (match b with | true => rule "set.scan.the-table-gave-way" | false => pure ()) Q' E s₁ := fun b s₁ Q' q => by
      cases b <;> first | exact wpAny_pure q | exact wpAny_rule q
    have pm := layNew_perm t es ((mixKind P w).hash k) u
    have hf1 := layNew_fits t es ((mixKind P w).hash k) u
    have hr1 := layNew_ris t es ((mixKind P w).hash k) u hr
    have hl1 := layNew_led t es ((mixKind P w).hash k) u
    generalize layNew t es ((mixKind P w).hash k) u = Z at pm hf1 hr1 hl1 ⊢
    obtain ⟨es1, t1, wasDummy, gave⟩ := Z
    dsimp only at pm hf1 hr1 hl1 ⊢
    rw [Array.toList_push] at pm
    have pc : es1.toList.Perm (((mixKind P w).hash k, u) :: es.toList) := pm.trans (List.perm_append_singleton _ _)
    have pk1 : (esK es1).Perm (k :: ks) := (pc.map _).trans (by rw [List.map_cons, kOf_is hk]; exact pk.cons k)
    have g1 : ∀ e ∈ es1.toList, GdE w e := fun e he => by
      rcases List.mem_cons.mp (pc.mem_iff.mp he) with z | z
      · rw [z]; exact ⟨is_kOf hk, by rw [kOf_is hk]; rfl⟩
      · exact g e z
    have hks : ks.length = es.size := by rw [← pk.length_eq, List.length_map, Array.length_toList]
    have hb1 : es1.size < scanBound := by rw [← Array.length_toList, pc.length_eq, List.length_cons, Array.length_toList, ← hks]; exact room
    have nd1 : (k :: ks).Nodup := List.nodup_cons.mpr ⟨hnk, nd⟩
    have hled : w.params.followText "set-order" = true ∨ t1.led = true := hl.imp id fun z => by rw [hl1]; exact z
    refine wpAny_bind (hgw _ ?_)
    split
    · refine wpAny_bind ?_
      rw [hashByValue_scannable 8 hsc]
      refine wpAny_pure (setG_tail ?_ ho hex hd g1 pk1 nd1 hb1 ?_ ?_ ?_ ?_)
      · intro b s₁ Q' q; cases b <;> first | exact wpAny_pure q | exact wpAny_rule q
      · first | (split <;> first | exact hf1 | exact SetTable.fits_plain_off hf1) | exact hf1
      · first | (split <;> exact hr1) | exact hr1
      · first | (split <;> exact hled) | exact hled
      · intro h' sb r; dsimp only; exact wpAny_pure (hQ _ h' sb r)
    · refine wpAny_bind (wpAny_pure ?_)
      simp only [↓reduceIte]
      refine setG_tail ?_ ho hex hd g1 pk1 nd1 hb1 hf1 hr1 hled ?_
      · intro b s₁ Q' q; cases b <;> first | exact wpAny_pure q | exact wpAny_rule q
      · intro h' sb r; dsimp only; exact wpAny_pure (hQ _ h' sb r)
theorem setG_new {w : World} {h : Heap} {a : Addr} (ho : h.get? a = some { cls := .type "set", dict := none, data := .set #[] 0 (.fresh 0 0 (!w.params.followText "set-order")) }) : SetG w h a [] :=
  ⟨_, #[], 0, _, ho, ⟨rfl, rfl, rfl⟩, rfl, (fun e he => by simp at he), .refl _, List.nodup_nil, (by decide), (by rfl), List.Pairwise.nil, by
    show _ ∨ (!w.params.followText "set-order") = true
    cases w.params.followText "set-order"
    · exact .inr rfl
    · exact .inl rfl⟩
/-- all that is drawn goes into the set -/
theorem setG_loop {I : Addr} {fp wr : List Addr} {G : Array GenState → Array GenState → Prop} {n : Nat} {Pv : Nat → Value → Prop} {St : Nat → Shared → Prop} {R : Result → Shared → Prop} (W : WalksS P w A.in1 I fp wr G n Pv St) (T : Addr) (hTf : T ∉ fp) (xs : List Key)
    (hn : n = xs.length) (hb : xs.length + 1 < scanBound) (hval : ∀ i v, Pv i v → ∃ k, xs[i]? = some k ∧ keyIs k v = true) : ∀ (m i : Nat) (s : Shared), n - i = m → i ≤ n → St i s → (∃ ds, SetG w s.heap T ds ∧ ds.length ≤ i ∧ ∀ k, k ∈ ds ↔ k ∈ xs.take i) →
      (∀ s' ds, Moved (T :: wr) G s s' → SetG w s'.heap T ds → (∀ k, k ∈ ds ↔ k ∈ xs) → R (.ok (.ret .none)) s') → codeAny (model P w) A (.builtin "set.update.loop" ⟨[.ref T, .ref I], []⟩) R s := by
  have hTw : T ∉ wr := fun h => hTf (W.sub _ h)
  have hsub : ∀ b ∈ wr, b ∈ T :: wr := fun b hb => List.mem_cons_of_mem _ hb
  intro m
  induction m with
  | zero =>
    intro i s hm hi hst ⟨ds, hS, hl, hd⟩ hR
    have hin : i = n := by omega
    subst hin
    refine codeAny_builtin F.entry_set_update_loop ?_
    rw [Around.under_plainId F.plain_set_update_loop _]
    show wpAny _ A.in1 (pyNext (.ref I) >>= _) _ _ s
    refine wpAny_bind (W.done s _ _ hst fun s' hmv => ?_)
    rw [List.take_of_length_le (by omega)] at hd
    exact wpAny_pure (hR s' ds (hmv.mono hsub) (hS.at fun o e => hmv.heap T o hTw e) hd)
  | succ m ih =>
    intro i s hm hi hst ⟨ds, hS, hl, hd⟩ hR
    have hlt : i < n := by omega
    refine codeAny_builtin F.entry_set_update_loop ?_
    rw [Around.under_plainId F.plain_set_update_loop _]
    show wpAny _ A.in1 (pyNext (.ref I) >>= _) _ _ s
    refine wpAny_bind (W.item i s _ _ hlt hst fun v s' hP hst' hmv => ?_)
    obtain ⟨k, hk, hkv⟩ := hval i v hP
    have hS' : SetG w s'.heap T ds := hS.at fun o e => hmv.heap T o hTw e
    show wpAny _ A.in1 (holding [v] (setAdd T v) >>= _) _ _ s'
    refine wpAny_bind (wpAny_holding ?_)
    unfold setAdd
    refine wpAny_holding (wpAny_bind ((mixKind P w).pyHash (k := k) hkv ?_))
    refine setG_add (s := { s' with toks := s'.toks + 1 }) hkv hS' (by omega) fun b h' hsb hS2 => ?_
    have hl3 : (addK ds k).length ≤ i + 1 := by
      unfold addK
      split
      · omega
      · rw [List.length_cons]; omega
    refine wpAny_pure ⟨plainId_quiet F.plain_set_update_loop _, ih (i + 1) _ (by omega) hlt (W.frame _ s' _ _ hst' (Nat.le_succ _) fun b hb o e => ?_) ⟨_, hS2, hl3, fun j => ?_⟩ fun s'' d2 hm'' hS'' hd2 => ?_⟩
    · rw [hsb.2 b (fun h : b = T => hTf (by rw [← h]; exact hb))]; exact e
    · rw [addK_mem, hd j, List.take_add_one, hk, List.mem_append]
      simp
    · refine hR s'' d2 (Moved.trans W.gtrans ((hmv.mono hsub).then_heap (Nat.le_succ _) fun b o hb e => ?_) hm'') hS'' hd2
      rw [hsb.2 b (fun h : b = T => hb (by rw [h]; exact List.mem_cons_self))]; exact e
end
end Pk

namespace Pk
open PySem PySem.Spec PyProof.Rows L2
section
variable {P : Program} {w : World} {A : Around} {E : Value → Shared → Prop} {s : Shared}
abbrev set0 (w : World) : Obj := { cls := .type "set", dict := none, data := .set #[] 0 (.fresh 0 0 (!w.params.followText "set-order")) }
/-- set(v), where v is neither a set nor a dict -/
theorem call_setG (v : Value) {Q : Value → Shared → Prop}
    (hup : ∀ (A' : Around) (E' : Value → Shared → Prop) (R : Unit → Shared → Prop), A'.handled = A.handled → (∀ h' tk, (∃ ds, SetG w h' s.heap.objs.size ds) → Q (.ref s.heap.objs.size) { s with heap := h', toks := tk } → R () { s with heap := h', toks := tk }) →
      wpAny (model P w) A' (Builtin.Frozenset.updateFrom "set.__init__" s.heap.objs.size v) R E' { s with heap := s.heap.push (set0 w) }) :
    wpAny (model P w) A (call (.type "set") [v]) Q E s := by
  obtain ⟨c, tl, hmro⟩ := F.called_set.mro
  have hmade := F.called_set.made
  have hsub := F.called_set.sub
  refine wpAny_call (codeAny_of_tree ?_)
  show wpAny _ _ (callAny (.type "set") _) _ _ _
  refine wpAny_pure ⟨Code.quiet_builtin _ (by decide +kernel), codeAny_builtin F.entry_type_call ?_⟩
  rw [Around.under_plain (weight_type_call_type "set" [v] []) rfl]
  have h1 := F.called_set.notType
  have h2 := F.called_set.canCreate
  have hct := F.typeCall_set_1 v
  repeat (any_goals (first | assumption | wp_step))
  refine codeAny_mono (code_set_led1 v (E := E) (Q₁ := fun obj s₁ => obj = .ref s.heap.objs.size ∧ s₁ = { s with heap := s.heap.push (set0 w) }) ⟨rfl, rfl⟩) fun r s₁ hr => ?_
  cases r with
  | error e => exact hr
  | ok fl =>
    cases fl with
    | ret obj =>
      obtain ⟨rfl, rfl⟩ := hr
      have hS : (s.heap.push (set0 w)).get? s.heap.objs.size = some (set0 w) := Heap.get?_push_size _ rfl
      have hT : Shared.TypeIs { s with heap := s.heap.push (set0 w) } (.ref s.heap.objs.size) "set" := ⟨_, hS, rfl⟩
      have hli := F.called_set.init.lookup
      have hbi := F.called_set.init.bind (.ref s.heap.objs.size)
      repeat (any_goals (first | assumption | wp_step))
      refine codeAny_mono (codeAny_call_builtin (R := wants (fun r s₂ => r = .none ∧ ∃ h' tk, s₂ = { s with heap := h', toks := tk } ∧ (∃ o, h'.get? s.heap.objs.size = some o ∧ o.cls = .type "set") ∧ Q (.ref s.heap.objs.size) s₂) E) F.called_set.init.plain F.entry_set_init (check_set_init_1 hT ?_)) fun r₂ s₂ hr₂ => ?_
      · unfold Builtin.«set.__init__» noKeywords
        generalize hUU : Builtin.Frozenset.updateFrom = UU
        wp_walk
        subst hUU
        refine hup _ _ _ (by simp) fun h' tk ⟨ds, o, es, ep, t, ho, hex, _⟩ hq => ?_
        exact wpAny_pure ⟨rfl, h', tk, rfl, ⟨o, ho, hex.1⟩, hq⟩
      · cases r₂ with
        | error e => exact hr₂
        | ok fl₂ =>
          cases fl₂ with
          | ret r =>
            obtain ⟨rfl, h', tk, rfl, ⟨o, ho, hc⟩, hq⟩ := hr₂
            repeat (any_goals (first | assumption | wp_step))
          | _ => exact hr₂.elim
    | _ => exact hr.elim
end
end Pk

namespace Pk
open PySem PySem.Spec PyProof.Rows L2
section
variable {P : Program} {w : World} {A : Around} {E : Value → Shared → Prop} {s : Shared}
/-- what is put into a new set, from a list or a text -/
theorem set_fromL {l : Addr} {items : Array Value} (xs : List Key) {R : Unit → Shared → Prop} (hh : A.handled = none) (hl : s.heap.IsList l items) (hn : items.size = xs.length) (hit : ∀ (i : Nat) (v : Value), items[i]? = some v → ∃ k, xs[i]? = some k ∧ keyIs k v = true) (hb : xs.length + 1 < scanBound)
    (h : ∀ h' tk ds, SetG w h' s.heap.objs.size ds → (∀ k, k ∈ ds ↔ k ∈ xs) → (∀ b o, s.heap.get? b = some o → h'.get? b = some o) → R () { s with heap := h', toks := tk }) :
    wpAny (model P w) A (Builtin.Frozenset.updateFrom "set.__init__" s.heap.objs.size (.ref l)) R E { s with heap := s.heap.push (set0 w) } := by
  obtain ⟨ol, hol, hcl, nl, hdl⟩ := hl
  obtain ⟨ocls, odict, odata, oslots⟩ := ol
  simp only at hcl hdl
  subst hcl; subst hdl
  have hol' : (s.heap.push (set0 w)).get? l = some { cls := .type "list", dict := odict, data := .seq items nl, slots := oslots } := Heap.get?_push_of_some _ hol
  have f1 := F.sub_list_set
  have f2 := F.sub_list_frozenset
  have f3 : (Value.type "list" == Value.type "dict") = false := by decide
  have hl1 : (s.heap.push (set0 w)).IsList l items := ⟨_, hol', rfl, nl, rfl⟩
  unfold Builtin.Frozenset.updateFrom
  generalize hPI : pyIter = PI
  wp_walk
  subst hPI
  refine wpAny_pyIter_list hl1 (wpAny_bind (wpAny_runValue ?_))
  have hlS : l < s.heap.objs.size := Heap.lt_size hol
  have hz1 : (s.heap.push (set0 w)).objs.size = s.heap.objs.size + 1 := Heap.size_push ..
  have hneI : l ≠ (s.heap.push (set0 w)).objs.size := by rw [hz1]; exact Nat.ne_of_lt (Nat.lt_succ_of_lt hlS)
  have hTf : s.heap.objs.size ∉ [(s.heap.push (set0 w)).objs.size, l] := by
    rw [hz1]
    simp only [List.mem_cons, List.mem_singleton, List.not_mem_nil, or_false, not_or]
    exact ⟨Nat.ne_of_lt (Nat.lt_succ_self _), Nat.ne_of_gt hlS⟩
  refine setG_loop ((Walks.list (A := A.in1) (by simp [hh]) _ l hneI items).toS) s.heap.objs.size hTf xs hn hb hit (items.size - 0) 0 _ (by omega) (Nat.zero_le _) ⟨⟨_, Heap.get?_push_size _ rfl, rfl, rfl⟩, hl1.push _⟩
    ⟨[], setG_new (Heap.get?_push_of_some _ (Heap.get?_push_size _ rfl)), Nat.le_refl _, fun k => by simp⟩ fun s' ds hm hS hd => ?_
  obtain ⟨h', g2, d', tk', os'⟩ := s'
  cases (show g2 = s.gens from hm.gens)
  cases (show d' = s.drawn from hm.drawn)
  cases (show os' = s.os from hm.os)
  refine wpAny_pure (h h' tk' ds hS hd fun b o e => ?_)
  have hb0 : b < s.heap.objs.size := Heap.lt_size e
  refine hm.heap b o ?_ (Heap.get?_push_of_some _ (Heap.get?_push_of_some _ e))
  simp only [List.mem_cons, List.mem_singleton, List.not_mem_nil, or_false, not_or]
  exact ⟨Nat.ne_of_lt hb0, by rw [hz1]; exact Nat.ne_of_lt (Nat.lt_succ_of_lt hb0)⟩
theorem set_fromS {x : Str} {tk : Tok} {R : Unit → Shared → Prop} (hh : A.handled = none) (hb : (tl x).length + 1 < scanBound)
    (h : ∀ h' tk ds, SetG w h' s.heap.objs.size ds → (∀ k, k ∈ ds ↔ k ∈ (tl x).map fun c => (.inr (S [c]) : Key)) → (∀ b o, s.heap.get? b = some o → h'.get? b = some o) → R () { s with heap := h', toks := tk }) :
    wpAny (model P w) A (Builtin.Frozenset.updateFrom "set.__init__" s.heap.objs.size (.str x tk)) R E { s with heap := s.heap.push (set0 w) } := by
  have f1 := PySem.F.sub_str_set
  have f2 := PySem.F.sub_str_frozenset
  have f3 : (Value.type "str" == Value.type "dict") = false := by decide
  unfold Builtin.Frozenset.updateFrom
  generalize hPI : pyIter = PI
  wp_walk
  subst hPI
  refine wpAny_pyIter_str fun o St hW hst => wpAny_bind (wpAny_runValue ?_)
  have hz1 : (s.heap.push (set0 w)).objs.size = s.heap.objs.size + 1 := Heap.size_push ..
  have hTf : s.heap.objs.size ∉ [(s.heap.push (set0 w)).objs.size] := by
    rw [hz1]
    simp only [List.mem_singleton]
    exact Nat.ne_of_lt (Nat.lt_succ_self _)
  have hsz : x.cps.size = (tl x).length := by simp
  refine setG_loop ((hW A.in1 (by simp [hh])).toS) s.heap.objs.size hTf ((tl x).map fun c => (.inr (S [c]) : Key)) (by rw [List.length_map]; exact hsz) (by rw [List.length_map]; exact hb) ?_ (x.cps.size - 0) 0 _ (by omega) (Nat.zero_le _) hst
    ⟨[], setG_new (Heap.get?_push_of_some _ (Heap.get?_push_size _ rfl)), Nat.le_refl _, fun k => by simp⟩ fun s' ds hm hS hd => ?_
  · intro i v hv
    obtain ⟨c, u, hc, rfl⟩ := hv
    have hc' : (tl x)[i]? = some c := by simpa using hc
    exact ⟨.inr (S [c]), by rw [List.getElem?_map, hc']; rfl, mixKind_str P w (S [c]) u⟩
  obtain ⟨h', g2, d', tk', os'⟩ := s'
  cases (show g2 = s.gens from hm.gens)
  cases (show d' = s.drawn from hm.drawn)
  cases (show os' = s.os from hm.os)
  refine wpAny_pure (h h' tk' ds hS hd fun b ob e => ?_)
  have hb0 : b < s.heap.objs.size := Heap.lt_size e
  refine hm.heap b ob ?_ (Heap.get?_push_of_some _ (Heap.get?_push_of_some _ e))
  simp only [List.mem_cons, List.mem_singleton, List.not_mem_nil, or_false, not_or]
  exact ⟨Nat.ne_of_lt hb0, by rw [hz1]; exact Nat.ne_of_lt (Nat.lt_succ_of_lt hb0)⟩
end
end Pk

namespace Pk
open PySem PySem.Spec PyProof.Rows L2
abbrev txV (l : List Nat) : V := V.str (S l)
abbrev txK (l : List Nat) : Key := .inr (S l)
/-- a set, its members in some order -/
def SetX (w : World) (a : Addr) (ks : List Key) : HO := .ext fun h => SetG w h a ks
theorem ltC_iff : ∀ (a b : List Nat), ltCps a b = true ↔ a < b
  | [], [] => by simp [ltCps]
  | [], _ :: _ => by simp [ltCps]
  | _ :: _, [] => by simp [ltCps]
  | x :: a, y :: b => by
    have ih := ltC_iff a b
    simp only [ltCps, Bool.or_eq_true, Bool.and_eq_true, decide_eq_true_eq, beq_iff_eq, ih, List.cons_lt_cons_iff]
theorem rising_pw : ∀ (l : List Str) (p : Str), risingS p l = true → (∀ x ∈ l, ¬ tl x < tl p) ∧ l.Pairwise fun a b => ¬ tl b < tl a
  | [], _, _ => ⟨by simp, .nil⟩
  | x :: r, p, h => by
    simp only [risingS, Bool.and_eq_true, Bool.not_eq_true'] at h
    obtain ⟨h1, h2⟩ := h
    have h1' : ¬ tl x < tl p := fun z => by
      have := (ltC_iff (tl x) (tl p)).mpr z
      rw [this] at h1
      cases h1
    obtain ⟨h3, h4⟩ := rising_pw r x h2
    refine ⟨fun y hy => ?_, List.pairwise_cons.mpr ⟨h3, h4⟩⟩
    rcases List.mem_cons.mp hy with rfl | hy
    · exact h1'
    · exact fun z => h1' (List.lt_of_le_of_lt (List.not_lt.mp (h3 y hy)) z)
theorem sorted_pw {l : List Str} (h : sortedS l = true) : l.Pairwise fun a b => ¬ tl b < tl a := by
  cases l with
  | nil => exact .nil
  | cons x r =>
    obtain ⟨h1, h2⟩ := rising_pw r x h
    exact List.pairwise_cons.mpr ⟨h1, h2⟩
theorem map_S_tl (ys : List Str) : (ys.map tl).map S = ys := by
  rw [List.map_map]
  conv => rhs; rw [← List.map_id ys]
  exact List.map_congr_left fun y _ => S_tl y
theorem kV_vals (P : Program) (w : World) {ks : List Key} {us : List Value} (h : Vals (ks.map kV) us) {i : Nat} {v : Value} (hv : us[i]? = some v) : ∃ k, ks[i]? = some k ∧ keyIs k v = true := by
  have hlen := h.length
  rw [List.length_map] at hlen
  have hi : i < ks.length := by rw [hlen]; exact (List.getElem?_eq_some_iff.mp hv).1
  obtain ⟨u, hu, r⟩ := h.get (i := i) (x := kV ks[i]) (by rw [List.getElem?_map, List.getElem?_eq_getElem hi]; rfl)
  rw [hv] at hu
  cases hu
  refine ⟨ks[i], List.getElem?_eq_getElem hi, ?_⟩
  exact kV_is (P := P) (w := w) r
section
variable {X : Cx} {K : PySem.W.Frag} {w : World}
theorem setX_ok {P : Program} {w : World} {H : Hp} {h : Heap} {a : Addr} {ks : List Key} (R : SetG w h a ks) : ObjOk P w H h a (SetX w a ks) := by
  have ⟨o, _, _, _, ho, _⟩ := R
  exact ⟨R, ⟨o, ho⟩, fun h1 h2 p k => SetG.at p k⟩
theorem setX_get {pins : List (Addr × Obj)} {σ : L2.St} {H : Hp} {s : Shared} {a : Addr} {ks : List Key} (I : Inv X pins σ H s) (ha : H a = some (SetX w a ks)) : SetG w s.heap a ks := (I.hok a _ ha).1
/-- set(a list, a text) -/
def gSet (K : PySem.W.Frag) (w : World) : RC := fun vs H Q => match vs with
  | [.str x] => (tl x).length ≤ 4000 ∧ ∀ p ds, H p = none → ds.Nodup → (∀ k, k ∈ ds ↔ k ∈ (tl x).map fun c => txK [c]) → Q (.ref p) (upd H p (SetX w p ds))
  | [.ref l] => ∃ ks : List Key, SqL K H l (ks.map kV) ∧ ks.length ≤ 4000 ∧ ∀ p ds, H p = none → ds.Nodup → (∀ k, k ∈ ds ↔ k ∈ ks) → Q (.ref p) (upd H p (SetX w p ds))
  | _ => False
theorem cr_setG0 (hc : X.calm = true) : CallR X (.type "set") (gSet X.K X.w) := by
  intro pins s σ H xs us Q I r h
  have fin : ∀ (h' : Heap) (tk : Nat) (ds : List Key), SetG X.w h' s.heap.objs.size ds → (∀ b o, s.heap.get? b = some o → h'.get? b = some o) → (∀ p ds', H p = none → ds'.Nodup → ds' = ds → Q (.ref p) (upd H p (SetX X.w p ds'))) → EP X pins σ Q (.ref s.heap.objs.size) { s with heap := h', toks := tk } := fun h' tk ds hS hk q => by
    have nd : ds.Nodup := by obtain ⟨_, _, _, _, _, _, _, _, _, nd, _⟩ := hS; exact nd
    exact ⟨.ref _, upd H s.heap.objs.size (SetX X.w s.heap.objs.size ds), I.laid (t' := tk) hk (Nat.le_refl _) (setX_ok hS), rfl, q _ ds (I.hok.fresh (Nat.le_refl _)) nd rfl⟩
  unfold gSet at h
  split at h
  · obtain ⟨u, rfl, tk, rfl⟩ := vals1 r
    obtain ⟨hl, q⟩ := h
    refine call_setG _ fun A' E' R hA hR => set_fromS (by rw [hA]; exact I.ok.hd hc) (by unfold scanBound; omega) fun h' tk ds hS hd hk => hR h' tk ⟨ds, hS⟩ (fin h' tk ds hS hk fun p ds' hp nd e => ?_)
    subst e
    exact q p _ hp nd hd
  · obtain ⟨ks, h1, hl, q⟩ := h
    obtain ⟨its, rv, hL, _⟩ := I.list h1
    rw [Vals.ref1 r]
    have hlen := rv.length
    rw [List.length_map] at hlen
    refine call_setG _ fun A' E' R hA hR => set_fromL ks (by rw [hA]; exact I.ok.hd hc) hL.isList (by rw [List.size_toArray]; exact hlen.symm) (fun i v hv => kV_vals X.prog X.w rv (by simpa using hv)) (by unfold scanBound; omega) fun h' tk ds hS hd hk => hR h' tk ⟨ds, hS⟩ (fin h' tk ds hS hk fun p ds' hp nd e => ?_)
    subst e
    exact q p _ hp nd hd
  · exact h.elim
theorem cr_setG (hc : X.calm = true) (hK : X.K = K := by rfl) (hw : X.w = w := by rfl) : CallR X (.type "set") (gSet K w) := hK ▸ hw ▸ cr_setG0 hc
/-- len of a set -/
def gLenX (w : World) : RC := fun vs H Q => match vs with
  | [.ref p] => ∃ ks, H p = some (SetX w p ks) ∧ Q (.int (ks.length : Nat)) H
  | _ => False
theorem cr_lenX (hw : X.w = w := by rfl) : CallR X (.builtin "len") (gLenX w) := by
  subst hw
  intro pins s σ H xs us Q I r h
  unfold gLenX at h
  split at h
  · obtain ⟨ks, h1, q⟩ := h
    rw [Vals.ref1 r]
    obtain ⟨o, es, ep, t, ho, hex, hd, g, pk, nd, hb, hf, _⟩ := setX_get I h1
    have hn : es.size = ks.length := by rw [← pk.length_eq, List.length_map, Array.length_toList]
    refine call_len_set ho hex hd hf (by unfold scanBound at hb; omega) ⟨.int (ks.length : Nat), H, (I.tok _).tok _, ⟨_, by rw [hn]⟩, q⟩
  · exact h.elim
/-- sorted(a list of ints, of texts) -/
def gSorted (K : PySem.W.Frag) : RC := fun vs H Q => match vs with
  | [.ref p] => (∃ ns : List Int, SqL K H p (ns.map V.int) ∧ ∀ (ms : List Int) (q : Addr), ms.Perm ns → ms.Pairwise (· ≤ ·) → H q = none → Q (.ref q) (upd H q (.lst (ms.map V.int)))) ∨
      (∃ ts : List (List Nat), SqL K H p (ts.map txV) ∧ ∀ (us : List (List Nat)) (q : Addr), us.Perm ts → us.Pairwise (fun a b => ¬ b < a) → H q = none → Q (.ref q) (upd H q (.lst (us.map txV))))
  | _ => False
theorem cr_sortedG0 : CallR X (.builtin "sorted") (gSorted X.K) := by
  intro pins s σ H xs us Q I r h
  unfold gSorted at h
  split at h
  · rcases h with ⟨ns, h1, q⟩ | ⟨ts, h1, q⟩
    · exact cr_sortedI pins s σ H _ us Q I r ⟨_, ns, rfl, h1, q⟩
    · obtain ⟨its, rv, hl, hz⟩ := I.list h1
      rw [Vals.ref1 r]
      have e0 : ts.map txV = (ts.map S).map V.str := by rw [List.map_map]; rfl
      rw [e0] at rv hz
      have hlen0 := rv.length
      refine sorted_strsAny hl.isList rv.strs (by rw [← hlen0]; exact hz) fun out ys a1 a2 a3 => ?_
      obtain ⟨ep, he'⟩ := sortedAll_at s.heap its out
      have hlen : (ys.map V.str).length ≤ sizeLine := by rw [List.length_map, a2.length_eq, ← List.length_map (f := V.str)]; exact hz
      have eys : ys.map V.str = (ys.map tl).map txV := by
        rw [← map_S_tl ys]
        simp
      have hp : (ys.map tl).Perm ts := by
        have := a2.map tl
        rw [List.map_map] at this
        have e : ts.map (tl ∘ S) = ts := by
          conv => rhs; rw [← List.map_id ts]
          exact List.map_congr_left fun y _ => rfl
        rw [e] at this
        exact this
      refine ⟨.ref _, upd H (s.heap.objs.size + 1) (.lst (ys.map V.str)), I.laid (t' := s.toks) (fun _ _ => sortedAll_old) (Nat.le_succ _) ⟨hlen, out.toList, ep, vals_of_strs a1, he'⟩, rfl, ?_⟩
      rw [eys]
      exact q _ _ hp (List.pairwise_map.mpr (sorted_pw a3)) (I.hok.fresh (Nat.le_succ _))
  · exact h.elim
theorem cr_sortedG (hK : X.K = K := by rfl) : CallR X (.builtin "sorted") (gSorted K) := hK ▸ cr_sortedG0
end
end Pk

namespace Pk
open PySem PySem.Spec PyProof.Rows L2
section
variable {P : Program} {w : World} {A : Around} {E : Value → Shared → Prop} {s : Shared} {a : Addr} {ks : List Key}
/-- sorted(a set): what is walked is put into a list, and sorted there -/
theorem sorted_setG {Q : Value → Shared → Prop} (R : SetG w s.heap a ks) (hh : A.handled = none) (C : List Value → Prop)
    (hsort : ∀ (A' : Around) (s1 : Shared) (vs : List Value) (b : Addr) (n : Nat) (R' : Fin → Shared → Prop), (vs.map kOf).Perm ks → (∀ v ∈ vs, keyIs (kOf v) v = true) → s1.heap.get? b = some (seqObj "list" vs.toArray n) → vs.length ≤ sizeLine →
      (∀ out : Array Value, C out.toList → R' (.done (.ret .none)) { s1 with heap := sortedHeap s1.heap b vs out }) → wpAny (model P w) A' (Builtin.«list.sort» ⟨[.ref b], []⟩) R' E s1)
    (hQ : ∀ s' p (out : Array Value) (c : Nat), (∀ b o, s.heap.get? b = some o → s'.heap.get? b = some o) → s'.gens = s.gens → s'.os = s.os → s.heap.objs.size ≤ p → s'.heap.get? p = some (seqObj "list" out c) → C out.toList → Q (.ref p) s') :
    wpAny (model P w) A (call (.builtin "sorted") [.ref a]) Q E s := by
  obtain ⟨o, es, ep, t, ho, hex, hd, g, pk, nd, hb, hf, hr, hl⟩ := R
  refine Calls.call_function_entry kind_sorted plain_sorted entry_sorted (args_sorted1 _) ?_
  unfold Builtin.«sorted»
  refine wpAny_bind (m := checkCount "sorted" 1 1 _) (wpAny_pure (wpAny_bind (collect_set (A := A.in1) hh ⟨o, ho, hex.1, hd⟩ hf hb hr hl fun s1 vs k1 hz g1 o1 pm => ?_)))
  have hvl : vs.length = es.size := by rw [pm.length_eq, List.length_map, Array.length_toList]
  have hle : vs.length ≤ sizeLine := by rw [hvl]; exact fits_of_scanBound hb
  have hpk : (vs.map kOf).Perm ks := by
    have q := pm.map kOf
    rw [List.map_map] at q
    exact q.trans pk
  have hki : ∀ v ∈ vs, keyIs (kOf v) v = true := fun v hv => by
    obtain ⟨e, he, rfl⟩ := List.mem_map.mp (pm.mem_iff.mp hv)
    exact (g e he).1
  refine wpAny_bind (wpAny_newList ?_ hle)
  have hoL : (s1.heap.push (seqObj "list" vs.toArray 0)).get? s1.heap.objs.size = some (seqObj "list" vs.toArray 0) := Heap.get?_push_size _ rfl
  refine wpAny_bind (wpAny_holding (wpAny_call_entry slot_list_sort ⟨_, hoL, rfl⟩ entry_list_sort (hsort _ _ vs _ 0 _ hpk hki hoL hle fun out hC => ⟨_, rfl, ?_⟩) (args_list_sort _)))
  obtain ⟨c, hc⟩ := sortedHeap_at (vs := vs) (out := out) hoL
  refine wpAny_pure ⟨_, rfl, hQ _ s1.heap.objs.size out c (fun b u e => ?_) g1 o1 hz hc hC⟩
  have q := k1 b u e
  have hlt := Heap.lt_size q
  show (sortedHeap (s1.heap.push (seqObj "list" vs.toArray 0)) s1.heap.objs.size vs out).get? b = some u
  rw [sortedHeap_old (Nat.ne_of_lt hlt) (by rw [size_push']; exact Nat.lt_succ_of_lt hlt)]
  exact Heap.get?_push_of_some _ q
end
theorem ints_keys : ∀ {vs : List Value} {ns : List Int}, vs.map kOf = ns.map (fun n => (.inl n : Key)) → (∀ v ∈ vs, keyIs (kOf v) v = true) → IntsAre vs ns
  | [], [], _, _ => .nil
  | [], _ :: _, h, _ => by simp at h
  | _ :: _, [], h, _ => by simp at h
  | v :: vs, n :: ns, h, hk => by
    rw [List.map_cons, List.map_cons] at h
    obtain ⟨h1, h2⟩ := List.cons.inj h
    have hv := hk v (by simp)
    rw [h1] at hv
    rcases keyIs_shape hv with ⟨i, t, e, rfl⟩ | ⟨x, t, e, _⟩
    · cases e
      exact .cons n t (ints_keys h2 fun u hu => hk u (by simp [hu]))
    · cases e
theorem strs_keys : ∀ {vs : List Value} {ns : List Str}, vs.map kOf = ns.map (fun n => (.inr n : Key)) → (∀ v ∈ vs, keyIs (kOf v) v = true) → StrsAre vs ns
  | [], [], _, _ => .nil
  | [], _ :: _, h, _ => by simp at h
  | _ :: _, [], h, _ => by simp at h
  | v :: vs, n :: ns, h, hk => by
    rw [List.map_cons, List.map_cons] at h
    obtain ⟨h1, h2⟩ := List.cons.inj h
    have hv := hk v (by simp)
    rw [h1] at hv
    rcases keyIs_shape hv with ⟨i, t, e, _⟩ | ⟨x, t, e, rfl⟩
    · cases e
    · cases e
      exact .cons n t (strs_keys h2 fun u hu => hk u (by simp [hu]))
theorem perm_inl : ∀ {l : List Key} {ns : List Int}, l.Perm (ns.map fun n => (.inl n : Key)) → ∃ ms : List Int, l = ms.map (fun n => (.inl n : Key)) ∧ ms.Perm ns := fun {l ns} h => by
  have hm : ∀ k ∈ l, ∃ n, k = (.inl n : Key) := fun k hk => by
    obtain ⟨n, _, rfl⟩ := List.mem_map.mp (h.mem_iff.mp hk)
    exact ⟨n, rfl⟩
  have e : l = (l.map fun k => match k with | .inl n => n | .inr _ => (0 : Int)).map fun n => (.inl n : Key) := by
    rw [List.map_map]
    conv => lhs; rw [← List.map_id l]
    refine List.map_congr_left fun k hk => ?_
    obtain ⟨n, rfl⟩ := hm k hk
    rfl
  refine ⟨_, e, ?_⟩
  have := h.map fun k => match k with | .inl n => n | .inr _ => (0 : Int)
  rw [List.map_map] at this
  have e2 : ns.map ((fun k : Key => match k with | .inl n => n | .inr _ => (0 : Int)) ∘ fun n => (.inl n : Key)) = ns := by
    conv => rhs; rw [← List.map_id ns]
    exact List.map_congr_left fun y _ => rfl
  rw [e2] at this
  exact this
theorem perm_inr : ∀ {l : List Key} {ns : List Str}, l.Perm (ns.map fun n => (.inr n : Key)) → ∃ ms : List Str, l = ms.map (fun n => (.inr n : Key)) ∧ ms.Perm ns := fun {l ns} h => by
  have hm : ∀ k ∈ l, ∃ n, k = (.inr n : Key) := fun k hk => by
    obtain ⟨n, _, rfl⟩ := List.mem_map.mp (h.mem_iff.mp hk)
    exact ⟨n, rfl⟩
  have e : l = (l.map fun k => match k with | .inr n => n | .inl _ => S []).map fun n => (.inr n : Key) := by
    rw [List.map_map]
    conv => lhs; rw [← List.map_id l]
    refine List.map_congr_left fun k hk => ?_
    obtain ⟨n, rfl⟩ := hm k hk
    rfl
  refine ⟨_, e, ?_⟩
  have := h.map fun k => match k with | .inr n => n | .inl _ => S []
  rw [List.map_map] at this
  have e2 : ns.map ((fun k : Key => match k with | .inr n => n | .inl _ => S []) ∘ fun n => (.inr n : Key)) = ns := by
    conv => rhs; rw [← List.map_id ns]
    exact List.map_congr_left fun y _ => rfl
  rw [e2] at this
  exact this
section
variable {X : Cx} {K : PySem.W.Frag} {w : World}
/-- sorted of a set of ints, of texts -/
def gSortedX (w : World) : RC := fun vs H Q => match vs with
  | [.ref p] => (∃ ns : List Int, H p = some (SetX w p (ns.map fun n => (.inl n : Key))) ∧ ns.length ≤ 4000 ∧ ∀ (ms : List Int) (q : Addr), ms.Perm ns → ms.Pairwise (· ≤ ·) → H q = none → Q (.ref q) (upd H q (.lst (ms.map V.int)))) ∨
      (∃ ts : List (List Nat), H p = some (SetX w p (ts.map txK)) ∧ ts.length ≤ 4000 ∧ ∀ (us : List (List Nat)) (q : Addr), us.Perm ts → us.Pairwise (fun a b => ¬ b < a) → H q = none → Q (.ref q) (upd H q (.lst (us.map txV))))
  | _ => False
theorem cr_sortedX (hc : X.calm = true) (hw : X.w = w := by rfl) : CallR X (.builtin "sorted") (gSortedX w) := by
  subst hw
  intro pins s σ H xs us Q I r h
  unfold gSortedX at h
  have four : (4000 : Nat) ≤ sizeLine := by rw [sizeLine_eq]; decide
  split at h
  · rw [Vals.ref1 r]
    have lay : ∀ (s' : Shared) (p : Addr) (out : Array Value) (c : Nat) (vs : List V), (∀ b o, s.heap.get? b = some o → s'.heap.get? b = some o) → s'.gens = s.gens → s'.os = s.os → s.heap.objs.size ≤ p → s'.heap.get? p = some (seqObj "list" out c) → Vals vs out.toList → vs.length ≤ sizeLine →
        (H p = none → Q (.ref p) (upd H p (.lst vs))) → EP X pins σ Q (.ref p) s' := fun s' p out c vs k g o hp hg hv hlen q => by
      have hn : H p = none := I.hok.fresh hp
      have J : Inv X pins σ (upd H p (.lst vs)) { s with heap := s'.heap, gens := s'.gens, drawn := s'.drawn, toks := s'.toks } :=
        I.call (ch := []) (Un.laid k hp hn) (I.hok.laid k hp ⟨hlen, out.toList, c, hv, hg⟩) (by rw [g]; exact I.bare) (fun _ z => nomatch z)
      have e : s' = { s with heap := s'.heap, gens := s'.gens, drawn := s'.drawn, toks := s'.toks } := by
        cases s'
        cases s
        cases o
        rfl
      rw [e]
      exact ⟨.ref p, _, J, rfl, q hn⟩
    rcases h with ⟨ns, h1, hz, q⟩ | ⟨ts, h1, hz, q⟩
    · refine sorted_setG (setX_get I h1) (I.ok.hd hc) (fun vs => ∃ ms : List Int, IntsAre vs ms ∧ ms.Perm ns ∧ ms.Pairwise (· ≤ ·)) (fun A' s1 vs b n R' hp hk hob hle hR => ?_) fun s' p out c k g o hp hg ⟨ms, a1, a2, a3⟩ => ?_
      · obtain ⟨ms, e1, e2⟩ := perm_inl hp
        exact list_sort_treeAny hob (ints_keys e1 hk) hle fun out ns' a1 a2 a3 => hR out ⟨ns', a1, a2.trans e2, a3⟩
      · exact lay s' p out c _ k g o hp hg (vals_of_ints a1) (by rw [List.length_map, a2.length_eq]; omega) (q ms p a2 a3)
    · have e0 : ts.map txK = (ts.map S).map fun n => (.inr n : Key) := by rw [List.map_map]; rfl
      rw [e0] at h1
      refine sorted_setG (setX_get I h1) (I.ok.hd hc) (fun vs => ∃ ms : List Str, StrsAre vs ms ∧ ms.Perm (ts.map S) ∧ sortedS ms = true) (fun A' s1 vs b n R' hp hk hob hle hR => ?_) fun s' p out c k g o hp hg ⟨ms, a1, a2, a3⟩ => ?_
      · obtain ⟨ms, e1, e2⟩ := perm_inr hp
        have hS := strs_keys e1 hk
        refine list_sort_treeKAny strKind_oneLt hob hS.keysOf (fun v₁ v₂ rest e => keyKind_strs (by rw [← e]; exact hS)) hle fun st' hp' hs => ?_
        obtain ⟨ss', b1, b2, b3⟩ := sorted_out_str hS hp' hs
        exact hR _ ⟨ss', b1, b2.trans e2, b3⟩
      · have eys : ms.map V.str = (ms.map tl).map txV := by
          rw [← map_S_tl ms]
          simp
        have hpp : (ms.map tl).Perm ts := by
          have := a2.map tl
          rw [List.map_map] at this
          have e : ts.map (tl ∘ S) = ts := by
            conv => rhs; rw [← List.map_id ts]
            exact List.map_congr_left fun y _ => rfl
          rw [e] at this
          exact this
        refine lay s' p out c _ k g o hp hg (vals_of_strs a1) (by rw [List.length_map, a2.length_eq, List.length_map]; omega) fun hn => ?_
        rw [eys]
        exact q _ p hpp (List.pairwise_map.mpr (sorted_pw a3)) hn
  · exact h.elim
end
end Pk

namespace Pk
open PySem PySem.Spec PyProof.Rows L2
theorem tuple_mul1 (l : Addr) (items : Array Value) (n : Nat) (sl : Array (Option Value)) (u : Tok) (dd : Option Addr) :
    Meets (Builtin.«tuple.__mul__» ⟨[.ref l, .int 1 u], []⟩) (fun _ R s => s.heap.get? l = some { cls := .type "tuple", dict := dd, data := .seq items n, slots := sl } ∧ R (.ok (.ret (Value.ref l))) s) :=
  .of_wp fun prog w A R s h => by
    obtain ⟨hp, g, d, tk, os⟩ := s
    obtain ⟨hl, h⟩ := h
    have f1 := AutoSeq1.idx_int
    have c1 : (items.isEmpty || (1 : Int) == 1) = true := by simp
    wp_walk using wpAny_loadPart' hl
    exact ⟨_, rfl, h⟩
section
variable {X : Cx} {K : PySem.W.Frag}
/-- a tuple n times, n at least one -/
def gMulT (K : PySem.W.Frag) : R2 := fun x y H Q => match x, y with
  | .ref l, .int k => ∃ xs, SqT K H l xs ∧ xs ≠ [] ∧ (1 ≤ k ∧ k ≤ 1000) ∧ xs.length ≤ 1000 ∧ (k = 1 → Q (.ref l) H) ∧ (2 ≤ k → ∀ p, H p = none → Q (.ref p) (upd H p (.tup (repL k.toNat xs))))
  | _, _ => False
theorem op_mulT0 : OpR X (binaryOp .Mult) (gMulT X.K) := by
  intro pins s σ H x y v u Q I rx ry h
  unfold gMulT at h
  split at h
  · rename_i l k
    obtain ⟨xs, hT, hne, ⟨h1, h2⟩, hz, q1, q2⟩ := h
    by_cases hk : k = 1
    · subst hk
      cases rx
      obtain ⟨t, rfl⟩ := ry
      obtain ⟨its, r, ⟨⟨cls, dd, data, sl⟩, ho, hc, n, hd⟩, hs⟩ := I.tuple hT
      simp only at hc hd
      subst hc hd
      refine wpAny_binaryOp_repeat_ref (T := "tuple") (U := "int") (by decide) ⟨_, ho, rfl⟩ (fun s' => typeIs_int s' 1 t) noFill_tuple_mul F.fills_int_mul F.slot_int_rmul repeat_tuple F.slot_int_index.lookup
        (call_meets F.slot_int_rmul (typeIs_int s 1 t) F.entry_int_rmul (F.args_int_rmul_2 _ _) (int_rmul_tuple 1 t l its.toArray n dd sl) ⟨ho, rfl, ⟨_, ho, rfl⟩, call_meets F.slot_tuple_mul ⟨_, ho, rfl⟩ F.entry_tuple_mul (F.args_tuple_mul_2 _ _) (tuple_mul1 l its.toArray n sl t dd) ⟨ho, ?_⟩⟩)
      exact ⟨.ref l, H, I, rfl, q1 rfl⟩
    · exact op_repT pins s σ H _ _ v u Q I rx ry ⟨l, k, xs, rfl, rfl, hT, hne, by omega, h2, hz, q2 (by omega)⟩
  · exact h.elim
theorem op_mulT (hK : X.K = K := by rfl) : OpR X (binaryOp .Mult) (gMulT K) := hK ▸ op_mulT0
end
end Pk

namespace Pk
open PySem PySem.Spec PyProof.Rows L2
section
variable {X : Cx} {K : PySem.W.Frag}
/-- list(range(n)) -/
def gListRange (ta : TA) : TE := fun σ H Q => ta σ H fun vs H1 => ∃ n : Nat, vs = [.int (n : Nat)] ∧ n ≤ 1000000 ∧ ∀ p, H1 p = none → Q (.ref p) (upd H1 p (.lst ((List.range n).map fun j => V.int ((j : Nat) : Int))))
theorem pe_listRange {e : Expr} {ta : TA} {p pos p2 pos2 : Pos} (hl : X.mg "list" = none) (hm : X.mg "range" = none) (ha : PA X [e] ta) (hc : X.calm = true) (hgl : Gl X "list" := by rfl) (hg : Gl X "range" := by rfl)
    (hs1 : starEach [.Call (.Name "range" p) [e] [] pos] X.env = (false, eval (.Call (.Name "range" p) [e] [] pos) X.env) :: starEach [] X.env := by rfl) (hs : starEach [e] X.env = [(false, eval e X.env)] := by rfl) :
    PE X (.Call (.Name "list" p2) [.Call (.Name "range" p) [e] [] pos] [] pos2) (gListRange ta) := by
  refine ⟨fun pins s σ H Q I h => ?_⟩
  refine wpAny_Call_Name_kw (ld_blt I hgl hl bt_list ?_ (by decide) (by decide))
  refine PyProof.Rows.callWith_type1 ?_ hs1 rfl
  rw [hs1]
  show wpAny _ _ (spliced ((false, eval (.Call (.Name "range" p) [e] [] pos) X.env) :: backTo pos2 (starEach [] X.env))) _ _ s
  refine Calls.spliced_cons ?_
  refine wpAny_Call_Name_kw (ld_blt I hg hm boot_range ?_ (by decide) (by decide))
  refine PyProof.Rows.callWith_type1 (thn (ha.run pos pins s σ H _ I h) fun us s1 ⟨vs, H1, I1, r1, q1⟩ => ?_) hs rfl
  obtain ⟨n, rfl, hn, q⟩ := q1
  obtain ⟨u, rfl, t, rfl⟩ := vals1 r1
  refine call_range_1 ?_
  refine Calls.spliced_nil ?_
  generalize hh0 : s1.heap.push { cls := .type "range", data := .fields #[.int 0 s1.toks, .int ((n : Nat) : Int) t, .int 1 (s1.toks + 1)] } = h0
  have hk0 : ∀ b o, s1.heap.get? b = some o → h0.get? b = some o := fun b o e => by rw [← hh0]; exact Heap.get?_push_of_some _ e
  have hr : h0.get? s1.heap.objs.size = some { cls := .type "range", data := .fields #[.int 0 s1.toks, .int ((n : Nat) : Int) t, .int 1 (s1.toks + 1)] } := by rw [← hh0]; exact Heap.get?_push_size _ rfl
  have I2 : Inv X pins σ H1 { s1 with heap := h0, toks := s1.toks + 1 + 1 } := I1.kept hk0
  refine call_list_range (n := n) (a := 0) (b := ((n : Nat) : Int)) (c := 1) (I.ok.hd hc) hr (small_one (by decide) (by decide) (by omega) (by omega)) (by rw [rangeSize_one]; split <;> omega) (by omega) fun h' tk acc c hk hS hacc => ?_
  have hv : Vals ((List.range n).map fun j => V.int ((j : Nat) : Int)) acc.toList := vals_of_get (by rw [List.length_map, List.length_range]; have := hacc.1; simp [this]) fun j y v h1 h2 => by
    obtain ⟨tt, rfl⟩ := hacc.2 j v (by simpa using h2)
    rw [List.getElem?_map] at h1
    obtain ⟨z, hz, rfl⟩ := Option.map_eq_some_iff.mp h1
    have hj : j < n := by
      have := (List.getElem?_eq_some_iff.mp hz).1
      rw [List.length_range] at this
      exact this
    rw [List.getElem?_range hj] at hz
    cases hz
    exact ⟨tt, by rw [Int.zero_add, Int.mul_one]⟩
  refine ⟨.ref h0.objs.size, upd H1 h0.objs.size (.lst ((List.range n).map fun j => V.int ((j : Nat) : Int))), I2.laid (t' := tk) (o := .lst ((List.range n).map fun j => V.int ((j : Nat) : Int))) hk (Nat.le_refl _) ⟨by rw [List.length_map, List.length_range]; exact Nat.le_trans hn line6, acc.toList, c, hv, by rw [Array.toArray_toList]; exact hS⟩, rfl, q _ (I2.hok.fresh (Nat.le_refl _))⟩
end
end Pk

namespace Pk
open PySem PySem.Spec PyProof.Rows L2
section
variable {X : Cx} {K : PySem.W.Frag}
/-- str of one figure; a text stays -/
def gStr : RC := fun vs H Q => match vs with
  | [.int i] => (0 ≤ i ∧ i ≤ 9) ∧ Q (.str (S [48 + i.toNat])) H
  | _ => False
theorem str_fig {i : Int} (h0 : 0 ≤ i) (h1 : i ≤ 9) : (Str.ofString (toString i)) = S [48 + i.toNat] ∧ i.natAbs.log2 < 1920 := by
  have e : i = 0 ∨ i = 1 ∨ i = 2 ∨ i = 3 ∨ i = 4 ∨ i = 5 ∨ i = 6 ∨ i = 7 ∨ i = 8 ∨ i = 9 := by omega
  rcases e with rfl | rfl | rfl | rfl | rfl | rfl | rfl | rfl | rfl | rfl <;> exact ⟨by decide +kernel, by decide +kernel⟩
theorem cr_strG (hK : X.K = K := by rfl) : CallR X (.type "str") gStr := by
  intro pins s σ H xs us Q I r h
  unfold gStr at h
  split at h
  · obtain ⟨⟨h0, h1⟩, q⟩ := h
    obtain ⟨e1, e2⟩ := str_fig h0 h1
    exact call_str_int pins s σ H _ us Q I r ⟨_, rfl, e2, by rw [show ((toString _ : String) : Str) = _ from e1]; exact q⟩
  · exact h.elim
/-- int of an int, a truth value, a figure -/
def gInt2 : RC := fun vs H Q => match vs with
  | [.int i] => Q (.int i) H
  | [.bl k] => Q (.int (if k then 1 else 0)) H
  | [.str z] => ∃ c, tl z = [c] ∧ (48 ≤ c ∧ c ≤ 57) ∧ Q (.int ((c : Int) - 48)) H
  | _ => False
theorem int_fig {c : Nat} (h0 : 48 ≤ c) (h1 : c ≤ 57) : PySem.intText? (S [c]) = some ((c : Int) - 48) := by
  have e : c = 48 ∨ c = 49 ∨ c = 50 ∨ c = 51 ∨ c = 52 ∨ c = 53 ∨ c = 54 ∨ c = 55 ∨ c = 56 ∨ c = 57 := by omega
  rcases e with rfl | rfl | rfl | rfl | rfl | rfl | rfl | rfl | rfl | rfl <;> decide +kernel
theorem cr_intG2 : CallR X (.type "int") gInt2 := by
  intro pins s σ H xs us Q I r h
  unfold gInt2 at h
  split at h
  · exact call_int1 pins s σ H _ us Q I r (.inl ⟨_, rfl, h⟩)
  · exact call_int1 pins s σ H _ us Q I r (.inr ⟨_, rfl, h⟩)
  · rename_i z
    obtain ⟨c, e, ⟨h0, h1⟩, q⟩ := h
    have ez : z = S [c] := by rw [← S_tl z, e]
    subst ez
    exact call_int_str pins s σ H _ us Q I r ⟨_, _, rfl, int_fig h0 h1, by rw [len_S]; show 1 ≤ 640; decide, q⟩
  · exact h.elim
def gAny (K : PySem.W.Frag) : RC := fun vs H Q => match vs with
  | [.ref p] => ∃ bs : List Bool, SqL K H p (bs.map V.bl) ∧ Q (.bl (bs.any id)) H
  | _ => False
theorem cr_anyG0 (hc : X.calm = true) : CallR X (.builtin "any") (gAny X.K) := by
  intro pins s σ H xs us Q I r h
  unfold gAny at h
  split at h
  · obtain ⟨ys, h1, h2⟩ := h
    exact cr_any hc pins s σ H _ us Q I r ⟨_, ys, rfl, h1, h2⟩
  · exact h.elim
theorem cr_anyG (hc : X.calm = true) (hK : X.K = K := by rfl) : CallR X (.builtin "any") (gAny K) := hK ▸ cr_anyG0 hc
/-- a text split at a sign: its parts -/
def gSplit : RM := fun x vs H Q => match x, vs with
  | .str a, [.str b] => ∃ (c : Nat) (ys : List (List Nat)), tl b = [c] ∧ c < 256 ∧ ys ≠ [] ∧ (∀ y ∈ ys, c ∉ y) ∧ tl a = TL.joinL [c] ys ∧ (tl a).length ≤ 1000000 ∧ ∀ p, H p = none → Q (.ref p) (upd H p (.lst (ys.map txV)))
  | _, _ => False
theorem mt_splitG (hK : X.K = K := by rfl) : MtR X "str.split" gSplit := by
  intro pins s σ H x xs v us Q I rx r h
  unfold gSplit at h
  split at h
  · rename_i a b
    obtain ⟨c, ys, hb, hc, hne, hy, ha, hl, q⟩ := h
    have eb : b = S [c] := by rw [← S_tl b, hb]
    have es : Txt.split a b = ys.map S := by
      have h1 := TL.split_join (y := b) (s := c) (S := []) hb (by rw [eb]; simp [hc]) (parts := ys.map S) (by simpa using hne) (fun p hp => by
        obtain ⟨y, hy', rfl⟩ := List.mem_map.mp hp
        exact hy y hy')
      have ea : a = Txt.join b (ys.map S) := by
        have e2 : tl (Str.join b (ys.map S)) = TL.joinL (tl b) ((ys.map S).map TL.tl) := TL.tl_join b (ys.map S)
        rw [TL.join_eq, ← S_tl (Str.join b (ys.map S)), e2, map_tl_S, hb, ← ha, S_tl]
      rw [ea]
      exact h1
    refine mt_split pins s σ H _ _ v us Q I rx r ⟨a, b, rfl, rfl, by rw [len_S, hb]; rfl, by rw [len_S, sizeLine_eq]; omega, fun p hp => ?_⟩
    rw [es, List.map_map]
    exact q p hp
  · exact h.elim
end
end Pk

namespace Pk
open PySem PySem.Spec PyProof.Rows L2
section
variable {X : Cx} {K : PySem.W.Frag}
/-! ### the own base class's __init__, called with self -/
theorem pe_pkinit {x : Str} {C0 : Addr} {e : Expr} {es : List Expr} {ta : TA} {p1 p2 pos : Pos} {pl : Sem Bool} (hg : Gl X x) (hm : X.mg x = some (.ref C0)) (rd : ClX.CRead X.K C0 (.type "type"))
    (vV : PySem.W.findCls X.K (.ref C0) (.type "type") "__init__" = some (.val (.builtin "ValueError.__init__"))) (ha : PA X (e :: es) ta)
    (hc : eval (.Call (.Attribute (.Name x p1) "__init__" p2) (e :: es) [] pos) X.env = (do
      let ov ← eval (.Name x p1) X.env
      standAt p2.atName
      let (f, first) ← holding [ov] (getMethod ov "__init__" pl)
      callWith pos f first (backTo pos (starEach (e :: es) X.env)) (backToKw pos (keywordEach [] X.env))) := by rfl)
    (he : starEach (e :: es) X.env = (false, eval e X.env) :: starEach es X.env := by rfl) (hpl : (backTo pos (starEach es X.env)).any (·.1) = false := by rfl) (hdb : (x == ("__debug__" : Str)) = false := by decide) :
    PE X (.Call (.Attribute (.Name x p1) "__init__" p2) (e :: es) [] pos) (tVeI X.K ta) := by
  refine ⟨fun pins s σ H Q I h => ?_⟩
  refine PySem.W.methodCall_KW (ld_glob I hg hm ?_ hdb) hc
  refine PySem.W.method_cls I.kIn rd.ga (PySem.W.cls_value I.kIn rd.rd vV (by decide +kernel) ?_)
  show wpAny _ _ (callWith pos (Value.builtin "ValueError.__init__") [] (backTo pos (starEach (e :: es) X.env)) []) _ _ _
  refine PyProof.Rows.callWith_method1 (thn (ha.run pos pins _ σ H _ (I.tok _) h) fun us s1 ⟨vs, H1, I1, r1, a, C, ws, ev, hl, T, ea, q⟩ => ?_) he hpl
  subst ev
  cases r1 with
  | @cons _ u0 _ ur ra rw' =>
    obtain rfl : u0 = Value.ref a := ra
    have hlen : ur.length ≤ sizeLine := by
      rw [← Paired.length rw', sizeLine_eq]
      omega
    exact oinit_ok T I1 ea hlen fun s' J => ⟨.non, H1, J, rfl, q⟩
/-! ### isinstance(e, C) in an except suite, e with or without fields -/
theorem exc_class {prog : Program} {w : World} {A : Around} {E : Value → Shared → Prop} {s : Shared} {K : PySem.W.Frag} {x D : Addr} {ox : Obj} {od : Option Obj} {Q : Option Value → Shared → Prop} (c : ExcC K D) (kin : K.In s.heap) (I : PySem.W.InstAt s.heap x ox D od)
    (h : Q (some (.ref D)) { s with toks := s.toks + 1 }) : wpAny (model prog w) A (getAttr? (.ref x) "__class__") Q E s := by
  have hf : PySem.W.findObj K D od "__class__" = some (.bind (.builtin "getset_descriptor.__get__") (.builtin "object.__class__")) := by
    obtain ⟨cd, hc, _⟩ := PySem.W.any_some c.hd
    unfold PySem.W.findObj
    rw [hc, Option.bind_some, c.ha, Option.bind_some]
    simp [c.hn, c.ht]
  obtain ⟨hp, g, d, t, os⟩ := s
  have L0 := I.type (M := model prog w)
  have sub : PySem.W.Looks (model prog w) hp (isInstance (.ref x) (.type "BaseException")) true := L0.andThen (PySem.W.looks_subIn kin c.hs)
  have hx2 : (Value.builtin "BaseException.__getattribute__" == Value.builtin "object.__getattribute__") = false := by decide +kernel
  unfold getAttr? getAttrBy? getAttrBy
  refine wpAny_bind (wpAny_mkText (wpAny_bind (wpAny_attempt (wpAny_holding (wpAny_bind (L0.at (wpAny_bind ((PySem.W.looks_findIn (M := model prog w) kin c.hg).at ?_))))))))
  show wpAny _ _ (if (onTheHeap (Value.ref D) && Value.builtin "BaseException.__getattribute__" == Value.builtin "object.__getattribute__") = true then _ else _) _ _ _
  rw [hx2, Bool.and_false, if_neg Bool.false_ne_true]
  unfold getAttrByItsOwn hookBefore
  refine wpAny_bind ?_
  rw [if_pos (show onTheHeap (Value.ref D) = true from rfl)]
  refine (PySem.W.looks_findIn (M := model prog w) kin c.hk).at ?_
  refine wpAny_bind (wpAny_attempt (wpAny_holding ?_))
  unfold callGetattribute
  rw [show (false && onTheHeap (Value.builtin "BaseException.__getattribute__")) = false from rfl, if_neg Bool.false_ne_true]
  unfold boundAndCalled
  rw [PySem.F.excAttr_ValueError.ga.bind (.ref x)]
  refine wpAny_bind (wpAny_pure ?_)
  show wpAny _ _ (call (.builtin "BaseException.__getattribute__") [.ref x, .str "__class__" t]) _ _ _
  refine wpAny_call (codeAny_call_builtin PySem.F.excAttr_ValueError.ga.plain PySem.F.entry_bexc_ga ?_)
  refine @PySem.W.check_slot (model prog w) _ _ ⟨hp, g, d, t + 1, os⟩ "BaseException.__getattribute__" "BaseException" "__getattribute__" (.ref x) [.str "__class__" t] [] _ (by decide +kernel) (by decide +kernel) sub (PySem.F.args_bexc_ga (.ref x) (.str "__class__" t)) ?_
  unfold Builtin.«object.__getattribute__»
  refine wpAny_bind (wpAny_of_eq (a := ((Value.ref x : Value), [Value.str "__class__" t])) (by first | rfl | (simp only [slotArgs]; rfl)) ?_)
  refine wpAny_bind (wpAny_pure (wpAny_bind (L0.at (wpAny_bind ((PySem.W.looks_find (M := model prog w) kin I hf).at ?_)))))
  show wpAny _ _ (holding [Value.builtin "object.__class__"] (call (.builtin "getset_descriptor.__get__") [.builtin "object.__class__", .ref x, .ref D]) >>= ret) _ _ _
  refine wpAny_bind (wpAny_holding (wpAny_call (PySem.W.class_get (s := ⟨hp, g, d, t + 1, os⟩) (ox := ox) (od := od) kin I c.hm ?_)))
  refine wpAny_pure ?_
  show wpAny _ _ (handedOut (.ref D)) _ _ _
  rw [PySem.W.handedOut_of (v := .ref D) rfl]
  first
    | exact wpAny_pure (wpAny_pure h)
    | exact wpAny_pure h
    | exact wpAny_pure (wpAny_bind (wpAny_pure (wpAny_pure h)))
theorem exc_kit {K : PySem.W.Frag} {x D : Addr} {ox : Obj} {od : Option Obj} (c : ExcC K D) : PySem.W.KitX K (.ref x) (.ref D) (fun h => PySem.W.InstAt h x ox D od) where
  ty := fun _ _ _ I => I.type
  it := fun _ _ kin _ => by
    obtain ⟨cdD, hcD, _⟩ := PySem.W.any_some c.hd
    unfold PySem.W.clsIn at hcD
    split at hcD
    · rename_i c' d' cd' sl' ho
      intro A' Q' E' s' k q
      unfold isType loadHead
      exact wpAny_bind (wpAny_loadPart (k _ _ (kin _ _ ho)) (wpAny_pure q))
    · cases hcD
  ne := fun h tp dd its n sl kin htp => by
    obtain ⟨cdD, hcD, _⟩ := PySem.W.any_some c.hd
    refine Bool.eq_false_iff.mpr fun q => ?_
    have e : D = tp := Value.ref.inj (beq_iff_eq.mp q)
    subst e
    unfold PySem.W.clsIn at hcD
    split at hcD
    · rename_i c' d' cd' sl' ho
      have z := (kin _ _ ho).symm.trans htp
      cases z
    · cases hcD
  ca := fun kin I k => exc_class c kin I k
/-- what a class or a built-in type stands for -/
def clsV : V → Option Value
  | .ref C => some (.ref C)
  | .ty n => some (.type n)
  | _ => none
/-- isinstance(e, c): a the caught exception, cls its class, d its dict -/
def gIsX (K : PySem.W.Frag) (a : Addr) (cls : Value) (d : Option Addr) : RC := fun xs H Q => ∃ (c : V) (cv : Value) (D : Addr) (b : Bool), xs = [.ref a, c] ∧ clsV c = some cv ∧ cls = .ref D ∧ ExcC K D ∧ (d = none ∨ ∃ dd fs, d = some dd ∧ H dd = some (.xd fs)) ∧ PySem.W.kitOne K (.ref D) cv = some b ∧ Q (.bl b) H
theorem cr_isX {a : Addr} {oe : Obj} {cls : Value} {d : Option Addr} {pn : List (Addr × Obj)} (hz : Zc cls d oe) (hf : ∃ vs, oe.data = .fields vs) (hK : X.K = K := by rfl) : CallR (X.suite a ((a, oe) :: pn)) (.builtin "isinstance") (gIsX K a cls d) := by
  subst hK
  intro pins s σ H xs us Q I r h
  obtain ⟨c, cv, D, b, rfl, hcv, rfl, hC, hd, e, q⟩ := h
  cases r with
  | cons rx rr =>
    cases rr with
    | @cons _ u1 _ _ rt rr =>
      cases rr
      cases rx
      have ec : u1 = cv := by
        cases c <;> simp only [clsV] at hcv <;> cases hcv <;> exact rt
      subst ec
      obtain ⟨hget, _⟩ := I.pin (a, oe) (List.mem_append.mpr (.inl List.mem_cons_self))
      obtain ⟨vs, hv⟩ := hf
      have J : ∃ od, PySem.W.InstAt s.heap a oe D od := by
        rcases hd with rfl | ⟨dd, fs, rfl, hdd⟩
        · exact ⟨none, hget, hz.1, by unfold PySem.W.notCls; rw [hv] <;> rfl, by rw [hz.2]; trivial⟩
        · have hx : ObjOk X.prog X.w H s.heap dd (.xd fs) := I.hok dd _ hdd
          obtain ⟨mA, hns, hr⟩ := hx
          obtain ⟨od, ho, hl⟩ := lookIn_ns hns
          exact ⟨some od, hget, hz.1, by unfold PySem.W.notCls; rw [hv] <;> rfl, by rw [hz.2]; exact ho⟩
      obtain ⟨od, J⟩ := J
      exact PySem.W.kia_one (exc_kit hC) I.kIn J e (fun z => nomatch z) fun tk => ⟨.bl b, H, I.kept (t' := tk) fun _ _ z => z, rfl, q⟩
/-- e.f, whatever the class -/
def gXf (K : PySem.W.Frag) (a : Addr) (cls : Value) (d : Option Addr) (f : Str) (te : TE) : TE := fun σ H Q => te σ H fun x H1 => x = .ref a ∧ ∃ C : Addr, cls = .ref C ∧ XfC K C ∧ PySem.W.findIn K (.ref C) f = some none ∧ ∃ (dd : Addr) (fs : List (Str × V)) (v : V), d = some dd ∧ H1 dd = some (.xd fs) ∧ fs.lookup f = some v ∧ Q v H1
theorem pe_xfG {a : Addr} {oe : Obj} {cls : Value} {d : Option Addr} {pn : List (Addr × Obj)} {e : Expr} {te : TE} {pos : Pos} {n : Str} (hz : Zc cls d oe) (hf : ∃ vs, oe.data = .fields vs) (he : PE (X.suite a ((a, oe) :: pn)) e te)
    (hb : attributeBase e n X.env (eval e X.env) = eval e X.env := by rfl) (hK : X.K = K := by rfl) : PE (X.suite a ((a, oe) :: pn)) (.Attribute e n pos) (gXf K a cls d n te) := by
  subst hK
  refine ⟨fun pins s σ H Q I h => ?_⟩
  refine attr_of hb (thn (he.run pins s σ H _ I h) fun u s1 hh => ?_)
  obtain ⟨x, H1, I1, rx, rfl, C, rfl, T, hno, dd, fs, v, rfl, ea, l, q⟩ := hh
  obtain rfl : u = Value.ref a := rx
  obtain ⟨ha, _⟩ := I1.pin (a, oe) (List.mem_append_left _ List.mem_cons_self)
  obtain ⟨vs, hd⟩ := hf
  have hx : ObjOk X.prog X.w H1 s1.heap dd (.xd fs) := I1.hok dd _ ea
  obtain ⟨mA, hns, hr⟩ := hx
  obtain ⟨od, ho, hl⟩ := lookIn_ns hns
  obtain ⟨u, hu, ru⟩ := RelO.some_of (v := v) (o := mA n) (by rw [← l]; exact hr n)
  have J : PySem.W.InstAt s1.heap a oe C (some od) := ⟨ha, hz.1, by unfold PySem.W.notCls; rw [hd] <;> rfl, by rw [hz.2]; exact ho⟩
  exact HandSPX.exc_get I1.kIn J T.ga T.gg T.exC (PySem.W.findObj_own T.hdC hno rfl (by rw [hl, hu])) (handed_of ru) ⟨v, H1, I1.tok _, ru, q⟩
/-! ### list.count, list.index of flat items -/
def gLCount (K : PySem.W.Frag) : RM := fun x xs H Q => ∃ (a : Addr) (ys : List V) (y : V), x = .ref a ∧ xs = [y] ∧ SqL K H a ys ∧ flatV y = true ∧ ys.all flatV = true ∧ Q (.int (ys.countP (fun z => eqV z y) : Nat)) H
theorem cnt_eqU {x : V} : ∀ {xs : List V} {us : List Value}, Vals xs us → xs.all flatV = true → us.countP (eqU x) = xs.countP fun y => eqV y x
  | _, _, .nil, _ => rfl
  | y :: xs, u :: us, .cons r t, f => by
    rw [List.all_cons, Bool.and_eq_true] at f
    rw [List.countP_cons, List.countP_cons, eqU_of r f.1, cnt_eqU t f.2]
theorem mt_lcntG (hK : X.K = K := by rfl) : MtR X "list.count" (gLCount K) := by
  subst hK
  intro pins s σ H x xs v us Q I rx rxs h
  obtain ⟨p, ys, y, rfl, rfl, hs, fy, fys, q⟩ := h
  cases rx
  obtain ⟨u, rfl, ru⟩ := rxs.one
  obtain ⟨its, rv, ⟨⟨cls, dd, data, sl⟩, n, ho, hc, hdn, hd⟩, hlen⟩ := I.list hs
  simp only at hc hd
  subst hc hd
  refine call_meets PySem.F.slot_list_count ⟨_, ho, rfl⟩ PySem.F.entry_list_count (PySem.F.args_list_count_2 _ _)
    (SeqAt.list_countAt p its.toArray n dd sl u (eqU y)) ⟨ho, fun z hz => mem_eqAt ru fy rv fys z (by simpa using hz), ?_⟩
  have ec : its.toArray.toList.countP (eqU y) = ys.countP fun z => eqV z y := cnt_eqU rv fys
  refine ⟨.int ((ys.countP fun z => eqV z y) : Nat), H, I.tok _, ⟨s.toks, ?_⟩, q⟩
  show Value.int ((its.toArray.toList.countP (eqU y) : Nat) : Int) s.toks = _
  rw [ec]
theorem mt_lidxG (hK : X.K = K := by rfl) : MtR X "list.index" (rIndex K) := by
  subst hK
  exact mt_index
end
end Pk

namespace Pk
open PySem PySem.Spec PyProof.Rows L2
/-- the end of a law whose own def makes lambdas: the table of its code object is told -/
theorem walk_tab {l : PySem.W.OpenLaw} {n k : Nat} {q : Program} {loose : List Str} {XP : (Str → Option Value) → Heap → Prop} {YP : World → Heap → Prop} {d : DefRec} {K : Params → PySem.W.Frag} {CX : World → CXT} {x : Str}
    (hn : l.most = some n) (hn2 : n ≤ sizeLine) (hdf : d.params.defaults = []) (hr : Room k callerA) (hY : ∀ (w : World) (h : Heap), YP w h → (K w.params).In h) (hrec : (recsOf q).find? (fun e => e.name == d.name) = some d)
    (F : ∀ (w : World) (mg : Str → Option Value) (fa : Addr) (h : Heap), YP w h → (K w.params).In h → h.Ns mainGlobals mg → mg d.name = some (.ref fa) → (∀ c P, PySem.W.tabIn (K w.params) d.name = some (c, P) → PySem.W.CodeHd h c P ∧ h.get? P = some (PySem.W.tabObj #[])) → LamX.LawAtS l w (K w.params) (CX w) k n x mg fa h)
    (hCX : ∀ (w : World) (H : Hp) (s : Shared) (e : Value) (s' : Shared), CX w [] H s (fun _ _ _ => False) e s' → False) :
    PySem.W.WalkO q loose XP YP l.row.toRowW d [] (fun f vs => PySem.call f vs) := by
  refine Att.attach_callB hn hdf fun w s₀ s₁ mg mb fa o pm cd doc a vs ns G Y ho hd hcd hmg hobj hints hlen hbits hg => ?_
  have KX := hY w _ Y
  obtain ⟨fd, cs, sp, hT, nT, C, hb, hsp, hF⟩ := F w mg fa _ Y KX G.T.g hmg (fun c P ht => PySem.W.tab_of G.T KX hrec ht)
  exact LamX.law_callTs KX G.T.g G.T.b G.T.builtins G.T.nolimit hg hT nT C G.T.bmain hobj hints (Nat.le_trans hlen hn2) hr hF hb (fun H hH hS => hsp H a ns hlen hbits hH hS) fun H e s' => hCX w H s₁ e s'
end Pk

namespace Pk
open PySem PySem.Spec PyProof.Rows L2
/-! ### cells that are frozen -/
def uT : HO := .ext fun _ => True
/-- the objects that F tells, told as frozen -/
def Fz (F : Addr → Option Obj) (H : Hp) : Hp := fun b => match H b with
  | some o => some o
  | none => (F b).map fun o => .frz o uT
def Uf (F : Addr → Option Obj) (H : Hp) : Hp := fun b => match F b with
  | some _ => none
  | none => H b
section
variable {F : Addr → Option Obj} {H H' : Hp} {b : Addr} {o : Obj} {u : HO}
theorem fz_same : Same H (Fz F H) := fun b o e => by unfold Fz; rw [e]
theorem fz_at (h : H b = none) (f : F b = some o) : Fz F H b = some (.frz o uT) := by unfold Fz; rw [h, f]; rfl
theorem fz_none (h : H b = none) (f : F b = none) : Fz F H b = none := by unfold Fz; rw [h, f]; rfl
theorem of_fz (h : Fz F H b = some u) : H b = some u ∨ (H b = none ∧ ∃ o, F b = some o ∧ u = .frz o uT) := by
  unfold Fz at h
  split at h
  · rename_i e; rw [e]; exact .inl h
  · rename_i e
    cases f : F b with
    | none => rw [f] at h; cases h
    | some o => rw [f] at h; cases h; exact .inr ⟨e, o, rfl, rfl⟩
theorem uf_in (f : F b = some o) : Uf F H b = none := by unfold Uf; rw [f]
theorem uf_out (f : F b = none) : Uf F H b = H b := by unfold Uf; rw [f]
theorem of_uf (h : Uf F H b = some u) : F b = none ∧ H b = some u := by
  unfold Uf at h
  split at h
  · cases h
  · rename_i f; exact ⟨f, h⟩
theorem ok_uT {P : Program} {w : World} {h : Heap} (e : h.get? b = some o) : ObjOk P w H h b (.frz o uT) := ⟨e, trivial, ⟨o, e⟩, fun _ _ _ _ => trivial⟩
/-- what is frozen is apart from what H tells -/
theorem same_uf (hF : ∀ b o, F b = some o → H b = none) (s : Same H H') : Same H (Uf F H') := fun b u e => by
  have f : F b = none := by
    cases f : F b with
    | none => rfl
    | some o => rw [hF b o f] at e; cases e
  rw [uf_out f]
  exact s b u e
section
variable {P : Program} {w : World} {h : Heap}
theorem hok_fz (hok : HOk P w H h) (hF : ∀ b o, F b = some o → h.get? b = some o) : HOk P w (Fz F H) h := fun a u e => by
  rcases of_fz e with e | ⟨n, o, f, rfl⟩
  · exact (hok a u e).stay (fun _ _ _ q => q) (fun c q => fz_same _ _ q) fun c xs q => fz_same _ _ q
  · exact ok_uT (hF _ _ f)
theorem hok_uf (hok : HOk P w H h) (hF : ∀ b o, F b = some o → H b = some (.frz o uT) ∨ H b = none) : HOk P w (Uf F H) h := fun a u e => by
  obtain ⟨f, e⟩ := of_uf e
  have out : ∀ c v, H c = some v → (∀ o, v ≠ .frz o uT) → F c = none := fun c v q n => by
    cases f : F c with
    | none => rfl
    | some o =>
      rcases hF c o f with z | z
      · rw [q] at z; exact (n o (Option.some.inj z)).elim
      · rw [q] at z; cases z
  exact (hok a u e).stay (fun _ _ _ q => q) (fun c q => by rw [uf_out (out c _ q fun o z => by cases z)]; exact q) fun c xs q => by rw [uf_out (out c _ q fun o z => by cases z)]; exact q
end
/-- a call that ran with frozen cells, seen by who does not track them -/
theorem ce_thaw {P : Program} {w : World} {outer : List Env} {s s' : Shared} {Q Q' : VK} {v : Value} (hF : ∀ b o, F b = some o → s.heap.get? b = some o ∧ H b = none) (hfr : ∀ b ∈ frs outer, F b = none)
    (h : CE outer P w (Fz F H) s Q' v s') (hQ : ∀ v H', (∀ b o, F b = some o → H' b = some (.frz o uT)) → Q' v H' → Q v (Uf F H')) : CE outer P w H s Q v s' := by
  obtain ⟨x, H', os, bare, un, hok, r, q⟩ := h
  have nF : ∀ b u, H b = some u → F b = none := fun b u e => by
    cases f : F b with
    | none => rfl
    | some o => rw [(hF b o f).2] at e; cases e
  have fr : ∀ b o, F b = some o → H' b = some (.frz o uT) := fun b o f => un.frzs b o uT (fz_at (hF b o f).2 f)
  refine ⟨x, Uf F H', os, bare, ⟨fun b o e n hb _ => ?_, fun b o e n hb hx => ?_, fun b o e n hx => ?_, fun b o e hx => un.there b o e hx, fun b xs e => ?_, fun b o xs e => ?_, fun b ps e => ?_⟩, hok_uf hok fun b o f => .inl (fr b o f), r, hQ _ _ fr q⟩
  · cases f : F b with
    | none => exact un.keep b o e (fz_none n f) hb (by simp)
    | some o' =>
      have e2 := (hF b o' f).1
      rw [e] at e2
      cases e2
      exact (hok b _ (fr b o f)).1
  · exact un.slot b o e (fz_none n (hfr b hb)) hb hx
  · cases f : F b with
    | none => rw [uf_out f]; exact un.free b o e (fz_none n f) hx
    | some o' => exact uf_in f
  · rw [uf_out (nF _ _ e)]; exact un.tups b xs (fz_same _ _ e)
  · rw [uf_out (nF _ _ e)]; exact un.frzs b o xs (fz_same _ _ e)
  · obtain ⟨m, q⟩ := un.tbls b ps (fz_same _ _ e)
    exact ⟨m, by rw [uf_out (nF _ _ e)]; exact q⟩
/-- a call that ran with its cells thawed, seen by who tracks them as frozen -/
theorem cr_freeze {P : Program} {w : World} {outer : List Env} {s s' : Shared} {Q : VK} {E : XK} {r : Result} (hF : ∀ b o, F b = some o → H b = some (.frz o uT)) (hfr : ∀ b ∈ frs outer, H b = none) (hok0 : HOk P w H s.heap)
    (h : CR (L2.CX P w) outer P w (Uf F H) s (fun v H' => (∀ b o, F b = some o → H' b = none) → Q v (Fz F H')) (fun c d H' => (∀ b o, F b = some o → H' b = none) → E c d (Fz F H')) r s') : CR (L2.CX P w) outer P w H s Q E r s' := by
  have get0 : ∀ b o, F b = some o → s.heap.get? b = some o := fun b o f => (hok0 b _ (hF b o f)).1
  have nfr : ∀ b o, F b = some o → b ∉ frs outer := fun b o f hb => by have := hfr b hb; rw [hF b o f] at this; cases this
  have nF : ∀ b u, H b = some u → (∀ o, u ≠ .frz o uT) → F b = none := fun b u e n => by
    cases f : F b with
    | none => rfl
    | some o => rw [hF b o f] at e; exact (n o (Option.some.inj e).symm).elim
  have nN : ∀ b, H b = none → F b = none := fun b e => by
    cases f : F b with
    | none => rfl
    | some o => rw [hF b o f] at e; cases e
  have frz_case : ∀ (H' : Hp), (∀ b o u, Uf F H b = some (.frz o u) → H' b = some (.frz o u)) → (∀ b o, F b = some o → H' b = none) → ∀ b o u, H b = some (.frz o u) → Fz F H' b = some (.frz o u) := fun H' k n b o u e => by
    cases f : F b with
    | none => exact fz_same _ _ (k b o u (by rw [uf_out f]; exact e))
    | some o' =>
      rw [hF b o' f] at e
      cases e
      exact fz_at (n b _ f) f
  cases r with
  | ok fl =>
    cases fl with
    | ret v =>
      obtain ⟨x, H', os, bare, un, hok, rv, q⟩ := h
      have free : ∀ b o, F b = some o → H' b = none := fun b o f => un.free b o (get0 b o f) (uf_in f) (by simp)
      have keep : ∀ b o, F b = some o → s'.heap.get? b = some o := fun b o f => un.keep b o (get0 b o f) (uf_in f) (nfr b o f) (by simp)
      refine ⟨x, Fz F H', os, bare, ⟨fun b o e n hb hx => ?_, fun b o e n hb hx => ?_, fun b o e n hx => ?_, fun b o e hx => un.there b o e hx, fun b xs e => ?_, fun b o u e => ?_, fun b ps e => ?_⟩, hok_fz hok keep, rv, q free⟩
      · exact un.keep b o e (by rw [uf_out (nN b n)]; exact n) hb hx
      · exact un.slot b o e (by rw [uf_out (nN b n)]; exact n) hb hx
      · exact fz_none (un.free b o e (by rw [uf_out (nN b n)]; exact n) hx) (nN b n)
      · exact fz_same _ _ (un.tups b xs (by rw [uf_out (nF b _ e fun o z => by cases z)]; exact e))
      · exact frz_case H' un.frzs free b o u e
      · obtain ⟨m, q⟩ := un.tbls b ps (by rw [uf_out (nF b _ e fun o z => by cases z)]; exact e)
        exact ⟨m, fz_same _ _ q⟩
    | next => exact h
    | brk => exact h
    | cont => exact h
  | error e =>
    obtain ⟨a, B, H', cls, d, rfl, fly, hok, ub, na, os, bare, q⟩ := h
    have free : ∀ b o, F b = some o → H' b = none := fun b o f => ub.free b o (get0 b o f) (uf_in f)
    have keep : ∀ b o, F b = some o → B.get? b = some o := fun b o f => ub.keep b o (get0 b o f) (uf_in f) (nfr b o f)
    refine ⟨a, B, Fz F H', cls, d, rfl, fly, hok_fz hok keep, ⟨fun b o e n hb => ?_, fun b o e hb => ?_, fun b o e n => ?_, fun b o e hb => ub.there b o e hb, fun b xs e => ?_, fun b o u e => ?_, fun b ps e => ?_⟩, ?_, os, bare, q free⟩
    · exact ub.keep b o e (by rw [uf_out (nN b n)]; exact n) hb
    · exact ub.slot b o e hb
    · exact fz_none (ub.free b o e (by rw [uf_out (nN b n)]; exact n)) (nN b n)
    · exact fz_same _ _ (ub.tups b xs (by rw [uf_out (nF b _ e fun o z => by cases z)]; exact e))
    · exact frz_case H' ub.frzs free b o u e
    · obtain ⟨m, q⟩ := ub.tbls b ps (by rw [uf_out (nF b _ e fun o z => by cases z)]; exact e)
      exact ⟨m, fz_same _ _ q⟩
    · refine fz_none na ?_
      cases f : F a with
      | none => rfl
      | some o => have := keep a o f; rw [fly.2.1] at this; cases this
end
/-- what may be called without arguments, while Z stands: its promise -/
structure LamV (P : Program) (w : World) (K : PySem.W.Frag) (mg : Str → Option Value) (base : Heap) (k : Nat) (f : Addr) (Z : Hp → Prop) (sp : XK → Hp → VK → Prop) : Prop where
  mono : ∀ H H', Same H H' → Z H → Z H'
  fn : ∀ H h, HOk P w H h → Z H → PySem.W.FnAt f h
  run : ∀ (A : Around) (outer : List Env) (s : Shared) (H : Hp) (Q : VK) (E : XK), Room k A → Env0 P w K mg base A outer s H → Z H → sp E H Q → codeAny (model P w) A (.call (.ref f) ⟨[], []⟩) (CR (L2.CX P w) outer P w H s Q E) s
section
variable {X : Cx}
/-- x() where x is such a thing -/
def gAct (P : Program) (w : World) (K : PySem.W.Frag) (mg : Str → Option Value) (base : Heap) (k i : Nat) (E : XK) : TE := fun σ H Q => ∃ f Z sp, σ[i]? = some (some (.ref f)) ∧ LamV P w K mg base k f Z sp ∧ Z H ∧ sp E H Q
theorem pe_actV {k i : Nat} {a : Str} {W : WX} {E : XK} {p1 p2 : Pos} (tk : Takes X W) (hW : ∀ cls d σ' H', E cls d H' → W cls d σ' H') (hr : Room k X.A) (hN : X.N[i]? = some a) (hv : Vis X.env.scope a)
    (hd : (a == ("__debug__" : Str)) = false := by decide) (hcd : (a == ("__classdict__" : Str)) = false := by decide) : PE X (.Call (.Name a p1) [] [] p2) (gAct X.prog X.w X.K X.mg X.base k i E) := by
  refine ⟨fun pins s σ H Q I h => ?_⟩
  obtain ⟨f, Z, sp, hs, L, hZ, q⟩ := h
  refine wpAny_Call_Name_kw (thn ((pe_var (pos := p1) (i := i) hN hv hd hcd).run pins s σ H (fun v H1 => v = .ref f ∧ H1 = H) I ⟨.ref f, hs, rfl, rfl⟩) fun u s1 ⟨v, H1, I1, r1, ev, eH⟩ => ?_)
  subst ev eH
  obtain rfl : u = Value.ref f := r1
  refine PySem.W.callWith_F0 (L.fn _ _ I1.hok hZ) (wpAny_call (codeAny_mono (L.run _ _ _ _ Q E hr I1.env0 hZ q) fun r s' hq => ?_))
  cases r with
  | error e => exact passes_call tk hW pins σ _ s1 e s' I1 hq
  | ok fl =>
    cases fl with
    | ret u => exact I1.after hq
    | next => exact False.elim hq
    | brk => exact False.elim hq
    | cont => exact False.elim hq
end
end Pk

namespace Pk
open PySem PySem.Spec PyProof.Rows L2
/-! ### a lambda, with or without one parameter that has a default -/
abbrev lfn (qual : Str) (params : Arguments) (body : Expr) (scope : Scope) (cl : List (Str × Addr)) (dV pm cdv ct : Value) : FuncData :=
  { name := "<lambda>", qualname := qual, params := params, body := .expr body, scope := scope, globals := mainGlobals, closure := cl, defaults := dV, kwdefaults := .none, doc := .none, pyModule := pm,
    annotations := none, code := cdv, closureTuple := ct, builtins := builtinsNs }
abbrev lob (qual : Str) (params : Arguments) (body : Expr) (scope : Scope) (cl : List (Str × Addr)) (dV pm : Value) (c' : Addr) (ct : Value) : Obj := { cls := .type "function", data := .func (lfn qual params body scope cl dV pm (.ref c') ct) }
section
variable {M : Model} {A : Around} {E : Value → Shared → Prop} {s : Shared} {qual : Str} {params : Arguments} {body : Expr} {scope : Scope} {env : Env} {c P : Addr} {ps : Array Value} {pos : Pos} {fl : Nat} {mg : Str → Option Value} {clos : List (Str × Addr)} {dV : Value} {Q : Value → Shared → Prop}
theorem lam_new (hcl : closureFor scope env = pure clos) (hge0 : env.globals = mainGlobals) (hg : s.heap.Ns mainGlobals mg) (hcode : env.code = .ref c) (C : PySem.W.CodeHd s.heap c P) (hP : s.heap.get? P = some (PySem.W.tabObj ps)) (ht : TriplesOk ps.toList)
    (hnf : codeAmong pos ps.toList = none) (hgP : mainGlobals ≠ P) (hb : s.heap.BuiltinsAt mg P)
    (h : ∀ c' ctv h' tk, Heap.ExtBut P s.heap h' → s.heap.objs.size ≤ c' → c' < h'.objs.size → h'.CodeRec (.ref c') qual → h'.get? P = some (PySem.W.tabObj (ps ++ #[rawInt pos.line, rawInt pos.col, .ref c'])) →
      Q (.ref h'.objs.size) { s with heap := h'.push (lob qual params body scope clos dV ((mg "__name__").getD .none) c' ctv), toks := tk }) :
    wpAny M A (makeTail "<lambda>" qual params (.expr body) scope env dV .none none pos fl) Q E s := by
  obtain ⟨bm, ob, b1, b2, _, b3, b4, b5, b6, b7⟩ := hb
  unfold makeTail
  rw [hcl, hge0]; refine wpAny_bind (wpAny_pure ?_)
  cases clos with
  | nil =>
    simp only [List.isEmpty_nil, if_true]; refine wpAny_bind (wpAny_pure (wpAny_bind (wpAny_functionCodeX hcode (C.code hP ht) (C.tab hP) hnf fun c' h' tk hx hge hlt _ hrec htb _ => ?_)))
    have g' := hg.extBut hx hgP
    exact wpAny_bind (wpAny_builtinsFor g' b1 b2 (hx _ _ b3 b4) b5 b6 b7 (wpAny_bind (wpAny_nsGet g' (wpAny_bind (wpAny_pure (wpAny_newObj_type (h c' .none h' tk hx hge hlt hrec htb.2) (by size_fits)))))))
  | cons q r =>
    have up : ∀ {oT : Obj} {b : Addr} {o : Obj}, s.heap.get? b = some o → (s.heap.push oT).get? b = some o := fun e => Heap.get?_push_of_some _ e
    simp only [List.isEmpty_cons, Bool.false_eq_true, if_false]; refine wpAny_bind (wpAny_newTextTuple (wpAny_bind (wpAny_functionCodeX hcode ((C.keeps fun b o e => up e).code (up hP) ht) ((C.keeps fun b o e => up e).tab (up hP)) hnf fun c' h' tk hx hge hlt _ hrec htb _ => ?_)))
    have g' := (hg.push _).extBut hx hgP
    have x' : Heap.ExtBut P s.heap h' := fun b o hb' e => hx b o hb' (up e)
    have l' : s.heap.objs.size ≤ c' := Nat.le_trans (by rw [Heap.size_push]; omega) hge
    exact wpAny_bind (wpAny_builtinsFor g' b1 b2 (x' _ _ b3 b4) b5 b6 b7 (wpAny_bind (wpAny_nsGet g' (wpAny_bind (wpAny_pure (wpAny_newObj_type (h c' _ h' tk x' l' hlt hrec htb.2) (by size_fits)))))))
theorem lam_hit {cv : Value} (hcl : closureFor scope env = pure clos) (hge0 : env.globals = mainGlobals) (hg : s.heap.Ns mainGlobals mg) (hcode : env.code = .ref c) (C : PySem.W.CodeHd s.heap c P) (hP : s.heap.get? P = some (PySem.W.tabObj ps)) (ht : TriplesOk ps.toList)
    (hf : codeAmong pos ps.toList = some cv) (hb : s.heap.BuiltinsAt mg P)
    (h : ∀ (ctv : Value) (h' : Heap) (tk : Tok), (∀ b o, s.heap.get? b = some o → h'.get? b = some o) → s.heap.objs.size ≤ h'.objs.size →
      Q (.ref h'.objs.size) { s with heap := h'.push { cls := .type "function", data := .func (lfn qual params body scope clos dV ((mg "__name__").getD .none) cv ctv) }, toks := tk }) :
    wpAny M A (makeTail "<lambda>" qual params (.expr body) scope env dV .none none pos fl) Q E s := by
  obtain ⟨bm, ob, b1, b2, _, b3, b4, b5, b6, b7⟩ := hb
  unfold makeTail
  rw [hcl, hge0]; refine wpAny_bind (wpAny_pure ?_)
  cases clos with
  | nil =>
    simp only [List.isEmpty_nil, if_true]
    exact wpAny_bind (wpAny_pure (wpAny_bind (wpAny_functionCode_hit hcode (C.code hP ht) hf (wpAny_bind (wpAny_builtinsFor hg b1 b2 b4 b5 b6 b7 (wpAny_bind (wpAny_nsGet hg (wpAny_bind (wpAny_pure (wpAny_newObj_type (h .none s.heap s.toks (fun _ _ e => e) (Nat.le_refl _)) (by size_fits)))))))))))
  | cons q r =>
    have up : ∀ {oT : Obj} {b : Addr} {o : Obj}, s.heap.get? b = some o → (s.heap.push oT).get? b = some o := fun e => Heap.get?_push_of_some _ e
    have sz : ∀ oT : Obj, s.heap.objs.size ≤ (s.heap.push oT).objs.size := fun oT => by rw [Heap.size_push]; omega
    simp only [List.isEmpty_cons, Bool.false_eq_true, if_false]
    exact wpAny_bind (wpAny_newTextTuple (wpAny_bind (wpAny_functionCode_hit hcode ((C.keeps fun b o e => up e).code (up hP) ht) hf (wpAny_bind (wpAny_builtinsFor (hg.push _) b1 b2 (up b4) b5 b6 b7 (wpAny_bind (wpAny_nsGet (hg.push _) (wpAny_bind (wpAny_pure (wpAny_newObj_type (h _ _ s.toks (fun b o e => up e) (sz _)) (by size_fits)))))))))))
end
/-- the function's object, told as it stands -/
def LamO (f : Addr) (o : Obj) : HO := .ext fun h => h.get? f = some o
theorem ok_lamO {P : Program} {w : World} {H : Hp} {h : Heap} {f : Addr} {o : Obj} (e : h.get? f = some o) : ObjOk P w H h f (LamO f o) := ⟨e, ⟨o, e⟩, fun h1 h2 q k => k _ q⟩
theorem lamO_tbl {f : Addr} {o : Obj} (ps : Array Value) : LamO f o ≠ .tbl ps := fun z => by unfold LamO at z; cases z
section
variable {X : Cx} {pins : List (Addr × Obj)} {σ : L2.St} {H : Hp} {s : Shared}
theorem lam_core {T : List (Addr × Str)} {c P : Addr} {params : Arguments} {body : Expr} {scope : Scope} {pos : Pos} {dV : Value} {fl : Nat} {E : Value → Shared → Prop} {Q : Value → Shared → Prop} (I : Inv X pins σ H s) (TB : LamX.TabB X.base X.mg c P) (hcode : X.env.code = .ref c)
    (hm : (P, X.env.qual ++ "<lambda>") ∈ T) (hu : ∀ p ∈ T, p.1 = P → p.2 = X.env.qual ++ "<lambda>") (hT : LamX.Tabs T H) (hfree : ∀ y ∈ scope.names, y.2 = .free → ∃ c, X.env.cells.lookup y.1 = some c)
    (h : ∀ (f c' : Addr) (pm ctv : Value) (H1 : Hp) (s' : Shared), Inv X pins σ H1 s' → LamX.ExtN H H1 → LamX.Tabs T H1 → H f = none →
      H1 f = some (LamO f (lob (X.env.qual ++ "<lambda>") params body scope (cloFrom X.env.cells scope.names []) dV pm c' ctv)) → H1 c' = some (LamX.CodeO c' (X.env.qual ++ "<lambda>")) → Q (.ref f) s') :
    wpAny (model X.prog X.w) X.A (makeTail "<lambda>" (X.env.qual ++ "<lambda>") params (.expr body) scope X.env dV .none none pos fl) Q E s := by
  obtain ⟨ps, hP, ht, ha⟩ := hT _ hm
  have bP : s.heap.BuiltinsAt X.mg P := TB.bm.keeps I.bk
  have hP' : s.heap.get? P = some { cls := .none, data := .fields ps } := I.hok P _ hP
  cases hc : codeAmong pos ps.toList with
  | none =>
    refine lam_new (mg := X.mg) (c := c) (P := P) (ps := ps) (closure_ok hfree) I.ok.glob (I.mod.glob.keeps I.bk) hcode (TB.code.keeps I.bk) hP' ht hc TB.gP bP fun c' ctv h' tk hx hge hlt hrec htb => ?_
    obtain ⟨c2, oc, vs, t, e2, hoc, hd, hv⟩ := hrec
    cases e2
    have nC : H c' = none := I.hok.fresh hge
    have hsz : s.heap.objs.size ≤ h'.objs.size := Nat.le_trans hge (Nat.le_of_lt hlt)
    have I0 := LamX.inv_table (t' := tk) (more := #[rawInt pos.line, rawInt pos.col, .ref c']) (h' := h') I hP (fun b o hb e => hx b o hb e) htb hge ⟨oc, vs, t, hoc, hd, hv⟩
    have nF := I0.hok.fresh (Nat.le_refl h'.objs.size)
    have I1 := I0.laid (a := h'.objs.size) (t' := tk) (h' := h'.push (lob (X.env.qual ++ "<lambda>") params body scope (cloFrom X.env.cells scope.names []) dV ((X.mg "__name__").getD .none) c' ctv)) (fun b o e => Heap.get?_push_of_some _ e) (Nat.le_refl _) (ok_lamO (Heap.get?_push_size _ rfl))
    have hE : LamX.ExtN H (upd (upd H P (.tbl (ps ++ #[rawInt pos.line, rawInt pos.col, .ref c']))) c' (LamX.CodeO c' (X.env.qual ++ "<lambda>"))) := fun b o e n => by
      rw [upd_ne (ne_of_none e nC), upd_ne (fun z => n ps (Option.some.inj (e.symm.trans (by rw [z]; exact hP)))), e]
    have eL : (ps ++ #[rawInt pos.line, rawInt pos.col, .ref c']).toList = ps.toList ++ [rawInt pos.line, rawInt pos.col, .ref c'] := by simp
    have tb : LamX.Tabs T (upd (upd H P (.tbl (ps ++ #[rawInt pos.line, rawInt pos.col, .ref c']))) c' (LamX.CodeO c' (X.env.qual ++ "<lambda>"))) := fun p hp => by
      by_cases hb : p.1 = P
      · rw [hu p hp hb, hb]
        refine ⟨_, by rw [upd_ne (ne_of_none hP nC), upd_same], by rw [eL]; exact PySem.TriplesOk_snoc _ _ _ _ ht, fun p' cv hcv => ?_⟩
        rw [eL] at hcv; rcases LamX.among_app _ ht hcv with z | z
        · obtain ⟨c0, e1, e2⟩ := ha p' cv z; exact ⟨c0, e1, hE _ _ e2 LamX.codeO_ne⟩
        · exact ⟨c', z, upd_same⟩
      · obtain ⟨ps', a1, a2, a3⟩ := hT p hp; refine ⟨ps', by rw [upd_ne (ne_of_none a1 nC), upd_ne hb, a1], a2, fun p' cv hcv => ?_⟩
        obtain ⟨c0, e1, e2⟩ := a3 p' cv hcv; exact ⟨c0, e1, hE _ _ e2 LamX.codeO_ne⟩
    exact h _ c' _ ctv _ _ I1 (hE.trans (.of (same_upd nF))) (tb.ext (same_upd nF)) (I.hok.fresh hsz) upd_same (same_upd nF _ _ upd_same)
  | some cv =>
    obtain ⟨c', e, hco⟩ := ha pos cv hc
    subst e
    refine lam_hit (mg := X.mg) (c := c) (P := P) (ps := ps) (closure_ok hfree) I.ok.glob (I.mod.glob.keeps I.bk) hcode (TB.code.keeps I.bk) hP' ht hc bP fun ctv h' tk hx hsz => ?_
    have I0 : Inv X pins σ H { s with heap := h', toks := tk } := I.kept hx
    have nF := I0.hok.fresh (Nat.le_refl h'.objs.size)
    have I1 := I0.laid (a := h'.objs.size) (t' := tk) (h' := h'.push (lob (X.env.qual ++ "<lambda>") params body scope (cloFrom X.env.cells scope.names []) dV ((X.mg "__name__").getD .none) c' ctv)) (fun b o e => Heap.get?_push_of_some _ e) (Nat.le_refl _) (ok_lamO (Heap.get?_push_size _ rfl))
    exact h _ c' _ ctv _ _ I1 (.of (same_upd nF)) (hT.ext (same_upd nF)) (I.hok.fresh hsz) upd_same (same_upd nF _ _ hco)
end
/-- the names of a lambda: captured ones, globals, parameters that are no names of the maker -/
structure LamS2 (N : List Str) (sc scope : Scope) : Prop where
  kind : scope.kind = .function
  co : scope.isCoroutine = false
  gen : scope.isGenerator = false
  own : ∀ y ∈ scope.names, y.2 ≠ .cell ∧ (y.2 = .local → y.1 ∉ N)
  free : ∀ y ∈ scope.names, y.2 = .free → sc.names.lookup y.1 = some .cell ∨ sc.names.lookup y.1 = some .free
def lamSB2 (N : List Str) (sc scope : Scope) : Bool :=
  decide (scope.kind = .function) && !scope.isCoroutine && !scope.isGenerator && scope.names.all fun y => !decide (y.2 = .cell) && (!decide (y.2 = .local) || !N.contains y.1) && (!decide (y.2 = .free) || decide (sc.names.lookup y.1 = some .cell) || decide (sc.names.lookup y.1 = some .free))
theorem lamS2_by {N : List Str} {sc scope : Scope} (h : lamSB2 N sc scope = true) : LamS2 N sc scope := by
  unfold lamSB2 at h
  simp only [Bool.and_eq_true, Bool.or_eq_true, Bool.not_eq_true', decide_eq_true_eq, decide_eq_false_iff_not, List.all_eq_true] at h
  obtain ⟨⟨⟨h1, h2⟩, h3⟩, h4⟩ := h
  refine ⟨h1, h2, h3, fun y hy => ⟨(h4 y hy).1.1, fun e => ?_⟩, fun y hy e => ?_⟩
  · rcases (h4 y hy).1.2 with z | z
    · exact absurd e z
    · intro m
      rw [List.contains_iff_mem.mpr m] at z
      cases z
  · rcases (h4 y hy).2 with (z | z) | z
    · exact absurd e z
    · exact .inl z
    · exact .inr z
theorem LamS2.has {X : Cx} {N : List Str} {scope : Scope} (L : LamS2 N X.env.scope scope) (ok : X.Ok) : ∀ y ∈ scope.names, y.2 = .free → ∃ c, X.env.cells.lookup y.1 = some c := fun y hy e =>
  (L.free y hy e).elim (fun k => ok.has _ (.inl k)) fun k => ok.has _ (.inr k)
/-- such a lambda stands at f -/
def LamAt (X : Cx) (H : Hp) (f : Addr) (dn : Bool) (params : Arguments) (body : Expr) (scope : Scope) : Prop := ∃ (pm : Value) (c' : Addr) (ctv dV : Value),
  H f = some (LamO f (lob (X.env.qual ++ "<lambda>") params body scope (cloFrom X.env.cells scope.names []) dV pm c' ctv)) ∧ H c' = some (LamX.CodeO c' (X.env.qual ++ "<lambda>")) ∧
    match dn with
    | false => dV = .none
    | true => ∃ dt, dV = .ref dt ∧ H dt = some (.tup [.int 0])
theorem LamAt.same {X : Cx} {H H' : Hp} {f : Addr} {dn : Bool} {params : Arguments} {body : Expr} {scope : Scope} (h : LamAt X H f dn params body scope) (k : ∀ b o, H b = some o → (∀ xs, o ≠ .lst xs) → (∀ ps, o ≠ .tbl ps) → H' b = some o) : LamAt X H' f dn params body scope := by
  obtain ⟨pm, c', ctv, dV, h1, h2, h3⟩ := h
  refine ⟨pm, c', ctv, dV, k _ _ h1 (fun xs z => by unfold LamO at z; cases z) lamO_tbl, k _ _ h2 (fun xs z => by unfold LamX.CodeO at z; cases z) LamX.codeO_ne, ?_⟩
  cases dn with
  | false => exact h3
  | true =>
    obtain ⟨dt, e, h3⟩ := h3
    exact ⟨dt, e, k _ _ h3 (fun xs z => by cases z) fun ps z => by cases z⟩
def gLam (X : Cx) (T : List (Addr × Str)) (dn : Bool) (params : Arguments) (body : Expr) (scope : Scope) : TE := fun _ H Q => LamX.Tabs T H ∧ ∀ H1 f, LamX.ExtN H H1 → LamX.Tabs T H1 → H f = none → LamAt X H1 f dn params body scope → Q (.ref f) H1
section
variable {X : Cx} {T : List (Addr × Str)} {c P : Addr} {params : Arguments} {body e0 : Expr} {scope : Scope} {pos : Pos}
theorem pe_lam0 (TB : LamX.TabB X.base X.mg c P) (hcode : X.env.code = .ref c) (hm : (P, X.env.qual ++ "<lambda>") ∈ T) (hu : ∀ p ∈ T, p.1 = P → p.2 = X.env.qual ++ "<lambda>") (L : LamS2 X.N X.env.scope scope) (hdef : defaultsOf params X.env = ([], []) := by rfl) :
    PE X (.Lambda params body scope pos) (gLam X T false params body scope) := by
  refine ⟨fun pins s σ H Q I h => PySem.W.kla_eval hdef ?_⟩
  obtain ⟨hT, h⟩ := h
  rw [makeFunction_eq]; simp only [List.zip_nil_right, List.filterMap_nil, List.isEmpty_nil, if_true, pure_bind]
  exact lam_core I TB hcode hm hu hT (L.has I.ok) fun f c' pm ctv H1 s' I1 eN T1 nf hf hc => ⟨.ref f, H1, I1, rfl, h H1 f eN T1 nf ⟨pm, c', ctv, .none, hf, hc, rfl⟩⟩
theorem pe_lam1 {j : Nat} {p0 : Pos} (TB : LamX.TabB X.base X.mg c P) (hcode : X.env.code = .ref c) (hm : (P, X.env.qual ++ "<lambda>") ∈ T) (hu : ∀ p ∈ T, p.1 = P → p.2 = X.env.qual ++ "<lambda>") (L : LamS2 X.N X.env.scope scope)
    (hdef : defaultsOf params X.env = ([eval (.Constant (.int 0) j p0) X.env], []) := by rfl) : PE X (.Lambda params body scope pos) (gLam X T true params body scope) := by
  refine ⟨fun pins s σ H Q I h => ?_⟩
  obtain ⟨hT, h⟩ := h
  rw [arm_eval_Lambda, hdef]
  refine wpAny_bind (wpAny_evalAll_cons (thn ((pe_int (X := X)).run pins s σ H (fun v H1 => v = .int 0 ∧ H1 = H) I ⟨rfl, rfl⟩) fun u s1 ⟨v, H1, I1, r1, ev, eH⟩ => wpAny_evalAll_nil (wpAny_bind (wpAny_holding (wpAny_pure ?_)))))
  subst ev eH
  rw [makeFunction_eq]; simp only [List.zip_nil_right, List.filterMap_nil, List.isEmpty_nil, List.isEmpty_cons, Bool.false_eq_true, if_false, if_true, pure_bind]
  have nD := I1.hok.fresh (Nat.le_refl s1.heap.objs.size)
  have I2 := I1.laid (a := s1.heap.objs.size) (t' := s1.toks) (o := .tup [.int 0]) (h' := s1.heap.push { cls := .type "tuple", data := .seq [u].toArray }) (fun b o e => Heap.get?_push_of_some _ e) (Nat.le_refl _) ⟨by show 1 ≤ sizeLine; decide, [u], .cons r1 .nil, _, Heap.get?_push_size _ rfl, rfl, _, rfl⟩
  refine wpAny_bind (wpAny_newTextTuple (lam_core I2 TB hcode hm hu (hT.ext (same_upd nD)) (L.has I.ok) fun f c' pm ctv H3 s' I3 eN T1 nf hf hc => ⟨.ref f, H3, I3, rfl, h H3 f ((LamX.ExtN.of (same_upd nD)).trans eN) T1 ((same_upd nD).free nf) ⟨pm, c', ctv, _, hf, hc, _, rfl, eN _ _ upd_same fun ps z => by cases z⟩⟩))
end
end Pk

namespace Pk
open PySem PySem.Spec PyProof.Rows L2
/-! ### a lambda called -/
section
variable {X : Cx} {σ : L2.St} {HZ : Hp} {s1 : Shared}
theorem lam_in {A : Around} {outer : List Env} {E : XK} {scope : Scope} {f c' : Addr} {h₁ : Heap} {tk : Nat} {binds : List (Str × Value)} (ok : X.Ok) (hl : σ.length = X.N.length) (L : LamS2 X.N X.env.scope scope) (e0 : Env0 X.prog X.w X.K X.mg X.base A outer s1 HZ) (hd : A.handled = none)
    (hc : ∀ y c, X.env.cells.lookup y = some c → HZ c = none ∧ ∃ v, s1.heap.IsCell c v)
    (hv : ∀ (i : Nat) y v, X.N[i]? = some y → σ[i]? = some (some v) → (X.env.scope.names.lookup y = some .cell ∨ X.env.scope.names.lookup y = some .free) → ∃ u c, RelV v u ∧ X.env.cells.lookup y = some c ∧ s1.heap.IsCell c (some u))
    (hns : h₁.Ns s1.heap.objs.size fun y => binds.reverse.lookup y) (kp : ∀ b o, s1.heap.get? b = some o → h₁.get? b = some o) :
    Inv (LamX.lamCx X A outer s1 HZ E scope f c') [] σ HZ { s1 with heap := h₁, toks := tk } := by
  have hfree := L.has ok
  have cm : ∀ {y c}, (cloFrom X.env.cells scope.names []).lookup y = some c → X.env.cells.lookup y = some c := fun {y c} e => by
    rcases cloFrom_mem (PySem.mem_of_lookup e) with hm | ⟨h1, h2⟩
    · cases hm
    · obtain ⟨c1, hc1⟩ := hfree _ h1 rfl
      have hc1 : X.env.cells.lookup y = some c1 := hc1
      have e2 : c = c1 := by rw [h2, hc1] <;> rfl
      rw [e2, hc1]
  have look : ∀ {y}, scope.names.lookup y = some .free → ∃ c, (cloFrom X.env.cells scope.names []).lookup y = some c := fun {y} hl => mem_lookup (cloFrom_has (cells := X.env.cells) (acc := []) (PySem.mem_of_lookup hl))
  have up : ∀ {c : Addr} {v : Option Value}, s1.heap.IsCell c v → h₁.IsCell c v := fun {c v} ⟨o, ho, q⟩ => ⟨o, kp _ _ ho, q⟩
  have noA : ∀ b : Addr, b ∉ (LamX.lamCx X A outer s1 HZ E scope f c').ex := fun b z => absurd (show b ∈ ([] : List Addr) from z) (by simp)
  refine ⟨⟨e0.mod, L.kind, rfl, rfl, Nat.le_refl _, fun y z c e1 e2 => ok.inj y z c (cm e1) (cm e2), fun y hy => ?_, fun y c z _ => (by cases (show false = true from z)), fun _ => hd, Around.frames_deeper e0.frames, .inr ⟨rfl, rfl⟩,
      fun b z => absurd z (noA b), e0.bs, e0.bsz, fun b _ _ => noA b, fun b z => absurd z (noA b), e0.funs, e0.frf⟩,
    rfl, e0.bare, Un.kept kp, ⟨_, hns, fun i y v e1 e2 e3 => ?_⟩, fun y c e => ?_, e0.hok.fresh (Nat.le_refl _), fun y c e => (hc y c (cm e)).1, fun q hq => absurd (show q ∈ ([] : List (Addr × Obj)) ++ [] from hq) (by simp), e0.hok.kept kp, hl⟩
  · rcases (show scope.names.lookup y = some .cell ∨ scope.names.lookup y = some .free from hy) with hy | hy
    · exact absurd rfl (L.own _ (PySem.mem_of_lookup hy)).1
    · exact look hy
  · rcases (show Vis scope y from e3) with k | k | k
    · exact absurd (List.mem_of_getElem? e1) ((L.own _ (PySem.mem_of_lookup k)).2 rfl)
    · exact absurd rfl (L.own _ (PySem.mem_of_lookup k)).1
    · obtain ⟨u, c, r, q1, q2⟩ := hv i y v e1 e2 (L.free _ (PySem.mem_of_lookup k) rfl)
      obtain ⟨c2, h2⟩ := look k
      have q3 := cm h2
      rw [q1] at q3
      cases q3
      exact ⟨u, r, .inr ⟨.inr k, c, h2, up q2⟩⟩
  · obtain ⟨v, z⟩ := (hc y c (cm e)).2
    exact ⟨v, up z⟩
/-- what a lambda's parameters bind -/
def LamB (dn : Bool) (params : Arguments) (body : Expr) (scope : Scope) : Prop := match dn with
  | false => ∀ (q : Str) (cl : List (Str × Addr)) (pm cv ctv : Value), bindArgs (lfn q params body scope cl .none pm cv ctv) ⟨[], []⟩ = pure []
  | true => ∃ y, scope.names.lookup y = some .local ∧ ∀ (q : Str) (cl : List (Str × Addr)) (pm cv ctv : Value) (dt : Addr), ∃ k, bindArgs (lfn q params body scope cl (.ref dt) pm cv ctv) ⟨[], []⟩ = seqItems? (.ref dt) >>= k ∧ ∀ u, k (some #[u]) = pure [(y, u)]
/-- all that stands while the lambda at f may be called: F tells the cells -/
def LamZ (X : Cx) (F : Addr → Option Obj) (f : Addr) (dn : Bool) (params : Arguments) (body : Expr) (scope : Scope) (H : Hp) : Prop := LamAt X H f dn params body scope ∧ ∀ b o, F b = some o → H b = some (.frz o uT)
theorem lamV_of {F : Addr → Option Obj} {k : Nat} {f : Addr} {dn : Bool} {params : Arguments} {body : Expr} {scope : Scope} {t : XK → TE} (ok : X.Ok) (hl : σ.length = X.N.length) (L : LamS2 X.N X.env.scope scope) (LB : LamB dn params body scope)
    (hF : ∀ y c, X.env.cells.lookup y = some c → ∃ o v, F c = some o ∧ o.data = .cell v)
    (hv : ∀ (i : Nat) y v, X.N[i]? = some y → σ[i]? = some (some v) → (X.env.scope.names.lookup y = some .cell ∨ X.env.scope.names.lookup y = some .free) → ∃ u c o, RelV v u ∧ X.env.cells.lookup y = some c ∧ F c = some o ∧ o.data = .cell (some u))
    (hbody : ∀ (A : Around) (outer : List Env) (s : Shared) (H : Hp) (E : XK) (f c' : Addr), Room k (A.deeper (LamX.lamEnv X scope s.heap.objs.size f c')) → PE (LamX.lamCx X A outer s H E scope f c') body (t E)) :
    LamV X.prog X.w X.K X.mg X.base (k + 1) f (LamZ X F f dn params body scope) (fun E H Q => t (fun c d H' => (∀ b o, F b = some o → H' b = none) → E c d (Fz F H')) σ (Uf F H) (fun v H' => (∀ b o, F b = some o → H' b = none) → Q v (Fz F H'))) := by
  refine ⟨fun H H' s z => ⟨z.1.same fun b o e _ _ => s b o e, fun b o e => s _ _ (z.2 b o e)⟩, fun H h hok z => ?_, fun A outer s H Q E hr e0 z q => ?_⟩
  · obtain ⟨⟨pm, c', ctv, dV, h1, _⟩, _⟩ := z
    have x : h.get? f = some _ := (hok f _ h1).1
    exact ⟨_, _, _, _, x⟩
  · obtain ⟨⟨pm, c', ctv, dV, h1, h2, h3⟩, hZ⟩ := z
    have of1 : s.heap.get? f = some _ := (e0.hok f _ h1).1
    obtain ⟨⟨oc, vs, tq, hoc, hdc, hvc⟩, _, _⟩ := e0.hok c' _ h2
    have get : ∀ b o, F b = some o → s.heap.get? b = some o := fun b o e => (e0.hok b _ (hZ b o e)).1
    have hokU : HOk X.prog X.w (Uf F H) s.heap := hok_uf e0.hok fun b o e => .inl (hZ b o e)
    have nU : ∀ b, H b = none → Uf F H b = none := fun b e => by
      cases f : F b with
      | none => rw [uf_out f]; exact e
      | some o => exact uf_in f
    have eU : Env0 X.prog X.w X.K X.mg X.base A outer s (Uf F H) := ⟨e0.frames, e0.mod, fun b o e => ⟨(e0.bs b o e).1, nU b (e0.bs b o e).2⟩, e0.bsz, e0.funs, fun b hb => nU b (e0.frf b hb), hokU, e0.bare⟩
    have fin : ∀ (binds : List (Str × Value)), (∀ y ∈ binds, scope.names.lookup y.1 = some .local) → wpAny (model X.prog X.w) A.in1 (newFunctionEnv scope mainGlobals (cloFrom X.env.cells scope.names []) binds ((X.env.qual ++ "<lambda>") ++ ".<locals>.") (some f) (.ref c') none builtinsNs)
        (fun env s₂ => s₂.heap.NoLimit ∧ codeAny (model X.prog X.w) A (.expr body env) (CR (L2.CX X.prog X.w) outer X.prog X.w (Uf F H) s (fun v H' => (∀ b o, F b = some o → H' b = none) → Q v (Fz F H')) (fun c d H' => (∀ b o, F b = some o → H' b = none) → E c d (Fz F H'))) s₂) (fun e s' => CR (L2.CX X.prog X.w) outer X.prog X.w (Uf F H) s (fun v H' => (∀ b o, F b = some o → H' b = none) → Q v (Fz F H')) (fun c d H' => (∀ b o, F b = some o → H' b = none) → E c d (Fz F H')) (.error e) s') s := fun binds hb => by
      refine wpAny_newFunctionEnv (fun y hy => (L.own y hy).1) hb (fun h₁ hns hsb => ⟨(e0.mod.nolimit.keeps fun b o e => (e0.bs b o e).1).fresh _ hsb, ?_⟩) L.kind
      show codeAny _ _ (.expr body (LamX.lamEnv X scope s.heap.objs.size f c')) _ _
      have kp : ∀ b o, s.heap.get? b = some o → h₁.get? b = some o := fun b o e => hsb.extBut b o (Nat.ne_of_lt (Heap.lt_size e)) (Heap.get?_push_of_some _ e)
      have J := lam_in (tk := s.toks + binds.length) (E := fun c d H' => (∀ b o, F b = some o → H' b = none) → E c d (Fz F H')) (f := f) (c' := c') ok hl L eU hr.hd (fun y c e => by
          obtain ⟨o, v, e1, e2⟩ := hF y c e
          exact ⟨uf_in e1, v, o, get _ _ e1, e2⟩) (fun i y v e1 e2 e3 => by
          obtain ⟨u, c, o, r, q1, q2, q3⟩ := hv i y v e1 e2 e3
          exact ⟨u, c, r, q1, o, get _ _ q2, q3⟩) hns kp
      refine PySem.W.kla_codeExpr (wpAny_mono ((hbody A outer s (Uf F H) _ f c' (hr.deeper _)).run [] _ _ (Uf F H) _ J q) (fun v s' hq => ?_) fun e s' hq => hq)
      obtain ⟨w', H', J', rv, q'⟩ := hq
      exact ⟨w', H', J'.os, J'.bare, J'.base, J'.hok, rv, q'⟩
    refine codeAny_mono (?_ : codeAny _ _ _ (CR (L2.CX X.prog X.w) outer X.prog X.w (Uf F H) s (fun v H' => (∀ b o, F b = some o → H' b = none) → Q v (Fz F H')) (fun c d H' => (∀ b o, F b = some o → H' b = none) → E c d (Fz F H'))) s) fun r s' hq => cr_freeze hZ e0.frf e0.hok hq
    refine PySem.W.kla_callFunE hr.depth of1 rfl L.co L.gen rfl ⟨c', oc, vs, tq, rfl, hoc, hdc, hvc⟩ ?_
    cases dn with
    | false =>
      obtain rfl : dV = .none := h3
      rw [LB]
      exact wpAny_pure (fin [] fun y hy => absurd hy (by simp))
    | true =>
      obtain ⟨dt, rfl, h3⟩ := h3
      obtain ⟨y, hy, hb⟩ := LB
      obtain ⟨kk, e1, e2⟩ := hb (X.env.qual ++ "<lambda>") (cloFrom X.env.cells scope.names []) pm (.ref c') ctv dt
      obtain ⟨_, its, rv, od, hod, _, n, hdd⟩ := e0.hok dt _ h3
      obtain ⟨u, rfl, _⟩ := vals1 rv
      rw [e1]
      refine wpAny_bind (wpAny_seqItems hod hdd ?_)
      rw [e2]
      exact wpAny_pure (fin [(y, u)] fun z hz => by rw [List.mem_singleton.mp hz]; exact hy)
end
end Pk

namespace Pk
open PySem PySem.Spec PyProof.Rows L2
/-- F tells the cells of X's frame, as they stand with the slots σ; H does not track them -/
structure CellsF (X : Cx) (σ : L2.St) (H : Hp) (F : Addr → Option Obj) : Prop where
  ok : X.Ok
  len : σ.length = X.N.length
  no : ∀ b o, F b = some o → H b = none
  cell : ∀ y c, X.env.cells.lookup y = some c → ∃ o v, F c = some o ∧ o.data = .cell v
  val : ∀ (i : Nat) y v, X.N[i]? = some y → σ[i]? = some (some v) → (X.env.scope.names.lookup y = some .cell ∨ X.env.scope.names.lookup y = some .free) → ∃ u c o, RelV v u ∧ X.env.cells.lookup y = some c ∧ F c = some o ∧ o.data = .cell (some u)
open Classical in
noncomputable def cellF (X : Cx) (h : Heap) : Addr → Option Obj := fun b => if ∃ x, X.env.cells.lookup x = some b then h.get? b else none
theorem cellF_in {X : Cx} {h : Heap} {x : Str} {c : Addr} (e : X.env.cells.lookup x = some c) : cellF X h c = h.get? c := by
  unfold cellF
  rw [if_pos ⟨x, e⟩]
theorem of_cellF {X : Cx} {h : Heap} {b : Addr} {o : Obj} (e : cellF X h b = some o) : (∃ x, X.env.cells.lookup x = some b) ∧ h.get? b = some o := by
  unfold cellF at e
  split at e
  · rename_i z; exact ⟨z, e⟩
  · cases e
section
variable {X : Cx} {pins : List (Addr × Obj)} {σ : L2.St} {H : Hp} {s : Shared}
theorem cellsF_of (I : Inv X pins σ H s) : CellsF X σ H (cellF X s.heap) := by
  refine ⟨I.ok, I.len, fun b o e => ?_, fun y c e => ?_, fun i y v e1 e2 e3 => ?_⟩
  · obtain ⟨⟨x, e⟩, _⟩ := of_cellF e
    exact I.freeC x b e
  · obtain ⟨v, o, ho, hd⟩ := I.cell y c e
    exact ⟨o, v, by rw [cellF_in e]; exact ho, hd⟩
  · obtain ⟨m, hn, hl⟩ := I.loc
    obtain ⟨u, r, k⟩ := hl i y v e1 e2 (.inr e3)
    rcases k with ⟨k, _⟩ | ⟨_, c, e, o, ho, hd⟩
    · have k : X.env.scope.names.lookup y = some .local := k
      rcases e3 with e3 | e3 <;> rw [k] at e3 <;> cases e3
    · exact ⟨u, c, o, r, e, by rw [cellF_in e]; exact ho, hd⟩
theorem cellF_nofr (I : Inv X pins σ H s) (hfn : ∀ x, X.fn x = true) : ∀ b ∈ frs X.stack, cellF X s.heap b = none := fun b hb => by
  cases f : cellF X s.heap b with
  | none => rfl
  | some o =>
    exfalso
    obtain ⟨⟨x, e⟩, _⟩ := of_cellF f
    rcases List.mem_cons.mp (I.stkSub b hb) with z | z
    · exact I.cne x b e z
    · obtain ⟨_, o', ho', _⟩ := I.ok.funs.mem z
      exact absurd (Heap.lt_size ho') (Nat.not_lt.mpr (I.ok.cab x b (hfn x) e))
theorem cellF_env0 (I : Inv X pins σ H s) (hfn : ∀ x, X.fn x = true) : Env0 X.prog X.w X.K X.mg X.base X.A X.stack s (Fz (cellF X s.heap) H) := by
  have e0 := I.env0
  refine ⟨e0.frames, e0.mod, fun b o e => ⟨(e0.bs b o e).1, fz_none (e0.bs b o e).2 ?_⟩, e0.bsz, e0.funs, fun b hb => fz_none (e0.frf b hb) (cellF_nofr I hfn b hb), hok_fz e0.hok fun b o e => (of_cellF e).2, e0.bare⟩
  cases f : cellF X s.heap b with
  | none => rfl
  | some o' =>
    exfalso
    obtain ⟨⟨x, e'⟩, _⟩ := of_cellF f
    have h1 := Heap.lt_size e
    have h2 := I.ok.cab x b (hfn x) e'
    exact absurd h1 (Nat.not_lt.mpr (Nat.le_trans I.ok.bsz h2))
end
section
variable {X : Cx} {k : Nat} {ps : List Str} {sp : Sp} {x : Str} {p pos : Pos} {e : Expr} {es : List Expr} {t : TA}
/-- a def called while the cells of this frame are frozen -/
theorem pe_calZ {R : L2.St → List V → Hp → VK → Prop} (C : Cal X.prog X.w X.K X.mg X.base CX0 k x ps sp) (hr : Room k X.A) (hfn : ∀ x, X.fn x = true) (ha : PA X (e :: es) t)
    (hR : ∀ σ vs H1 Q, R σ vs H1 Q → ∀ F, CellsF X σ H1 F → sp vs (Fz F H1) (fun v H' => (∀ b o, F b = some o → H' b = some (.frz o uT)) → Q v (Uf F H')) fun _ _ _ => False) (hg : Gl X x := by rfl) (hdb : (x == ("__debug__" : Str)) = false := by decide)
    (he : starEach (e :: es) X.env = (false, eval e X.env) :: starEach es X.env := by rfl) (hpl : (backTo pos (starEach es X.env)).any (·.1) = false := by rfl) : PE X (.Call (.Name x p) (e :: es) [] pos) (fun σ H Q => t σ H fun vs H1 => R σ vs H1 Q) := by
  obtain ⟨f, fd, hm, hk, hb, F⟩ := C.ex
  refine ⟨fun pins s σ H Q I h => ?_⟩
  refine wpAny_Call_Name_kw (ld_glob I hg hm ?_ hdb)
  refine PySem.W.callWith_K (h₀ := X.base) I.ok.mod.kin hk (thn (ha.run pos pins s σ H _ I h) fun us s1 ⟨vs, H1, I1, r, q⟩ => ⟨I1.kIn, ?_⟩) he hpl
  have q := hR _ _ _ _ q _ (cellsF_of I1)
  have hl : us.length = ps.length := by rw [← r.length]; exact F.len _ _ _ _ q
  have bb := hb s1 us I1.kIn (by rw [List.append_nil]; exact hl)
  rw [List.append_nil] at bb
  refine wpAny_call (codeAny_mono (F.run X.A X.stack s1 _ ⟨us, []⟩ us vs _ _ hr (cellF_env0 I1 hfn) bb r q) fun r' s' hq => ?_)
  cases r' with
  | error e => exact False.elim hq
  | ok fl =>
    cases fl with
    | ret u => exact I1.after (ce_thaw (fun b o e => ⟨(of_cellF e).2, (cellsF_of I1).no b o e⟩) (cellF_nofr I1 hfn) hq fun v H' a h => h a)
    | next => exact False.elim hq
    | brk => exact False.elim hq
    | cont => exact False.elim hq
end
/-! ### what _law_error_of and _law_all_raise promise -/
/-- a class of exceptions -/
structure Xk (K : PySem.W.Frag) (D : Addr) : Prop where
  ga : PySem.W.findIn K (.ref D) "__getattribute__" = some (some (.builtin "BaseException.__getattribute__"))
  gt : PySem.W.findIn K (.ref D) "__getattr__" = some none
  sb : PySem.W.subIn K (.ref D) (.type "BaseException") = some true
  sv : PySem.W.subIn K (.ref D) (.type "ValueError") = some true
  hd : PySem.W.hasDictIn K D = true
  cl : PySem.W.findIn K (.ref D) "__class__" = some (some (.builtin "object.__class__"))
  cg : PySem.W.specialIn K (.builtin "object.__class__") "__get__" = some (some (.builtin "getset_descriptor.__get__"))
  ct : PySem.W.takesIn K (.builtin "object.__class__") = some true
  mr : PySem.W.mroIn K D (.type "object") = some true
  ty : PySem.W.typeIn K (.ref D) = some (.type "type")
theorem Xk.exc {K : PySem.W.Frag} {D : Addr} (x : Xk K D) : ExcC K D := ⟨x.ga, x.gt, x.sb, x.hd, x.cl, x.cg, x.ct, x.mr⟩
theorem Xk.xf {K : PySem.W.Frag} {D : Addr} (x : Xk K D) : XfC K D := ⟨x.ga, x.gt, x.sb, x.hd⟩
theorem Xk.kitV {K : PySem.W.Frag} {D : Addr} (y : Xk K D) : PySem.W.kitOne K (.ref D) (.type "ValueError") = some true := by
  unfold PySem.W.kitOne
  rw [if_neg (by intro z; exact absurd (beq_iff_eq.mp z) (by intro z; cases z))]
  show (if PySem.W.kitMeta "ValueError" = true then PySem.W.subIn K (.ref D) (.type "ValueError") else none) = _
  rw [if_pos (by decide +kernel), y.sv]
/-- the attribute n of the exception is v -/
def Fld (K : PySem.W.Frag) (D : Addr) (d : Option Addr) (H : Hp) (n : Str) (v : V) : Prop := PySem.W.findIn K (.ref D) n = some none ∧ ∃ dd fs, d = some dd ∧ H dd = some (.xd fs) ∧ fs.lookup n = some v
theorem Fld.same {K : PySem.W.Frag} {D : Addr} {d : Option Addr} {H H' : Hp} {n : Str} {v : V} (h : Fld K D d H n v) (s : Same H H') : Fld K D d H' n v := by
  obtain ⟨h1, dd, fs, h2, h3, h4⟩ := h
  exact ⟨h1, dd, fs, h2, s _ _ h3, h4⟩
/-- what is told of such an exception: the name of its kind and its attributes -/
inductive ErrIs (K : PySem.W.Frag) (D : Addr) (d : Option Addr) (H : Hp) (nm : List Nat) : Nat → PyData → Prop
  | plain : (d = none ∨ ∃ dd fs, d = some dd ∧ H dd = some (.xd fs)) → ErrIs K D d H nm 0 (.tuple [.str (S nm), .int 0])
  | place (i : Int) : Fld K D d H "position" (.int i) → ErrIs K D d H nm 1 (.tuple [.str (S nm), .int i])
  | move (i : Int) (r : List Nat) : Fld K D d H "position" (.int i) → Fld K D d H "reason" (.str (S r)) → ErrIs K D d H nm 2 (.tuple [.str (S nm), .tuple [.int i, .str (S r)]])
  | line (i : Int) : Fld K D d H "line" (.int i) → ErrIs K D d H nm 3 (.tuple [.str (S nm), .int i])
theorem ErrIs.dict {K : PySem.W.Frag} {D : Addr} {d : Option Addr} {H : Hp} {nm : List Nat} {st : Nat} {e : PyData} (h : ErrIs K D d H nm st e) : d = none ∨ ∃ dd fs, d = some dd ∧ H dd = some (.xd fs) := by
  cases h with
  | plain h => exact h
  | place i h => obtain ⟨_, dd, fs, h2, h3, _⟩ := h; exact .inr ⟨dd, fs, h2, h3⟩
  | move i r h _ => obtain ⟨_, dd, fs, h2, h3, _⟩ := h; exact .inr ⟨dd, fs, h2, h3⟩
  | line i h => obtain ⟨_, dd, fs, h2, h3, _⟩ := h; exact .inr ⟨dd, fs, h2, h3⟩
theorem ErrIs.same {K : PySem.W.Frag} {D : Addr} {d : Option Addr} {H H' : Hp} {nm : List Nat} {st : Nat} {e : PyData} (h : ErrIs K D d H nm st e) (s : Same H H') : ErrIs K D d H' nm st e := by
  cases h with
  | plain h => exact .plain (h.elim .inl fun ⟨dd, fs, h2, h3⟩ => .inr ⟨dd, fs, h2, s _ _ h3⟩)
  | place i h => exact .place i (h.same s)
  | move i r h h2 => exact .move i r (h.same s) (h2.same s)
  | line i h => exact .line i (h.same s)
/-- the kinds: their classes, their names and how they are told -/
structure Kinds where
  cs : List Addr
  nm : List (List Nat × Nat)
/-- the class D is the j-th kind -/
def Kd2 (K : PySem.W.Frag) (ks : Kinds) (D : Addr) (j : Nat) : Prop := ∀ i C, ks.cs[i]? = some C → PySem.W.kitOne K (.ref D) (.ref C) = some (decide (i = j))
/-- such an exception is told as e -/
def ErrX (K : PySem.W.Frag) (ks : Kinds) (pe : Addr) (cls : Value) (d : Option Addr) (H : Hp) (e : PyData) : Prop := ∃ D j nm st, cls = .ref D ∧ Xk K D ∧ PySem.W.exmOne K (.ref D) (.ref pe) = some true ∧ Kd2 K ks D j ∧ ks.nm[j]? = some (nm, st) ∧ ErrIs K D d H nm st e
theorem ErrX.same {K : PySem.W.Frag} {ks : Kinds} {pe : Addr} {cls : Value} {d : Option Addr} {H H' : Hp} {e : PyData} (h : ErrX K ks pe cls d H e) (s : Same H H') : ErrX K ks pe cls d H' e := by
  obtain ⟨D, j, nm, st, h1, h2, h3, h4, h5, h6⟩ := h
  exact ⟨D, j, nm, st, h1, h2, h3, h4, h5, h6.same s⟩
def Err2 (K : PySem.W.Frag) (ks : Kinds) (pe : Addr) (Q : VK) : XK := fun cls d H => ∃ e, ErrX K ks pe cls d H e ∧ ∀ H' v, Same H H' → Dp K H' v e → Q v H'
def sp_errof (P : Program) (w : World) (mg : Str → Option Value) (base : Heap) (k : Nat) (ks : Kinds) (pe : Addr) (K : PySem.W.Frag) : Sp := fun vs H Q _ => ∃ f Z sp, vs = [.ref f] ∧ LamV P w K mg base k f Z sp ∧ Z H ∧ sp (Err2 K ks pe Q) H (fun _ H' => Q .non H')
def DEq (K : PySem.W.Frag) (v u : V) (H : Hp) : Prop := ∃ d e, Dp K H v d ∧ Dp K H u e ∧ SeqAt.shaped d = true ∧ SeqAt.shaped e = true ∧ PyData.eqv d e = true
def sp_allraise (P : Program) (w : World) (mg : Str → Option Value) (base : Heap) (k : Nat) (ks : Kinds) (pe : Addr) (K : PySem.W.Frag) : Sp := fun vs H Q _ => ∃ (l x : Addr) (fs : List Addr), vs = [.ref l, .ref x] ∧ SqL K H l (fs.map V.ref) ∧
  (∀ f ∈ fs, ∃ Z sp, LamV P w K mg base k f Z sp ∧ Z H ∧ ∀ (H' : Hp) (Q' N : VK), Same H H' → (∀ v H3, Same H' H3 → (∃ a, v = .ref a) → DEq K v (.ref x) H3 → Q' v H3) → sp (Err2 K ks pe Q') H' N) ∧ ∀ H', Same H H' → Q (.bl true) H'
/-! ### the same, seen by the maker of the lambdas -/
section
variable {X : Cx} {T : List (Addr × Str)} {c Pt : Addr} {k m : Nat} {ks : Kinds} {pe : Addr}
/-- a lambda of X: its reading -/
structure LamR (X : Cx) (k : Nat) (dn : Bool) (params : Arguments) (body : Expr) (scope : Scope) (t : XK → TE) : Prop where
  L : LamS2 X.N X.env.scope scope
  B : LamB dn params body scope
  body : ∀ (A : Around) (outer : List Env) (s : Shared) (H : Hp) (E : XK) (f c' : Addr), Room k (A.deeper (LamX.lamEnv X scope s.heap.objs.size f c')) → PE (LamX.lamCx X A outer s H E scope f c') body (t E)
/-- _law_error_of(a lambda): t its reading -/
def rErr (X : Cx) (dn : Bool) (params : Arguments) (body : Expr) (scope : Scope) (ks : Kinds) (pe : Addr) (t : XK → TE) : L2.St → List V → Hp → VK → Prop := fun σ vs H1 Q => (∃ f, vs = [.ref f] ∧ LamAt X H1 f dn params body scope) ∧ ∀ (W : XK) (N : VK),
  (∀ cls d H2 e, Same H1 H2 → ErrX X.K ks pe cls d H2 e → (∀ v H3, Same H1 H3 → Dp X.K H3 v e → Q v H3) → W cls d H2) → (∀ v H2, Same H1 H2 → (∀ H3, Same H1 H3 → Q .non H3) → N v H2) → ∀ H2, Same H1 H2 → t W σ H2 N
theorem dp_uf {K : PySem.W.Frag} {F : Addr → Option Obj} {H : Hp} (hF : ∀ b o, F b = some o → H b = some (.frz o uT)) : (∀ (d : PyData) (v : V), Dp K H v d → Dp K (Uf F H) v d) := by
  have out : ∀ b u, H b = some u → (∀ o, u ≠ .frz o uT) → F b = none := fun b u e n => by
    cases f : F b with
    | none => rfl
    | some o => rw [hF b o f] at e; exact (n o (Option.some.inj e).symm).elim
  have sL : ∀ {a xs}, SqL K H a xs → SqL K (Uf F H) a xs := fun {a xs} h => by
    rcases h with (h | ⟨o, h⟩) | h
    · exact .inl (.inl (by rw [uf_out (out _ _ h fun o z => by cases z)]; exact h))
    · exact .inl (.inr ⟨o, by rw [uf_out (out _ _ h fun o z => by unfold uT at z; cases z)]; exact h⟩)
    · exact .inr h
  have sT : ∀ {a xs}, SqT K H a xs → SqT K (Uf F H) a xs := fun {a xs} h => by
    rcases h with (h | ⟨o, h⟩) | h
    · exact .inl (.inl (by rw [uf_out (out _ _ h fun o z => by cases z)]; exact h))
    · exact .inl (.inr ⟨o, by rw [uf_out (out _ _ h fun o z => by unfold uT at z; cases z)]; exact h⟩)
    · exact .inr h
  intro d v h
  exact Dp.rec (motive_1 := fun v d _ => Dp K (Uf F H) v d) (motive_2 := fun vs ds _ => DpAll K (Uf F H) vs ds) .non (fun b => .bl b) (fun i => .int i) (fun x => .str x) (fun h _ ih => .lst (sL h) ih) (fun h _ ih => .tup (sT h) ih) .nil (fun _ _ i1 i2 => .cons i1 i2) h
theorem _root_.L2.Same.dp {K : PySem.W.Frag} {H H' : Hp} (s : Same H H') {d : PyData} {v : V} (h : Dp K H v d) : Dp K H' v d :=
  Dp.rec (motive_1 := fun v d _ => Dp K H' v d) (motive_2 := fun vs ds _ => DpAll K H' vs ds) .non (fun b => .bl b) (fun i => .int i) (fun x => .str x) (fun h _ ih => .lst (s.seq h) ih) (fun h _ ih => .tup (s.tup h) ih) .nil (fun _ _ i1 i2 => .cons i1 i2) h
theorem dp_ref {K : PySem.W.Frag} {D : Addr} {d : Option Addr} {H H' : Hp} {nm : List Nat} {st : Nat} {e : PyData} {v : V} (h : ErrIs K D d H nm st e) (q : Dp K H' v e) : ∃ a, v = .ref a := by
  cases h <;> (cases q; exact ⟨_, rfl⟩)
theorem pe_err2 {dn : Bool} {params : Arguments} {body : Expr} {scope : Scope} {t : XK → TE} {e : Expr} {ta : TA} {p pos : Pos} (C : Cal X.prog X.w X.K X.mg X.base CX0 m "_law_error_of" ["_law_call"] (sp_errof X.prog X.w X.mg X.base (k + 1) ks pe X.K)) (hr : Room m X.A) (hfn : ∀ x, X.fn x = true)
    (R : LamR X k dn params body scope t) (ha : PA X [e] ta) (hg : Gl X "_law_error_of" := by rfl) (he : starEach [e] X.env = (false, eval e X.env) :: starEach [] X.env := by rfl) (hpl : (backTo pos (starEach [] X.env)).any (·.1) = false := by rfl) :
    PE X (.Call (.Name "_law_error_of" p) [e] [] pos) (fun σ H Q => ta σ H fun vs H1 => rErr X dn params body scope ks pe t σ vs H1 Q) := by
  refine pe_calZ C hr hfn ha (fun σ vs H1 Q h F cf => ?_) hg (by decide) he hpl
  obtain ⟨⟨f, rfl, hf⟩, h⟩ := h
  have nfz : ∀ b o, F b = some o → Fz F H1 b = some (.frz o uT) := fun b o e => fz_at (cf.no b o e) e
  refine ⟨f, _, _, rfl, lamV_of cf.ok cf.len R.L R.B cf.cell cf.val R.body, ⟨hf.same fun b o e _ _ => fz_same _ _ e, nfz⟩, ?_⟩
  refine h _ _ (fun cls d H2 e s2 he q hn => ⟨e, he.same fz_same, fun H' v s' hv hF3 => ?_⟩) (fun v H2 s2 q _ _ => q _ (same_uf cf.no (s2.trans fz_same))) _ (same_uf cf.no fz_same)
  exact q v _ (same_uf cf.no ((s2.trans fz_same).trans s')) (dp_uf hF3 e v hv)
/-- _law_all_raise(calls, expected) -/
def rAll (X : Cx) (k : Nat) (ks : Kinds) (pe : Addr) : L2.St → List V → Hp → VK → Prop := fun σ vs H1 Q => ∃ (l x : Addr) (fs : List Addr) (ex : PyData), vs = [.ref l, .ref x] ∧ SqL X.K H1 l (fs.map V.ref) ∧ Dp X.K H1 (.ref x) ex ∧ SeqAt.shaped ex = true ∧
  (∀ f ∈ fs, ∃ dn params body scope t, LamR X k dn params body scope t ∧ LamAt X H1 f dn params body scope ∧ ∀ (W : XK) (N : VK) H2, Same H1 H2 → (∀ cls d H3 e, Same H2 H3 → ErrX X.K ks pe cls d H3 e → SeqAt.shaped e = true → PyData.eqv e ex = true → W cls d H3) → t W σ H2 N) ∧
  ∀ H2, Same H1 H2 → Q (.bl true) H2
theorem pe_all2 {e e2 : Expr} {ta : TA} {p pos : Pos} (C : Cal X.prog X.w X.K X.mg X.base CX0 m "_law_all_raise" ["_law_calls", "_law_expected"] (sp_allraise X.prog X.w X.mg X.base (k + 1) ks pe X.K)) (hr : Room m X.A) (hfn : ∀ x, X.fn x = true)
    (ha : PA X [e, e2] ta) (hg : Gl X "_law_all_raise" := by rfl) (he : starEach [e, e2] X.env = (false, eval e X.env) :: starEach [e2] X.env := by rfl) (hpl : (backTo pos (starEach [e2] X.env)).any (·.1) = false := by rfl) :
    PE X (.Call (.Name "_law_all_raise" p) [e, e2] [] pos) (fun σ H Q => ta σ H fun vs H1 => rAll X k ks pe σ vs H1 Q) := by
  refine pe_calZ C hr hfn ha (fun σ vs H1 Q h F cf => ?_) hg (by decide) he hpl
  obtain ⟨l, x, fs, ex, rfl, hl, hx, hsx, hf, hq⟩ := h
  have nfz : ∀ b o, F b = some o → Fz F H1 b = some (.frz o uT) := fun b o e => fz_at (cf.no b o e) e
  refine ⟨l, x, fs, rfl, fz_same.seq hl, fun f hm => ?_, fun H' s' hF3 => hq _ (same_uf cf.no (fz_same.trans s'))⟩
  obtain ⟨dn, params, body, scope, t, R, hA, ht⟩ := hf f hm
  refine ⟨_, _, lamV_of cf.ok cf.len R.L R.B cf.cell cf.val R.body, ⟨hA.same fun b o e _ _ => fz_same _ _ e, nfz⟩, fun H' Q' N s' hQ' => ?_⟩
  refine ht _ _ _ (same_uf cf.no (fz_same.trans s')) (fun cls d H3 e s3 he he1 he2 hn => ⟨e, he.same fz_same, fun H4 v s4 hv => ?_⟩)
  have back : Same H' (Fz F H3) := fun b u q => by
    cases f : F b with
    | none => exact fz_same _ _ (s3 b u (by rw [uf_out f]; exact q))
    | some o =>
      have z := s' _ _ (nfz b o f)
      rw [q] at z
      cases z
      exact fz_at (hn b o f) f
  obtain ⟨D, j, nm, st, _, _, _, _, _, h6⟩ := he
  exact hQ' v H4 (back.trans s4) (dp_ref h6 hv) ⟨e, ex, hv, ((fz_same.trans s').trans (back.trans s4)).dp hx, he1, hsx, he2⟩
end
end Pk

namespace Pk
open PySem PySem.Spec PyProof.Rows L2
section
variable {X : Cx} {K : PySem.W.Frag}
/-- as gAdd, tuples of any length (the empty one too) -/
def gAdd2 (K : PySem.W.Frag) : R2 := fun x y H Q => match x, y with
  | .int i, .int j => Q (.int (i + j)) H
  | .str a, .str b => (tl a).length + (tl b).length ≤ 1000000 ∧ Q (.str (S (tl a ++ tl b))) H
  | .ref a, .ref b => (∃ xs zs, H a = some (.lst xs) ∧ H b = some (.lst zs) ∧ xs.length + zs.length ≤ 1000000 ∧ ∀ p, H p = none → Q (.ref p) (upd H p (.lst (xs ++ zs)))) ∨
      (∃ xs ys, SqT K H a xs ∧ SqT K H b ys ∧ xs.length + ys.length ≤ 1000000 ∧ ∀ p H', Same H H' → SqT K H' p (xs ++ ys) → (H p = none ∨ p = a ∨ p = b) → Q (.ref p) H')
  | _, _ => False
theorem op_addG20 : OpR X (binaryOp .Add) (gAdd2 X.K) := by
  intro pins s σ H x y v u Q I rx ry h
  unfold gAdd2 at h
  split at h
  · exact op_add pins s σ H _ _ v u Q I rx ry ⟨_, _, rfl, rfl, h⟩
  · refine op_add_str pins s σ H _ _ v u Q I rx ry ⟨_, _, rfl, rfl, ?_, ?_⟩
    · rw [len_S, len_S]; exact Nat.le_trans h.1 line6
    · rw [app_S]; exact h.2
  · rename_i a b
    rcases h with ⟨xs, zs, h1, h2, h3, h4⟩ | ⟨xs, ys, h1, h2, h3, h4⟩
    · exact op_cat pins s σ H _ _ v u Q I rx ry ⟨_, _, _, _, rfl, rfl, h1, h2, Nat.le_trans h3 line6, h4⟩
    · refine op_catA pins s σ H _ _ v u Q I rx ry ⟨a, b, xs, ys, rfl, rfl, h1, h2, Nat.le_trans h3 line6, fun e => ?_, fun _ e => ?_, fun _ _ p hp => h4 p _ (same_upd hp) (SqT.of upd_same) (.inl hp)⟩
      · subst e
        exact h4 b H (Same.refl _) h2 (.inr (.inr rfl))
      · subst e
        exact h4 a H (Same.refl _) (by rw [List.append_nil]; exact h1) (.inr (.inl rfl))
  · exact h.elim
theorem op_addG2 (hK : X.K = K := by rfl) : OpR X (binaryOp .Add) (gAdd2 K) := hK ▸ op_addG20
/-- as gSl, the whole of a tuple too -/
def gSl2 (K : PySem.W.Frag) : V → Option Int → Option Int → Hp → VK → Prop := fun x lo hi H Q => match x with
  | .str z => (tl z).length ≤ 1000000 ∧ Q (.str (S (cutL (tl z) lo hi))) H
  | .ref p => (∃ xs, SqL K H p xs ∧ ∀ q, H q = none → Q (.ref q) (upd H q (.lst (cutL xs lo hi)))) ∨ (∃ xs, SqT K H p xs ∧ ∀ q H', Same H H' → SqT K H' q (cutL xs lo hi) → (H q = none ∨ q = p) → Q (.ref q) H')
  | _ => False
theorem cut_whole {xs : List V} {lo hi : Option Int} (h : HT.sIx xs.length 0 lo = 0 ∧ HT.sIx xs.length xs.length hi = xs.length) : cutL xs lo hi = xs := by
  unfold cutL
  rw [h.1, h.2, List.drop_zero, Nat.sub_zero, List.take_length]
theorem slG20 : SlR X (gSl2 X.K) := by
  intro pins s σ H x v vl vu lo hi sl Q I rx hs pl pu h
  unfold gSl2 at h
  split at h
  · exact sl_str pins s σ H _ v vl vu lo hi sl Q I rx hs pl pu ⟨_, rfl, by rw [len_S]; exact Nat.le_trans h.1 line6, by rw [cutS_S]; exact h.2⟩
  · rename_i p
    rcases h with ⟨xs, h1, h2⟩ | ⟨xs, h1, h2⟩
    · exact sl_list pins s σ H _ v vl vu lo hi sl Q I rx hs pl pu ⟨_, xs, rfl, h1, h2⟩
    · refine sl_tupA pins s σ H _ v vl vu lo hi sl Q I rx hs pl pu ⟨p, xs, rfl, h1, fun e => ?_, fun _ q hq => h2 q _ (same_upd hq) (SqT.of upd_same) (.inl hq)⟩
      exact h2 p H (Same.refl _) (by rw [cut_whole e]; exact h1) (.inr rfl)
  · exact h.elim
theorem slG2 (hK : X.K = K := by rfl) : SlR X (gSl2 K) := hK ▸ slG20
end
end Pk

namespace Pk
open PySem PySem.Spec PyProof.Rows L2
section
variable {P : Program} {w : World} {K : PySem.W.Frag} {mg : Str → Option Value} {base : Heap}
/-! ### dicts whose keys are states: a tuple of numbers and a text -/
abbrev SK := List Int × List Nat
abbrev kN (k : SK) : NestedKey := .tup [.tup (k.1.map .num), .text (S k.2)]
/-- the tuple at a is the state k -/
def StAt (K : PySem.W.Frag) (H : Hp) (k : SK) (a : Addr) : Prop := ∃ b, SqT K H a [.ref b, .str (S k.2)] ∧ SqT K H b (k.1.map V.int)
theorem StAt.same {H H' : Hp} {k : SK} {a : Addr} (h : StAt K H k a) (s : Same H H') : StAt K H' k a := by
  obtain ⟨b, h1, h2⟩ := h
  exact ⟨b, s.tup h1, s.tup h2⟩
/-- an entry: its key, where the key stands, its value -/
abbrev NE := SK × Addr × V
abbrev entN (P : Program) (w : World) (x : NestedKey × Addr × Value) : DictEntry := entryOfKey (nestedKind P w) x
/-- a dict by its entries -/
def DN (P : Program) (w : World) (a : Addr) (kvs : List NE) : HO := .ext fun h => (a == sysModules) = false ∧ ∃ xs : List (NestedKey × Addr × Value), Paired (fun (p : NE) (q : NestedKey × Addr × Value) => q.1 = kN p.1 ∧ q.2.1 = p.2.1 ∧ RelV p.2.2 q.2.2) kvs xs ∧
  ∃ o es ep, h.get? a = some o ∧ o.ExactDict ∧ o.data = .dict es ep ∧ es.toList = xs.map (entryOfKey (nestedKind P w)) ∧ (xs.map (·.1)).Nodup
def getN : List NE → SK → Option V
  | [], _ => none
  | e :: r, k => if e.1 = k then some e.2.2 else getN r k
/-- k is stored: in its place, or at the end -/
def putN (kvs : List NE) (k : SK) (a : Addr) (v : V) : List NE := if (getN kvs k).isSome then kvs.map fun e => if e.1 = k then (e.1, e.2.1, v) else e else kvs ++ [(k, a, v)]
theorem kN_inj {j k : SK} (h : kN j = kN k) : j = k := by
  obtain ⟨a, b⟩ := j
  obtain ⟨c, d⟩ := k
  simp only [kN, NestedKey.tup.injEq, List.cons.injEq, NestedKey.text.injEq, and_true] at h
  obtain ⟨h1, h2⟩ := h
  have e : a = c := (List.map_inj_right (f := NestedKey.num) (fun x y z => NestedKey.num.inj z)).mp h1
  rw [e, S_inj h2]
theorem depth_nums (l : List Int) : NestedKey.depthAll (l.map .num) ≤ 1 := by
  induction l with
  | nil => simp [NestedKey.depthAll]
  | cons x r ih =>
    simp only [List.map_cons, NestedKey.depthAll, NestedKey.depth]
    omega
theorem depth_kN (k : SK) : (kN k).depth ≤ 8 := by
  have := depth_nums k.1
  simp only [kN, NestedKey.depth, NestedKey.depthAll]
  omega
section
variable {X : Cx} {pins : List (Addr × Obj)} {σ : L2.St} {H : Hp} {s : Shared}
theorem nums_is {h : Heap} : ∀ {l : List Int} {us : List Value}, Vals (l.map V.int) us → NestedAll h (l.map .num) us
  | [], _, .nil => .nil
  | x :: r, _, .cons a b => by
    obtain ⟨t, rfl⟩ := a
    exact .cons (.int _ _) (nums_is b)
theorem StAt.is (I : Inv X pins σ H s) {k : SK} {a : Addr} (h : StAt X.K H k a) : (nestedKind X.prog X.w).is s.heap (kN k) a := by
  obtain ⟨b, h1, h2⟩ := h
  obtain ⟨its, r1, ⟨o1, g1, c1, n1, e1⟩, _⟩ := I.tuple h1
  obtain ⟨its2, r2, ⟨o2, g2, c2, n2, e2⟩, _⟩ := I.tuple h2
  refine ⟨.tup g1 c1 e1 ?_, depth_kN k⟩
  cases r1 with
  | cons ra rb =>
    cases rb with
    | cons rb rc =>
      cases rc
      cases ra
      obtain ⟨t, rfl⟩ := rb
      exact .cons (.tup g2 c2 e2 (by simpa using nums_is r2)) (.cons (.text _ _) .nil)
theorem at_N {k : SK} : ∀ {kvs : List NE} {xs : List (NestedKey × Addr × Value)}, Paired (fun (p : NE) (q : NestedKey × Addr × Value) => q.1 = kN p.1 ∧ q.2.1 = p.2.1 ∧ RelV p.2.2 q.2.2) kvs xs → RelO (getN kvs k) ((atKey xs (kN k)).map (·.2))
  | _, _, .nil => trivial
  | p :: kvs, q :: xs, .cons r t => by
    obtain ⟨e1, e2, e3⟩ := r
    unfold getN
    by_cases h : p.1 = k
    · rw [if_pos h]
      have : q.1 = kN k := by rw [e1, h]
      simp only [atKey, List.find?_cons, this, decide_true, Option.map_some]
      exact e3
    · rw [if_neg h]
      have : ¬ q.1 = kN k := fun z => h (kN_inj (e1.symm.trans z))
      have ih := at_N (k := k) t
      simp only [atKey, List.find?_cons, this, decide_false] at ih ⊢
      exact ih
theorem relO_some {a : Option V} {b : Option Value} (h : RelO a b) : a.isSome = b.isSome := by
  cases a <;> cases b <;> first | rfl | exact h.elim
theorem dictN (I : Inv X pins σ H s) {c : Addr} {kvs : List NE} (h : H c = some (DN X.prog X.w c kvs)) (hk : ∀ e ∈ kvs, StAt X.K H e.1 e.2.1) :
    (c == sysModules) = false ∧ ∃ xs : List (NestedKey × Addr × Value), Paired (fun (p : NE) (q : NestedKey × Addr × Value) => q.1 = kN p.1 ∧ q.2.1 = p.2.1 ∧ RelV p.2.2 q.2.2) kvs xs ∧ s.heap.DictOfH (nestedKind X.prog X.w) c xs := by
  obtain ⟨⟨h0, xs, hp, o, es, ep, h1, h2, h3, h4, h5⟩, _⟩ := I.hok c _ h
  refine ⟨h0, xs, hp, o, es, ep, h1, h2, h3, h4, fun x hx => ?_, h5⟩
  have : ∀ {kvs : List NE} {xs : List (NestedKey × Addr × Value)}, Paired (fun (p : NE) (q : NestedKey × Addr × Value) => q.1 = kN p.1 ∧ q.2.1 = p.2.1 ∧ RelV p.2.2 q.2.2) kvs xs → ∀ x ∈ xs, ∃ p ∈ kvs, x.1 = kN p.1 ∧ x.2.1 = p.2.1 := by
    intro kvs xs hp
    induction hp with
    | nil => intro x hx; cases hx
    | cons r t ih =>
      intro x hx
      rcases List.mem_cons.mp hx with rfl | hx
      · exact ⟨_, List.mem_cons_self, r.1, r.2.1⟩
      · obtain ⟨p, hp, e⟩ := ih x hx
        exact ⟨p, List.mem_cons_of_mem _ hp, e⟩
  obtain ⟨p, hp', e1, e2⟩ := this hp x hx
  rw [e1, e2]
  exact (hk p hp').is I
/-- what a rule over such a dict asks -/
def AskN (P : Program) (w : World) (K : PySem.W.Frag) (H : Hp) (c a : Addr) (kvs : List NE) (k : SK) : Prop := H c = some (DN P w c kvs) ∧ StAt K H k a ∧ (∀ e ∈ kvs, StAt K H e.1 e.2.1)
theorem roomN (hu : X.A.units + 64 < cLine) : (nestedKind X.prog X.w).room X.A.in1 := by
  show X.A.in1.units + 8 < cLine
  have : X.A.in1.units = X.A.units + 1 := rfl
  omega
def gNotInN (P : Program) (w : World) (K : PySem.W.Frag) : R2 := fun x y H Q => ∃ a c kvs k, x = .ref a ∧ y = .ref c ∧ AskN P w K H c a kvs k ∧ Q (.bl (!(getN kvs k).isSome)) H
theorem op_notInN (hu : X.A.units + 64 < cLine) : OpR X (compareOp .NotIn) (gNotInN X.prog X.w X.K) := by
  intro pins s σ H x y v u Q I rx ry h
  obtain ⟨a, c, kvs, k, rfl, rfl, ⟨h1, h2, h3⟩, q⟩ := h
  cases rx
  cases ry
  obtain ⟨h0, xs, hp, hd⟩ := dictN I h1 h3
  refine notIn_keyed (roomN hu) (h2.is I) h0 ⟨xs, hd, rfl⟩ ⟨.bl (!(getN kvs k).isSome), H, I.tok _, ?_, q⟩
  rw [valueAt_pairsH, relO_some (at_N (k := k) hp)]
  rfl
def gIxN (P : Program) (w : World) (K : PySem.W.Frag) : R2 := fun x y H Q => ∃ a c kvs k v, x = .ref c ∧ y = .ref a ∧ AskN P w K H c a kvs k ∧ getN kvs k = some v ∧ Q v H
theorem ixN_ (hu : X.A.units + 64 < cLine) : IxR X (gIxN X.prog X.w X.K) := by
  intro vl sl pins s σ H x y v u Q I rx ry h hs
  obtain ⟨a, c, kvs, k, z, rfl, rfl, ⟨h1, h2, h3⟩, hg, q⟩ := h
  cases rx
  cases ry
  obtain ⟨h0, xs, hp, hd⟩ := dictN I h1 h3
  have hv := at_N (k := k) hp
  rw [hg] at hv
  obtain ⟨u, hu', ru⟩ := RelO.some_of hv
  obtain ⟨p, hp', rfl⟩ := Option.map_eq_some_iff.mp hu'
  exact tail_any hd.typeIs slot_dict_getitem.lookup (wpAny_getItem_heap (roomN hu) (h2.is I) hd hp' ⟨z, H, I.tok _, ru, q⟩) hs
theorem put_N {k : SK} {a : Addr} {v : V} {u : Value} (rv : RelV v u) {kvs : List NE} {xs : List (NestedKey × Addr × Value)} (hp : Paired (fun (p : NE) (q : NestedKey × Addr × Value) => q.1 = kN p.1 ∧ q.2.1 = p.2.1 ∧ RelV p.2.2 q.2.2) kvs xs) :
    Paired (fun (p : NE) (q : NestedKey × Addr × Value) => q.1 = kN p.1 ∧ q.2.1 = p.2.1 ∧ RelV p.2.2 q.2.2) (putN kvs k a v) (storedH xs (kN k) a u) := by
  have hs := relO_some (at_N (k := k) hp)
  rw [Option.isSome_map] at hs
  unfold putN storedH
  rw [hs]
  split
  · rename_i hh
    clear hs hh
    induction hp with
    | nil => exact .nil
    | @cons p q _ _ r t ih =>
      refine .cons ?_ ih
      obtain ⟨e1, e2, e3⟩ := r
      unfold putAt
      dsimp only
      by_cases h : p.1 = k
      · rw [if_pos h, if_pos (by rw [e1, h])]
        exact ⟨e1, e2, rv⟩
      · rw [if_neg h, if_neg (fun z => h (kN_inj (e1.symm.trans z)))]
        exact ⟨e1, e2, e3⟩
  · rename_i hh
    clear hs hh
    induction hp with
    | nil => exact .cons ⟨rfl, rfl, rv⟩ .nil
    | cons r t ih => exact .cons r ih
theorem paired_len {α β : Type} {R : α → β → Prop} : ∀ {l : List α} {m : List β}, Paired R l m → l.length = m.length
  | _, _, .nil => rfl
  | _, _, .cons _ t => by rw [List.length_cons, List.length_cons, paired_len t]
def gSetN (P : Program) (w : World) (K : PySem.W.Frag) : TSet := fun o i v H Q => ∃ a c kvs k, o = .ref c ∧ i = .ref a ∧ AskN P w K H c a kvs k ∧ kvs.length < 16000000 ∧ Q (upd H c (DN P w c (putN kvs k a v)))
theorem set_N (hu : X.A.units + 64 < cLine) : PSet X (gSetN X.prog X.w X.K) := by
  intro pins s σ H o i v ov iv u Q I ro ri rv h
  obtain ⟨a, c, kvs, k, rfl, rfl, ⟨h1, h2, h3⟩, hl, q⟩ := h
  cases ro
  cases ri
  obtain ⟨h0, xs, hp, hd⟩ := dictN I h1 h3
  have hlen := paired_len hp
  have hline := sizeLine_eq
  refine wpAny_setItem_heap (hsz := by omega) (roomN hu) (h2.is I) hd fun h' hm' hs => ?_
  obtain ⟨o', es, ep, g1, g2, g3, g4, _, g6⟩ := hm'
  refine ⟨_, I.write (x := c) (e := c) (o := DN X.prog X.w c (putN kvs k a v)) (t' := s.toks + (nestedKind X.prog X.w).draws (kN k)) (h' := h') (by rw [h1]; trivial) (.inl rfl) (fun b u' hb e => (hs.2 b hb).trans e) ⟨o', g1⟩ ?_, q⟩
  refine ⟨⟨h0, _, put_N rv hp, o', es, ep, g1, g2, g3, g4, g6⟩, ⟨o', g1⟩, fun h1 h2 ⟨a0, xs', b1, o2, es2, ep2, b2, b3⟩ kk => ⟨a0, xs', b1, o2, es2, ep2, kk _ b2, b3⟩⟩
/-- {} -/
def gNewN (P : Program) (w : World) : TE := fun _ H Q => ∀ p, H p = none → Q (.ref p) (upd H p (DN P w p []))
theorem pe_newN {pos : Pos} : PE X (.Dict [] [] pos) (gNewN X.prog X.w) := ⟨fun pins s σ H Q I h => by
  refine wpAny_Dict_empty ⟨.ref s.heap.objs.size, _, I.laid (a := s.heap.objs.size) (o := DN X.prog X.w s.heap.objs.size []) (t' := s.toks) (fun _ _ q => Heap.get?_push_of_some _ q) (Nat.le_refl _) ?_, rfl, h _ (I.hok.fresh (Nat.le_refl _))⟩
  have hb := I.big
  have g := Heap.get?_push_size s.heap (o := { cls := .type "dict", data := .dict #[] }) rfl
  refine ⟨⟨?_, [], .nil, _, #[], _, g, ⟨rfl, rfl, rfl⟩, rfl, rfl, List.nodup_nil⟩, ⟨_, g⟩, fun h1 h2 ⟨a0, xs', b1, o2, es2, ep2, b2, b3⟩ kk => ⟨a0, xs', b1, o2, es2, ep2, kk _ b2, b3⟩⟩
  exact beq_eq_false_iff_ne.mpr (Nat.ne_of_gt hb)⟩
end
end
end Pk

namespace Pk
open PySem PySem.Spec PyProof.Rows L2
/-- a method of the class at C, by its promise -/
structure MCal (P : Program) (w : World) (K : PySem.W.Frag) (mg : Str → Option Value) (base : Heap) (CX : CXT) (k : Nat) (C : Addr) (m : Str) (ps : List Str) (sp : Sp) : Prop where
  cl : Cls K C
  ex : ∃ f fd, Meth K C m f ∧ Binds K fd ps [] ∧ FnOk P w K mg base CX k f fd ps sp
/-- the class x, made by its __init__ -/
structure KCal (P : Program) (w : World) (K : PySem.W.Frag) (mg : Str → Option Value) (base : Heap) (CX : CXT) (k : Nat) (x : Str) (C : Addr) (ps : List Str) (sp : Sp) : Prop where
  ex : ∃ f fd, Mk K C f ∧ mg x = some (.ref C) ∧ Binds K fd ps [] ∧ FnOk P w K mg base CX k f fd ps sp
section
variable {X : Cx} {CX : CXT} {k : Nat} {C : Addr} {x m : Str} {ps : List Str} {sp : Sp} {E : XK} {o e : Expr} {es : List Expr} {ta : TE} {t : TA} {p apos pos : Pos} {K : PySem.W.Frag} {f : Str}
def gMeth (C : Addr) (m : Str) (sp : Sp) (E : XK) (ta : TE) (t : TA) : TE := fun σ H Q => ta σ H fun x H1 => match x with
  | .ref a => ∃ dx fs, H1 a = some (.ins C dx fs) ∧ fs.lookup m = none ∧ t σ H1 fun vs H2 => sp (.ref a :: vs) H2 Q E
  | _ => False
theorem pe_mcal {pl : Sem Bool} (he : PE X o ta) (M : MCal X.prog X.w X.K X.mg X.base CX k C m ps sp) (hr : Room k X.A) (hx : Passes CX X E) (ha : PA X (e :: es) t)
    (hst : starEach (e :: es) X.env = (false, eval e X.env) :: starEach es X.env := by rfl) (hpl : (backTo pos (starEach es X.env)).any (·.1) = false := by rfl)
    (ht : eval (.Call (.Attribute o m apos) (e :: es) [] pos) X.env = (do
      let ov ← eval o X.env
      standAt apos.atName
      let (f, first) ← holding [ov] (getMethod ov m pl)
      callWith pos f first (backTo pos (starEach (e :: es) X.env)) (backToKw pos (keywordEach [] X.env))) := by rfl) :
    PE X (.Call (.Attribute o m apos) (e :: es) [] pos) (gMeth C m sp E ta t) := by
  obtain ⟨f, fd, h1, h2, h3⟩ := M.ex
  refine ⟨fun pins s σ H Q I h => ?_⟩
  refine PySem.W.methodCall_KW (pl := pl) (thn (he.run pins s σ H _ I h) fun u s1 ⟨x, H1, I1, rx, q1⟩ => ?_) ht
  cases x with
  | ref a =>
    obtain ⟨dx, fs, ea, l, q⟩ := q1
    obtain rfl : u = Value.ref a := rx
    refine getmeth_ok I1 ea M.cl h1 l ?_
    refine PySem.W.callWith_K (first := [.ref a]) (h₀ := X.base) I.ok.mod.kin h1.kp (thn (ha.run pos pins s1 σ H1 _ I1 q) fun us s2 ⟨vs, H2, I2, r, q2⟩ => ⟨I2.kIn, ?_⟩) hst hpl
    exact run_fn (us := .ref a :: us) (vs := .ref a :: vs) (dvs := []) h3 hr h2 .nil hx I2 (.cons rfl r) (by rw [List.append_nil]; exact q2)
  | _ => exact q1.elim
def gMeth0 (C : Addr) (m : Str) (sp : Sp) (E : XK) (ta : TE) : TE := fun σ H Q => ta σ H fun x H1 => match x with
  | .ref a => ∃ dx fs, H1 a = some (.ins C dx fs) ∧ fs.lookup m = none ∧ sp [.ref a] H1 Q E
  | _ => False
theorem pe_mcal0 {pl : Sem Bool} (he : PE X o ta) (M : MCal X.prog X.w X.K X.mg X.base CX k C m ps sp) (hr : Room k X.A) (hx : Passes CX X E)
    (ht : eval (.Call (.Attribute o m apos) [] [] pos) X.env = (do
      let ov ← eval o X.env
      standAt apos.atName
      let (f, first) ← holding [ov] (getMethod ov m pl)
      callWith pos f first (backTo pos (starEach [] X.env)) (backToKw pos (keywordEach [] X.env))) := by rfl) : PE X (.Call (.Attribute o m apos) [] [] pos) (gMeth0 C m sp E ta) := by
  obtain ⟨f, fd, h1, h2, h3⟩ := M.ex
  refine ⟨fun pins s σ H Q I h => ?_⟩
  refine PySem.W.methodCall_KW (pl := pl) (thn (he.run pins s σ H _ I h) fun u s1 ⟨x, H1, I1, rx, q1⟩ => ?_) ht
  cases x with
  | ref a =>
    obtain ⟨dx, fs, ea, l, q⟩ := q1
    obtain rfl : u = Value.ref a := rx
    refine getmeth_ok I1 ea M.cl h1 l ?_
    exact PySem.W.callWith_K0 (first := [.ref a]) I1.kIn h1.kp (run_fn (us := [.ref a]) (vs := [.ref a]) (dvs := []) h3 hr h2 .nil hx I1 (.cons rfl .nil) q)
  | _ => exact q1.elim
/-- C(e, ..) -/
def gMake (C : Addr) (sp : Sp) (E : XK) (t : TA) : TE := fun σ H Q => t σ H fun vs H1 => ∀ x dx, H1 x = none → H1 dx = none → dx ≠ x → sp (.ref x :: vs) (upd (upd H1 dx (.own x)) x (.ins C dx [])) (fun v H2 => v = .non ∧ Q (.ref x) H2) E
theorem pe_kcal (M : KCal X.prog X.w X.K X.mg X.base CX k x C ps sp) (hr : Room (k + 1) X.A) (hx : Passes CX X E) (ha : PA X (e :: es) t) (hg : Gl X x := by rfl) (hdb : (x == ("__debug__" : Str)) = false := by decide)
    (he : starEach (e :: es) X.env = (false, eval e X.env) :: starEach es X.env := by rfl) (hpl : (backTo pos (starEach es X.env)).any (·.1) = false := by rfl) : PE X (.Call (.Name x p) (e :: es) [] pos) (gMake C sp E t) := by
  obtain ⟨f, fd, h1, hm, h2, h3⟩ := M.ex
  have h : gMake C sp E t = tMake C sp [] E t := by
    funext σ H Q
    unfold gMake tMake
    congr
    funext vs H1
    rw [List.append_nil]
  rw [h]
  exact pe_make h1 h3 hr hg hm h2 .nil hx ha hdb he hpl
/-- o.f -/
def gFld (K : PySem.W.Frag) (f : Str) (ta : TE) : TE := fun σ H Q => ta σ H fun x H1 => match x with
  | .ref a => ∃ C dx fs v, H1 a = some (.ins C dx fs) ∧ Cls K C ∧ NoAttr K C f ∧ fs.lookup f = some v ∧ Q v H1
  | _ => False
theorem pe_fldG (he : PE X e ta) (hb : attributeBase e f X.env (eval e X.env) = eval e X.env := by rfl) (hK : X.K = K := by rfl) : PE X (.Attribute e f pos) (gFld K f ta) := by
  subst hK
  refine ⟨fun pins s σ H Q I h => ?_⟩
  refine attr_of hb (thn (he.run pins s σ H _ I h) fun u s1 ⟨x, H1, I1, rx, q1⟩ => ?_)
  cases x with
  | ref a =>
    obtain ⟨C, dx, fs, v, ea, c, n, l, q⟩ := q1
    obtain rfl : u = Value.ref a := rx
    exact getattr_ok I1 ea c n l fun w' s' I' rw' => ⟨v, H1, I', rw', q⟩
  | _ => exact q1.elim
/-- o.f = e -/
def gSetF (K : PySem.W.Frag) (f : Str) (ta tv : TE) : TS := fun D σ H => tv σ H fun y H1 => ta σ H1 fun x H2 => match x with
  | .ref a => ∃ C dx fs, H2 a = some (.ins C dx fs) ∧ Cls K C ∧ NoAttr K C f ∧ fs.length < 1000 ∧ D.nx σ (upd H2 a (.ins C dx (putF f y fs)))
  | _ => False
theorem ps_setF {value : Expr} {tv : TE} {pos' : Pos} (ha : PE X o ta) (hv : PE X value tv) (hs : swapsWith value (some (.Attribute o f pos')) pos.line X.env = pure false := by rfl) (hK : X.K = K := by rfl) : PS X (.Assign [.Attribute o f pos'] value pos) (gSetF K f ta tv) := by
  subst hK
  refine ⟨fun pins s σ H D I h => ?_⟩
  refine plainObj_wpAny_Assign_Attribute (thn (hv.run pins s σ H _ I h) fun u s1 ⟨y, H1, I1, ry, q⟩ => thn (ha.run pins s1 σ H1 _ I1 q) fun ov s2 ⟨x, H2, I2, rx, q2⟩ => ?_) hs
  cases x with
  | ref a =>
    obtain ⟨C, dx, fs, ea, c, n, l, q2⟩ := q2
    obtain rfl : ov = Value.ref a := rx
    exact setattr_ok I2 ea c n l ry fun s3 I3 => ⟨σ, _, I3, q2⟩
  | _ => exact q2.elim
end
end Pk

namespace Pk
open PySem PySem.Spec PyProof.Rows L2
/-- n positional values and one keyword's -/
def gK {α : Type} : Nat → List α → List α → List α
  | 0, [], [d] => [d]
  | n + 1, a :: us, ws => a :: gK n us ws
  | _, _, _ => []
theorem gK_le {α : Type} : ∀ (n : Nat) (us ws : List α), (gK n us ws).length ≤ n + 1
  | 0, [], [] => by simp [gK]
  | 0, [], [_] => by simp [gK]
  | 0, [], _ :: _ :: _ => by simp [gK]
  | 0, _ :: _, _ => by simp [gK]
  | n + 1, [], _ => by simp [gK]
  | n + 1, a :: us, ws => by
    have := gK_le n us ws
    simp only [gK, List.length_cons]
    omega
theorem gK_inv {α : Type} : ∀ (n : Nat) (us ws : List α), (gK n us ws).length = n + 1 → us.length = n ∧ ∃ d, ws = [d]
  | 0, [], [], h => by simp [gK] at h
  | 0, [], [d], _ => ⟨rfl, d, rfl⟩
  | 0, [], _ :: _ :: _, h => by simp [gK] at h
  | 0, _ :: _, _, h => by simp [gK] at h
  | n + 1, [], _, h => by simp [gK] at h
  | n + 1, a :: us, ws, h => by
    have := gK_inv n us ws (by simpa [gK] using h)
    exact ⟨by rw [List.length_cons, this.1], this.2⟩
theorem gK_rel : ∀ (n : Nat) {vs : List V} {us : List Value} {zs : List V} {ws : List Value}, Vals vs us → Vals zs ws → Vals (gK n vs zs) (gK n us ws)
  | 0, _, _, _, _, .nil, .nil => .nil
  | 0, _, _, _, _, .nil, .cons h .nil => .cons h .nil
  | 0, _, _, _, _, .nil, .cons _ (.cons _ _) => .nil
  | 0, _, _, _, _, .cons _ _, _ => by simp only [gK]; exact .nil
  | n + 1, _, _, _, _, .nil, _ => by simp only [gK]; exact .nil
  | n + 1, _, _, _, _, .cons h t, r => .cons h (gK_rel n t r)
/-- a def with n parameters and one that is told by its name alone -/
structure CalK (P : Program) (w : World) (K : PySem.W.Frag) (mg : Str → Option Value) (base : Heap) (CX : CXT) (k : Nat) (x : Str) (n : Nat) (ps : List Str) (y : Str) (sp : Sp) : Prop where
  ex : ∃ f fd, mg x = some (.ref f) ∧ PySem.W.keepIn K (.ref f) = true ∧ (∀ (s : Shared) (us : List Value) (d : Value), us.length = n → BindsTo s fd ⟨us, [(y, d)]⟩ (ps.zip (us ++ [d]))) ∧ ps.length = n + 1 ∧ FnOk P w K mg base CX k f fd ps sp
theorem gK_app {α : Type} (d : α) : ∀ (us : List α), gK us.length us [d] = us ++ [d]
  | [] => rfl
  | a :: us => by rw [List.length_cons, gK, gK_app d us, List.cons_append]
section
variable {X : Cx} {CX : CXT} {k n : Nat} {x y : Str} {ps : List Str} {sp : Sp} {E : XK} {e : Expr} {es : List Expr} {kws : List Keyword} {t tk : TA} {p pos : Pos}
def gCalK (sp : Sp) (n : Nat) (E : XK) (t tk : TA) : TE := fun σ H Q => t σ H fun vs H1 => tk σ H1 fun zs H2 => sp (gK n vs zs) H2 Q E
theorem pe_calK (C : CalK X.prog X.w X.K X.mg X.base CX k x n ps y sp) (hr : Room k X.A) (hx : Passes CX X E) (ha : PA X (e :: es) t) (hkw : PK X kws tk) (hg : Gl X x := by rfl)
    (hall : (backToKw pos (keywordEach kws X.env)).all (·.1.isSome) = true := by rfl) (hks : (backToKw pos (keywordEach kws X.env)).filterMap (·.1) = [y] := by rfl)
    (hdb : (x == ("__debug__" : Str)) = false := by decide) (he : starEach (e :: es) X.env = (false, eval e X.env) :: starEach es X.env := by rfl)
    (hpl : ((backTo pos (starEach (e :: es) X.env)).any (·.1) || (backToKw pos (keywordEach kws X.env)).any (·.1.isNone)) = false := by rfl) : PE X (.Call (.Name x p) (e :: es) kws pos) (gCalK sp n E t tk) := by
  obtain ⟨f, fd, hm, hk, hb, hn, F⟩ := C.ex
  refine pe_callK F hr hg hm hk (g := gK n) (gV := gK n) ⟨fun s us ws _ hl => ?_, fun r1 r2 => gK_rel n r1 r2⟩ hx ha hkw hall hks hdb he hpl
  rw [hn] at hl
  obtain ⟨h1, d, rfl⟩ := gK_inv n us ws hl
  have := hb s us d h1
  subst h1
  rw [gK_app]
  exact this
/-- a test: a if c else b -/
def gTIf (t ta tb : TT) : TT := fun σ H Q => t σ H fun c H1 => if c = true then ta σ H1 Q else tb σ H1 Q
theorem pt_ifExp {c a b : Expr} {tA ta tb : TT} (hc : PT X c tA) (ha : PT X a ta) (hb : PT X b tb) : PT X (.IfExp c a b pos) (gTIf tA ta tb) := by
  refine ⟨fun pins s σ H Q I h => ?_⟩
  refine isTrue_IfExp (thn (hc.run pins s σ H _ I h) fun d s1 ⟨H1, I1, q1⟩ => ?_)
  cases d with
  | true => exact ha.run pins s1 σ H1 Q I1 q1
  | false => exact hb.run pins s1 σ H1 Q I1 q1
end
end Pk

namespace Pk
open PySem PySem.Spec PyProof.Rows L2
section
variable {X : Cx} {K : PySem.W.Frag} {pos : Pos}
/-! ### dicts whose keys are texts or numbers -/
def gInK (neg : Bool) : R2 := fun x y H Q => ∃ a kvs k, y = .ref a ∧ H a = some (.dK kvs) ∧ x = kV k ∧ Q (.bl (if neg then !(valV kvs k).isSome else (valV kvs k).isSome)) H
theorem op_inK (hu : X.A.units + 64 < cLine) : OpR X (compareOp .In) (gInK false) := by
  intro pins s σ H x y v u Q I rx ry h
  obtain ⟨a, kvs, k, rfl, ha, rfl, q⟩ := h
  cases ry
  exact d_in (by omega) I (DGet.k (k := k) ha) rx fun s3 I3 => ⟨.bl (valV kvs k).isSome, H, I3, rfl, q⟩
theorem op_notInK (hu : X.A.units + 64 < cLine) : OpR X (compareOp .NotIn) (gInK true) := by
  intro pins s σ H x y v u Q I rx ry h
  obtain ⟨a, kvs, k, rfl, ha, rfl, q⟩ := h
  cases ry
  exact d_notIn (by omega) I (DGet.k (k := k) ha) rx fun s3 I3 => ⟨.bl (!(valV kvs k).isSome), H, I3, rfl, q⟩
def gIxK : R2 := fun x y H Q => ∃ a kvs k v, x = .ref a ∧ H a = some (.dK kvs) ∧ y = kV k ∧ valV kvs k = some v ∧ Q v H
theorem ixK (hu : X.A.units + 64 < cLine) : IxR X gIxK := by
  intro vl sl pins s σ H x y v u Q I rx ry h hs
  obtain ⟨a, kvs, k, z, rfl, ha, rfl, hv, q⟩ := h
  cases rx
  have g : DGet H a (kV k) (some z) := by rw [← hv]; exact DGet.k ha
  have hu' : X.A.in1.units + 1 < cLine := by
    have : X.A.in1.units = X.A.units + 1 := rfl
    omega
  exact tail_any (dict_typeIs I g) PySem.F.slot_dict_getitem.lookup (d_getItem (by omega) I g ry fun w' s3 I3 rw' => ⟨z, H, I3, rw', q⟩) hs
def gSetK : TSet := fun o i v H Q => ∃ a kvs k, o = .ref a ∧ H a = some (.dK kvs) ∧ i = kV k ∧ kvs.length < 1000000 ∧ Q (upd H a (.dK (putK kvs k v)))
theorem set_K (hu : X.A.units + 64 < cLine) : PSet X gSetK := by
  intro pins s σ H o i v ov iv u Q I ro ri rv h
  obtain ⟨a, kvs, k, rfl, ha, rfl, hl, q⟩ := h
  exact set_dict (by omega) pins s σ H _ _ v ov iv u Q I ro ri rv ⟨a, _, rfl, DPut.k ha (Nat.lt_of_lt_of_le hl line6), q⟩
/-- {k: v} -/
theorem pe_disp1 {k v : Expr} {tk tv : TE} (hk : PE X k tk) (hv : PE X v tv) : PE X (.Dict [some k] [v] pos) (tDisp [(tk, tv)]) :=
  pe_disp (pps_cons hk hv pps_nil) rfl rfl (by simp) (by show 1 ≤ 15; decide)
/-- sorted(a dict), its keys texts -/
def gSortedD : RC := fun vs H Q => match vs with
  | [.ref a] => ∃ (kvs : List (Key × V)) (ts : List (List Nat)), H a = some (.dK kvs) ∧ kvs.map (·.1) = ts.map txK ∧ ts.length ≤ 1000000 ∧ ∀ (us : List (List Nat)) (q : Addr), us.Perm ts → us.Pairwise (fun a b => ¬ b < a) → H q = none → Q (.ref q) (upd H q (.lst (us.map txV)))
  | _ => False
theorem cr_sortedD (hcalm : X.calm = true) : CallR X (.builtin "sorted") gSortedD := by
  intro pins s σ H xs us Q I r h
  unfold gSortedD at h
  split at h
  · rename_i a
    obtain ⟨kvs, ts, hd, hks0, hl6, q⟩ := h
    obtain ⟨u, eu, rx⟩ := vals1 r
    subst eu
    cases rx
    obtain ⟨ks, hks, hkl⟩ : ∃ ks : List Str, kvs.map (·.1) = ks.map Sum.inr ∧ ks = ts.map S := ⟨ts.map S, by rw [hks0, List.map_map]; rfl, rfl⟩
    have h6 : ks.length ≤ 1000000 := by rw [hkl, List.length_map]; exact hl6
    have hsz : ks.length ≤ sizeLine := Nat.le_trans h6 line6
    obtain ⟨z, lo, vs, rel, dd⟩ := dk_rd I.hok (.inl hd)
    obtain ⟨ep, hat⟩ := dd.dictAt
    have hkeys : vs.map (·.1) = ks.map Sum.inr := rel.keys.symm.trans hks
    have hl : vs.length = ks.length := by
      have e := congrArg List.length hkeys
      rw [List.length_map, List.length_map] at e
      exact e
    have h16 : vs.length ≤ sizeLine := by rw [hl]; exact hsz
    refine Calls.call_function_entry PyProof.Rows.kind_sorted PyProof.Rows.plain_sorted PyProof.Rows.entry_sorted (PyProof.Rows.args_sorted1 _) ?_
    unfold Builtin.«sorted»
    refine wpAny_bind (m := checkCount "sorted" 1 1 _) (wpAny_pure ?_)
    refine wpAny_bind (PySem.W.kdu_collect (A := X.A.in1) (PySem.W.kdl_dict (knd := mixKind X.prog X.w) (kvs := vs) (ep := ep) lo) (I.ok.hd hcalm) hat h16 fun h' tk acc hk hacc => ?_)
    have hal : acc.toList.length = ks.length := by rw [Array.length_toList, hacc.1, hl]
    have hS : StrsAre acc.toList ks := strs_at hal fun j v e => by
      obtain ⟨k, x, e1, e2⟩ := hacc.2 j v (by rw [← Array.getElem?_toList]; exact e)
      have e3 : (vs.map (·.1))[j]? = some k := by rw [List.getElem?_map, e1]; all_goals rfl
      rw [hkeys, List.getElem?_map] at e3
      cases e4 : ks[j]? with
      | none => rw [e4] at e3; cases e3
      | some y =>
        rw [e4] at e3
        have e5 : Sum.inr y = k := Option.some.inj e3
        subst e5
        obtain ⟨t, ev⟩ := Value.isStrOf_shape (x := y) (v := v) e2
        exact ⟨y, t, rfl, ev⟩
    have I1 : Inv X pins σ H { s with heap := h', toks := tk } := I.kept hk
    refine wpAny_bind (wpAny_newList ?_ (by rw [hal]; exact hsz))
    have hoL : (h'.push (seqObj "list" acc.toList.toArray 0)).get? h'.objs.size = some (seqObj "list" acc.toList.toArray 0) := Heap.get?_push_size _ rfl
    show wpAny _ _ _ _ _ { s with heap := h'.push (seqObj "list" acc.toList.toArray 0), toks := tk }
    refine wpAny_bind (wpAny_holding (wpAny_call_entry PyProof.Rows.slot_list_sort ⟨_, hoL, rfl⟩ PyProof.Rows.entry_list_sort
      (list_sort_treeKAny strKind_oneLt (s := { s with heap := h'.push (seqObj "list" acc.toList.toArray 0), toks := tk }) hoL hS.keysOf (fun v₁ v₂ rest e => keyKind_strs (by rw [← e]; exact hS)) (by rw [hal]; exact hsz) fun st' hp hs => ⟨_, rfl, ?_⟩)
      (PyProof.Rows.args_list_sort _)))
    obtain ⟨ys, g1, g2, g3⟩ := sorted_out_str hS hp hs
    obtain ⟨e', he'⟩ := PyProof.Rows.sortedHeap_at (vs := acc.toList) (out := (arrOf st').map (·.2)) hoL
    have hlen : (ys.map V.str).length ≤ sizeLine := by
      rw [List.length_map, g2.length_eq]
      exact hsz
    have eys : ys.map V.str = (ys.map tl).map txV := by
      rw [← map_S_tl ys]
      simp
    have hpp : (ys.map tl).Perm ts := by
      have := g2.map tl
      rw [hkl, List.map_map] at this
      have e : ts.map (tl ∘ S) = ts := by
        conv => rhs; rw [← List.map_id ts]
        exact List.map_congr_left fun y _ => rfl
      rw [e] at this
      exact this
    refine wpAny_pure ⟨_, rfl, .ref h'.objs.size, upd H h'.objs.size (.lst (ys.map V.str)), I1.laid (t' := tk) (fun b u e => ?_) (Nat.le_refl _)
      (show ObjOk X.prog X.w _ _ _ (.lst (ys.map V.str)) from ⟨hlen, ((arrOf st').map (·.2)).toList, e', vals_of_strs g1, by rw [Array.toArray_toList]; exact he'⟩), rfl, ?_⟩
    · have hb : b < h'.objs.size := Heap.lt_size e
      rw [PyProof.Rows.sortedHeap_old (Nat.ne_of_lt hb) (by rw [size_push']; exact Nat.lt_succ_of_lt hb)]
      exact Heap.get?_push_of_some _ e
    · rw [eys]
      exact q _ _ hpp (List.pairwise_map.mpr (sorted_pw g3)) (I1.hok.fresh (Nat.le_refl _))
  · exact h.elim
end
end Pk

namespace Pk
open PySem PySem.Spec PyProof.Rows L2
section
variable {X : Cx} {k m : Nat} {ks : Kinds} {pe : Addr}
/-- _law_error_of(lambda: ..) -/
theorem pe_err3 {dn : Bool} {params : Arguments} {body : Expr} {scope : Scope} {t : XK → TE} {ta : TA} {p pos pos' : Pos} (C : Cal X.prog X.w X.K X.mg X.base CX0 m "_law_error_of" ["_law_call"] (sp_errof X.prog X.w X.mg X.base (k + 1) ks pe X.K)) (hr : Room m X.A) (hfn : ∀ x, X.fn x = true)
    (R : LamR X k dn params body scope t) (ha : PA X [.Lambda params body scope pos'] ta) (hg : Gl X "_law_error_of" := by rfl) (he : starEach [.Lambda params body scope pos'] X.env = (false, eval (.Lambda params body scope pos') X.env) :: starEach [] X.env := by rfl) (hpl : (backTo pos (starEach [] X.env)).any (·.1) = false := by rfl) :
    PE X (.Call (.Name "_law_error_of" p) [.Lambda params body scope pos'] [] pos) (fun σ H Q => ta σ H fun vs H1 => rErr X dn params body scope ks pe t σ vs H1 Q) :=
  pe_err2 C hr hfn R ha hg he hpl
end
end Pk

namespace Pk
open PySem PySem.Spec PyProof.Rows L2 PpSet
section
variable {P : Program} {w : World} {A : Around} {E : Value → Shared → Prop} {s : Shared} {a : Addr} {ks : List Key}
theorem setG_type (R : SetG w s.heap a ks) : s.TypeIs (.ref a) "set" := by
  obtain ⟨o, es, ep, t, ho, hex, _⟩ := R
  exact ⟨o, ho, hex.1⟩
/-- found.add(k) -/
theorem setG_addC {k : Key} {u : Value} {Q : Value → Shared → Prop} (hk : keyIs k u = true) (R : SetG w s.heap a ks) (room : ks.length + 1 < scanBound)
    (hQ : ∀ (h' : Heap), Heap.SameBut a s.heap h' → SetG w h' a (addK ks k) → Q .none { s with heap := h', toks := s.toks + 1 }) : wpAny (model P w) A (call (.builtin "set.add") [.ref a, u]) Q E s := by
  refine wpAny_call_entry F.slot_set_add (setG_type R) F.entry_set_add ?_ (F.args_set_add_2 _ _)
  unfold Builtin.«set.add» Builtin.Frozenset.oneOther
  simp only [List.isEmpty_nil, bind_assoc]
  unfold Builtin.Frozenset.addrOf setAdd
  refine wpAny_bind (wpAny_pure ?_)
  try dsimp only
  refine wpAny_bind (wpAny_pure ?_)
  try dsimp only
  refine wpAny_bind ?_
  refine wpAny_holding ?_
  refine wpAny_bind ((mixKind P w).pyHash (k := k) hk ?_)
  refine setG_add (s := { s with toks := s.toks + 1 }) hk R room fun b h' sb r => ?_
  show wpAny _ _ (ret Value.none) _ _ _
  exact wpAny_pure ⟨_, rfl, hQ h' sb r⟩
end
section
variable {X : Cx}
theorem addG_ok {pins : List (Addr × Obj)} {σ : L2.St} {H : Hp} {s : Shared} {E : Value → Shared → Prop} {D : Addr} {ks : List Key} {k : Key} {u : Value} {Q : Value → Shared → Prop} (I : Inv X pins σ H s) (hD : H D = some (SetX X.w D ks)) (room : ks.length + 1 < scanBound) (ru : RelV (kV k) u)
    (h : ∀ s', Inv X pins σ (upd H D (SetX X.w D (addK ks k))) s' → Q .none s') : wpAny (model X.prog X.w) X.A (call (.builtin "set.add") [.ref D, u]) Q E s := by
  refine setG_addC (kV_is (P := X.prog) (w := X.w) ru) (setX_get I hD) room fun h' sb new => ?_
  have he : ∃ u, h'.get? D = some u := by
    have ⟨o, _, _, _, ho, _⟩ := new
    exact ⟨o, ho⟩
  exact h _ (I.write (e := D) (t' := s.toks + 1) (by rw [hD]; trivial) (.inl rfl) (fun b u hb hu => (sb.2 b hb).trans hu) he (setX_ok new))
/-- {elt for target in iter if ..}, elt a number or a text: D the new set -/
def gSc (w : World) (wi : TI) (g : TG) (tt : TT) (te : TE) (vs : List Nat) : TE := fun σ H Q => wi σ H fun J H1 => ∀ D, H1 D = none → ∃ W : Nat → Nat → Hp → Prop, (∃ m, W 0 m (upd H1 D (SetX w D []))) ∧ ∀ i m H, W i m H →
  (J.stop i H ∧ Q (.ref D) H) ∨ (J.go i H ∧ ∃ Nx : Hp → Prop, (∀ H', Nx H' → ∃ m', m' < m ∧ W (i + 1) m' H') ∧ ∀ x H', J.yld i H x H' → g x (wipe σ vs) H' fun σ2 H2 => wipe σ2 vs = wipe σ vs ∧ tt σ2 H2 fun b H3 =>
    if b = true then te σ2 H3 fun y H4 => ∃ (k : Key) (ks : List Key), y = kV k ∧ H4 D = some (SetX w D ks) ∧ ks.length + 1 < scanBound ∧ Nx (upd H4 D (SetX w D (addK ks k))) else Nx H3)
theorem sc_coreG {pins : List (Addr × Obj)} {s : Shared} {σ : L2.St} {H : Hp} {Q : VK} {elt tg iter : Expr} {ifs : List Expr} {scope : Scope} {own : List (PySem.Str × Nat)} {pos pos' : Pos} {wi : TI} {g : TG} {tt : TT} {te : TE} {use : Option (Value → Sem Unit)} {Qf : Value → Shared → Prop}
    (hc : X.calm = true) (hN : X.N.Nodup) (I : Inv X pins σ H s) (hi : PI X tg iter wi) (ok : BlkOk X.N X.env.scope scope own)
    (hg : ∀ (s : Shared) (H : Hp) (C : Addr) (cl : List (PySem.Str × Addr)) (fp : List Addr), PG (X.blk s H scope (compEnvC scope cl C X.env) fp) tg g) (ht : ∀ (s : Shared) (H : Hp) (C : Addr) (cl : List (PySem.Str × Addr)) (fp : List Addr), PTs (X.blk s H scope (compEnvC scope cl C X.env) fp) ifs tt)
    (he : ∀ (s : Shared) (H : Hp) (C : Addr) (cl : List (PySem.Str × Addr)) (fp : List Addr), PE (X.blk s H scope (compEnvC scope cl C X.env) fp) elt te) (hs : ∀ x, foldedSetIterable iter X.env x = pure x)
    (h : gSc X.w wi g tt te (own.map (·.2)) σ H Q)
    (hRR : ∀ D C s' m H', Inv X pins σ H' s' → Q (.ref D) H' → s'.heap.Ns C m → FpOk X pins H' C → compPost (model X.prog X.w) X.A X.xe use Qf (.ref D) C (.ok .next) s') :
    wpAny (model X.prog X.w) X.A (comprehension (.SetComp elt [⟨tg, iter, ifs, 0⟩] scope pos) scope X.env pos' (newSet (.type "set")) false (eval iter X.env) use) Qf X.xe s := by
  have hfree : ∀ y ∈ scope.names, y.2 = .free → ∃ c, X.env.cells.lookup y.1 = some c := fun y hy e => by
    rcases ok.free y hy e with k | k
    · exact I.ok.has _ (.inl k)
    · exact I.ok.has _ (.inr k)
  refine wpAny_comprehension_free (use := use) rfl hs (closure_ok hfree) ok.kind (fun y hy e => by rw [ok.uniq y hy, e])
    (thn (hi.run pins s σ H _ I h) fun xv s1 hx => thn hx fun itv s2 h2 => ?_)
  obtain ⟨it, fp, tn, J, H2, e, I2, T, st2, f2, q⟩ := h2
  subst e
  refine newSet_ok (newEnv_comp ?_)
  generalize hD : s2.heap.objs.size = D
  have hDn : H2 D = none := I2.hok.fresh (Nat.le_of_eq hD)
  obtain ⟨W, ⟨m0, w0⟩, turn⟩ := q D hDn
  -- the new list
  generalize hs3 : ({ s2 with heap := s2.heap.push { cls := .type "set", dict := none, data := .set #[] 0 (.fresh 0 0 (!X.w.params.followText "set-order")) } } : Shared) = s3
  have I3 : Inv X pins σ (upd H2 D (SetX X.w D [])) s3 := by
    rw [← hs3]
    refine I2.laid (t' := s2.toks) (fun b o e => Heap.get?_push_of_some _ e) (Nat.le_of_eq hD) ?_
    rw [← hD]
    exact setX_ok (setG_new (Heap.get?_push_size _ rfl))
  have h3 : s3.heap = s2.heap.push { cls := .type "set", dict := none, data := .set #[] 0 (.fresh 0 0 (!X.w.params.followText "set-order")) } := by rw [← hs3]
  have sz : ∀ b ∈ fp, b < s2.heap.objs.size := fun b hb => by
    obtain ⟨o, e, _⟩ := T.obj _ _ st2 b hb
    exact Heap.lt_size e
  have f3 : ∀ b ∈ fp, FpOk X pins (upd H2 D (SetX X.w D [])) b ∧ b < s3.heap.objs.size := fun b hb => by
    have hlt := sz b hb
    refine ⟨⟨?_, (f2 b hb).2⟩, by rw [h3, Heap.size_push]; exact Nat.lt_succ_of_lt hlt⟩
    rw [upd_ne (by rw [← hD]; exact Nat.ne_of_lt hlt)]
    exact (f2 b hb).1
  have st3 : tn 0 s3.heap := T.keep _ _ _ st2 fun b _ o e => by rw [h3]; exact Heap.get?_push_of_some _ e
  have I4 := block_start I3 ok hN f3
  have pg := hg s3 (upd H2 D (SetX X.w D [])) s3.heap.objs.size (cellsFrom (s3.heap.objs.size + 1) scope.names (cloFrom X.env.cells scope.names [])) fp
  have pt := ht s3 (upd H2 D (SetX X.w D [])) s3.heap.objs.size (cellsFrom (s3.heap.objs.size + 1) scope.names (cloFrom X.env.cells scope.names [])) fp
  have pe := he s3 (upd H2 D (SetX X.w D [])) s3.heap.objs.size (cellsFrom (s3.heap.objs.size + 1) scope.names (cloFrom X.env.cells scope.names [])) fp
  show codeAny _ _ (.compStart (.SetComp elt [⟨tg, iter, ifs, 0⟩] scope pos) 0 (.ref it) (.ref D) (compEnvC scope (cellsFrom (s3.heap.objs.size + 1) scope.names (cloFrom X.env.cells scope.names [])) s3.heap.objs.size X.env)) (compPost (model X.prog X.w) X.A X.xe use Qf (.ref D) s3.heap.objs.size) { s3 with heap := pushCells (s3.heap.push { cls := .type "dict", data := .dict #[] }) scope.names }
  have nfp : ∀ b ∈ fp, (upd H2 D (SetX X.w D [])) b = none := fun b hb => (f3 b hb).1.1
  generalize hce : compEnvC scope (cellsFrom (s3.heap.objs.size + 1) scope.names (cloFrom X.env.cells scope.names [])) s3.heap.objs.size X.env = ce at I4 pg pt pe ⊢
  have cL : ce.locals = s3.heap.objs.size := by subst hce; rfl
  generalize hH3 : upd H2 D (SetX X.w D []) = H3 at I3 I4 pg pt pe w0 nfp f3
  generalize hs4 : ({ s3 with heap := pushCells (s3.heap.push { cls := .type "dict", data := .dict #[] }) scope.names } : Shared) = s4 at I4 ⊢
  have st4 : tn 0 s4.heap := T.keep _ _ _ st3 fun b _ o e => by rw [← hs4]; exact pushCells_keeps _ _ _ _ (Heap.get?_push_of_some _ e)
  have stat : ∀ {σ' : L2.St} {H' : Hp} {s' : Shared}, Inv (X.blk s3 H3 scope ce fp) [] σ' H' s' → (∀ b ∈ fp, H' b = none) → ∀ b ∈ fp, FpOk (X.blk s3 H3 scope ce fp) [] H' b := fun {σ' H' s'} I' hn b hb =>
    ⟨hn b hb, (I'.ok.exf b hb).1, I'.ok.exfs b hb, .inl hb, fun x c e => (I'.ok.exf b hb).2 x c e, fun p hp => absurd (show p ∈ ([] : List (Addr × Obj)) ++ [] from hp) (by simp)⟩
  have loop : codeAny (model X.prog X.w) X.A (.compLoop (.SetComp elt [⟨tg, iter, ifs, 0⟩] scope pos) 0 (.ref it) (.ref D) ce) (compPost (model X.prog X.w) X.A X.xe use Qf (.ref D) s3.heap.objs.size) s4 := by
    refine compLoopS_any (fun n s' => ∃ i H', Inv (X.blk s3 H3 scope ce fp) [] (wipe σ (own.map (·.2))) H' s' ∧ tn i s'.heap ∧ (∀ b ∈ fp, H' b = none) ∧ W i n H') ?_ m0 ⟨0, H3, I4, st4, nfp, w0⟩
    rintro n s5 ⟨i, H5, I5, st5, n5, w5⟩
    rcases turn i n H5 w5 with ⟨stop, qq⟩ | ⟨go, Nx, hNx, step⟩
    · have td := T.done (X.blk s3 H3 scope ce fp) rfl rfl rfl hc i [] s5 _ H5 (fun _ _ => False) I5 (stat I5 n5) st5 stop
      refine thnF td fun r s6 ⟨hr, I6⟩ => ?_
      subst hr
      -- back in the def's context
      have I7 : Inv X pins σ H5 s6 := I3.call' (ch := fp) I6.os I6.base I6.hok I6.bare fun b hb => ⟨(f3 b hb).1.2.2.2.1, (f3 b hb).1.2.1, (f3 b hb).1.2.2.2.2.1, (f3 b hb).1.2.2.2.2.2⟩
      have nC : H5 s3.heap.objs.size = none := by
        have z : H5 ce.locals = none := I6.free
        rw [cL] at z
        exact z
      obtain ⟨m, hn, _⟩ := I6.loc
      have hn : s6.heap.Ns ce.locals m := hn
      rw [cL] at hn
      exact hRR D s3.heap.objs.size s6 m H5 I7 qq hn (I3.fpOk (Nat.le_refl _) nC)
    · have ti := T.item (X.blk s3 H3 scope ce fp) rfl rfl rfl hc i [] s5 _ H5 (fun _ _ => False) I5 (stat I5 n5) st5 go
      refine thnF ti fun r s6 ⟨u, hr, h6⟩ => ?_
      subst hr
      refine thnF h6 fun _ s7 ⟨x, H7, I7, r7, y7, st7, n7⟩ => ?_
      have I7' := I7.pinned (stat I7 n7) (T.obj _ _ st7)
      refine thnF (pg.run _ s7 _ H7 x u _ I7' r7 (step x H7 y7)) fun _ s8 ⟨σ8, H8, I8, hw8, q8⟩ => ?_
      refine thnF (pt.run _ s8 σ8 H8 _ I8 q8) fun b s9 ⟨H9, I9, q9⟩ => ?_
      -- the turn's end
      have fin : ∀ {s' : Shared} {H' : Hp}, Inv (X.blk s3 H3 scope ce fp) ([] ++ pinsAt fp s7.heap) σ8 H' s' → Nx H' → ∃ m, m < n ∧ ∃ i H', Inv (X.blk s3 H3 scope ce fp) [] (wipe σ (own.map (·.2))) H' s' ∧ tn i s'.heap ∧ (∀ b ∈ fp, H' b = none) ∧ W i m H' := fun {s' H'} I' nx => by
        obtain ⟨m', hm, w'⟩ := hNx H' nx
        have pin' : ∀ b ∈ fp, ∀ o, s7.heap.get? b = some o → s'.heap.get? b = some o ∧ H' b = none := fun b hb o e =>
          let z := I'.pin (b, o) (List.mem_append_right _ (List.mem_append_right _ (mem_pinsAt hb e)))
          ⟨z.1, z.2.1⟩
        have hl : (wipe σ (own.map (·.2))).length = σ8.length := by rw [← hw8, wipe_length]
        refine ⟨m', hm, i + 1, H', (I'.unpinned (pins := [])).weak hl (fun j v e => ?_), T.keep _ _ _ st7 fun b hb o e => (pin' b hb o e).1, fun b hb => ?_, w'⟩
        · rw [← hw8] at e
          exact (wipe_some e).1
        · obtain ⟨o, e, _⟩ := T.obj _ _ st7 b hb
          exact (pin' b hb o e).2
      cases b with
      | false =>
        simp only [Bool.false_eq_true, if_false] at q9 ⊢
        exact fin I9 q9
      | true =>
        simp only [if_true] at q9 ⊢
        refine thnF (pe.run _ s9 σ8 H9 _ I9 q9) fun z s10 ⟨yv, H10, I10, r10, kk, ks0, ey, hD10, hz10, nx⟩ => ?_
        subst ey
        exact addG_ok (X := X.blk s3 H3 scope ce fp) I10 hD10 hz10 r10 fun s11 I11 => fin I11 nx
  exact codeAny_compStart_set loop (T.self X.A 0 _ _ _ st4 loop)
theorem pe_scG {w : World} {elt tg iter : Expr} {ifs : List Expr} {scope : Scope} {own : List (PySem.Str × Nat)} {pos : Pos} {wi : TI} {g : TG} {tt : TT} {te : TE} (hc : X.calm = true) (hN : X.N.Nodup) (hi : PI X tg iter wi) (ok : BlkOk X.N X.env.scope scope own)
    (hg : ∀ (s : Shared) (H : Hp) (C : Addr) (cl : List (PySem.Str × Addr)) (fp : List Addr), PG (X.blk s H scope (compEnvC scope cl C X.env) fp) tg g) (ht : ∀ (s : Shared) (H : Hp) (C : Addr) (cl : List (PySem.Str × Addr)) (fp : List Addr), PTs (X.blk s H scope (compEnvC scope cl C X.env) fp) ifs tt)
    (he : ∀ (s : Shared) (H : Hp) (C : Addr) (cl : List (PySem.Str × Addr)) (fp : List Addr), PE (X.blk s H scope (compEnvC scope cl C X.env) fp) elt te) (hs : ∀ x, foldedSetIterable iter X.env x = pure x := by intro _; rfl) (hw : X.w = w := by rfl) :
    PE X (.SetComp elt [⟨tg, iter, ifs, 0⟩] scope pos) (gSc w wi g tt te (own.map (·.2))) := by
  subst hw
  refine ⟨fun pins s σ H Q I h => ?_⟩
  rw [eval_SetComp]
  refine sc_coreG hc hN I hi ok hg ht he hs h fun D C s' m H' I' q hn f => ⟨m, hn, fun h'' sb => ?_⟩
  obtain ⟨f0, f1, f2, f3, f4, f5⟩ := f
  exact ⟨.ref D, H', I'.turned (t' := s'.toks) (fun b o hb e => (sb.2 b hb).trans e) f0 f1 f3 f4 f5, rfl, q⟩

/-- over a list that the block leaves as it is -/
theorem sc_list {w : World} {K : PySem.W.Frag} {a : Addr} {xs : List V} {g : TG} {tt : TT} {te : TE} {vs : List Nat} {σ : L2.St} {H1 : Hp} {D : Addr} {Qd : Hp → Prop} {J : It} {n : Nat} {G : Hp → Prop} {Y : Nat → Hp → V → Hp → Prop} (wk : Walk J n G Y) (Pv : Nat → Hp → Prop) (h0 : Pv 0 (upd H1 D (SetX w D []))) (hl : ∀ i H, i ≤ n → Pv i H → G H)
    (hs : ∀ i x H H', i < n → Pv i H → Y i H x H' → g x (wipe σ vs) H' fun σ2 H2 => wipe σ2 vs = wipe σ vs ∧ tt σ2 H2 fun b H3 =>
      if b = true then te σ2 H3 fun y H4 => ∃ (k : Key) (ks : List Key), y = kV k ∧ H4 D = some (SetX w D ks) ∧ ks.length + 1 < scanBound ∧ Pv (i + 1) (upd H4 D (SetX w D (addK ks k))) else Pv (i + 1) H3) (hd : ∀ H, Pv n H → Qd H) :
    ∃ W : Nat → Nat → Hp → Prop, (∃ m, W 0 m (upd H1 D (SetX w D []))) ∧ ∀ i m H, W i m H →
      (J.stop i H ∧ Qd H) ∨ (J.go i H ∧ ∃ Nx : Hp → Prop, (∀ H', Nx H' → ∃ m', m' < m ∧ W (i + 1) m' H') ∧ ∀ x H', J.yld i H x H' → g x (wipe σ vs) H' fun σ2 H2 => wipe σ2 vs = wipe σ vs ∧ tt σ2 H2 fun b H3 =>
        if b = true then te σ2 H3 fun y H4 => ∃ (k : Key) (ks : List Key), y = kV k ∧ H4 D = some (SetX w D ks) ∧ ks.length + 1 < scanBound ∧ Nx (upd H4 D (SetX w D (addK ks k))) else Nx H3) := by
  refine ⟨fun i m H => m = n - i ∧ i ≤ n ∧ Pv i H, ⟨n, by simp, Nat.zero_le _, h0⟩, ?_⟩
  rintro i m H ⟨rfl, hi, p⟩
  have q := hl i H hi p
  by_cases hlt : i < n
  · exact .inr ⟨wk.goes i H hlt q, Pv (i + 1), fun H' p' => ⟨n - (i + 1), by omega, rfl, hlt, p'⟩, fun x H' y => hs i x H H' hlt p (wk.yields i H x H' hlt q y)⟩
  · have e : i = n := by omega
    subst e
    exact .inl ⟨wk.stops H q, hd H p⟩
end
end Pk

namespace Pk
open PySem PySem.Spec PyProof.Rows L2
section
variable {X : Cx} {K : PySem.W.Frag} {pos : Pos}
/-- sorted(a text) -/
def gSortedT : RC := fun vs H Q => match vs with
  | [.str x] => (tl x).length ≤ 1000000 ∧ ∀ (us : List (List Nat)) (q : Addr), us.Perm ((tl x).map fun c => [c]) → us.Pairwise (fun a b => ¬ b < a) → H q = none → Q (.ref q) (upd H q (.lst (us.map txV)))
  | _ => False
theorem cr_sortedT (hcalm : X.calm = true) : CallR X (.builtin "sorted") gSortedT := by
  intro pins s σ H xs us Q I r h
  unfold gSortedT at h
  split at h
  · rename_i x
    obtain ⟨hl6, q⟩ := h
    obtain ⟨u, rfl, tk0, rfl⟩ := vals1 r
    obtain ⟨ts, hts⟩ : ∃ ts : List (List Nat), ts = (tl x).map fun c => [c] := ⟨_, rfl⟩
    rw [← hts] at q
    obtain ⟨ks, hkl⟩ : ∃ ks : List Str, ks = ts.map S := ⟨ts.map S, rfl⟩
    have hx : x.cps.size = ks.length := by rw [hkl, hts, List.length_map, List.length_map]; exact Array.length_toList.symm
    have h6 : ks.length ≤ 1000000 := by rw [hkl, hts, List.length_map, List.length_map]; exact hl6
    have hsz : ks.length ≤ sizeLine := Nat.le_trans h6 line6
    refine Calls.call_function_entry PyProof.Rows.kind_sorted PyProof.Rows.plain_sorted PyProof.Rows.entry_sorted (PyProof.Rows.args_sorted1 _) ?_
    unfold Builtin.«sorted»
    refine wpAny_bind (m := checkCount "sorted" 1 1 _) (wpAny_pure ?_)
    refine wpAny_bind (wpAny_collect_str (A := X.A.in1) (I.ok.hd hcalm) x tk0 (fun s' acc hk hg hdr ho hacc => ?_) (by rw [hx]; exact hsz))
    obtain ⟨h', tk, rfl⟩ : ∃ h' tk, s' = { s with heap := h', toks := tk } := ⟨s'.heap, s'.toks, by cases s'; cases s; cases hg; cases hdr; cases ho; rfl⟩
    have hal : acc.toList.length = ks.length := by rw [Array.length_toList, hacc.1, hx]
    have hS : StrsAre acc.toList ks := strs_at hal fun j v e => by
      obtain ⟨c, t, e1, e2⟩ := hacc.2 j v (by rw [← Array.getElem?_toList]; exact e)
      refine ⟨⟨#[c]⟩, t, ?_, e2⟩
      rw [hkl, hts, List.getElem?_map, List.getElem?_map]
      have e3 : (tl x)[j]? = some c := by rw [← e1]; exact Array.getElem?_toList
      rw [e3]
      rfl
    have I1 : Inv X pins σ H { s with heap := h', toks := tk } := I.kept hk
    refine wpAny_bind (wpAny_newList ?_ (by rw [hal]; exact hsz))
    have hoL : (h'.push (seqObj "list" acc.toList.toArray 0)).get? h'.objs.size = some (seqObj "list" acc.toList.toArray 0) := Heap.get?_push_size _ rfl
    show wpAny _ _ _ _ _ { s with heap := h'.push (seqObj "list" acc.toList.toArray 0), toks := tk }
    refine wpAny_bind (wpAny_holding (wpAny_call_entry PyProof.Rows.slot_list_sort ⟨_, hoL, rfl⟩ PyProof.Rows.entry_list_sort
      (list_sort_treeKAny strKind_oneLt (s := { s with heap := h'.push (seqObj "list" acc.toList.toArray 0), toks := tk }) hoL hS.keysOf (fun v₁ v₂ rest e => keyKind_strs (by rw [← e]; exact hS)) (by rw [hal]; exact hsz) fun st' hp hs => ⟨_, rfl, ?_⟩)
      (PyProof.Rows.args_list_sort _)))
    obtain ⟨ys, g1, g2, g3⟩ := sorted_out_str hS hp hs
    obtain ⟨e', he'⟩ := PyProof.Rows.sortedHeap_at (vs := acc.toList) (out := (arrOf st').map (·.2)) hoL
    have hlen : (ys.map V.str).length ≤ sizeLine := by
      rw [List.length_map, g2.length_eq]
      exact hsz
    have eys : ys.map V.str = (ys.map tl).map txV := by
      rw [← map_S_tl ys]
      simp
    have hpp : (ys.map tl).Perm ts := by
      have := g2.map tl
      rw [hkl, List.map_map] at this
      have e : ts.map (tl ∘ S) = ts := by
        conv => rhs; rw [← List.map_id ts]
        exact List.map_congr_left fun y _ => rfl
      rw [e] at this
      exact this
    refine wpAny_pure ⟨_, rfl, .ref h'.objs.size, upd H h'.objs.size (.lst (ys.map V.str)), I1.laid (t' := tk) (fun b u e => ?_) (Nat.le_refl _)
      (show ObjOk X.prog X.w _ _ _ (.lst (ys.map V.str)) from ⟨hlen, ((arrOf st').map (·.2)).toList, e', vals_of_strs g1, by rw [Array.toArray_toList]; exact he'⟩), rfl, ?_⟩
    · have hb : b < h'.objs.size := Heap.lt_size e
      rw [PyProof.Rows.sortedHeap_old (Nat.ne_of_lt hb) (by rw [size_push']; exact Nat.lt_succ_of_lt hb)]
      exact Heap.get?_push_of_some _ e
    · rw [eys]
      exact q _ _ hpp (List.pairwise_map.mpr (sorted_pw g3)) (I1.hok.fresh (Nat.le_refl _))
  · exact h.elim
end
end Pk

namespace Pk
open PySem PySem.Spec PyProof.Rows L2
/-- a method with n parameters (the object among them) and one that is told by its name alone -/
structure MCalK (P : Program) (w : World) (K : PySem.W.Frag) (mg : Str → Option Value) (base : Heap) (CX : CXT) (k : Nat) (C : Addr) (m : Str) (n : Nat) (ps : List Str) (y : Str) (sp : Sp) : Prop where
  cl : Cls K C
  ex : ∃ f fd, Meth K C m f ∧ (∀ (s : Shared) (us : List Value) (d : Value), us.length = n → BindsTo s fd ⟨us, [(y, d)]⟩ (ps.zip (us ++ [d]))) ∧ ps.length = n + 1 ∧ FnOk P w K mg base CX k f fd ps sp
section
variable {X : Cx} {CX : CXT} {k n : Nat} {C : Addr} {m y : Str} {ps : List Str} {sp : Sp} {E : XK} {o e : Expr} {es : List Expr} {kws : List Keyword} {ta : TE} {t tk : TA} {p apos pos : Pos}
def gMethK (C : Addr) (m : Str) (sp : Sp) (n : Nat) (E : XK) (ta : TE) (t tk : TA) : TE := fun σ H Q => ta σ H fun x H1 => match x with
  | .ref a => ∃ dx fs, H1 a = some (.ins C dx fs) ∧ fs.lookup m = none ∧ t σ H1 fun vs H2 => tk σ H2 fun zs H3 => sp (gK n (.ref a :: vs) zs) H3 Q E
  | _ => False
theorem pe_mcalK {pl : Sem Bool} (he : PE X o ta) (M : MCalK X.prog X.w X.K X.mg X.base CX k C m n ps y sp) (hr : Room k X.A) (hx : Passes CX X E) (ha : PA X (e :: es) t) (hkw : PK X kws tk)
    (hall : (backToKw pos (keywordEach kws X.env)).all (·.1.isSome) = true := by rfl) (hks : (backToKw pos (keywordEach kws X.env)).filterMap (·.1) = [y] := by rfl)
    (hst : starEach (e :: es) X.env = (false, eval e X.env) :: starEach es X.env := by rfl)
    (hpl : ((backTo pos (starEach (e :: es) X.env)).any (·.1) || (backToKw pos (keywordEach kws X.env)).any (·.1.isNone)) = false := by rfl)
    (ht : eval (.Call (.Attribute o m apos) (e :: es) kws pos) X.env = (do
      let ov ← eval o X.env
      standAt apos.atName
      let (f, first) ← holding [ov] (getMethod ov m pl)
      callWith pos f first (backTo pos (starEach (e :: es) X.env)) (backToKw pos (keywordEach kws X.env))) := by rfl) :
    PE X (.Call (.Attribute o m apos) (e :: es) kws pos) (gMethK C m sp n E ta t tk) := by
  obtain ⟨f, fd, h1, hb, hn, F⟩ := M.ex
  refine ⟨fun pins s σ H Q I h => ?_⟩
  refine PySem.W.methodCall_KW (pl := pl) (thn (he.run pins s σ H _ I h) fun u s1 ⟨x, H1, I1, rx, q1⟩ => ?_) ht
  cases x with
  | ref a =>
    obtain ⟨dx, fs, ea, l, q⟩ := q1
    obtain rfl : u = Value.ref a := rx
    refine getmeth_ok I1 ea M.cl h1 l ?_
    refine PySem.W.callWith_KW (first := [.ref a]) (h₀ := X.base) I.ok.mod.kin h1.kp hall (thn (ha.run pos pins s1 σ H1 _ I1 q) fun us s2 ⟨vs, H2, I2, r, q2⟩ => ?_) hpl hst
    refine thn (hkw.run pos pins s2 σ H2 _ I2 q2) fun ws s3 ⟨zs, H3, I3, rz, q3⟩ => ⟨I3.kIn, ?_⟩
    rw [hks]
    refine run_fnk (us := .ref a :: us) (vs := .ref a :: vs) F hr (g := gK n) (gV := gK n) ⟨fun s us ws _ hl => ?_, fun r1 r2 => gK_rel n r1 r2⟩ hx I3 (.cons rfl r) rz q3
    rw [hn] at hl
    obtain ⟨h1, d, rfl⟩ := gK_inv n us ws hl
    have := hb s us d h1
    subst h1
    rw [gK_app]
    exact this
  | _ => exact q1.elim
end
end Pk

namespace Pk
open PySem PySem.Spec PyProof.Rows L2
/-! dict(zip(a text, a tuple)) -/
def ZOK (b0 t : Addr) (x : Str) (tk : Tok) (its : Array Value) (h : Heap) : Prop := IsZip h (b0 + 4) (b0 + 2) (b0 + 3) .none ∧ IsTupOf2 h (b0 + 2) (.ref b0) (.ref (b0 + 1)) ∧ IsTupOf2 h (b0 + 3) .none .none ∧ h.IsStrIter b0 (strIterType x) x tk 0 ∧ h.IsTupleIter (b0 + 1) t 0 ∧ h.IsTuple t its
abbrev zfp (b0 t : Addr) : List Addr := [b0 + 4, b0 + 2, b0 + 3, b0, b0 + 1, t]
abbrev zwr (b0 : Addr) : List Addr := [b0 + 4, b0 + 3, b0, b0 + 1]
def ZRel (x : Str) (its : Array Value) (i : Nat) (k v : Value) : Prop := (∃ c u, x.cps[i]? = some c ∧ k = .str ⟨#[c]⟩ u) ∧ its[i]? = some v
/-- the state after i draws; d is the dict -/
def ZSt (b0 t d : Addr) (x : Str) (tk : Tok) (its : Array Value) (i : Nat) (h : Heap) : Prop :=
  (IsZip h (b0 + 4) (b0 + 2) (b0 + 3) .none ∨ ∃ T f oT, ZipF h (b0 + 4) (b0 + 2) (b0 + 3) T f ∧ T ≠ d ∧ T ∉ zwr b0 ∧ h.get? T = some oT) ∧ IsTupOf2 h (b0 + 2) (.ref b0) (.ref (b0 + 1)) ∧ (∃ a1 a2, IsTupOf2 h (b0 + 3) a1 a2) ∧ h.IsStrIter b0 (strIterType x) x tk i ∧ (h.IsTupleIter (b0 + 1) t i ∧ h.IsTuple t its)
theorem zsepT {b0 t : Addr} (ht : ∀ b, b0 ≤ b → t ≠ b) : ZipSep2 (b0 + 4) (b0 + 2) (b0 + 3) b0 (b0 + 1) [b0] [b0 + 1, t] := by
  have h := zsep (S1 := .txt ⟨#[]⟩) (S2 := .tup t []) (b0 := b0) (fun _ _ => trivial) ht
  exact h
theorem zsrc {prog : Program} {w : World} {A : Around} (hh : A.handled = none) {b0 t d : Addr} {x : Str} {tk : Tok} {its : Array Value} (ht : ∀ b, b0 ≤ b → t ≠ b) (hd : d ∉ zfp b0 t) :
    PairSrc prog w A (b0 + 4) d (zwr b0) (min x.cps.size its.size) (ZRel x its) (ZSt b0 t d x tk its) := by
  have sep := zsepT ht
  have D1 : Draws prog w A.in1 b0 [b0] x.cps.size _ _ := Draws.text (prog := prog) (w := w) (A := A.in1) hh b0 x tk
  have D2 : Draws prog w A.in1 (b0 + 1) [b0 + 1, t] its.size _ _ := Draws.tuple (prog := prog) (w := w) (A := A.in1) hh (b0 + 1) t (ht _ (Nat.le_add_right _ _)) its
  have dz : ∀ b ∈ zfp b0 t, b ≠ d := fun b hb z => hd (z ▸ hb)
  have tw : t ∉ zwr b0 := fun z => by
    have e' : t = b0 + 4 ∨ t = b0 + 3 ∨ t = b0 ∨ t = b0 + 1 := by simpa using z
    rcases e' with z | z | z | z
    all_goals first | exact ht _ (Nat.le_add_right _ _) z | exact ht _ (Nat.le_refl _) z
  have w2 : b0 + 2 ∉ zwr b0 := fun z => by
    have e' : b0 + 2 = b0 + 4 ∨ b0 + 2 = b0 + 3 ∨ b0 + 2 = b0 ∨ b0 + 2 = b0 + 1 := by simpa [zwr] using z
    rcases e' with z | z | z | z
    · exact sep.TIz z
    · exact sep.TITO z
    · exact sep.TIi1 z
    · exact sep.TIi2 z
  refine ⟨fun z => hd ?_, fun i h h' st k => ?_, fun i s Q E hi st hds hQ => ?_, fun s Q E st hQ => ?_⟩
  · have e' : d = b0 + 4 ∨ d = b0 + 3 ∨ d = b0 ∨ d = b0 + 1 := by simpa using z
    rcases e' with z | z | z | z <;> simp [z]
  · obtain ⟨hz, hTI, ⟨a1, a2, hTO⟩, s1, s2, s3⟩ := st
    refine ⟨?_, k _ _ (dz _ (by simp)) hTI, ⟨a1, a2, k _ _ (dz _ (by simp)) hTO⟩, ?_, ?_, ?_⟩
    · rcases hz with hz | ⟨T, f, oT, hz, h1, h2, h3⟩
      · exact .inl (k _ _ (dz _ (by simp)) hz)
      · exact .inr ⟨T, f, oT, k _ _ (dz _ (by simp)) hz, h1, h2, k _ _ h1 h3⟩
    · obtain ⟨o, ho, r⟩ := s1
      exact ⟨o, k _ _ (dz _ (by simp)) ho, r⟩
    · obtain ⟨o, ho, r⟩ := s2
      exact ⟨o, k _ _ (dz _ (by simp)) ho, r⟩
    · obtain ⟨o, ho, r⟩ := s3
      exact ⟨o, k _ _ (dz _ (by simp)) ho, r⟩
  · obtain ⟨hz, hTI, ⟨a1, a2, hTO⟩, s1, s2, s3⟩ := st
    have hi1 : i < x.cps.size := Nat.lt_of_lt_of_le hi (Nat.min_le_left _ _)
    have hi2 : i < its.size := Nat.lt_of_lt_of_le hi (Nat.min_le_right _ _)
    have fresh : ∀ {b o}, s.heap.get? b = some o → s.heap.objs.size ≠ b := fun {b o} e => Nat.ne_of_gt (Heap.lt_size e)
    have ndT : s.heap.objs.size ≠ d := Nat.ne_of_gt hds
    have nw : s.heap.objs.size ∉ zwr b0 := fun z => by
      have e' : s.heap.objs.size = b0 + 4 ∨ s.heap.objs.size = b0 + 3 ∨ s.heap.objs.size = b0 ∨ s.heap.objs.size = b0 + 1 := by simpa using z
      obtain ⟨o1, ho1, _⟩ := s1
      obtain ⟨o2, ho2, _⟩ := s2
      rcases e' with z | z | z | z
      · rcases hz with hz | ⟨_, _, _, hz, _⟩
        · exact fresh hz z
        · exact fresh hz z
      · exact fresh hTO z
      · exact fresh ho1 z
      · exact fresh ho2 z
    have m1 : b0 + 4 ∈ zwr b0 := by simp
    have m2 : b0 + 3 ∈ zwr b0 := by simp
    have m3 : b0 ∈ zwr b0 := by simp
    have m4 : b0 + 1 ∈ zwr b0 := by simp
    rcases hz with hz | ⟨T, f, oT, hz, h1, h2, h3⟩
    · refine wpAny_pyNext_zipD2_item sep D1 D2 hz hTI hTO s1 ⟨s2, s3⟩ hi1 hi2 fun x1 x2 h' tk p1 p2 b1 b2 d1 d2 b5 b6 hk => ?_
      refine hQ _ x1 x2 h' tk ⟨p1, p2⟩ (.inl ⟨_, b5, rfl, 0, rfl⟩) ⟨.inr ⟨_, false, _, b1, ndT, nw, b5⟩, hk _ _ sep.TIz sep.TITO sep.TIi1 sep.TIi2 hTI, ⟨_, _, b2⟩, d1, d2⟩ ?_
      exact fun c o hc e => hk c o (fun q => hc (q ▸ m1)) (fun q => hc (q ▸ m2)) (fun q => hc (q ▸ m3)) (fun q => hc (q ▸ m4)) e
    · refine pyNext_zip2_out_item sep D1 D2 hz h3 hTI s1 ⟨s2, s3⟩ hi1 hi2 fun x1 x2 h' tk p1 p2 b1 d1 d2 b5 hk => ?_
      refine hQ _ x1 x2 h' tk ⟨p1, p2⟩ (.inl ⟨_, b5, rfl, 0, rfl⟩) ⟨.inr ⟨T, true, oT, b1, h1, h2, hk _ _ (fun q => h2 (q ▸ m1)) (fun q => h2 (q ▸ m3)) (fun q => h2 (q ▸ m4)) h3⟩, hk _ _ sep.TIz sep.TIi1 sep.TIi2 hTI, ⟨_, _, hk _ _ sep.TOz (fun q => sep.Tf1 (by rw [q]; simp)) (fun q => sep.Tf2 (by rw [q]; simp)) hTO⟩, d1, d2⟩ ?_
      exact fun c o hc e => hk c o (fun q => hc (q ▸ m1)) (fun q => hc (q ▸ m3)) (fun q => hc (q ▸ m4)) e
  · obtain ⟨hz, hTI, ⟨a1, a2, hTO⟩, s1, s2, s3⟩ := st
    have hle1 : min x.cps.size its.size ≤ x.cps.size := Nat.min_le_left _ _
    have hle2 : min x.cps.size its.size ≤ its.size := Nat.min_le_right _ _
    have hend : min x.cps.size its.size = x.cps.size ∨ min x.cps.size its.size = its.size := by omega
    have m1 : b0 + 4 ∈ zwr b0 := by simp
    have m2 : b0 + 3 ∈ zwr b0 := by simp
    have m3 : b0 ∈ zwr b0 := by simp
    have m4 : b0 + 1 ∈ zwr b0 := by simp
    rcases hz with hz | ⟨T, f, oT, hz, h1, h2, h3⟩
    · exact wpAny_pyNext_zipD2_end sep D1 D2 hz hTI hTO s1 ⟨s2, s3⟩ hle1 hle2 hend fun h' tk hk => hQ h' tk fun c o hc e => hk c o (fun q => hc (q ▸ m1)) (fun q => hc (q ▸ m2)) (fun q => hc (q ▸ m3)) (fun q => hc (q ▸ m4)) e
    · exact pyNext_zip2_out_end sep D1 D2 hz h3 hTI s1 ⟨s2, s3⟩ hle1 hle2 hend fun h' tk hk => hQ h' tk fun c o hc e => hk c o (fun q => hc (q ▸ m1)) (fun q => hc (q ▸ m3)) (fun q => hc (q ▸ m4)) e
theorem zarg {prog : Program} {w : World} {b0 t : Addr} {x : Str} {tk : Tok} {its : Array Value} (ht : ∀ b, b0 ≤ b → t ≠ b) :
    PairArg prog w "zip" (b0 + 4) (zfp b0 t) (zwr b0) (min x.cps.size its.size) (ZRel x its) (ZOK b0 t x tk its) := by
  refine ⟨fun s ok => ⟨_, ok.1, rfl⟩, by decide, fun h h' ok k => ?_, fun h ok b hb => ?_, fun b hb => ?_, fun A s Q E hh ok hQ => ?_, fun A s d Q E hh ok hd hdf hQ => ?_⟩
  · obtain ⟨hz, hTI, hTO, ⟨o1, h1, r1⟩, ⟨o2, h2, r2⟩, ⟨o3, h3, r3⟩⟩ := ok
    exact ⟨k _ _ hz, k _ _ hTI, k _ _ hTO, ⟨o1, k _ _ h1, r1⟩, ⟨o2, k _ _ h2, r2⟩, ⟨o3, k _ _ h3, r3⟩⟩
  · obtain ⟨hz, hTI, hTO, ⟨o1, h1, r1⟩, ⟨o2, h2, r2⟩, ⟨o3, h3, r3⟩⟩ := ok
    have e' : b = b0 + 4 ∨ b = b0 + 2 ∨ b = b0 + 3 ∨ b = b0 ∨ b = b0 + 1 ∨ b = t := by simpa using hb
    rcases e' with z | z | z | z | z | z
    · rw [z]; exact ⟨_, hz⟩
    · rw [z]; exact ⟨_, hTI⟩
    · rw [z]; exact ⟨_, hTO⟩
    · rw [z]; exact ⟨_, h1⟩
    · rw [z]; exact ⟨_, h2⟩
    · rw [z]; exact ⟨_, h3⟩
  · have e' : b = b0 + 4 ∨ b = b0 + 3 ∨ b = b0 ∨ b = b0 + 1 := by simpa using hb
    rcases e' with z | z | z | z <;> simp [z]
  · exact getAttrOr_miss_zip ok.1 rfl rfl rfl zip_no_keys (by decide) hh hQ
  · obtain ⟨hz, hTI, hTO, s1, s2, s3⟩ := ok
    exact wpAny_pyIter_zip hz (hQ (b0 + 4) (zwr b0) (ZSt b0 t d x tk its) s.heap s.toks (zsrc hh ht hdf) ⟨.inl hz, hTI, ⟨_, _, hTO⟩, s1, s2, s3⟩ (fun _ _ e => e) (fun b hb => .inl hb))
def zipK (l : List Nat) (xs : List V) : List (Key × V) := (l.map fun c => txK [c]).zip xs
section
variable {X : Cx}
def gDictZip (K : PySem.W.Frag) (ta : TA) : TE := fun σ H Q => ta σ H fun vs H1 => ∃ (x : Str) (t : Addr) (xs : List V), vs = [.str x, .ref t] ∧ SqT K H1 t xs ∧ xs.length ≤ 1000 ∧ ∀ p, H1 p = none → Q (.ref p) (upd H1 p (.dK (mergeK [] (zipK (tl x) xs))))
theorem pe_dictZip0 {e e2 : Expr} {ta : TA} {p pos p2 pos2 : Pos} (hl : X.mg "dict" = none) (hm : X.mg "zip" = none) (ha : PA X [e, e2] ta) (hc : X.calm = true) (hgl : Gl X "dict" := by rfl) (hg : Gl X "zip" := by rfl)
    (hs1 : starEach [.Call (.Name "zip" p) [e, e2] [] pos] X.env = (false, eval (.Call (.Name "zip" p) [e, e2] [] pos) X.env) :: starEach [] X.env := by rfl)
    (hs : starEach [e, e2] X.env = (false, eval e X.env) :: starEach [e2] X.env := by rfl) (hpl : (backTo pos (starEach [e2] X.env)).any (·.1) = false := by rfl) :
    PE X (.Call (.Name "dict" p2) [.Call (.Name "zip" p) [e, e2] [] pos] [] pos2) (gDictZip X.K ta) := by
  refine ⟨fun pins s σ H Q I h => ?_⟩
  refine wpAny_Call_Name_kw (ld_blt I hgl hl bt_dict ?_ (by decide) (by decide))
  refine PyProof.Rows.callWith_type1 ?_ hs1 rfl
  rw [hs1]
  show wpAny _ _ (spliced ((false, eval (.Call (.Name "zip" p) [e, e2] [] pos) X.env) :: backTo pos2 (starEach [] X.env))) _ _ s
  refine Calls.spliced_cons ?_
  refine wpAny_Call_Name_kw (ld_blt I hg hm PyProof.Rows.boot_zip ?_ (by decide) (by decide))
  refine PyProof.Rows.callWith_type1 (thn (ha.run pos pins s σ H _ I h) fun us s1 ⟨vs, H1, I1, r1, q1⟩ => ?_) hs hpl
  obtain ⟨x, t, xs, rfl, k2, hlen, q⟩ := q1
  cases r1 with
  | cons r1 rr =>
  cases rr with
  | cons r2 rr =>
  cases rr
  cases r2
  obtain ⟨tk, rfl⟩ := r1
  obtain ⟨its, rv, htI, hz⟩ := I1.tuple k2
  have off : ∀ b, s1.heap.objs.size ≤ b → t ≠ b := fun b hb z => by
    obtain ⟨o, ho, _⟩ := htI
    exact absurd (Heap.lt_size ho) (by rw [z]; exact Nat.not_lt.mpr hb)
  refine zip_begins2 (begins_text x tk) (begins_tuple t its.toArray) trivial htI fun h' hz hTI hTO h1 h2 hsz hk => ?_
  have I2 : Inv X pins σ H1 { s1 with heap := h' } := I1.kept (t' := s1.toks) hk
  have hf : ∀ b ∈ zwr s1.heap.objs.size, FpOk X pins H1 b := fun c hcm => by
    have e' : c = s1.heap.objs.size + 4 ∨ c = s1.heap.objs.size + 3 ∨ c = s1.heap.objs.size ∨ c = s1.heap.objs.size + 1 := by simpa using hcm
    have hle : s1.heap.objs.size ≤ c := by
      rcases e' with z | z | z | z
      all_goals first | (rw [z]; exact Nat.le_add_right _ _) | (rw [z]; exact Nat.le_refl _)
    exact I1.fpOk hle (I1.hok.fresh hle)
  refine Calls.spliced_nil ?_
  have htI' : h'.IsTuple t its.toArray := by
    obtain ⟨o, ho, r⟩ := htI
    exact ⟨o, hk _ _ ho, r⟩
  have hxl : its.length = xs.length := rv.length.symm
  -- the pairs
  have hprs : ∃ prs : List (Key × Value), KV (zipK (tl x) xs) prs ∧ prs.length = min x.cps.size its.toArray.size ∧ ∀ i k v, ZRel x its.toArray i k v → ∃ kk, prs[i]? = some (kk, v) ∧ keyIs kk k = true := by
    refine ⟨((tl x).map fun c => txK [c]).zip its, ?_, ?_, ?_⟩
    · have : ∀ (ks : List Key) (xs : List V) (us : List Value), Vals xs us → KV (ks.zip xs) (ks.zip us) := by
        intro ks
        induction ks with
        | nil => intro xs us _; exact .nil
        | cons k r ih =>
          intro xs us h
          cases h with
          | nil => exact .nil
          | cons h1 h2 => exact .cons ⟨rfl, h1⟩ (ih _ _ h2)
      exact this _ _ _ rv
    · rw [List.length_zip, List.length_map, List.size_toArray]
      rfl
    · rintro i k v ⟨⟨c, u, hx, rfl⟩, hv⟩
      have hx' : (tl x)[i]? = some c := by simpa using hx
      have hv' : its[i]? = some v := by simpa using hv
      refine ⟨txK [c], ?_, ?_⟩
      · rw [List.getElem?_zip_eq_some]
        exact ⟨by rw [List.getElem?_map, hx']; rfl, hv'⟩
      · show Value.isStrOf (S [c]) (.str ⟨#[c]⟩ u) = true
        simp [Value.isStrOf, S]
  obtain ⟨prs, hKV, hpl2, hrel⟩ := hprs
  refine call_dict_pairs (knd := mixKind X.prog X.w) (kvs := prs) (zarg (x := x) (tk := tk) (its := its.toArray) off) (I1.ok.hd hc) ⟨hz, hTI, hTO, ⟨_, h1, rfl, rfl⟩, ⟨_, h2, rfl, rfl⟩, htI'⟩ ⟨hpl2, hrel⟩ ?_ fun h2' tk2 hd' hk2 => ?_
  · refine Nat.le_trans (Nat.min_le_right _ _) ?_
    rw [List.size_toArray, hxl]
    exact Nat.le_of_lt (small1000 (by omega))
  have hf2 : ∀ b ∈ zwr s1.heap.objs.size, FpOk X pins H1 b := hf
  have hbig := I2.big
  have hm2 : ((h'.objs.size : Addr) == sysModules) = false := beq_eq_false_iff_ne.mpr (Nat.ne_of_gt hbig)
  have hlm : (mergeK [] (zipK (tl x) xs)).length ≤ sizeLine := by
    refine Nat.le_trans (length_mergeK _ _) ?_
    have : (zipK (tl x) xs).length ≤ xs.length := by unfold zipK; rw [List.length_zip]; exact Nat.min_le_right _ _
    show 0 + _ ≤ _
    exact Nat.le_of_lt (small1000 (by omega))
  refine ⟨.ref h'.objs.size, _, I2.turnedNew (ch := zwr s1.heap.objs.size) (h' := h2') (t' := tk2) (T := h'.objs.size) (ob := .dK (mergeK [] (zipK (tl x) xs))) hk2 hf2 (Nat.le_refl _) ⟨hlm, hm2, merged [] prs, hKV.merge .nil, hd'⟩, rfl, q _ (I2.hok.fresh (Nat.le_refl _))⟩
theorem pe_dictZip {K : PySem.W.Frag} {e e2 : Expr} {ta : TA} {p pos p2 pos2 : Pos} (hl : X.mg "dict" = none) (hm : X.mg "zip" = none) (ha : PA X [e, e2] ta) (hK : X.K = K := by rfl) (hc : X.calm = true := by rfl) (hgl : Gl X "dict" := by rfl) (hg : Gl X "zip" := by rfl)
    (hs1 : starEach [.Call (.Name "zip" p) [e, e2] [] pos] X.env = (false, eval (.Call (.Name "zip" p) [e, e2] [] pos) X.env) :: starEach [] X.env := by rfl)
    (hs : starEach [e, e2] X.env = (false, eval e X.env) :: starEach [e2] X.env := by rfl) (hpl : (backTo pos (starEach [e2] X.env)).any (·.1) = false := by rfl) :
    PE X (.Call (.Name "dict" p2) [.Call (.Name "zip" p) [e, e2] [] pos] [] pos2) (gDictZip K ta) := hK ▸ pe_dictZip0 hl hm ha hc hgl hg hs1 hs hpl
end
end Pk

namespace Pk
open PySem PySem.Spec PyProof.Rows L2
/-- the class x, made by its __init__ of n parameters (the object among them) and one that is told by its name alone -/
structure KCalK (P : Program) (w : World) (K : PySem.W.Frag) (mg : Str → Option Value) (base : Heap) (CX : CXT) (k : Nat) (x : Str) (C : Addr) (n : Nat) (ps : List Str) (y : Str) (sp : Sp) : Prop where
  ex : ∃ f fd, Mk K C f ∧ mg x = some (.ref C) ∧ (∀ (s : Shared) (us : List Value) (d : Value), us.length = n → BindsTo s fd ⟨us, [(y, d)]⟩ (ps.zip (us ++ [d]))) ∧ ps.length = n + 1 ∧ FnOk P w K mg base CX k f fd ps sp
section
variable {X : Cx} {CX : CXT} {k n : Nat} {C : Addr} {x y : Str} {ps : List Str} {sp : Sp} {E : XK} {e : Expr} {es : List Expr} {kws : List Keyword} {t tk : TA} {p pos : Pos}
theorem pe_kcalK (M : KCalK X.prog X.w X.K X.mg X.base CX k x C (n + 1) ps y sp) (hr : Room (k + 1) X.A) (hx : Passes CX X E) (ha : PA X (e :: es) t) (hkw : PK X kws tk) (hg : Gl X x := by rfl)
    (hall : (backToKw pos (keywordEach kws X.env)).all (·.1.isSome) = true := by rfl) (hks : (backToKw pos (keywordEach kws X.env)).filterMap (·.1) = [y] := by rfl)
    (hdb : (x == ("__debug__" : Str)) = false := by decide) (he : starEach (e :: es) X.env = (false, eval e X.env) :: starEach es X.env := by rfl)
    (hpl : ((backTo pos (starEach (e :: es) X.env)).any (·.1) || (backToKw pos (keywordEach kws X.env)).any (·.1.isNone)) = false := by rfl) : PE X (.Call (.Name x p) (e :: es) kws pos) (tMakeK C n 1 sp (gK (n + 1)) E t tk) := by
  obtain ⟨f, fd, h1, hm, hb, hn, F⟩ := M.ex
  refine pe_makeK (ks := [y]) h1 F hr hg hm (g := gK (n + 1)) (gV := gK (n + 1)) ⟨fun s us ws _ hl hw => ?_, fun r1 r2 => gK_rel (n + 1) r1 r2⟩ hx ha hkw hall hks hdb he hpl
  match ws, hw with
  | [d], _ =>
    have := hb s us d hl
    rw [← hl, gK_app]
    exact this
end
end Pk

namespace Pk
open PySem PySem.Spec PyProof.Rows L2
section
variable {X : Cx} {K : PySem.W.Frag} {pos : Pos}
/-! ### dicts whose keys are tuples of numbers and texts -/
def gInT (neg : Bool) : R2 := fun x y H Q => ∃ a b kvs k, x = .ref b ∧ y = .ref a ∧ H a = some (.dT kvs) ∧ H b = some (.tup (k.map kV)) ∧ Q (.bl (if neg then !(valV kvs k).isSome else (valV kvs k).isSome)) H
theorem op_notInT (hu : X.A.units + 64 < cLine) : OpR X (compareOp .NotIn) (gInT true) := by
  intro pins s σ H x y v u Q I rx ry h
  obtain ⟨a, b, kvs, k, rfl, rfl, ha, hb, q⟩ := h
  cases ry
  exact d_notIn (by omega) I (DGet.t (k := k) ha hb) rx fun s3 I3 => ⟨.bl (!(valV kvs k).isSome), H, I3, rfl, q⟩
def gIxT : R2 := fun x y H Q => ∃ a b kvs k v, x = .ref a ∧ y = .ref b ∧ H a = some (.dT kvs) ∧ H b = some (.tup (k.map kV)) ∧ valV kvs k = some v ∧ Q v H
theorem ixT (hu : X.A.units + 64 < cLine) : IxR X gIxT := by
  intro vl sl pins s σ H x y v u Q I rx ry h hs
  obtain ⟨a, b, kvs, k, z, rfl, rfl, ha, hb, hv, q⟩ := h
  cases rx
  have g : DGet H a (.ref b) (some z) := by rw [← hv]; exact DGet.t ha hb
  have hu' : X.A.in1.units + 1 < cLine := by
    have : X.A.in1.units = X.A.units + 1 := rfl
    omega
  exact tail_any (dict_typeIs I g) PySem.F.slot_dict_getitem.lookup (d_getItem (by omega) I g ry fun w' s3 I3 rw' => ⟨z, H, I3, rw', q⟩) hs
def gSetT : TSet := fun o i v H Q => ∃ a b kvs k, o = .ref a ∧ i = .ref b ∧ H a = some (.dT kvs) ∧ H b = some (.tup (k.map kV)) ∧ kvs.length < 1000000 ∧ Q (upd H a (.dT (putK kvs k v)))
theorem set_T (hu : X.A.units + 64 < cLine) : PSet X gSetT := by
  intro pins s σ H o i v ov iv u Q I ro ri rv h
  obtain ⟨a, b, kvs, k, rfl, rfl, ha, hb, hl, q⟩ := h
  exact set_dict (by omega) pins s σ H _ _ v ov iv u Q I ro ri rv ⟨a, _, rfl, DPut.t ha hb (Nat.lt_of_lt_of_le hl line6), q⟩
/-! ### min of a list of tuples -/
def gMinD (K : PySem.W.Frag) : RC := fun vs H Q => match vs with
  | [.ref p] => ∃ (ys : List V) (x : PyData) (xs : List PyData), SqL K H p ys ∧ DpAll K H ys (x :: xs) ∧ PySem.W.AlikeAll (x :: xs) ∧ PyData.depthAll (x :: xs) ≤ 8 ∧ ∀ (i : Nat) (v : V), ys[i]? = some v → (x :: xs)[i]? = some (PySem.W.minD x xs) → Q v H
  | _ => False
theorem cr_minD0 (hc : X.calm = true) (hu : X.A.units + 64 < cLine) : CallR X (.builtin "min") (gMinD X.K) := by
  intro pins s σ H xs us Q I r h
  unfold gMinD at h
  split at h
  · rename_i p
    obtain ⟨ys, x, xs, h1, h2, ha, hd, h3⟩ := h
    obtain ⟨its, rv, hl, _⟩ := I.list h1
    rw [Vals.ref1 r]
    obtain ⟨as, hr⟩ := Dp.readsAll I (x :: xs) ys its h2 rv
    have hr' : ReadsAll s.heap its.toArray.toList (x :: xs) as := hr
    have hn : its.toArray.size = xs.length + 1 := PySem.W.readsAll_len hr'
    refine PySem.call_min_walkH (PySem.W.iter_listW (A := X.A.in1) (I.ok.hd hc) hl.isList fun s₂ e W st hfp hw hk => ?_)
    refine ⟨_, _, _, _, _, _, _, s.heap, _, rfl, W, st, hfp, by omega, hw, hk, PySem.W.cmpIn_lt (A := X.A.in1) hr' ha (by show X.A.in1.units + _ < _; rw [Around.in1_units]; omega), fun v s' hP m => ?_⟩
    obtain ⟨h', tk, rfl, hk'⟩ := PySem.W.moved_old e rfl m
    have e2 := (PySem.W.argBest_fold PySem.W.dataLt PyData.none x xs xs.length (Nat.le_refl _))
    rw [List.take_length] at e2
    have e1 : its.toArray.size - 1 = xs.length := by omega
    rw [e1] at hP
    have hi := e2.1
    have hg := e2.2
    generalize argBest (fun i j => PySem.W.dataLt ((x :: xs).getD i PyData.none) ((x :: xs).getD j PyData.none)) xs.length = i at *
    have hlen : its.length = ys.length := rv.length.symm
    have hil : i < its.length := by rw [List.size_toArray] at hn; omega
    have hv : its[i] = v := by
      have : its.toArray[i]? = some its[i] := by simp [hil]
      rw [this] at hP
      exact Option.some.inj hP
    have hiy : i < ys.length := by omega
    have hR : RelV ys[i] its[i] := by
      obtain ⟨u, hu1, hu2⟩ := rv.get (List.getElem?_eq_getElem hiy)
      rw [List.getElem?_eq_getElem hil] at hu1
      cases hu1
      exact hu2
    refine ⟨ys[i], H, I.kept hk', by rw [← hv]; exact hR, h3 i _ (List.getElem?_eq_getElem hiy) ?_⟩
    have : i < (x :: xs).length := by rw [List.length_cons]; omega
    rw [List.getElem?_eq_getElem this]
    rw [List.getD_eq_getElem?_getD, List.getElem?_eq_getElem this] at hg
    exact congrArg some hg
  · exact h.elim
theorem cr_minD (hc : X.calm = true) (hu : X.A.units + 64 < cLine) (hK : X.K = K := by rfl) : CallR X (.builtin "min") (gMinD K) := hK ▸ cr_minD0 hc hu
end
end Pk

namespace Pk
open PySem PySem.Spec PyProof.Rows L2
section
variable {P : Program} {w : World} {A : Around} {E : Value → Shared → Prop} {s : Shared}
/-- what is put into a new set, from a tuple -/
theorem set_fromT {l : Addr} {items : Array Value} (xs : List Key) {R : Unit → Shared → Prop} (hh : A.handled = none) (hl : s.heap.IsTuple l items) (hn : items.size = xs.length) (hit : ∀ (i : Nat) (v : Value), items[i]? = some v → ∃ k, xs[i]? = some k ∧ keyIs k v = true) (hb : xs.length + 1 < scanBound)
    (h : ∀ h' tk ds, SetG w h' s.heap.objs.size ds → (∀ k, k ∈ ds ↔ k ∈ xs) → (∀ b o, s.heap.get? b = some o → h'.get? b = some o) → R () { s with heap := h', toks := tk }) :
    wpAny (model P w) A (Builtin.Frozenset.updateFrom "set.__init__" s.heap.objs.size (.ref l)) R E { s with heap := s.heap.push (set0 w) } := by
  obtain ⟨ol, hol, hcl, nl, hdl⟩ := hl
  obtain ⟨ocls, odict, odata, oslots⟩ := ol
  simp only at hcl hdl
  subst hcl; subst hdl
  have hol' : (s.heap.push (set0 w)).get? l = some { cls := .type "tuple", dict := odict, data := .seq items nl, slots := oslots } := Heap.get?_push_of_some _ hol
  have f1 := F.sub_tuple_set
  have f2 := F.sub_tuple_frozenset
  have f3 : (Value.type "tuple" == Value.type "dict") = false := by decide
  have hl1 : (s.heap.push (set0 w)).IsTuple l items := ⟨_, hol', rfl, nl, rfl⟩
  unfold Builtin.Frozenset.updateFrom
  generalize hPI : pyIter = PI
  wp_walk
  subst hPI
  refine wpAny_pyIter_tuple hl1 (wpAny_bind (wpAny_runValue ?_))
  have hlS : l < s.heap.objs.size := Heap.lt_size hol
  have hz1 : (s.heap.push (set0 w)).objs.size = s.heap.objs.size + 1 := Heap.size_push ..
  have hneI : l ≠ (s.heap.push (set0 w)).objs.size := by rw [hz1]; exact Nat.ne_of_lt (Nat.lt_succ_of_lt hlS)
  have hTf : s.heap.objs.size ∉ [(s.heap.push (set0 w)).objs.size, l] := by
    rw [hz1]
    simp only [List.mem_cons, List.mem_singleton, List.not_mem_nil, or_false, not_or]
    exact ⟨Nat.ne_of_lt (Nat.lt_succ_self _), Nat.ne_of_gt hlS⟩
  refine setG_loop ((Walks.tuple (A := A.in1) (by simp [hh]) _ l hneI items).toS) s.heap.objs.size hTf xs hn hb hit (items.size - 0) 0 _ (by omega) (Nat.zero_le _) ⟨⟨_, Heap.get?_push_size _ rfl, rfl, rfl⟩, hl1.push _⟩
    ⟨[], setG_new (Heap.get?_push_of_some _ (Heap.get?_push_size _ rfl)), Nat.le_refl _, fun k => by simp⟩ fun s' ds hm hS hd => ?_
  obtain ⟨h', g2, d', tk', os'⟩ := s'
  cases (show g2 = s.gens from hm.gens)
  cases (show d' = s.drawn from hm.drawn)
  cases (show os' = s.os from hm.os)
  refine wpAny_pure (h h' tk' ds hS hd fun b o e => ?_)
  have hb0 : b < s.heap.objs.size := Heap.lt_size e
  refine hm.heap b o ?_ (Heap.get?_push_of_some _ (Heap.get?_push_of_some _ e))
  simp only [List.mem_cons, List.mem_singleton, List.not_mem_nil, or_false, not_or]
  exact ⟨Nat.ne_of_lt hb0, by rw [hz1]; exact Nat.ne_of_lt (Nat.lt_succ_of_lt hb0)⟩
end
section
variable {X : Cx} {K : PySem.W.Frag} {w : World}
/-- set(a tuple) -/
def gSetTu (K : PySem.W.Frag) (w : World) : RC := fun vs H Q => match vs with
  | [.ref l] => ∃ ks : List Key, SqT K H l (ks.map kV) ∧ ks.length ≤ 4000 ∧ ∀ p ds, H p = none → ds.Nodup → (∀ k, k ∈ ds ↔ k ∈ ks) → Q (.ref p) (upd H p (SetX w p ds))
  | _ => False
theorem cr_setT0 (hc : X.calm = true) : CallR X (.type "set") (gSetTu X.K X.w) := by
  intro pins s σ H xs us Q I r h
  have fin : ∀ (h' : Heap) (tk : Nat) (ds : List Key), SetG X.w h' s.heap.objs.size ds → (∀ b o, s.heap.get? b = some o → h'.get? b = some o) → (∀ p ds', H p = none → ds'.Nodup → ds' = ds → Q (.ref p) (upd H p (SetX X.w p ds'))) → EP X pins σ Q (.ref s.heap.objs.size) { s with heap := h', toks := tk } := fun h' tk ds hS hk q => by
    have nd : ds.Nodup := by obtain ⟨_, _, _, _, _, _, _, _, _, nd, _⟩ := hS; exact nd
    exact ⟨.ref _, upd H s.heap.objs.size (SetX X.w s.heap.objs.size ds), I.laid (t' := tk) hk (Nat.le_refl _) (setX_ok hS), rfl, q _ ds (I.hok.fresh (Nat.le_refl _)) nd rfl⟩
  unfold gSetTu at h
  split at h
  · obtain ⟨ks, h1, hl, q⟩ := h
    obtain ⟨its, rv, hL, _⟩ := I.tuple h1
    rw [Vals.ref1 r]
    have hlen := rv.length
    rw [List.length_map] at hlen
    refine call_setG _ fun A' E' R hA hR => set_fromT ks (by rw [hA]; exact I.ok.hd hc) hL (by rw [List.size_toArray]; exact hlen.symm) (fun i v hv => kV_vals X.prog X.w rv (by simpa using hv)) (by unfold scanBound; omega) fun h' tk ds hS hd hk => hR h' tk ⟨ds, hS⟩ (fin h' tk ds hS hk fun p ds' hp nd e => ?_)
    subst e
    exact q p _ hp nd hd
  · exact h.elim
theorem cr_setT (hc : X.calm = true) (hK : X.K = K := by rfl) (hw : X.w = w := by rfl) : CallR X (.type "set") (gSetTu K w) := hK ▸ hw ▸ cr_setT0 hc
end
end Pk

namespace Pk
open PySem PySem.Spec PyProof.Rows L2
section
variable {X : Cx}
theorem un1 (h : X.A.units + 64 < cLine) : X.A.units + 1 < cLine := by omega
/-- d[k], d may be locked -/
def gIxKr : R2 := fun x y H Q => ∃ a kvs k v, x = .ref a ∧ Rd H a (.dK kvs) ∧ y = kV k ∧ valV kvs k = some v ∧ Q v H
theorem ixKr (hu : X.A.units + 64 < cLine) : IxR X gIxKr := by
  intro vl sl pins s σ H x y v u Q I rx ry h hs
  obtain ⟨a, kvs, k, z, rfl, ha, rfl, hv, q⟩ := h
  cases rx
  have g : DGet H a (kV k) (some z) := by rw [← hv]; exact .inl ⟨kvs, k, ha, rfl, rfl⟩
  have hu' : X.A.in1.units + 1 < cLine := by
    have : X.A.in1.units = X.A.units + 1 := rfl
    omega
  exact tail_any (dict_typeIs I g) PySem.F.slot_dict_getitem.lookup (d_getItem (by omega) I g ry fun w' s3 I3 rw' => ⟨z, H, I3, rw', q⟩) hs
end
end Pk

namespace Pk
open PySem PySem.Spec PyProof.Rows L2
section
variable {X : Cx} {K : PySem.W.Frag}
theorem dpIntsG {K : PySem.W.Frag} {H : Hp} : ∀ (ns : List Int), DpAll K H (ns.map V.int) (ns.map PyData.int)
  | [] => .nil
  | n :: r => .cons (.int _) (dpIntsG r)
/-- max of a tuple of numbers -/
def gMaxT (K : PySem.W.Frag) : RC := fun vs H Q => match vs with
  | [.ref p] => ∃ (n : Int) (ns : List Int), SqT K H p ((n :: ns).map V.int) ∧ Q (.int (ns.foldl max n)) H
  | _ => False
theorem cr_maxT0 (hc : X.calm = true) (hu : X.A.units + 64 < cLine) : CallR X (.builtin "max") (gMaxT X.K) := by
  intro pins s σ H xs us Q I r h
  unfold gMaxT at h
  split at h
  · obtain ⟨n, ns, h1, q⟩ := h
    obtain ⟨its, rv, hl, _⟩ := I.tuple h1
    rw [Vals.ref1 r]
    obtain ⟨as, hr⟩ := Dp.readsAll I ((n :: ns).map PyData.int) _ its (dpIntsG (n :: ns)) rv
    have dep : ∀ ns : List Int, PyData.depthAll (ns.map PyData.int) ≤ 1 := fun ns => by
      induction ns with
      | nil => simp [PyData.depthAll]
      | cons z zs ih =>
        simp only [List.map_cons, PyData.depthAll, PyData.depth]
        omega
    have dp := dep (n :: ns)
    have al : PySem.W.AlikeAll ((n :: ns).map PyData.int) := ⟨fun x hx y hy => by
      obtain ⟨i, _, rfl⟩ := List.mem_map.mp hx
      obtain ⟨j, _, rfl⟩ := List.mem_map.mp hy
      rfl, fun x hx => by
      obtain ⟨i, _, rfl⟩ := List.mem_map.mp hx
      intro z
      cases z⟩
    have hr' : ReadsAll s.heap its.toArray.toList (PyData.int n :: ns.map PyData.int) as := hr
    refine PySem.W.max_tuple_data (I.ok.hd hc) hl hr' al (by
      have : PyData.depthAll (PyData.int n :: ns.map PyData.int) ≤ 1 := dp
      omega) fun i v h' tk bs hv hrd hk => ?_
    rw [PySem.W.maxD_ints] at hrd
    cases hrd
    exact ⟨.int _, H, I.kept hk, ⟨_, rfl⟩, q⟩
  · exact h.elim
theorem cr_maxT (hc : X.calm = true) (hu : X.A.units + 64 < cLine) (hK : X.K = K := by rfl) : CallR X (.builtin "max") (gMaxT K) := hK ▸ cr_maxT0 hc hu
end
end Pk

namespace PySem
open PySem.Spec
section
variable {prog : Program} {w : World} {K : Type} [DecidableEq K] {knd : KeyKind prog w K} {A : Around} {E : Value → Shared → Prop} {s : Shared}
theorem wpAny_dictSetDefault_pairs {d : Addr} {kvs : List (K × Value)} {k : K} {key dflt : Value} {Q : Value → Shared → Prop} (hkey : knd.is k key = true) (hm : s.heap.DictOf knd d kvs)
    (hthere : ∀ v, valueAt kvs k = some v → Q v { s with toks := s.toks + 1 })
    (hnew : valueAt kvs k = none → ∀ h', h'.DictOf knd d (stored kvs k dflt) → Heap.SameBut d s.heap h' → Q dflt { s with heap := h', toks := s.toks + 1 })
    (hsz : kvs.length ≤ sizeLine) :
    wpAny (model prog w) A (dictSetDefault d key dflt) Q E s := by
  have hmap := hm.mapOf
  obtain ⟨o, es, ep, ho, hc, hd, hk, hp, hn⟩ := hm
  have hes : es.size ≤ sizeLine := by
    have e1 := hp.length
    have e2 : es.toList.length = es.size := by simp
    omega
  unfold dictSetDefault
  try with_reducible refine wpAny_holding ?_
  refine wpAny_bind (knd.pyHash hkey ?_)
  refine wpAny_bind (wpAny_dictFind_of (s := { s with toks := s.toks + 1 }) hkey ho hd hk ?_)
  have hidx : (es.findIdx? fun e => knd.is k e.key) = kvs.findIdx? fun kv => decide (kv.1 = k) := by
    rw [← hp.findIdx k]; obtain ⟨l⟩ := es; simp
  cases hi : es.findIdx? fun e => knd.is k e.key with
  | some i =>
    have hl : (es.toList.findIdx? fun e => knd.is k e.key) = some i := by rw [← hi]; obtain ⟨l⟩ := es; simp
    obtain ⟨e, he, _, hv⟩ := hp.at hl
    have he' : es[i]? = some e := by rw [← he]; obtain ⟨l⟩ := es; simp
    refine wpAny_bind (wpAny_dictEntries (s := { s with toks := s.toks + 1 }) ho hd ?_)
    rw [he']
    exact wpAny_bind (wpAny_rule (wpAny_pure (hthere e.val hv)))
  | none =>
    have hnot : k ∉ kvs.map (·.1) := not_mem_of_findIdx_none (hidx ▸ hi)
    have hany : ¬ (kvs.any fun kv => decide (kv.1 = k)) = true := by
      rw [List.any_eq_true]; rintro ⟨kv, hkv, he⟩
      exact hnot (List.mem_map.mpr ⟨kv, hkv, of_decide_eq_true he⟩)
    have hval : valueAt kvs k = none := by
      rw [← hp.find k]
      have hf : (es.toList.findIdx? fun e => knd.is k e.key) = none := by rw [← hi]; obtain ⟨l⟩ := es; simp
      rw [List.findIdx?_eq_none_iff] at hf
      rw [List.find?_eq_none.mpr fun x hx => by rw [hf x hx]; exact Bool.false_ne_true]
      rfl
    refine wpAny_bind (wpAny_rule (wpAny_bind (wpAny_updateDictKeys (hz := hes) (s := { s with toks := s.toks + 1 }) ho hd (wpAny_pure (hnew hval _ ⟨_, _, ep + 1, Heap.get?_update_self _ ho (Obj.isFreed_of_dict (Obj.data_mapDictKeys hd _)),
      hc.mapDictKeys _, Obj.data_mapDictKeys hd _, hk.push hkey _, ?_, ?_⟩ (Heap.SameBut.update ..))))))
    · rw [stored, if_neg hany]
      have := hp.append hkey (knd.hash k) dflt
      obtain ⟨l⟩ := es
      simpa using this
    · rw [stored, if_neg hany, List.map_append, List.nodup_append]
      refine ⟨hn, by simp, ?_⟩
      intro a ha b hb
      simp only [List.map_cons, List.map_nil, List.mem_singleton] at hb
      subst hb
      exact fun e => hnot (e ▸ ha)
theorem call_setdefault_pairs {d : Addr} {kvs : List (K × Value)} {k : K} {key dflt : Value} {Q : Value → Shared → Prop} (hkey : knd.is k key = true) (hd : (d == sysModules) = false) (hm : s.heap.DictOf knd d kvs)
    (hthere : ∀ v, valueAt kvs k = some v → Q v { s with toks := s.toks + 1 })
    (hnew : valueAt kvs k = none → ∀ h', h'.DictOf knd d (stored kvs k dflt) → Heap.SameBut d s.heap h' → Q dflt { s with heap := h', toks := s.toks + 1 })
    (hsz : kvs.length ≤ sizeLine) :
    wpAny (model prog w) A (call (.builtin "dict.setdefault") [.ref d, key, dflt]) Q E s := by
  refine wpAny_call_entry F.slot_dict_setdefault hm.typeIs F.entry_dict_setdefault ?_ (F.args_dict_setdefault_3 _ _ _)
  unfold Builtin.«dict.setdefault»
  refine wpAny_bind ?_
  unfold Builtin.Dict.keyAndDefault
  refine wpAny_bind (wpAny_notOrdered_dict hm.typeIs ?_)
  show wpAny _ _ (pure (d, key, some dflt)) _ _ s
  refine wpAny_pure ?_
  show wpAny _ _ (if (d == sysModules) = true then _ else (dictSetDefault d key dflt >>= _)) _ _ s
  rw [if_neg (by rw [hd]; exact Bool.false_ne_true)]
  exact wpAny_bind (wpAny_dictSetDefault_pairs hkey hm (fun v hv => wpAny_pure ⟨v, rfl, hthere v hv⟩) (fun hn h' hm' hs' => wpAny_pure ⟨dflt, rfl, hnew hn h' hm' hs'⟩) hsz)
end
end PySem
namespace Pk
open PySem PySem.Spec PyProof.Rows L2
/-- d.setdefault(k, x) -/
def tSDef (td ty tx : TE) : TE := fun σ H Q => td σ H fun x H1 => ∃ a, x = .ref a ∧ IsD H1 a ∧ ty σ H1 fun y H2 => tx σ H2 fun z H3 => ∃ kvs k, H3 a = some (.dK kvs) ∧ y = kV k ∧ kvs.length < 1000000 ∧
  (∀ v, valV kvs k = some v → Q v H3) ∧ (valV kvs k = none → Q z (upd H3 a (.dK (putK kvs k z))))
section
variable {X : Cx} {o e f : Expr} {apos cpos : Pos} {td ty tx : TE}
theorem pe_sdef (ho : PE X o td) (he : PE X e ty) (hf : PE X f tx) (m : M2 X o "setdefault" apos e f cpos) : PE X (.Call (.Attribute o "setdefault" apos) [e, f] [] cpos) (tSDef td ty tx) := by
  refine ⟨fun pins s σ H Q I h => ?_⟩
  refine wpAny_Call_method m.base m.few m.line PySem.F.plainAttrs_dict PySem.F.slot_dict_setdefault PySem.F.type_dict_setdefault (thn (ho.run pins s σ H _ I h) fun u s1 ⟨x, H1, I1, rx, a, ex, d, q1⟩ => ?_)
  subst ex
  obtain rfl : u = Value.ref a := rx
  obtain ⟨t1, t2, _⟩ := isD_at I1 d
  refine ⟨t1, t2, ?_⟩
  rw [m.trees]
  refine Calls.callWith_builtin rfl (Calls.evalArgs_plain (Calls.spliced_cons (thn (he.run pins s1 σ H1 _ I1 q1) fun iv s2 ⟨y, H2, I2, ry, q2⟩ =>
    Calls.spliced_cons (thn (hf.run pins s2 σ H2 _ I2 q2) fun fv s3 ⟨z, H3, I3, rz, kvs, k, ea, ey, hl, q3, q4⟩ => Calls.spliced_nil ?_))))
  subst ey
  obtain ⟨z0, hd, vs, rel, dd⟩ := dk_of I3.hok ea
  have h6 := line6
  have hlen : kvs.length = vs.length := rel.length
  refine PySem.call_setdefault_pairs (knd := mixKind X.prog X.w) (kV_is ry) hd dd (fun v hv => ?_) (fun hv h' dd' hs => ?_) (by omega)
  · have hval := rel.val k
    rw [hv] at hval
    cases l : valV kvs k with
    | some v' =>
      rw [l] at hval
      exact ⟨v', H3, I3.tok _, hval, q3 v' l⟩
    | none => rw [l] at hval; exact absurd hval (by intro z; cases z)
  · have hval := rel.val k
    rw [hv] at hval
    have l : valV kvs k = none := by
      cases l : valV kvs k with
      | none => rfl
      | some v' => rw [l] at hval; exact absurd hval (by intro z; cases z)
    have he : ∃ q, h'.get? a = some q := let ⟨q, _, _, hq, _⟩ := dd'; ⟨q, hq⟩
    have hl2 : (putK kvs k z).length ≤ sizeLine := by have := length_putK kvs k z; omega
    exact ⟨z, _, d_write I3 (by rw [ea]; exact True.intro) hs he (dk_new hl2 hd (rel.put k rz) dd'), rz, q4 l⟩
end
section
variable {X : Cx}
/-- min of a dict, its keys numbers -/
def gMinK0 : RC := fun vs H Q => match vs with
  | [.ref p] => ∃ (kvs : List (Key × V)) (ns : List Int), H p = some (.dK kvs) ∧ kvs.map (·.1) = ns.map (fun n => (.inl n : Key)) ∧ 0 < ns.length ∧ ∀ m ∈ ns, (∀ y ∈ ns, m ≤ y) → Q (.int m) H
  | _ => False
theorem cr_minK0 (hc : X.calm = true) : CallR X (.builtin "min") gMinK0 := by
  intro pins s σ H xs us Q I r h
  unfold gMinK0 at h
  split at h
  · rename_i p
    obtain ⟨kvs, ns, hp, hk, hpos, q⟩ := h
    rw [Vals.ref1 r]
    obtain ⟨z0, hd, vs, rel, dd⟩ := dk_of I.hok hp
    obtain ⟨ep, hat⟩ := dd.dictAt
    have hlen : kvs.length = vs.length := rel.length
    have hkeys : vs.map (·.1) = ns.map (fun n => (.inl n : Key)) := rel.keys.symm.trans hk
    have hnl : vs.length = ns.length := by have := congrArg List.length hkeys; rwa [List.length_map, List.length_map] at this
    have hP : ∀ (i : Nat) (v : Value), (∃ k x, vs[i]? = some (k, x) ∧ (mixKind X.prog X.w).is k v = true) → ∃ t, v = .int (ns.getD i 0) t := fun i v ⟨k, x, hv, hi⟩ => by
      have e : (vs.map (·.1))[i]? = some k := by rw [List.getElem?_map, hv]; rfl
      rw [hkeys, List.getElem?_map] at e
      obtain ⟨n, hn, rfl⟩ := Option.map_eq_some_iff.mp e
      rcases keyIs_shape (show keyIs (.inl n) v = true from hi) with ⟨j, t, e1, e2⟩ | ⟨y, t, e1, _⟩
      · refine ⟨t, ?_⟩
        rw [e2, List.getD_eq_getElem?_getD, hn, ← Sum.inl.inj e1]
        rfl
      · cases e1
    have hpS : p < s.heap.objs.size := by obtain ⟨o, _, ho, _⟩ := hat; exact Heap.lt_size ho
    refine call_min_walk (wpAny_pyIter_dict (knd := mixKind X.prog X.w) hd hat ?_)
    refine ⟨_, [s.heap.objs.size, p], [s.heap.objs.size], _, _, _, _, rfl, Walks.dictKeys (knd := mixKind X.prog X.w) (A := X.A.in1) (I.ok.hd hc) _ p (Nat.ne_of_lt hpS) vs ep, ⟨⟨_, Heap.get?_push_size _ rfl, rfl, rfl⟩, hat.keep fun b o e => Heap.get?_push_of_some _ e⟩, ?_, by omega, CmpOf.ints_lt (fun i => ns.getD i 0) hP, fun v h' tk hv hk' => ?_⟩
    · intro b hb
      have e' : b = s.heap.objs.size ∨ b = p := by simpa using hb
      rw [Heap.size_push]
      rcases e' with z | z
      · rw [z]; exact Nat.lt_succ_self _
      · rw [z]; exact Nat.lt_succ_of_lt hpS
    obtain ⟨t, rfl⟩ := hP _ v hv
    obtain ⟨b1, b2⟩ := argBest_lt (fun i => ns.getD i 0) (vs.length - 1)
    have I2 : Inv X pins σ H { s with heap := h', toks := tk } := I.kept fun b o e => hk' b o (fun hm => by rw [List.mem_singleton.mp hm] at e; exact absurd (Heap.lt_size e) (Nat.lt_irrefl _)) (Heap.get?_push_of_some _ e)
    generalize argBest (fun i j => decide (ns.getD i 0 < ns.getD j 0)) (vs.length - 1) = m at *
    have hm : m < ns.length := by omega
    have em : ns.getD m 0 = ns[m] := by rw [List.getD_eq_getElem?_getD, List.getElem?_eq_getElem hm]; rfl
    refine ⟨.int _, H, I2, ⟨t, rfl⟩, q _ ?_ fun y hy => ?_⟩
    · rw [em]; exact List.getElem_mem hm
    · obtain ⟨j, hj, rfl⟩ := List.getElem_of_mem hy
      have := b2 j (by omega)
      rw [show ns.getD j 0 = ns[j] by rw [List.getD_eq_getElem?_getD, List.getElem?_eq_getElem hj]; rfl] at this
      exact this
  · exact h.elim
/-- a dict against the empty dict -/
theorem same_emptyK {prog : Program} {w : World} {A : Around} {E : Value → Shared → Prop} {s : Shared} {nm : String} {a b : Addr} {oa ob : Obj} {es : Array DictEntry} {ep ep' : Nat} {Q : Bool → Shared → Prop} (ha : (a == sysModules) = false) (hb : (b == sysModules) = false)
    (hoa : s.heap.get? a = some oa) (hda : oa.data = .dict es ep) (hob : s.heap.get? b = some ob) (hdb : ob.data = .dict #[] ep') (h : Q (decide (es.size = 0)) s) :
    wpAny (model prog w) A (Builtin.Dict.samePairs nm a b) Q E s := by
  unfold Builtin.Dict.samePairs Builtin.Dict.showsAll
  rw [if_neg (show ¬ (a == sysModules) = true by rw [ha]; exact Bool.false_ne_true), if_neg (show ¬ (b == sysModules) = true by rw [hb]; exact Bool.false_ne_true)]
  refine wpAny_bind (wpAny_pure (wpAny_bind (wpAny_pure ?_)))
  refine wpAny_bind (wpAny_dictEntries hoa hda ?_)
  dsimp only
  refine wpAny_bind (wpAny_dictEntries hob hdb ?_)
  by_cases hsz : es.size = 0
  case neg =>
    rw [if_pos (by simpa using hsz)]
    rw [decide_eq_false hsz] at h
    exact wpAny_bind (wpAny_rule (wpAny_pure h))
  case pos =>
    rw [decide_eq_true hsz] at h
    rw [if_neg (by simp [hsz])]
    refine wpAny_bind (wpAny_dictEpoch hoa hda ?_)
    refine wpAny_bind ?_
    rw [Std.Legacy.Range.forIn_eq_forIn_range']
    simp only [Std.Legacy.Range.size, Nat.sub_zero, Nat.add_sub_cancel, Nat.div_one, hsz, List.range'_zero, List.forIn_nil]
    exact wpAny_pure (wpAny_pure h)
def gNeK : R2 := fun x y H Q => ∃ a c kvs, x = .ref a ∧ y = .ref c ∧ H a = some (.dK kvs) ∧ H c = some (.dK []) ∧ Q (.bl (!decide (kvs = []))) H
theorem op_neK (hu : X.A.units + 64 < cLine) : OpR X (compareOp .NotEq) gNeK := by
  intro pins s σ H x y v u Q I rx ry h
  obtain ⟨a, c, kvs, rfl, rfl, h1, h3, q⟩ := h
  cases rx
  cases ry
  obtain ⟨z1, ha, vs, rel, da⟩ := dk_of I.hok h1
  obtain ⟨z2, hb, ws, relb, db⟩ := dk_of I.hok h3
  have ta := da.typeIs
  have tb := db.typeIs
  obtain ⟨oa, es, ep, g1, g2, g3, g4, g5, g6⟩ := da
  obtain ⟨ob, es2, ep2, k1, k2, k3, k4, k5, k6⟩ := db
  have e2 : es2 = #[] := by
    have hw : ws = [] := by cases relb; rfl
    subst hw
    have := k5.length
    obtain ⟨l⟩ := es2
    have : l = [] := List.length_eq_zero_iff.mp this
    rw [this]
  subst e2
  have hsz : es.size = kvs.length := by
    have h5 := g5.length
    have hl : kvs.length = vs.length := rel.length
    rw [hl, ← h5, Array.length_toList]
  refine wpAny_richCompare_same_room (op := .NotEq) ta tb PySem.F.slot_dict_ne (wpAny_call_entry PySem.F.slot_dict_ne ta PySem.F.entry_dict_ne ?_ (PySem.F.args_dict_ne_2 _ _)) (by omega)
  show wpAny _ _ (Builtin.Dict.dictSlotArgs "__ne__" ⟨[.ref a, .ref c], []⟩ >>= _) _ _ s
  refine wpAny_bind ?_
  unfold Builtin.Dict.dictSlotArgs
  refine wpAny_bind (wpAny_notOrdered_dict ta ?_)
  show wpAny _ _ (pure (Value.ref a, Value.ref c)) _ _ s
  refine wpAny_pure ?_
  refine wpAny_bind (wpAny_isInstance (T := "dict") tb PySem.F.sub_dict_dict ?_)
  simp only [Bool.not_true, Bool.false_eq_true, if_false]
  refine wpAny_bind (wpAny_pure (wpAny_bind (wpAny_pure ?_)))
  refine wpAny_bind (same_emptyK ha hb g1 g3 k1 k3 ?_)
  refine wpAny_pure ⟨_, rfl, ?_, ?_⟩
  · exact fun x => nomatch x
  · refine fin_bl I q ?_
    rw [hsz]
    cases kvs <;> rfl
end
end Pk

namespace Pk
open PySem PySem.Spec PyProof.Rows L2
section
variable {X : Cx} {K : PySem.W.Frag}
/-- append, the list up to the machine's own bound -/
def gAppendL : RM := fun x vs H Q => match x, vs with
  | .ref l, [y] => ∃ xs, H l = some (.lst xs) ∧ xs.length < 16000000 ∧ Q .non (upd H l (.lst (xs ++ [y])))
  | _, _ => False
theorem mt_appendL : MtM X "list.append" gAppendL := by
  intro pins s σ H x xs v us Q I rx r h
  unfold gAppendL at h
  split at h
  · obtain ⟨ys, h1, h2, h3⟩ := h
    exact mt_append pins s σ H _ _ v us Q I rx r ⟨_, ys, _, rfl, rfl, h1, Nat.lt_of_lt_of_le h2 (by rw [sizeLine_eq]; decide), h3⟩
  · exact h.elim
end
end Pk

namespace Pk
open PySem PySem.Spec PyProof.Rows L2
def topS (i : Nat) : Stmt := PySem.Challenge.pw_packrow_k56_cheapest_by_search.main.body.getD i (.Pass ⟨0, 0, 0, 0⟩)
section
variable {P : Program} {w : World} {K : PySem.W.Frag} {mg : Str → Option Value} {base : Heap}
abbrev s_size_of : Stmt := topS 17
theorem sc_size_of : FnScope ["sizes", "color"] ["sizes", "color"] (defScope s_size_of) := ⟨rfl, rfl, rfl, by decide +kernel, rfl, by decide +kernel, by decide +kernel⟩

/-- the size of a color -/
def szI (zs : List Int) (k : Nat) : Int := zs.getD (k - 97) 1
theorem at_szI {zs : List Int} {k : Nat} (h1 : 97 ≤ k) (h2 : k < 97 + zs.length) : atI (zs.map V.int) ((k : Int) - 97) = some (V.int (szI zs k)) := by
  rw [show (k : Int) - 97 = ((k - 97 : Nat) : Int) by omega]
  refine atI_nat ?_
  unfold szI
  rw [List.getElem?_map, List.getD_eq_getElem?_getD, List.getElem?_eq_getElem (by omega)]
  rfl
def sp_size_of (K : PySem.W.Frag) : Sp := fun vs H Q _ => ∃ a zs k, vs = [.ref a, .str (S [k])] ∧ SqT K H a (zs.map V.int) ∧ 97 ≤ k ∧ k < 97 + zs.length ∧ zs.length ≤ 6 ∧ Q (.int (szI zs k)) H
theorem ok_size_of {f : Addr} {fd : FuncData} (F : Fun K "size_of" "size_of" s_size_of f fd) (B : Bi mg) (m_COLORS : ∃ t, mg "COLORS" = some (.str (S abc) t)) : FnOk P w K mg base CX0 1 f fd ["sizes", "color"] (sp_size_of K) := by
  refine F.ok sc_size_of (fun vs H Q E h => ?_) (fun cdv A outer s H vs Q E hr h => ?_)
  · obtain ⟨a, zs, k, rfl, _⟩ := h
    rfl
  · obtain ⟨a, zs, k, rfl, hT, h1, h2, h3, q⟩ := h
    refine ⟨_, (pss_one (ps_ret (pe_ix (ixG (K := K)) (gv 0) (pe_bmG (K := K) PySem.F.plainAttrs_str PySem.F.slot_str_index PySem.F.type_str_index mt_indexG (g_str m_COLORS) (pa_cons (gv 1) pa_nil)) (fun _ _ => rfl)))), ?_⟩
    exact ⟨rfl, k, rfl, rfl, ⟨h1, by omega⟩, zs.map V.int, _, .inr hT, at_szI h1 h2, q⟩

theorem dpInts {K : PySem.W.Frag} {H : Hp} : ∀ (ns : List Int), DpAll K H (ns.map V.int) (ns.map PyData.int)
  | [] => .nil
  | n :: r => .cons (.int _) (dpInts r)
theorem layInts : ∀ ns : List Int, PyData.canLayAll0 (ns.map PyData.int) = true
  | [] => by simp [PyData.canLayAll0]
  | z :: zs => by simp [PyData.canLayAll0, PyData.canLay0, layInts zs]
theorem depInts : ∀ ns : List Int, PyData.depthAll (ns.map PyData.int) ≤ 1
  | [] => by simp [PyData.depthAll]
  | z :: zs => by
    have h1 := depInts zs
    simp only [List.map_cons, PyData.depthAll, PyData.depth]
    omega
theorem shpL (ns : List Int) : SeqAt.shaped (.list (ns.map PyData.int)) = true := by
  have h1 := depInts ns
  have h2 : PyData.depth (.list (ns.map PyData.int)) ≤ 64 := by
    simp only [PyData.depth]
    omega
  show (PyData.canLay0 (.list (ns.map PyData.int)) && decide (PyData.depth (.list (ns.map PyData.int)) ≤ 64)) = true
  rw [Bool.and_eq_true]
  exact ⟨by simp only [PyData.canLay0]; exact layInts ns, decide_eq_true h2⟩
theorem shpT (ns : List Int) : SeqAt.shaped (.tuple (ns.map PyData.int)) = true := by
  have h1 := depInts ns
  have h2 : PyData.depth (.tuple (ns.map PyData.int)) ≤ 64 := by
    simp only [PyData.depth]
    omega
  show (PyData.canLay0 (.tuple (ns.map PyData.int)) && decide (PyData.depth (.tuple (ns.map PyData.int)) ≤ 64)) = true
  rw [Bool.and_eq_true]
  exact ⟨by simp only [PyData.canLay0]; exact layInts ns, decide_eq_true h2⟩
theorem eqvInts : ∀ ns ms : List Int, PyData.eqvAll (ns.map PyData.int) (ms.map PyData.int) = decide (ns = ms)
  | [], [] => by simp [PyData.eqvAll]
  | [], _ :: _ => by simp [PyData.eqvAll]
  | _ :: _, [] => by simp [PyData.eqvAll]
  | n :: ns, m :: ms => by
    have ih := eqvInts ns ms
    simp only [List.map_cons, PyData.eqvAll, PyData.eqv]
    rw [ih, Bool.eq_iff_iff]
    simp
theorem eqvL (ns ms : List Int) : PyData.eqv (.list (ns.map PyData.int)) (.list (ms.map PyData.int)) = decide (ns = ms) := by rw [PyData.eqv]; exact eqvInts ns ms
theorem eqvT (ns ms : List Int) : PyData.eqv (.tuple (ns.map PyData.int)) (.tuple (ms.map PyData.int)) = decide (ns = ms) := by rw [PyData.eqv]; exact eqvInts ns ms
/-- two lists of ints compared -/
theorem eqLs {K : PySem.W.Frag} {H : Hp} {a b : Addr} {ns ms : List Int} {ng : Bool → Bool} {Q : VK} (ha : SqL K H a (ns.map V.int)) (hb : SqL K H b (ms.map V.int)) (q : Q (.bl (ng (decide (ns = ms)))) H) : gEqW K ng (.ref a) (.ref b) H Q :=
  .inr ⟨_, _, .lst ha (dpInts ns), .lst hb (dpInts ms), shpL ns, shpL ms, by rw [eqvL]; exact q⟩
theorem eqTs {K : PySem.W.Frag} {H : Hp} {a b : Addr} {ns ms : List Int} {ng : Bool → Bool} {Q : VK} (ha : SqT K H a (ns.map V.int)) (hb : SqT K H b (ms.map V.int)) (q : Q (.bl (ng (decide (ns = ms)))) H) : gEqW K ng (.ref a) (.ref b) H Q :=
  .inr ⟨_, _, .tup ha (dpInts ns), .tup hb (dpInts ms), shpT ns, shpT ms, by rw [eqvT]; exact q⟩

abbrev s__law_below : Stmt := topS 51
theorem sc__law_below : FnScope ["_law_d", "_law_limit", "_law_result"] ["_law_d", "_law_limit"] (defScope s__law_below) := ⟨rfl, rfl, rfl, by decide +kernel, rfl, by decide +kernel, by decide +kernel⟩

/-- the law's source of numbers -/
structure Rnd (xs : List V) : Prop where
  ex : ∃ (sd cur : Int) (r : List Int), xs = .int sd :: .int cur :: r.map V.int ∧ 0 ≤ sd ∧ sd < 2147483647 ∧ 0 ≤ cur ∧ (∀ z ∈ r, 0 ≤ z) ∧ r.length ≤ 100
def sp__law_below (K : PySem.W.Frag) : Sp := fun vs H Q _ => ∃ d n xs, vs = [.ref d, .int n] ∧ H d = some (.lst xs) ∧ Rnd xs ∧ 1 ≤ n ∧ n ≤ 1000000000 ∧
  ∀ r ys, 0 ≤ r → r < n → Rnd ys → Q (.int r) (upd H d (.lst ys))
theorem ok__law_below {f : Addr} {fd : FuncData} (F : Fun K "_law_below" "_law_below" s__law_below f fd) (B : Bi mg) : FnOk P w K mg base CX0 1 f fd ["_law_d", "_law_limit"] (sp__law_below K) := by
  refine F.ok sc__law_below (fun vs H Q E h => ?_) (fun cdv A outer s H vs Q E hr h => ?_)
  · obtain ⟨d, n, xs, rfl, _⟩ := h
    rfl
  · obtain ⟨d, n, xs, rfl, hd, hR, h1, h2, q⟩ := h
    refine ⟨_, (pss_cutG (ps_if (pw_and (pt_cmpG (op_eqG (K := K) hr.units) (pe_ix (ixG (K := K)) (gv 0) pe_int (fun _ _ => rfl)) pe_int (nomark _)) (pw_and1 (pt_cmpG op_gtG (pe_callB (cr_lenG (K := K)) (by rfl) B.len bt_len (pa_cons (gv 0) pa_nil)) pe_int (nomark _)))).pt
      (pss_one (ps_asg (pe_bmG (K := K) PySem.F.plainAttrs_list PySem.F.slot_list_pop PySem.F.type_list_pop mt_popG (gv 0) (pa_cons pe_int pa_nil)) (pg_sub (gv 0) pe_int set_listG)))
      pss_nil)
      (pss_cons (ps_if (pt_cmpG op_gtG (pe_ix (ixG (K := K)) (gv 0) pe_int (fun _ _ => rfl)) pe_int (nomark _))
      (pss_cons (ps_set (i := 2) sc__law_below.nd rfl (.inl rfl) (pe_op op_modG (pe_ix (ixG (K := K)) (gv 0) pe_int (fun _ _ => rfl)) (gv 1)))
      (pss_cons (ps_asg (pe_op op_divG (pe_ix (ixG (K := K)) (gv 0) pe_int (fun _ _ => rfl)) (gv 1)) (pg_sub (gv 0) pe_int set_listG))
      (pss_one (ps_ret (gv 2)))))
      pss_nil)
      (pss_cons (ps_asg (pe_op op_modG (pe_op (op_addG (K := K)) (pe_op (op_mulG (K := K)) (pe_ix (ixG (K := K)) (gv 0) pe_int (fun _ _ => rfl)) pe_int) pe_int) pe_int) (pg_sub (gv 0) pe_int set_listG))
      (pss_one (ps_ret (pe_op op_modG (pe_op op_divG (pe_ix (ixG (K := K)) (gv 0) pe_int (fun _ _ => rfl)) pe_int) (gv 1))))))), ?_⟩
    obtain ⟨sd, cur, r, rfl, hs0, hs1, hc0, hr0, hrl⟩ := hR.ex
    -- the number at hand is used up
    refine ⟨fun σ' H' => σ' = [some (.ref d), some (.int n), none] ∧ ∃ (sd cur : Int) (r : List Int), H' = upd H d (.lst (.int sd :: .int cur :: r.map V.int)) ∧ 0 ≤ sd ∧ sd < 2147483647 ∧ 0 ≤ cur ∧ (∀ z ∈ r, 0 ≤ z) ∧ r.length ≤ 100, ?_, ?_⟩
    · have same : [some (V.ref d), some (V.int n), none] = [some (V.ref d), some (V.int n), none] ∧ ∃ (sd' cur' : Int) (r' : List Int), H = upd H d (.lst (.int sd' :: .int cur' :: r'.map V.int)) ∧ 0 ≤ sd' ∧ sd' < 2147483647 ∧ 0 ≤ cur' ∧ (∀ z ∈ r', 0 ≤ z) ∧ r'.length ≤ 100 :=
        ⟨rfl, sd, cur, r, (upd_self hd).symm, hs0, hs1, hc0, hr0, hrl⟩
      refine ⟨_, _, .inl (SqL.of hd), atI_nat (j := 1) rfl, iteB ⟨fun e => ?_, fun e => iteB ⟨fun z => Bool.noConfusion z, fun _ => same⟩⟩⟩
      refine ⟨_, .inl (SqL.of hd), iteB ⟨fun e2 => ?_, fun e2 => same⟩⟩
      cases r with
      | nil => exact absurd (of_decide_eq_true e2) (by show ¬ (2 : Int) < 2; omega)
      | cons z r =>
        refine ⟨.inl ⟨rfl, _, SqL.of hd⟩, _, 2, .int z, hd, rfl, by decide, rfl, ?_⟩
        refine ⟨_, 1, upd_same, ixN_nat (k := 1) (by simp [List.eraseIdx]), rfl, sd, z, r, ?_, hs0, hs1, hr0 z (by simp), fun y hy => hr0 y (by simp [hy]), by simp at hrl; omega⟩
        rw [upd_upd]
        rfl
    · rintro σ' H' ⟨rfl, sd, cur, r, rfl, hs0, hs1, hc0, hr0, hrl⟩
      have hd1 : upd H d (.lst (.int sd :: .int cur :: r.map V.int)) d = some (.lst (.int sd :: .int cur :: r.map V.int)) := upd_same
      refine ⟨_, _, .inl (SqL.of hd1), atI_nat (j := 1) rfl, iteB ⟨fun e => ?_, fun e => ?_⟩⟩
      · refine ⟨_, _, .inl (SqL.of hd1), atI_nat (j := 1) rfl, by omega, ?_⟩
        refine ⟨_, _, .inl (SqL.of hd1), atI_nat (j := 1) rfl, ⟨by omega, by omega⟩, _, 1, hd1, ixN_nat (k := 1) (by simp), ?_⟩
        have fin := q (cur % n) (.int sd :: .int (cur / n) :: r.map V.int) (Int.emod_nonneg _ (by omega)) (Int.emod_lt_of_pos _ (by omega)) ⟨sd, cur / n, r, rfl, hs0, hs1, Int.ediv_nonneg hc0 (by omega), hr0, hrl⟩
        show Q (.int (cur % n)) (upd (upd H d _) d _)
        rw [upd_upd]
        exact fin
      · refine ⟨_, _, .inl (SqL.of hd1), atI_nat (j := 0) rfl, .inl ⟨by omega, by omega⟩, by decide, _, 0, hd1, ixN_nat (k := 0) (by simp), ?_⟩
        have hs2 : 0 ≤ (sd * 48271 + 11) % 2147483647 := Int.emod_nonneg _ (by decide)
        have hs3 : (sd * 48271 + 11) % 2147483647 < 2147483647 := Int.emod_lt_of_pos _ (by decide)
        refine ⟨_, _, .inl (SqL.of upd_same), atI_nat (j := 0) rfl, ⟨by decide, by decide⟩, by omega, ?_⟩
        have fin := q ((sd * 48271 + 11) % 2147483647 / 64 % n) (.int ((sd * 48271 + 11) % 2147483647) :: .int cur :: r.map V.int) (Int.emod_nonneg _ (by omega)) (Int.emod_lt_of_pos _ (by omega)) ⟨_, cur, r, rfl, hs2, hs3, hc0, hr0, hrl⟩
        show Q (.int ((sd * 48271 + 11) % 2147483647 / 64 % n)) (upd (upd H d _) d _)
        rw [upd_upd]
        exact fin

abbrev s__law_random : Stmt := topS 50
theorem sc__law_random : FnScope ["_law_script", "_law_salt", "_law_seed", "_law_cell"] ["_law_script", "_law_salt"] (defScope s__law_random) := ⟨rfl, rfl, rfl, by decide +kernel, rfl, by decide +kernel, by decide +kernel⟩

def sp__law_random (K : PySem.W.Frag) : Sp := fun vs H Q _ => ∃ (a : Addr) (salt : Int) (ns : List Int), vs = [.ref a, .int salt] ∧ SqL K H a (ns.map V.int) ∧ ns.length ≤ 63 ∧ 0 ≤ salt ∧ salt < 2147483647 ∧
  ∀ H' d ys, Same H H' → H d = none → H' d = some (.lst ys) → Rnd ys → Q (.ref d) H'
theorem ok__law_random {f : Addr} {fd : FuncData} (F : Fun K "_law_random" "_law_random" s__law_random f fd) (B : Bi mg) : FnOk P w K mg base CX0 1 f fd ["_law_script", "_law_salt"] (sp__law_random K) := by
  refine F.ok sc__law_random (fun vs H Q E h => ?_) (fun cdv A outer s H vs Q E hr h => ?_)
  · obtain ⟨d, n, xs, rfl, _⟩ := h
    rfl
  · obtain ⟨a, salt, ns, rfl, hS, hl, h1, h2, q⟩ := h
    refine ⟨_, (pss_cons (ps_set (i := 2) sc__law_random.nd rfl (.inl rfl) (gv 1))
      (pss_cons (ps_for PassesOwn.never rfl (pi_seqG (K := K) (gv 0)) (pg_name (i := 3) sc__law_random.nd rfl (.inl rfl))
      (pss_one (ps_set (i := 2) sc__law_random.nd rfl (.inl rfl) (pe_op op_modG (pe_op (op_addG (K := K)) (pe_op (op_mulG (K := K)) (gv 2) pe_int) (pe_callB cr_absG (by rfl) B.abs bt_abs (pa_cons (gv 3) pa_nil))) pe_int))))
      (pss_one (ps_ret (pe_op (op_addG (K := K)) (pe_lst (pa_cons (gv 2) (pa_cons pe_int pa_nil))) (pe_lc (own := [("_law_cell", 3)]) (by rfl) sc__law_random.nd (pi_seqG (K := K) (gv 0)) (blkOk_by (N := ["_law_script", "_law_salt", "_law_seed", "_law_cell"]) (sc := defScope s__law_random) (by decide +kernel)) (fun _ _ _ _ _ => (pg_name (i := 3) sc__law_random.nd rfl (.inl rfl))) (fun _ _ _ _ _ => pts_one (pt_cmpG op_geG (gv 3) (pe_op op_powG pe_int pe_int) (nomark _))) (fun _ _ _ _ _ => (gv 3)))))))), ?_⟩
    refine .inl ⟨_, hS, for_list (xs := ns.map V.int) (fun i σ H' => ∃ sd y, σ = [some (.ref a), some (.int salt), some (.int sd), y] ∧ H' = H ∧ 0 ≤ sd ∧ sd < 2147483647) ⟨salt, none, rfl, rfl, h1, h2⟩ ?_ ?_ ?_⟩
    · rintro i σ H' hi ⟨sd, y, rfl, rfl, _⟩
      exact hS
    · rintro i x σ H' hx ⟨sd, y, rfl, rfl, hs0, hs1⟩
      rw [List.getElem?_map] at hx
      obtain ⟨z, hz, rfl⟩ := Option.map_eq_some_iff.mp hx
      refine ⟨.inl ⟨by omega, by omega⟩, by decide, _, _, rfl, rfl, Int.emod_nonneg _ (by decide), Int.emod_lt_of_pos _ (by decide)⟩
    · rintro σ H' ⟨sd, y, rfl, rfl, hs0, hs1⟩
      refine ⟨by show 2 ≤ sizeLine; decide, fun p hp => .inl ⟨_, (same_upd hp).seq hS, fun D hD => ?_⟩⟩
      have hpD : p ≠ D := fun e => by rw [← e, upd_same] at hD; cases hD
      refine lc_list (xs := ns.map V.int) (fun i H1 => Same H' H1 ∧ H1 p = some (.lst [.int sd, .int 0]) ∧ ∃ r : List Int, H1 D = some (.lst (r.map V.int)) ∧ (∀ z ∈ r, 0 ≤ z) ∧ r.length ≤ i) ?_ ?_ ?_ ?_
      · exact ⟨(same_upd hp).trans (same_upd hD), by rw [upd_ne hpD]; exact upd_same, [], upd_same, by simp, by simp⟩
      · rintro i H1 hi ⟨hsm, _⟩
        exact hsm.seq hS
      · rintro i x H1 hx ⟨hsm, hp1, r, hD1, hr0, hrl⟩
        rw [List.getElem?_map] at hx
        obtain ⟨z, hz, rfl⟩ := Option.map_eq_some_iff.mp hx
        have hi : i < ns.length := (List.getElem?_eq_some_iff.mp hz).1
        refine ⟨rfl, ⟨by decide, by decide, by decide⟩, iteB ⟨fun e => ?_, fun e => ⟨hsm, hp1, r, hD1, hr0, by omega⟩⟩⟩
        refine ⟨_, hD1, small1000 (by rw [List.length_map]; omega), fun b o e1 => ?_, ?_, r ++ [z], ?_, ?_, ?_⟩
        · have hb : b ≠ D := fun e2 => by
            have : H' D = none := (same_upd hp).free hD
            rw [← e2, e1] at this; cases this
          rw [upd_ne hb]
          exact hsm b o e1
        · rw [upd_ne hpD]; exact hp1
        · rw [upd_same, List.map_append]; rfl
        · intro y hy
          rcases List.mem_append.mp hy with hy | hy
          · exact hr0 y hy
          · rw [List.mem_singleton.mp hy]
            have e3 := of_decide_eq_true e
            have e4 : (10 : Int) ^ (18 : Int).toNat ≤ z := e3
            have e5 : (10 : Int) ^ (18 : Int).toNat = 1000000000000000000 := by decide
            omega
        · simp; omega
      · rintro H1 ⟨hsm, hp1, r, hD1, hr0, hrl⟩
        refine .inl ⟨_, _, hp1, hD1, ?_, fun g hg => ?_⟩
        · rw [List.length_map]
          rw [List.length_map] at hrl
          show 2 + r.length ≤ 1000000
          omega
        · refine q _ g _ (hsm.trans (same_upd hg)) (hsm.free hg) upd_same ⟨sd, 0, r, rfl, hs0, hs1, by decide, hr0, ?_⟩
          rw [List.length_map] at hrl
          omega

abbrev s__law_sizes : Stmt := topS 53
theorem sc__law_sizes : FnScope ["_law_d", "_law_limit", "_law_largest", "_law_color"] ["_law_d", "_law_limit"] (defScope s__law_sizes) := ⟨rfl, rfl, rfl, by decide +kernel, rfl, by decide +kernel, by decide +kernel⟩

/-- sizes that are valid -/
structure OkZ (zs : List Int) : Prop where
  pos : 1 ≤ zs.length
  six : zs.length ≤ 6
  all : ∀ z ∈ zs, 1 ≤ z ∧ z ≤ 4
theorem at_234 {r : Int} (h0 : 0 ≤ r) (h1 : r < 3) : atI [V.int 2, V.int 3, V.int 4] r = some (.int (r + 2)) := by
  have e : r = 0 ∨ r = 1 ∨ r = 2 := by omega
  rcases e with rfl | rfl | rfl <;> rfl
def sp__law_sizes (K : PySem.W.Frag) : Sp := fun vs H Q _ => ∃ (d : Addr) (n : Int) (xs : List V), vs = [.ref d, .int n] ∧ H d = some (.lst xs) ∧ Rnd xs ∧ 1 ≤ n ∧ n ≤ 6 ∧
  ∀ (H' : Hp) (a : Addr) (ys : List V) (zs : List Int), SameB d H H' → H' d = some (.lst ys) → Rnd ys → H a = none → H' a = some (.tup (zs.map V.int)) → OkZ zs → (zs.length : Int) ≤ n → Q (.ref a) H'
theorem ok__law_sizes {f : Addr} {fd : FuncData} (F : Fun K "_law_sizes" "_law_sizes" s__law_sizes f fd) (B : Bi mg) (C__law_below : Cal P w K mg base CX0 1 "_law_below" ["_law_d", "_law_limit"] (sp__law_below K)) : FnOk P w K mg base CX0 2 f fd ["_law_d", "_law_limit"] (sp__law_sizes K) := by
  refine F.ok sc__law_sizes (fun vs H Q E h => ?_) (fun cdv A outer s H vs Q E hr h => ?_)
  · obtain ⟨d, n, xs, rfl, _⟩ := h
    rfl
  · obtain ⟨d, n, xs, rfl, hd, hR, h1, h2, q⟩ := h
    refine ⟨_, (pss_cons (ps_set (i := 2) sc__law_sizes.nd rfl (.inr rfl) (pe_ix (ixG (K := K)) (pe_lst (pa_cons pe_int (pa_cons pe_int (pa_cons pe_int pa_nil)))) (pe_cal C__law_below (hr.mono (by decide)) pass0 (pa_cons (gv 0) (pa_cons pe_int pa_nil))) (fun _ _ => rfl)))
      (pss_one (ps_ret (pe_callTy (cr_tupleG (K := K)) (by rfl) B.tuple bt_tuple (pa_cons (pe_lc (own := [("_law_color", 3)]) (by rfl) sc__law_sizes.nd (pi_range1 (by rfl) B.range (pa_cons (pe_op (op_addG (K := K)) pe_int (pe_cal C__law_below (hr.mono (by decide)) pass0 (pa_cons (gv 0) (pa_cons (gv 1) pa_nil)))) pa_nil)) (blkOk_by (N := ["_law_d", "_law_limit", "_law_largest", "_law_color"]) (sc := defScope s__law_sizes) (by decide +kernel)) (fun _ _ _ _ _ => (pg_name (i := 3) sc__law_sizes.nd rfl (.inl rfl))) (fun _ _ _ _ _ => pts_nil) (fun _ _ _ _ _ => (pe_op (op_addG (K := K)) pe_int (pe_cal C__law_below (hr.mono (by decide)) pass0 (pa_cons (gv 0) (pa_cons (gv 2) pa_nil)))))) pa_nil))))), ?_⟩
    refine ⟨by show 3 ≤ sizeLine; decide, fun p hp => ?_⟩
    have hdp : d ≠ p := ne_of_none hd hp
    refine ⟨d, 3, xs, rfl, by rw [upd_ne hdp]; exact hd, hR, by decide, by decide, fun r ys hr0 hr1 hR1 => ?_⟩
    have s1 : SameB d H (upd (upd H p (.lst [.int 2, .int 3, .int 4])) d (.lst ys)) := (SameB.of (same_upd hp)).d
    refine ⟨_, _, .inl (SqL.of (by rw [upd_ne hdp.symm]; exact upd_same)), at_234 hr0 hr1, ?_⟩
    refine ⟨d, n, ys, rfl, upd_same, hR1, h1, by omega, fun r2 ys2 hr2 hr3 hR2 => ?_⟩
    refine ⟨_, rfl, by omega, by omega, fun D hD => ?_⟩
    have hDd : D ≠ d := fun e => by rw [e, upd_same] at hD; cases hD
    have hD0 : H D = none := (s1.d).free hD hDd
    refine lc_range (fun i H1 => SameB d H H1 ∧ (∃ zs, H1 d = some (.lst zs) ∧ Rnd zs) ∧ ∃ zs : List Int, H1 D = some (.lst (zs.map V.int)) ∧ zs.length = i ∧ ∀ z ∈ zs, 1 ≤ z ∧ z ≤ 4) ?_ ?_ ?_
    · exact ⟨s1.d.at hD0, ⟨ys2, by rw [upd_ne hDd.symm]; exact upd_same, hR2⟩, [], upd_same, rfl, by simp⟩
    · rintro i H1 hi ⟨hsm, ⟨ws, hd1, hR3⟩, zs, hD1, hl, hz⟩
      refine ⟨rfl, ?_⟩
      refine ⟨d, r + 2, ws, rfl, hd1, hR3, by omega, by omega, fun r3 ys3 hr4 hr5 hR4 => ?_⟩
      refine ⟨_, by rw [upd_ne hDd]; exact hD1, small1000 (by rw [List.length_map]; omega), hsm.d.at hD0, ⟨ys3, by rw [upd_ne hDd.symm]; exact upd_same, hR4⟩, zs ++ [1 + r3], by rw [upd_same, List.map_append]; rfl, by simp [hl], fun z hz2 => ?_⟩
      rcases List.mem_append.mp hz2 with hz3 | hz3
      · exact hz z hz3
      · rw [List.mem_singleton.mp hz3]; omega
    · rintro H1 ⟨hsm, ⟨ws, hd1, hR3⟩, zs, hD1, hl, hz⟩
      refine ⟨_, SqL.of hD1, fun l hl2 => ?_⟩
      have hld : d ≠ l := ne_of_none hd1 hl2
      have hl0 : H l = none := hsm.free hl2 hld.symm
      exact q _ l ws zs (hsm.at hl0) (by rw [upd_ne hld]; exact hd1) hR3 hl0 upd_same ⟨by omega, by omega, hz⟩ (by omega)

abbrev s__law_row : Stmt := topS 54
theorem sc__law_row : FnScope ["_law_d", "_law_sizes_here", "_law_limit", "_law_colors", "_law_row_here", "_law_style", "_law_step", "_law_bead", "_law_at", "_law_some"] ["_law_d", "_law_sizes_here", "_law_limit"] (defScope s__law_row) := ⟨rfl, rfl, rfl, by decide +kernel, rfl, by decide +kernel, by decide +kernel⟩

/-- a row over the colors of zs -/
def OkR (zs : List Int) (l : List Nat) : Prop := ∀ k ∈ l, 97 ≤ k ∧ k < 97 + zs.length
theorem OkR.app {zs : List Int} {l m : List Nat} (h : OkR zs l) (h2 : OkR zs m) : OkR zs (l ++ m) := fun k hk => (List.mem_append.mp hk).elim (h k) (h2 k)
theorem OkR.take {zs : List Int} {l : List Nat} (h : OkR zs l) (n : Nat) : OkR zs (l.take n) := fun k hk => h k (List.mem_of_mem_take hk)
theorem OkR.drop {zs : List Int} {l : List Nat} (h : OkR zs l) (n : Nat) : OkR zs (l.drop n) := fun k hk => h k (List.mem_of_mem_drop hk)
theorem at_abc {r : Int} {m : Nat} (h0 : 0 ≤ r) (h1 : r < m) (h2 : m ≤ 6) : atI (abc.take m) r = some (97 + r.toNat) := by
  obtain ⟨j, rfl⟩ := Int.eq_ofNat_of_zero_le h0
  refine atI_nat ?_
  have hj : j < m := by omega
  rw [List.getElem?_take_of_lt hj]
  have e : j = 0 ∨ j = 1 ∨ j = 2 ∨ j = 3 ∨ j = 4 ∨ j = 5 := by omega
  rcases e with rfl | rfl | rfl | rfl | rfl | rfl <;> rfl
theorem abc_len {m : Nat} (h : m ≤ 6) : (abc.take m).length = m := by
  rw [List.length_take]
  show min m 6 = m
  omega
def sp__law_row (K : PySem.W.Frag) : Sp := fun vs H Q _ => ∃ (d a : Addr) (n : Int) (xs : List V) (zs : List Int), vs = [.ref d, .ref a, .int n] ∧ H d = some (.lst xs) ∧ Rnd xs ∧ SqT K H a (zs.map V.int) ∧ OkZ zs ∧ 0 ≤ n ∧ n ≤ 60 ∧
  ∀ (H' : Hp) (ys : List V) (l : List Nat), SameB d H H' → H' d = some (.lst ys) → Rnd ys → OkR zs l → (l.length : Int) ≤ n → Q (.str (S l)) H'
theorem ok__law_row {f : Addr} {fd : FuncData} (F : Fun K "_law_row" "_law_row" s__law_row f fd) (B : Bi mg) (C__law_below : Cal P w K mg base CX0 1 "_law_below" ["_law_d", "_law_limit"] (sp__law_below K)) : FnOk P w K mg base CX0 2 f fd ["_law_d", "_law_sizes_here", "_law_limit"] (sp__law_row K) := by
  refine F.ok sc__law_row (fun vs H Q E h => ?_) (fun cdv A outer s H vs Q E hr h => ?_)
  · obtain ⟨d, a, n, xs, zs, rfl, _⟩ := h
    rfl
  · obtain ⟨d, a, n, xs, zs, rfl, hd, hR, hT, hZ, h1, h2, q⟩ := h
    refine ⟨_, (pss_cons (ps_par (i := 3) (j := 4) rfl sc__law_row.nd rfl rfl (by decide) rfl rfl (pa_cons (pe_slice (slG (K := K)) (pe_strC [97, 98, 99, 100, 101, 102] (by decide +kernel)) po_none (po_someG (pe_callB (cr_lenG (K := K)) (by rfl) B.len bt_len (pa_cons (gv 1) pa_nil)))) (pa_cons (pe_strC [] (by decide +kernel)) pa_nil)) rfl)
      (pss_cons (ps_set (i := 5) sc__law_row.nd rfl (.inl rfl) (pe_cal C__law_below (hr.mono (by decide)) pass0 (pa_cons (gv 0) (pa_cons pe_int pa_nil))))
      (pss_cons (ps_for PassesOwn.never rfl (pi_range1 (by rfl) B.range (pa_cons (pe_cal C__law_below (hr.mono (by decide)) pass0 (pa_cons (gv 0) (pa_cons (pe_op (op_addG (K := K)) (gv 2) pe_int) pa_nil))) pa_nil)) (pg_name (i := 6) sc__law_row.nd rfl (.inl rfl))
      (pss_cons (ps_set (i := 7) sc__law_row.nd rfl (.inl rfl) (pe_ix (ixG (K := K)) (gv 3) (pe_cal C__law_below (hr.mono (by decide)) pass0 (pa_cons (gv 0) (pa_cons (pe_callB (cr_lenG (K := K)) (by rfl) B.len bt_len (pa_cons (gv 3) pa_nil)) pa_nil))) (fun _ _ => rfl)))
      (pss_cutG (ps_if (pw_and (pt_cmpG (op_eqG (K := K) hr.units) (gv 5) pe_int (nomark _)) (pw_and (pt_cmpG (op_neG (K := K) hr.units) (gv 4) (pe_strC [] (by decide +kernel)) (nomark _)) (pw_and1 (pt_cmpG (op_eqG (K := K) hr.units) (pe_cal C__law_below (hr.mono (by decide)) pass0 (pa_cons (gv 0) (pa_cons pe_int pa_nil))) pe_int (nomark _))))).pt
      (pss_one (ps_set (i := 7) sc__law_row.nd rfl (.inl rfl) (pe_ix (ixG (K := K)) (gv 4) (pe_un un_negG pe_int) (fun _ _ => rfl))))
      pss_nil)
      (pss_cutG (ps_set (i := 8) sc__law_row.nd rfl (.inl rfl) (pe_ifExp (pt_cmpG (op_eqG (K := K) hr.units) (gv 5) pe_int (nomark _)) (pe_cal C__law_below (hr.mono (by decide)) pass0 (pa_cons (gv 0) (pa_cons (pe_op (op_addG (K := K)) (pe_callB (cr_lenG (K := K)) (by rfl) B.len bt_len (pa_cons (gv 4) pa_nil)) pe_int) pa_nil))) (pe_callB (cr_lenG (K := K)) (by rfl) B.len bt_len (pa_cons (gv 4) pa_nil))))
      (pss_cutG (ps_set (i := 9) sc__law_row.nd rfl (.inl rfl) (pe_op (op_mulG (K := K)) (gv 7) (pe_ifExp (pw_and (pt_cmpG (op_eqG (K := K) hr.units) (gv 5) pe_int (nomark _)) (pw_and1 (pt_cmpG op_gtG (pe_cal C__law_below (hr.mono (by decide)) pass0 (pa_cons (gv 0) (pa_cons pe_int pa_nil))) pe_int (nomark _)))).pt (pe_ix (ixG (K := K)) (gv 1) (pe_bmG (K := K) PySem.F.plainAttrs_str PySem.F.slot_str_index PySem.F.type_str_index mt_indexG (pe_strC [97, 98, 99, 100, 101, 102] (by decide +kernel)) (pa_cons (gv 7) pa_nil)) (fun _ _ => rfl)) pe_int)))
      (pss_one (ps_set (i := 4) sc__law_row.nd rfl (.inl rfl) (pe_op (op_addG (K := K)) (pe_op (op_addG (K := K)) (pe_slice (slG (K := K)) (gv 4) po_none (po_someG (gv 8))) (gv 9)) (pe_slice (slG (K := K)) (gv 4) (po_someG (gv 8)) po_none)))))))))
      (pss_one (ps_ret (pe_slice (slG (K := K)) (gv 4) po_none (po_someG (gv 2)))))))), ?_⟩
    have hp := hZ.pos
    have h6 := hZ.six
    refine ⟨_, .inr hT, by decide, _, _, rfl, ?_⟩
    rw [List.length_map, cutL_to _ (by omega), Int.toNat_natCast]
    refine ⟨d, 3, xs, rfl, hd, hR, by decide, by decide, fun st ys hs0 hs1 hR1 => ?_⟩
    refine ⟨d, n + 1, ys, rfl, upd_same, hR1, by omega, by omega, fun r ys2 hr0 hr1 hR2 => ?_⟩
    refine ⟨_, rfl, by omega, by omega, for_range (fun i σ H' => ∃ l y6 y7 y8 y9, σ = [some (.ref d), some (.ref a), some (.int n), some (.str (S (abc.take zs.length))), some (.str (S l)), some (.int st), y6, y7, y8, y9] ∧
      SameB d H H' ∧ (∃ ys, H' d = some (.lst ys) ∧ Rnd ys) ∧ OkR zs l ∧ l.length ≤ 4 * i) ⟨[], none, none, none, none, rfl, (SameB.refl d H).d.d, ⟨ys2, upd_same, hR2⟩, by simp [OkR], by simp⟩ ?_ ?_⟩
    · rintro i σ H' hi ⟨l, y6, y7, y8, y9, rfl, hsm, ⟨ws, hd1, hR3⟩, hl, hll⟩
      have hlen : l.length ≤ 400 := by omega
      -- the bead
      refine ⟨by rw [tl_S, abc_len h6]; omega, d, _, ws, rfl, hd1, hR3, ?_, ?_, fun b ys3 hb0 hb1 hR4 => ?_⟩
      · show 1 ≤ (((abc.take zs.length).length : Nat) : Int)
        rw [abc_len h6]; omega
      · show (((abc.take zs.length).length : Nat) : Int) ≤ 1000000000
        rw [abc_len h6]; omega
      have hb2 : b < (zs.length : Nat) := by
        have : b < (((abc.take zs.length).length : Nat) : Int) := hb1
        rwa [abc_len h6] at this
      refine ⟨_, by rw [tl_S, abc_len h6]; omega, at_abc hb0 hb2 h6, ?_⟩
      -- behind the first if
      refine ⟨fun σ2 H2 => ∃ k y6 y8 y9, σ2 = [some (.ref d), some (.ref a), some (.int n), some (.str (S (abc.take zs.length))), some (.str (S l)), some (.int st), y6, some (.str (S [k])), y8, y9] ∧
        SameB d H H2 ∧ (∃ ys, H2 d = some (.lst ys) ∧ Rnd ys) ∧ 97 ≤ k ∧ k < 97 + zs.length, ?_, ?_⟩
      · refine iteB ⟨fun e1 => iteB ⟨fun e2 => ?_, fun e2 => ⟨_, _, _, _, rfl, hsm.d, ⟨_, upd_same, hR4⟩, by omega, by omega⟩⟩, fun e1 => ⟨_, _, _, _, rfl, hsm.d, ⟨_, upd_same, hR4⟩, by omega, by omega⟩⟩
        refine ⟨d, 2, ys3, rfl, upd_same, hR4, by decide, by decide, fun r3 ys4 hr3 hr4 hR5 => iteB ⟨fun e3 => ?_, fun e3 => ⟨_, _, _, _, rfl, hsm.d.d, ⟨_, upd_same, hR5⟩, by omega, by omega⟩⟩⟩
        have hne : l ≠ [] := fun e => by subst e; simp at e2
        obtain ⟨l', k, rfl⟩ : ∃ l' k, l = l' ++ [k] := ⟨l.dropLast, l.getLast hne, (List.dropLast_concat_getLast hne).symm⟩
        have hk := hl k (by simp)
        exact ⟨k, by rw [tl_S]; omega, atI_last l' k, k, _, _, _, rfl, hsm.d.d, ⟨_, upd_same, hR5⟩, hk.1, hk.2⟩
      · rintro σ2 H2 ⟨k, y6, y8, y9, rfl, hsm2, ⟨ws2, hd2, hR5⟩, hk0, hk1⟩
        -- the place
        refine ⟨fun σ3 H3 => ∃ (pl : Int) (y6 y9 : Option V), σ3 = [some (.ref d), some (.ref a), some (.int n), some (.str (S (abc.take zs.length))), some (.str (S l)), some (.int st), y6, some (.str (S [k])), some (.int pl), y9] ∧
          SameB d H H3 ∧ (∃ ys, H3 d = some (.lst ys) ∧ Rnd ys) ∧ 0 ≤ pl ∧ pl ≤ l.length, ?_, ?_⟩
        · refine iteB ⟨fun e1 => ?_, fun e1 => ⟨by rw [tl_S]; omega, _, _, _, rfl, hsm2, ⟨_, hd2, hR5⟩, by omega, Int.le_refl _⟩⟩
          refine ⟨by rw [tl_S]; omega, d, _, ws2, rfl, hd2, hR5, ?_, ?_, fun r3 ys4 hr3 hr4 hR6 => ⟨_, _, _, rfl, hsm2.d, ⟨_, upd_same, hR6⟩, hr3, ?_⟩⟩
          · rw [tl_S]; omega
          · rw [tl_S]; omega
          · rw [tl_S] at hr4; omega
        · rintro σ3 H3 ⟨pl, y6, y9, rfl, hsm3, ⟨ws3, hd3, hR6⟩, hp0, hp1⟩
          -- what is put in
          refine ⟨fun σ4 H4 => ∃ (j : Nat) (y6 : Option V), σ4 = [some (.ref d), some (.ref a), some (.int n), some (.str (S (abc.take zs.length))), some (.str (S l)), some (.int st), y6, some (.str (S [k])), some (.int pl), some (.str (S (repL j [k])))] ∧
            SameB d H H4 ∧ (∃ ys, H4 d = some (.lst ys) ∧ Rnd ys) ∧ j ≤ 4, ?_, ?_⟩
          · have one : ∀ H4 ys4, SameB d H H4 → H4 d = some (.lst ys4) → Rnd ys4 → gMul K (.str (S [k])) (.int 1) H4 (fun x H1 => gName 9 x [some (.ref d), some (.ref a), some (.int n), some (.str (S (abc.take zs.length))), some (.str (S l)), some (.int st), y6, some (.str (S [k])), some (.int pl), y9] H1 fun σ4 H4 => ∃ (j : Nat) (y6 : Option V), σ4 = [some (.ref d), some (.ref a), some (.int n), some (.str (S (abc.take zs.length))), some (.str (S l)), some (.int st), y6, some (.str (S [k])), some (.int pl), some (.str (S (repL j [k])))] ∧
                SameB d H H4 ∧ (∃ ys, H4 d = some (.lst ys) ∧ Rnd ys) ∧ j ≤ 4) := fun H4 ys4 a1 a2 a3 =>
              ⟨⟨by decide, by decide, by show 1 * 1 ≤ 1000000; decide⟩, 1, _, rfl, a1, ⟨_, a2, a3⟩, by decide⟩
            refine iteB ⟨fun e1 => ?_, fun e1 => one _ _ hsm3 hd3 hR6⟩
            refine ⟨d, 3, ws3, rfl, hd3, hR6, by decide, by decide, fun r3 ys4 hr3 hr4 hR7 => iteB ⟨fun e2 => ?_, fun e2 => one _ _ hsm3.d upd_same hR7⟩⟩
            have hz := hZ.all (szI zs k) (by
              unfold szI
              rw [List.getD_eq_getElem?_getD, List.getElem?_eq_getElem (by omega)]
              exact List.getElem_mem _)
            refine ⟨rfl, k, rfl, rfl, ⟨hk0, by omega⟩, _, _, .inr (hsm3.d.tup hd hT), at_szI hk0 hk1, ⟨by omega, by omega, ?_⟩, (szI zs k).toNat, _, rfl, hsm3.d, ⟨_, upd_same, hR7⟩, by omega⟩
            show 1 * (szI zs k).toNat ≤ 1000000
            omega
          · rintro σ4 H4 ⟨j, y6, rfl, hsm4, hd4, hj⟩
            have e1 : cutL l none (some pl) = l.take pl.toNat := cutL_to l hp0
            have e2 : cutL l (some pl) none = l.drop pl.toNat := cutL_from l hp0
            have e3 : repL j [k] = List.replicate j k := repL_one j k
            refine ⟨by rw [tl_S]; omega, ?_, by rw [tl_S]; omega, ?_, ?_⟩
            · show (cutL l none (some pl)).length + (repL j [k]).length ≤ 1000000
              rw [e1, e3, List.length_take, List.length_replicate]; omega
            · show (cutL l none (some pl) ++ repL j [k]).length + (cutL l (some pl) none).length ≤ 1000000
              rw [e1, e2, e3, List.length_append, List.length_take, List.length_replicate, List.length_drop]; omega
            · refine ⟨cutL l none (some pl) ++ repL j [k] ++ cutL l (some pl) none, _, _, _, _, rfl, hsm4, hd4, ?_, ?_⟩
              · rw [e1, e2, e3]
                exact ((hl.take _).app fun y hy => by rw [List.eq_of_mem_replicate hy]; exact ⟨hk0, hk1⟩).app (hl.drop _)
              · rw [e1, e2, e3, List.length_append, List.length_append, List.length_take, List.length_replicate, List.length_drop]; omega
    · rintro σ H' ⟨l, y6, y7, y8, y9, rfl, hsm, ⟨ws, hd1, hR3⟩, hl, hll⟩
      refine ⟨by rw [tl_S]; omega, ?_⟩
      show Q (.str (S (cutL l none (some n)))) H'
      rw [cutL_to l h1]
      exact q H' ws _ hsm hd1 hR3 (hl.take _) (by rw [List.length_take]; omega)

-- NEEDS _law_sizes _law_row
abbrev s__law_small : Stmt := topS 55
theorem sc__law_small : FnScope ["_law_d", "_law_sizes_here"] ["_law_d"] (defScope s__law_small) := ⟨rfl, rfl, rfl, by decide +kernel, rfl, by decide +kernel, by decide +kernel⟩

def sp__law_small (K : PySem.W.Frag) : Sp := fun vs H Q _ => ∃ (d : Addr) (xs : List V), vs = [.ref d] ∧ H d = some (.lst xs) ∧ Rnd xs ∧ ∀ (H' : Hp) (T a : Addr) (ys : List V) (zs : List Int) (l : List Nat), SameB d H H' → H' d = some (.lst ys) → Rnd ys → H' T = some (.tup [.ref a, .str (S l)]) → H' a = some (.tup (zs.map V.int)) → OkZ zs → zs.length ≤ 3 → OkR zs l → l.length ≤ 7 → Q (.ref T) H'
theorem ok__law_small {f : Addr} {fd : FuncData} (F : Fun K "_law_small" "_law_small" s__law_small f fd) (B : Bi mg) (C__law_sizes : Cal P w K mg base CX0 2 "_law_sizes" ["_law_d", "_law_limit"] (sp__law_sizes K)) (C__law_row : Cal P w K mg base CX0 2 "_law_row" ["_law_d", "_law_sizes_here", "_law_limit"] (sp__law_row K)) : FnOk P w K mg base CX0 3 f fd ["_law_d"] (sp__law_small K) := by
  refine F.ok sc__law_small (fun vs H Q E h => ?_) (fun cdv A outer s H vs Q E hr h => ?_)
  · obtain ⟨d, xs, rfl, _⟩ := h
    rfl
  obtain ⟨d, xs, rfl, hd, hR, q⟩ := h
  refine ⟨_, (pss_cons (ps_set (i := 1) sc__law_small.nd rfl (.inl rfl) (pe_cal C__law_sizes (hr.mono (by decide)) pass0 (pa_cons (gv 0) (pa_cons pe_int pa_nil))))
      (pss_one (ps_ret (pe_tup (pa_cons (gv 1) (pa_cons (pe_cal C__law_row (hr.mono (by decide)) pass0 (pa_cons (gv 0) (pa_cons (gv 1) (pa_cons pe_int pa_nil)))) pa_nil)))))), ?_⟩
  refine ⟨d, 3, xs, rfl, hd, hR, by decide, by decide, fun H2 t ys2 zs b2 hd2 hR2 ht0 ht hZ hz => ?_⟩
  refine ⟨d, t, 7, ys2, zs, rfl, hd2, hR2, SqT.of ht, hZ, by decide, by decide, fun H3 ys3 l b3 hd3 hR3 hL hl3 => ⟨by show 2 ≤ sizeLine; decide, fun T hT => ?_⟩⟩
  have s := same_upd (o := .tup [.ref t, .str (S l)]) hT
  exact q _ T t ys3 zs l ((b2.trans b3).trans (SameB.of s)) (s _ _ hd3) hR3 upd_same (s _ _ (b3 _ _ (ne_of ht hd2 (by intro z; cases z)) ht)) hZ (by omega) hL (by omega)

-- NEEDS size_of _law_sizes _law_row
abbrev s_is_int_in : Stmt := topS 14
theorem sc_is_int_in : FnScope ["value", "low", "high"] ["value", "low", "high"] (defScope s_is_int_in) := ⟨rfl, rfl, rfl, by decide +kernel, rfl, by decide +kernel, by decide +kernel⟩

/-- values that are no integers -/
def NoInt (K : PySem.W.Frag) (H : Hp) (v : V) : Prop := match v with
  | .bl _ => True
  | .str _ => True
  | .non => True
  | .ref p => (∃ xs, SqL K H p xs) ∨ (∃ xs, SqT K H p xs)
  | _ => False
def sp_is_int_in (K : PySem.W.Frag) : Sp := fun vs H Q _ => ∃ (v : V) (lo hi : Int), vs = [v, .int lo, .int hi] ∧ ((∃ i, v = .int i ∧ Q (.bl (decide (lo ≤ i ∧ i ≤ hi))) H) ∨ (NoInt K H v ∧ Q (.bl false) H))
theorem ok_is_int_in {f : Addr} {fd : FuncData} (F : Fun K "is_int_in" "is_int_in" s_is_int_in f fd) (B : Bi mg) : FnOk P w K mg base CX0 1 f fd ["value", "low", "high"] (sp_is_int_in K) := by
  refine F.ok sc_is_int_in (fun vs H Q E h => ?_) (fun cdv A outer s H vs Q E hr h => ?_)
  · obtain ⟨v, lo, hi, rfl, _⟩ := h
    rfl
  · obtain ⟨v, lo, hi, rfl, h⟩ := h
    refine ⟨_, (pss_one (ps_ret (pe_andG (pe_callB (cr_isiG (K := K) .kint) (by rfl) B.isinstance bt_isinstance (pa_cons (gv 0) (pa_cons (pe_bltn (v := .ty "int") (by rfl) B.int bt_int rfl) pa_nil))) (pe_andG (pe_notG (pe_callB (cr_isiG (K := K) .kbool) (by rfl) B.isinstance bt_isinstance (pa_cons (gv 0) (pa_cons (pe_bltn (v := .ty "bool") (by rfl) B.bool bt_bool rfl) pa_nil)))) (pe_one (pe_chainG op_leG op_leG (gv 1) (gv 0) (gv 2))))))), ?_⟩
    rcases h with ⟨i, rfl, q⟩ | ⟨hn, q⟩
    · refine ⟨rfl, rfl, iteB ⟨fun e => ?_, fun e => ?_⟩⟩
      · have e' : lo ≤ i := of_decide_eq_true e
        have e2 : decide (lo ≤ i ∧ i ≤ hi) = decide (i ≤ hi) := by rw [Bool.eq_iff_iff]; simp [e']
        rw [e2] at q
        exact q
      · have e' : ¬ lo ≤ i := fun z => e (decide_eq_true z)
        have e2 : decide (lo ≤ i ∧ i ≤ hi) = false := decide_eq_false fun z => e' z.1
        rw [e2] at q
        exact q
    · cases v with
      | bl b => exact ⟨rfl, rfl, q⟩
      | str z => exact ⟨rfl, q⟩
      | non => exact ⟨rfl, q⟩
      | ref p =>
        rcases hn with hn | hn
        · exact ⟨rfl, .inl ⟨hn, q⟩⟩
        · exact ⟨rfl, .inr ⟨hn, q⟩⟩
      | int i => exact hn.elim
      | _ => exact hn.elim
abbrev s_check_sizes : Stmt := topS 15
theorem sc_check_sizes : FnScope ["sizes", "position", "size"] ["sizes"] (defScope s_check_sizes) := ⟨rfl, rfl, rfl, by decide +kernel, rfl, by decide +kernel, by decide +kernel⟩

def sp_check_sizes (K : PySem.W.Frag) : Sp := fun vs H Q _ => ∃ (a : Addr) (zs : List Int), vs = [.ref a] ∧ SqT K H a (zs.map V.int) ∧ OkZ zs ∧ ∀ H', Same H H' → Q .non H'
theorem ok_check_sizes {f : Addr} {fd : FuncData} (F : Fun K "check_sizes" "check_sizes" s_check_sizes f fd) (B : Bi mg) (C_is_int_in : Cal P w K mg base CX0 1 "is_int_in" ["value", "low", "high"] (sp_is_int_in K)) (m_COLORS : ∃ t, mg "COLORS" = some (.str (S abc) t)) (m_MAX_SIZE : ∃ t, mg "MAX_SIZE" = some (.int 4 t)) : FnOk P w K mg base CX0 2 f fd ["sizes"] (sp_check_sizes K) := by
  refine F.ok sc_check_sizes (fun vs H Q E h => ?_) (fun cdv A outer s H vs Q E hr h => ?_)
  · obtain ⟨v, lo, rfl, _⟩ := h
    rfl
  · obtain ⟨a, zs, rfl, hT, hZ, q⟩ := h
    refine ⟨_, (pss_cons (ps_if (pw_or (pt_not (pt_truG (K := K) (pe_callB (cr_isiG (K := K) .ktuple) (by rfl) B.isinstance bt_isinstance (pa_cons (gv 0) (pa_cons (pe_bltn (v := .ty "tuple") (by rfl) B.tuple bt_tuple rfl) pa_nil))))) (pw_or1 (pt_cmpG (op_eqG (K := K) hr.units) (gv 0) (pe_tup pa_nil) (nomark _)))).pt
      (pss_one ps_never)
      pss_nil)
      (pss_one (ps_for PassesOwn.never rfl (pi_enumG (K := K) B.enumerate (pa_cons (gv 0) pa_nil)) (pg_nm (K := K) (is := [1, 2]) (pgs_cons (pg_name (i := 1) sc_check_sizes.nd rfl (.inl rfl)) (pgs_cons (pg_name (i := 2) sc_check_sizes.nd rfl (.inl rfl)) pgs_nil)) nm2)
      (pss_one (ps_if (pw_or (pt_cmpG (op_eqG (K := K) hr.units) (gv 1) (pe_callB (cr_lenG (K := K)) (by rfl) B.len bt_len (pa_cons (g_str m_COLORS) pa_nil)) (nomark _)) (pw_or1 (pt_not (pt_truG (K := K) (pe_cal C_is_int_in (hr.mono (by decide)) pass0 (pa_cons (gv 2) (pa_cons pe_int (pa_cons (g_int m_MAX_SIZE) pa_nil)))))))).pt
      (pss_one ps_never)
      pss_nil))))), ?_⟩
    refine ⟨rfl, .inr ⟨⟨_, hT⟩, by decide, fun p hp => ?_⟩⟩
    have hne : zs ≠ [] := fun e => by have := hZ.pos; rw [e] at this; simp at this
    have s1 : Same H (upd H p (.tup [])) := same_upd hp
    refine .inl ⟨a, p, rfl, rfl, zs.map V.int, .inr ⟨s1.tup hT, SqT.of upd_same⟩, ?_⟩
    have e0 : (zs.map V.int).isEmpty = false := by cases zs with
      | nil => exact absurd rfl hne
      | cons z r => rfl
    rw [e0]
    refine ⟨_, s1.tup hT, for_it walk_jt (fun i σ H' => ∃ y1 y2, σ = [some (.ref a), y1, y2] ∧ Same H H') ⟨none, none, rfl, s1⟩ ?_ ?_ ?_⟩
    · rintro i σ H' hi ⟨y1, y2, rfl, hs⟩
      exact hs.tup hT
    · rintro i x σ H1 H2 hi ⟨y1, y2, rfl, hs⟩ ⟨T, xs, rfl, hTn, rfl, v, hv, rfl⟩
      rw [List.length_map] at hi
      have h6 := hZ.six
      rw [List.getElem?_map] at hv
      obtain ⟨z, hz, rfl⟩ := Option.map_eq_some_iff.mp hv
      have hz1 := hZ.all z (List.mem_of_getElem? hz)
      refine ⟨_, SqT.of upd_same, by decide, iteB ⟨fun e => ?_, fun e => ?_⟩⟩
      · have e' : (i : Int) = 6 := of_decide_eq_true e
        omega
      · refine ⟨_, _, _, rfl, .inl ⟨z, rfl, ?_⟩⟩
        rw [decide_eq_true hz1]
        exact ⟨_, _, rfl, hs.trans (same_upd hTn)⟩
    · rintro σ H' ⟨y1, y2, rfl, hs⟩
      exact q H' hs
abbrev s_colors_of : Stmt := topS 16
theorem sc_colors_of : FnScope ["sizes"] ["sizes"] (defScope s_colors_of) := ⟨rfl, rfl, rfl, by decide +kernel, rfl, by decide +kernel, by decide +kernel⟩

def sp_colors_of (K : PySem.W.Frag) : Sp := fun vs H Q _ => ∃ (a : Addr) (zs : List V), vs = [.ref a] ∧ SqT K H a zs ∧ Q (.str (S (abc.take zs.length))) H
theorem ok_colors_of {f : Addr} {fd : FuncData} (F : Fun K "colors_of" "colors_of" s_colors_of f fd) (B : Bi mg) (m_COLORS : ∃ t, mg "COLORS" = some (.str (S abc) t)) : FnOk P w K mg base CX0 1 f fd ["sizes"] (sp_colors_of K) := by
  refine F.ok sc_colors_of (fun vs H Q E h => ?_) (fun cdv A outer s H vs Q E hr h => ?_)
  · obtain ⟨v, lo, rfl, _⟩ := h
    rfl
  · obtain ⟨a, zs, rfl, hT, q⟩ := h
    refine ⟨_, (pss_one (ps_ret (pe_slice (slG (K := K)) (g_str m_COLORS) po_none (po_someG (pe_callB (cr_lenG (K := K)) (by rfl) B.len bt_len (pa_cons (gv 0) pa_nil)))))), ?_⟩
    refine ⟨_, .inr hT, by decide, ?_⟩
    show Q (.str (S (cutL abc none (some _)))) H
    rw [cutL_to _ (by omega), Int.toNat_natCast]
    exact q
abbrev s_check_row : Stmt := topS 18
theorem sc_check_row : FnScope ["sizes", "row", "position", "bead"] ["sizes", "row"] (defScope s_check_row) := ⟨rfl, rfl, rfl, by decide +kernel, rfl, by decide +kernel, by decide +kernel⟩

theorem mem_abc {k m : Nat} (h : 97 ≤ k) (h2 : k < 97 + m) (h3 : m ≤ 6) : k ∈ abc.take m := by
  have e := at_abc (r := ((k - 97 : Nat) : Int)) (m := m) (by omega) (by omega) h3
  obtain ⟨j, _, hj, _⟩ := atI_get e
  have := List.mem_of_getElem? hj
  rw [show 97 + ((k - 97 : Nat) : Int).toNat = k by omega] at this
  exact this
def sp_check_row (K : PySem.W.Frag) : Sp := fun vs H Q _ => ∃ (a : Addr) (zs : List Int) (l : List Nat), vs = [.ref a, .str (S l)] ∧ SqT K H a (zs.map V.int) ∧ OkZ zs ∧ OkR zs l ∧ l.length ≤ 40 ∧ ∀ H', Same H H' → Q .non H'
theorem ok_check_row {f : Addr} {fd : FuncData} (F : Fun K "check_row" "check_row" s_check_row f fd) (B : Bi mg) (C_colors_of : Cal P w K mg base CX0 1 "colors_of" ["sizes"] (sp_colors_of K)) (m_MAX_BEADS : ∃ t, mg "MAX_BEADS" = some (.int 40 t)) : FnOk P w K mg base CX0 2 f fd ["sizes", "row"] (sp_check_row K) := by
  refine F.ok sc_check_row (fun vs H Q E h => ?_) (fun cdv A outer s H vs Q E hr h => ?_)
  · obtain ⟨v, lo, l, rfl, _⟩ := h
    rfl
  · obtain ⟨a, zs, l, rfl, hT, hZ, hR, hl, q⟩ := h
    refine ⟨_, (pss_cons (ps_if (pt_not (pt_truG (K := K) (pe_callB (cr_isiG (K := K) .kstr) (by rfl) B.isinstance bt_isinstance (pa_cons (gv 1) (pa_cons (pe_bltn (v := .ty "str") (by rfl) B.str bt_str rfl) pa_nil)))))
      (pss_one ps_never)
      pss_nil)
      (pss_one (ps_for PassesOwn.never rfl (pi_enumG (K := K) B.enumerate (pa_cons (gv 1) pa_nil)) (pg_nm (K := K) (is := [2, 3]) (pgs_cons (pg_name (i := 2) sc_check_row.nd rfl (.inl rfl)) (pgs_cons (pg_name (i := 3) sc_check_row.nd rfl (.inl rfl)) pgs_nil)) nm2)
      (pss_one (ps_if (pw_or (pt_cmpG (op_eqG (K := K) hr.units) (gv 2) (g_int m_MAX_BEADS) (nomark _)) (pw_or1 (pt_cmpG (op_notInG (K := K)) (gv 3) (pe_cal C_colors_of (hr.mono (by decide)) pass0 (pa_cons (gv 0) pa_nil)) rfl))).pt
      (pss_one ps_never)
      pss_nil))))), ?_⟩
    refine ⟨rfl, ?_⟩
    refine for_it walk_jt (fun i σ H' => ∃ y1 y2, σ = [some (.ref a), some (.str (S l)), y1, y2] ∧ Same H H') ⟨none, none, rfl, Same.refl H⟩ ?_ ?_ ?_
    · rintro i σ H' hi ⟨y1, y2, rfl, hs⟩
      trivial
    · rintro i x σ H1 H2 hi ⟨y1, y2, rfl, hs⟩ ⟨T, xs, rfl, hTn, rfl, v, hv, rfl⟩
      have h6 := hZ.six
      have hi' : i < l.length := hi
      unfold sgs at hv
      rw [List.getElem?_map] at hv
      obtain ⟨k, hk, rfl⟩ := Option.map_eq_some_iff.mp hv
      have hk1 := hR k (List.mem_of_getElem? hk)
      have s2 : Same H (upd H1 T (.tup [.int (i : Nat), .str (S [k])])) := hs.trans (same_upd hTn)
      refine ⟨_, SqT.of upd_same, iteB ⟨fun e => ?_, fun e => ?_⟩⟩
      · have e' : (i : Int) = 40 := of_decide_eq_true e
        omega
      · refine ⟨a, _, rfl, s2.tup hT, k, rfl, ?_⟩
        rw [List.length_map]
        have hm : k ∈ abc.take zs.length := mem_abc hk1.1 hk1.2 h6
        refine iteB ⟨fun e => ?_, fun e => ⟨_, _, rfl, s2⟩⟩
        exfalso
        have e2 : (!decide (k ∈ abc.take zs.length)) = true := e
        rw [decide_eq_true hm] at e2
        cases e2
    · rintro σ H' ⟨y1, y2, rfl, hs⟩
      exact q H' hs

/-! ### the scan with a stack of runs, over plain lists -/
abbrev Runs := List (Nat × List Nat)
def pre (runs : Runs) (k : Nat) : Runs := match runs with
  | [] => [(k, [])]
  | (d, ps) :: r => if d = k then (d, ps) :: r else (k, []) :: (d, ps) :: r
def addTop (p : Nat) : Runs → Runs
  | [] => []
  | (d, ps) :: r => (d, ps ++ [p]) :: r
structure Sc where
  runs : Runs
  nums : List (Option Nat)
  tot : Nat
def fill (nums : List (Option Nat)) (t : Nat) (ps : List Nat) : List (Option Nat) := ps.foldl (fun n p => n.set p (some t)) nums
def closeTop (sz : Nat → Nat) (runs : Runs) (nums : List (Option Nat)) (tot : Nat) : Sc := match runs with
  | [] => ⟨[], nums, tot⟩
  | (d, ps) :: r => if ps.length = sz d then ⟨r, fill nums tot ps, tot + 1⟩ else ⟨(d, ps) :: r, nums, tot⟩
def stepS (sz : Nat → Nat) (s : Sc) (p k : Nat) : Sc := closeTop sz (addTop p (pre s.runs k)) s.nums s.tot
def scan (sz : Nat → Nat) (n : Nat) (l : List Nat) : Sc := l.zipIdx.foldl (fun s x => stepS sz s x.2 x.1) ⟨[], List.replicate n none, 0⟩
theorem scan_take {sz : Nat → Nat} {n i k : Nat} {l : List Nat} (h : l[i]? = some k) : scan sz n (l.take (i + 1)) = stepS sz (scan sz n (l.take i)) i k := by
  have hi : i < l.length := (List.getElem?_eq_some_iff.mp h).1
  unfold scan
  rw [List.take_add_one, h, List.zipIdx_append, List.foldl_append]
  have e : (l.take i).length = i := by rw [List.length_take]; omega
  rw [e]
  simp
theorem pre_top (runs : Runs) (k : Nat) : ∃ ps r, pre runs k = (k, ps) :: r := by
  unfold pre
  split
  · exact ⟨_, _, rfl⟩
  · split
    · rename_i h
      subst h
      exact ⟨_, _, rfl⟩
    · exact ⟨_, _, rfl⟩
def Below (n : Nat) (runs : Runs) : Prop := ∀ x ∈ runs, ∀ p ∈ x.2, p < n
theorem Below.pre {n k : Nat} {runs : Runs} (h : Below n runs) : Below n (pre runs k) := by
  unfold Pk.pre
  split
  · intro x hx p hp
    rw [List.mem_singleton.mp hx] at hp
    simp at hp
  · split
    · exact h
    · intro x hx p hp
      rcases List.mem_cons.mp hx with e | hx
      · rw [e] at hp; simp at hp
      · exact h x hx p hp
theorem Below.addTop {n p : Nat} {runs : Runs} (h : Below n runs) (hp : n ≤ p) : Below (p + 1) (addTop p runs) := by
  cases runs with
  | nil => intro x hx; simp [Pk.addTop] at hx
  | cons y r =>
    intro x hx q hq
    rcases List.mem_cons.mp hx with e | hx
    · rw [e] at hq
      rcases List.mem_append.mp hq with hq | hq
      · have := h y (by simp) q hq; omega
      · rw [List.mem_singleton.mp hq]; omega
    · have := h x (by simp [hx]) q hq; omega
theorem closeTop_runs {sz : Nat → Nat} {runs : Runs} {nums : List (Option Nat)} {tot : Nat} : ∀ x ∈ (closeTop sz runs nums tot).runs, x ∈ runs := by
  unfold closeTop
  split
  · intro x hx; simp at hx
  · split
    · intro x hx; exact List.mem_cons_of_mem _ hx
    · intro x hx; exact hx
theorem scan_below {sz : Nat → Nat} {n : Nat} {l : List Nat} : ∀ i, i ≤ l.length → Below i (scan sz n (l.take i)).runs
  | 0, _ => by intro x hx; simp [scan] at hx
  | i + 1, hi => by
    have ih := scan_below (sz := sz) (n := n) (l := l) i (by omega)
    rw [scan_take (List.getElem?_eq_getElem (by omega : i < l.length))]
    intro x hx p hp
    exact (ih.pre.addTop (Nat.le_refl _)) x (closeTop_runs x hx) p hp
theorem fill_len (t : Nat) : ∀ (ps : List Nat) (nums : List (Option Nat)), (fill nums t ps).length = nums.length
  | [], _ => rfl
  | p :: ps, nums => by
    show (fill (nums.set p (some t)) t ps).length = nums.length
    rw [fill_len t ps, List.length_set]
theorem scan_len {sz : Nat → Nat} {n : Nat} {l : List Nat} : ∀ i, i ≤ l.length → (scan sz n (l.take i)).nums.length = n
  | 0, _ => by simp [scan]
  | i + 1, hi => by
    have ih := scan_len (sz := sz) (n := n) (l := l) i (by omega)
    rw [scan_take (List.getElem?_eq_getElem (by omega : i < l.length))]
    unfold stepS closeTop
    split
    · exact ih
    · split
      · rw [fill_len]; exact ih
      · exact ih
theorem fill_take (t : Nat) (nums : List (Option Nat)) {ps : List Nat} {i p : Nat} (h : ps[i]? = some p) : fill nums t (ps.take (i + 1)) = (fill nums t (ps.take i)).set p (some t) := by
  unfold fill
  rw [List.take_add_one, h, List.foldl_append]
  rfl
theorem pre_len (runs : Runs) (k : Nat) : (pre runs k).length ≤ runs.length + 1 := by
  unfold pre
  split
  · simp
  · split <;> simp
theorem scan_runs_len {sz : Nat → Nat} {n : Nat} {l : List Nat} : ∀ i, i ≤ l.length → (scan sz n (l.take i)).runs.length ≤ i
  | 0, _ => by simp [scan]
  | i + 1, hi => by
    have ih := scan_runs_len (sz := sz) (n := n) (l := l) i (by omega)
    rw [scan_take (List.getElem?_eq_getElem (by omega : i < l.length))]
    have h := pre_len (scan sz n (l.take i)).runs l[i]
    unfold stepS
    cases e : pre (scan sz n (l.take i)).runs l[i] with
    | nil => simp [addTop, closeTop]
    | cons x r =>
      rw [e] at h
      simp only [addTop, closeTop, List.length_cons] at h ⊢
      split <;> simp <;> omega
def Short (n : Nat) (runs : Runs) : Prop := ∀ x ∈ runs, x.2.length ≤ n
theorem Short.pre {n k : Nat} {runs : Runs} (h : Short n runs) : Short n (pre runs k) := by
  unfold Pk.pre
  split
  · intro x hx
    rw [List.mem_singleton.mp hx]; simp
  · split
    · exact h
    · intro x hx
      rcases List.mem_cons.mp hx with e | hx
      · rw [e]; simp
      · exact h x hx
theorem Short.addTop {n p : Nat} {runs : Runs} (h : Short n runs) : Short (n + 1) (addTop p runs) := by
  cases runs with
  | nil => intro x hx; simp [Pk.addTop] at hx
  | cons y r =>
    intro x hx
    rcases List.mem_cons.mp hx with e | hx
    · rw [e]
      have := h y (by simp)
      simp; omega
    · have := h x (by simp [hx]); omega
theorem scan_short {sz : Nat → Nat} {n : Nat} {l : List Nat} : ∀ i, i ≤ l.length → Short i (scan sz n (l.take i)).runs
  | 0, _ => by intro x hx; simp [scan] at hx
  | i + 1, hi => by
    have ih := scan_short (sz := sz) (n := n) (l := l) i (by omega)
    rw [scan_take (List.getElem?_eq_getElem (by omega : i < l.length))]
    intro x hx
    exact ih.pre.addTop (p := i) x (closeTop_runs x hx)

-- NEEDS m_scan
abbrev s_split_runs : Stmt := topS 22
theorem sc_split_runs : FnScope ["sizes", "row", "stack", "pack_numbers", "total", "position", "bead", "color", "positions", "member"] ["sizes", "row"] (defScope s_split_runs) := ⟨rfl, rfl, rfl, by decide +kernel, rfl, by decide +kernel, by decide +kernel⟩

abbrev szN (zs : List Int) (k : Nat) : Nat := (szI zs k).toNat
abbrev iv (n : Nat) : V := V.int ((n : Nat) : Int)
abbrev ov : Option Nat → V
  | none => V.non
  | some n => iv n
/-- the runs as they lie in the heap, the last one first -/
inductive RunsRep (H : Hp) : Runs → List (Addr × Addr) → Prop
  | nil : RunsRep H [] []
  | cons {k : Nat} {ps : List Nat} {r : Runs} {a b : Addr} {as : List (Addr × Addr)} : H a = some (.tup [.str (S [k]), .ref b]) → H b = some (.lst (ps.map iv)) → (∀ x ∈ as, x.2 ≠ b) → RunsRep H r as → RunsRep H ((k, ps) :: r) ((a, b) :: as)
theorem RunsRep.frame {H H' : Hp} {r : Runs} {as : List (Addr × Addr)} (h : RunsRep H r as) (hk : ∀ x ∈ as, H' x.1 = H x.1 ∧ H' x.2 = H x.2) : RunsRep H' r as := by
  induction h with
  | nil => exact .nil
  | cons h1 h2 h3 h4 ih =>
    have e := hk _ List.mem_cons_self
    exact .cons (e.1.trans h1) (e.2.trans h2) h3 (ih fun x hx => hk x (List.mem_cons_of_mem _ hx))
theorem RunsRep.there {H : Hp} {r : Runs} {as : List (Addr × Addr)} (h : RunsRep H r as) : ∀ x ∈ as, (∃ xs, H x.1 = some (.tup xs)) ∧ ∃ xs, H x.2 = some (.lst xs) := by
  induction h with
  | nil => intro x hx; simp at hx
  | cons h1 h2 h3 h4 ih =>
    intro x hx
    rcases List.mem_cons.mp hx with e | hx
    · subst e; exact ⟨⟨_, h1⟩, _, h2⟩
    · exact ih x hx
theorem RunsRep.new {H : Hp} {r : Runs} {as : List (Addr × Addr)} {y : Addr} {o : HO} (h : RunsRep H r as) (hy : H y = none) : RunsRep (upd H y o) r as :=
  h.frame fun x hx => by
    obtain ⟨⟨_, h1⟩, _, h2⟩ := h.there x hx
    exact ⟨upd_ne (ne_of_none h1 hy), upd_ne (ne_of_none h2 hy)⟩
theorem RunsRep.lst {H : Hp} {r : Runs} {as : List (Addr × Addr)} {y : Addr} {o : HO} {xs : List V} (h : RunsRep H r as) (hy : H y = some (.lst xs)) (hn : ∀ x ∈ as, x.2 ≠ y) : RunsRep (upd H y o) r as :=
  h.frame fun x hx => by
    obtain ⟨⟨_, h1⟩, _, h2⟩ := h.there x hx
    exact ⟨upd_ne (ne_of h1 hy (by intro z; cases z)), upd_ne (hn x hx)⟩
/-- what split_runs has made: the stack at st, the numbers at pn -/
structure SrAt (H H' : Hp) (st pn : Addr) (s : Sc) (as : List (Addr × Addr)) : Prop where
  same : Same H H'
  fst : H st = none
  fpn : H pn = none
  ne : st ≠ pn
  hst : H' st = some (.lst ((as.map fun x => V.ref x.1).reverse))
  hpn : H' pn = some (.lst (s.nums.map ov))
  rep : RunsRep H' s.runs as
  apart : ∀ x ∈ as, x.2 ≠ st ∧ x.2 ≠ pn ∧ H x.2 = none
theorem RunsRep.len {H : Hp} {r : Runs} {as : List (Addr × Addr)} (h : RunsRep H r as) : as.length = r.length := by
  induction h with
  | nil => rfl
  | cons _ _ _ _ ih => simp [ih]
theorem SrAt.new {H H1 : Hp} {st pn y : Addr} {s : Sc} {as : List (Addr × Addr)} {o : HO} (h : SrAt H H1 st pn s as) (hy : H1 y = none) : SrAt H (upd H1 y o) st pn s as :=
  ⟨h.same.trans (same_upd hy), h.fst, h.fpn, h.ne, by rw [upd_ne (ne_of_none h.hst hy)]; exact h.hst, by rw [upd_ne (ne_of_none h.hpn hy)]; exact h.hpn, h.rep.new hy, h.apart⟩
theorem rev_ref (x : Addr × Addr) (as : List (Addr × Addr)) : (((x :: as).map fun x => V.ref x.1).reverse) = ((as.map fun x => V.ref x.1).reverse) ++ [V.ref x.1] := by
  rw [List.map_cons, List.reverse_cons]
def sp_split_runs (K : PySem.W.Frag) : Sp := fun vs H Q _ => ∃ (a : Addr) (zs : List Int) (l : List Nat), vs = [.ref a, .str (S l)] ∧ SqT K H a (zs.map V.int) ∧ OkZ zs ∧ OkR zs l ∧ l.length ≤ 1000 ∧
  ∀ (H' : Hp) (p st pn : Addr) (as : List (Addr × Addr)), SrAt H H' st pn (scan (szN zs) l.length l) as → H p = none → H' p = some (.tup [.ref st, .ref pn]) → Q (.ref p) H'
theorem szI_ok {zs : List Int} {k : Nat} (hZ : OkZ zs) (h : 97 ≤ k ∧ k < 97 + zs.length) : 1 ≤ szI zs k ∧ szI zs k ≤ 4 := hZ.all (szI zs k) (by
  unfold szI
  rw [List.getD_eq_getElem?_getD, List.getElem?_eq_getElem (by omega)]
  exact List.getElem_mem _)
theorem ok_split_runs {f : Addr} {fd : FuncData} (F : Fun K "split_runs" "split_runs" s_split_runs f fd) (B : Bi mg) (C_size_of : Cal P w K mg base CX0 1 "size_of" ["sizes", "color"] (sp_size_of K)) : FnOk P w K mg base CX0 2 f fd ["sizes", "row"] (sp_split_runs K) := by
  refine F.ok sc_split_runs (fun vs H Q E h => ?_) (fun cdv A outer s H vs Q E hr h => ?_)
  · obtain ⟨v, lo, l, rfl, _⟩ := h
    rfl
  · obtain ⟨a, zs, l, rfl, hT, hZ, hR, hl, q⟩ := h
    refine ⟨_, (pss_cons (ps_par3 (i := 2) (j := 3) (l := 4) rfl sc_split_runs.nd rfl rfl rfl (by decide) (by decide) (by decide) rfl rfl rfl (pa_cons (pe_lst pa_nil) (pa_cons (pe_op (op_mulG (K := K)) (pe_lst (pa_cons pe_non pa_nil)) (pe_callB (cr_lenG (K := K)) (by rfl) B.len bt_len (pa_cons (gv 1) pa_nil))) (pa_cons pe_int pa_nil))) rfl)
      (pss_cons (ps_for PassesOwn.never rfl (pi_enumG (K := K) B.enumerate (pa_cons (gv 1) pa_nil)) (pg_nm (K := K) (is := [5, 6]) (pgs_cons (pg_name (i := 5) sc_split_runs.nd rfl (.inl rfl)) (pgs_cons (pg_name (i := 6) sc_split_runs.nd rfl (.inl rfl)) pgs_nil)) nm2)
      (pss_cutG (ps_if (pw_or (pt_cmpG (op_eqG (K := K) hr.units) (gv 2) (pe_lst pa_nil) (nomark _)) (pw_or1 (pt_cmpG (op_neG (K := K) hr.units) (pe_ix (ixG (K := K)) (pe_ix (ixG (K := K)) (gv 2) (pe_un un_negG pe_int) (fun _ _ => rfl)) pe_int (fun _ _ => rfl)) (gv 6) (nomark _)))).pt
      (pss_one (ps_expr (pe_bmG (K := K) PySem.F.plainAttrs_list PySem.F.slot_list_append PySem.F.type_list_append mt_appendG (gv 2) (pa_cons (pe_tup (pa_cons (gv 6) (pa_cons (pe_lst pa_nil) pa_nil))) pa_nil))))
      pss_nil)
      (pss_cons (ps_expr (pe_bmG (K := K) PySem.F.plainAttrs_list PySem.F.slot_list_append PySem.F.type_list_append mt_appendG (pe_ix (ixG (K := K)) (pe_ix (ixG (K := K)) (gv 2) (pe_un un_negG pe_int) (fun _ _ => rfl)) pe_int (fun _ _ => rfl)) (pa_cons (gv 5) pa_nil)))
      (pss_one (ps_if (pt_cmpG (op_eqG (K := K) hr.units) (pe_callB (cr_lenG (K := K)) (by rfl) B.len bt_len (pa_cons (pe_ix (ixG (K := K)) (pe_ix (ixG (K := K)) (gv 2) (pe_un un_negG pe_int) (fun _ _ => rfl)) pe_int (fun _ _ => rfl)) pa_nil)) (pe_cal C_size_of (hr.mono (by decide)) pass0 (pa_cons (gv 0) (pa_cons (gv 6) pa_nil))) (nomark _))
      (pss_cons (ps_asg (pe_bm0G (K := K) PySem.F.plainAttrs_list PySem.F.slot_list_pop PySem.F.type_list_pop mt_popG (gv 2)) (pg_nm (K := K) (is := [7, 8]) (pgs_cons (pg_name (i := 7) sc_split_runs.nd rfl (.inl rfl)) (pgs_cons (pg_name (i := 8) sc_split_runs.nd rfl (.inl rfl)) pgs_nil)) nm2))
      (pss_cons (ps_for PassesOwn.never rfl (pi_seqG (K := K) (gv 8)) (pg_name (i := 9) sc_split_runs.nd rfl (.inl rfl))
      (pss_one (ps_asg (gv 4) (pg_sub (gv 3) (gv 9) set_listG))))
      (pss_one (ps_augG (i := 4) sc_split_runs.nd rfl (.inl rfl) pe_int (iop_addG (K := K))))))
      pss_nil)))))
      (pss_one (ps_ret (pe_tup (pa_cons (gv 2) (pa_cons (gv 3) pa_nil))))))), ?_⟩
    refine ⟨Nat.zero_le _, fun st hst => ⟨by show 1 ≤ sizeLine; decide, fun g hg => ⟨by rw [tl_S]; omega, _, upd_same, ⟨by omega, by rw [tl_S]; omega, by show 1 * _ ≤ _; rw [tl_S, Int.toNat_natCast]; omega⟩, fun pn hpn => ?_⟩⟩⟩
    have s1 : Same H (upd H st (.lst [])) := same_upd hst
    have s2 := s1.trans (same_upd (o := .lst [V.non]) hg)
    have nst : st ≠ pn := ne_of_none ((same_upd (o := .lst [V.non]) hg) st _ upd_same) hpn
    have e0 : repL ((((tl (S l)).length : Nat) : Int).toNat) [V.non] = (scan (szN zs) l.length (l.take 0)).nums.map ov := by
      rw [repL_one, Int.toNat_natCast, tl_S]
      show _ = (List.replicate l.length none).map ov
      rw [List.map_replicate]
    refine ⟨_, _, _, rfl, ?_⟩
    refine for_it walk_jt (fun i σ H' => ∃ as y5 y6 y7 y8 y9, σ = [some (.ref a), some (.str (S l)), some (.ref st), some (.ref pn), some (iv (scan (szN zs) l.length (l.take i)).tot), y5, y6, y7, y8, y9] ∧ SrAt H H' st pn (scan (szN zs) l.length (l.take i)) as) ?_ ?_ ?_ ?_
    · refine ⟨[], none, none, none, none, none, rfl, ⟨s2.trans (same_upd hpn), hst, s2.free hpn, nst, ?_, by rw [upd_same, e0], .nil, by simp⟩⟩
      rw [upd_ne nst, upd_ne (ne_of_none upd_same hg), upd_same]; rfl
    · intros; trivial
    · rintro i x σ H1 H2 hi ⟨as, y5, y6, y7, y8, y9, rfl, hsr⟩ ⟨T, xs, rfl, hTn, rfl, v, hv, rfl⟩
      have hi' : i < l.length := hi
      unfold sgs at hv
      rw [List.getElem?_map] at hv
      obtain ⟨k, hk, rfl⟩ := Option.map_eq_some_iff.mp hv
      have hk1 := hR k (List.mem_of_getElem? hk)
      have hst4 := scan_take (sz := szN zs) (n := l.length) hk
      have hbel := scan_below (sz := szN zs) (n := l.length) (l := l) i (by omega)
      have hnl := scan_len (sz := szN zs) (n := l.length) (l := l) i (by omega)
      have hz := szI_ok hZ hk1
      have h6 := hZ.six
      have hsh := scan_short (sz := szN zs) (n := l.length) (l := l) i (by omega)
      have hrl := scan_runs_len (sz := szN zs) (n := l.length) (l := l) i (by omega)
      rw [hst4]
      generalize scan (szN zs) l.length (l.take i) = sc at *
      obtain ⟨runs, nums, tot⟩ := sc
      have hbel' : Below i runs := hbel
      have hsh' : Short i runs := hsh
      have hnl' : nums.length = l.length := hnl
      have hrl' : runs.length ≤ i := hrl
      have hsr2 := hsr.new (o := .tup [.int (i : Nat), .str (S [k])]) hTn
      refine ⟨_, SqT.of upd_same, ?_⟩
      refine ⟨fun σ3 H3 => ∃ as y7 y8 y9, σ3 = [some (.ref a), some (.str (S l)), some (.ref st), some (.ref pn), some (iv tot), some (iv i), some (.str (S [k])), y7, y8, y9] ∧ SrAt H H3 st pn ⟨pre runs k, nums, tot⟩ as, ?_, ?_⟩
      · -- a new run
        have app : ∀ (H3 : Hp) (D : Ends), SrAt H H3 st pn ⟨runs, nums, tot⟩ as → (∀ H4 as2, SrAt H H4 st pn ⟨(k, []) :: runs, nums, tot⟩ as2 → D.nx [some (.ref a), some (.str (S l)), some (.ref st), some (.ref pn), some (iv tot), some (iv i), some (.str (S [k])), y7, y8, y9] H4) →
            tDrop (gBM K "list" gAppend (gV 2) (tCons (tTup (tCons (gV 6) (tCons (tLst tNil) tNil))) tNil)) D [some (.ref a), some (.str (S l)), some (.ref st), some (.ref pn), some (iv tot), some (iv i), some (.str (S [k])), y7, y8, y9] H3 := fun H3 D h3 hD => by
          refine ⟨.inl ⟨rfl, _, SqL.of h3.hst⟩, Nat.zero_le _, fun b hb => ⟨by show 2 ≤ sizeLine; decide, fun t ht => ?_⟩⟩
          have h4 := (h3.new (o := .lst []) hb).new (o := .tup [.str (S [k]), .ref b]) ht
          have hbt : b ≠ t := ne_of_none upd_same ht
          have htst : t ≠ st := fun e => by
            have := (h3.new (o := .lst []) hb).hst
            rw [← e, ht] at this; cases this
          have hbst : b ≠ st := fun e => by rw [e, h3.hst] at hb; cases hb
          have hbpn : b ≠ pn := fun e => by rw [e, h3.hpn] at hb; cases hb
          have hn : ∀ x ∈ as, x.2 ≠ b := fun x hx e => by
            obtain ⟨_, _, h2⟩ := h3.rep.there x hx
            rw [e, hb] at h2; cases h2
          refine ⟨_, h4.hst, ?_, ?_⟩
          · have e1 := h3.rep.len
            have e2 : as.length = runs.length := e1
            rw [List.length_reverse, List.length_map]; omega
          · refine hD _ ((t, b) :: as) ⟨h4.same.at h4.fst, h4.fst, h4.fpn, h4.ne, ?_, ?_, ?_, ?_⟩
            · rw [upd_same, rev_ref]
            · rw [upd_ne h4.ne.symm]; exact h4.hpn
            · refine .cons ?_ ?_ hn (h4.rep.lst h4.hst fun x hx => (h4.apart x hx).1)
              · rw [upd_ne htst, upd_same]
              · rw [upd_ne hbst, upd_ne hbt, upd_same]; rfl
            · intro x hx
              rcases List.mem_cons.mp hx with e | hx
              · subst e
                exact ⟨hbst, hbpn, h3.same.free hb⟩
              · exact h4.apart x hx
        refine ⟨Nat.zero_le _, fun e he => .inl ⟨st, e, rfl, rfl, _, .inl ⟨SqL.of (hsr2.new he).hst, SqL.of upd_same⟩, ?_⟩⟩
        have hsr3 := hsr2.new (o := .lst []) he
        cases hrep : hsr.rep with
        | nil => exact app _ _ hsr3 fun H4 as2 h4 => ⟨as2, _, _, _, rfl, h4⟩
        | @cons d ps r a1 b1 as' h1 h2 h3 h4 =>
          rw [rev_ref]
          have e1 : id (((as'.map fun x => V.ref x.1).reverse ++ [V.ref a1]).isEmpty) = false := by
            cases as'.map (fun x => V.ref x.1) |>.reverse <;> rfl
          rw [e1]
          have h1' := (hsr3.same) -- the run on top
          cases hrep3 : hsr3.rep with
          | cons g1 g2 g3 g4 =>
            have hst3 := hsr3.hst
            rw [rev_ref] at hst3
            refine ⟨_, _, .inl (SqL.of hst3), atI_last _ _, _, _, .inr (SqT.of g1), atI_nat (j := 0) rfl, ?_⟩
            by_cases hd : d = k
            · subst hd
              refine iteB ⟨fun e2 => ?_, fun _ => ⟨(a1, b1) :: as', _, _, _, rfl, ?_⟩⟩
              · have e3 : (!decide (tl (S [d]) = tl (S [d]))) = true := e2
                rw [decide_eq_true rfl] at e3; cases e3
              · have e3 : pre ((d, ps) :: r) d = (d, ps) :: r := if_pos rfl
                rw [e3]; exact hsr3
            · refine iteB ⟨fun e2 => app _ _ hsr3 fun H4 as2 h4 => ⟨as2, _, _, _, rfl, ?_⟩, fun e2 => ?_⟩
              · have e3 : pre ((d, ps) :: r) k = (k, []) :: (d, ps) :: r := if_neg hd
                rw [e3]; exact h4
              · refine absurd ?_ e2
                show (!decide (([d] : List Nat) = [k])) = true
                rw [decide_eq_false (fun e => hd (by simpa using e))]; rfl
      · rintro σ3 H3 ⟨as, y7, y8, y9, rfl, h3⟩
        obtain ⟨ps, r, epre⟩ := pre_top runs k
        have hpl := pre_len runs k
        have hb2 := hbel'.pre (k := k)
        have hb3 := hb2.addTop (Nat.le_refl i)
        have hb4 := hsh'.pre (k := k)
        have estep : stepS (szN zs) ⟨runs, nums, tot⟩ i k = closeTop (szN zs) (addTop i (pre runs k)) nums tot := rfl
        rw [estep]
        rw [epre] at h3 hb3 hb4 ⊢
        obtain ⟨sm, f1, f2, nst2, hs1, hp1, rep, apart⟩ := h3
        have hs1 : H3 st = some (.lst ((as.map fun x => V.ref x.1).reverse)) := hs1
        have hp1 : H3 pn = some (.lst (nums.map ov)) := hp1
        cases rep with
        | @cons _ _ _ a1 b1 as' g1 g2 g3 g4 =>
          rw [rev_ref] at hs1
          have ab := apart (a1, b1) (by simp)
          have apart' : ∀ x ∈ as', x.2 ≠ st ∧ x.2 ≠ pn ∧ H x.2 = none := fun x hx => apart x (by simp [hx])
          have hpslen : ps.length ≤ i := hb4 (k, ps) (by simp)
          refine ⟨_, _, .inl (SqL.of hs1), atI_last _ _, _, _, .inr (SqT.of g1), atI_nat (j := 1) rfl, .inl ⟨rfl, _, SqL.of g2⟩, _, g2, by rw [List.length_map]; omega, ?_⟩
          have ea1 : a1 ≠ b1 := ne_of g1 g2 (by intro z; cases z)
          generalize hH4 : upd H3 b1 (.lst (ps.map iv ++ [iv i])) = H4
          have eb : H4 b1 = some (.lst ((ps ++ [i]).map iv)) := by rw [← hH4, upd_same, List.map_append]; rfl
          have es : H4 st = some (.lst ((as'.map fun x => V.ref x.1).reverse ++ [V.ref a1])) := by rw [← hH4, upd_ne ab.1.symm]; exact hs1
          have ep : H4 pn = some (.lst (nums.map ov)) := by rw [← hH4, upd_ne ab.2.1.symm]; exact hp1
          have ea : H4 a1 = some (.tup [.str (S [k]), .ref b1]) := by rw [← hH4, upd_ne ea1]; exact g1
          have er : RunsRep H4 r as' := by rw [← hH4]; exact g4.lst g2 g3
          have sm4 : Same H H4 := by rw [← hH4]; exact sm.at ab.2.2
          refine ⟨_, _, .inl (SqL.of es), atI_last _ _, _, _, .inr (SqT.of ea), atI_nat (j := 1) rfl, _, .inl (SqL.of eb), a, zs, k, rfl, sm4.tup hT, hk1.1, hk1.2, h6, iteB ⟨fun e => ?_, fun e => ?_⟩⟩
          · have e' : (((ps ++ [i]).map iv).length : Int) = szI zs k := of_decide_eq_true e
            have e2 : (ps ++ [i]).length = szN zs k := by
              rw [List.length_map] at e'
              show _ = (szI zs k).toNat
              omega
            refine ⟨.inl ⟨rfl, _, SqL.of es⟩, _, _, es, _, SqT.of (by rw [upd_ne (ne_of ea es (by intro z; cases z))]; exact ea), ?_⟩
            have hb5 : (upd H4 st (.lst (as'.map fun x => V.ref x.1).reverse)) b1 = some (.lst ((ps ++ [i]).map iv)) := by rw [upd_ne ab.1]; exact eb
            refine .inl ⟨_, SqL.of hb5, for_list (xs := (ps ++ [i]).map iv) (fun j σ5 H5 => ∃ y9, σ5 = [some (.ref a), some (.str (S l)), some (.ref st), some (.ref pn), some (iv tot), some (iv i), some (.str (S [k])), some (.str (S [k])), some (.ref b1), y9] ∧
              SrAt H H5 st pn ⟨r, fill nums tot ((ps ++ [i]).take j), tot⟩ as' ∧ H5 b1 = some (.lst ((ps ++ [i]).map iv))) ⟨y9, rfl, ⟨sm4.at f1, f1, f2, nst2, upd_same, by rw [upd_ne nst2.symm]; exact ep, er.lst es fun x hx => (apart' x hx).1, apart'⟩, hb5⟩ ?_ ?_ ?_⟩
            · rintro j σ5 H5 hj ⟨y9, rfl, _, hb6⟩
              exact SqL.of hb6
            · rintro j x σ5 H5 hx ⟨y9, rfl, h5, hb6⟩
              rw [List.getElem?_map] at hx
              obtain ⟨m, hm, rfl⟩ := Option.map_eq_some_iff.mp hx
              have hm2 : m < i + 1 := hb3 (k, ps ++ [i]) (by simp [addTop]) m (List.mem_of_getElem? hm)
              have hlen : ((fill nums tot ((ps ++ [i]).take j)).map ov).length = l.length := by rw [List.length_map, fill_len, hnl']
              refine ⟨_, m, h5.hpn, by rw [hlen]; exact ixN_nat (by omega), _, rfl, ⟨h5.same.at f2, f1, f2, nst2, by rw [upd_ne nst2]; exact h5.hst, ?_, h5.rep.lst h5.hpn fun x hx => (apart' x hx).2.1, apart'⟩, by rw [upd_ne ab.2.1]; exact hb6⟩
              rw [upd_same, fill_take tot nums hm, List.map_set]
            · rintro σ5 H5 ⟨y9, rfl, h5, hb6⟩
              rw [List.length_map, List.take_length] at h5
              have e3 : closeTop (szN zs) (addTop i ((k, ps) :: r)) nums tot = ⟨r, fill nums tot (ps ++ [i]), tot + 1⟩ := if_pos e2
              rw [e3]
              exact ⟨as', some (iv i), some (.str (S [k])), some (.str (S [k])), some (.ref b1), y9, rfl, h5.same, h5.fst, h5.fpn, h5.ne, h5.hst, h5.hpn, h5.rep, h5.apart⟩
          · have e2 : ¬ (ps ++ [i]).length = szN zs k := fun e3 => by
              refine e (decide_eq_true ?_)
              rw [List.length_map, e3]
              show ((szI zs k).toNat : Int) = szI zs k
              omega
            have e3 : closeTop (szN zs) (addTop i ((k, ps) :: r)) nums tot = ⟨(k, ps ++ [i]) :: r, nums, tot⟩ := if_neg e2
            rw [e3]
            exact ⟨(a1, b1) :: as', _, _, _, _, _, rfl, sm4, f1, f2, nst2, by rw [rev_ref]; exact es, ep, .cons ea eb g3 er, apart⟩
    · rintro σ H1 ⟨as, y5, y6, y7, y8, y9, rfl, hsr⟩
      have e1 : l.take (tl (S l)).length = l := List.take_length
      rw [e1] at hsr
      refine ⟨by show 2 ≤ sizeLine; decide, fun p hp => ?_⟩
      exact q _ p st pn as (hsr.new hp) (hsr.same.free hp) upd_same

-- NEEDS m_scan
/-! ### the residue, over plain lists: a stack of (color, number), the top first -/
abbrev Stk := List (Nat × Nat)
def psh (sz : Nat → Nat) (st : Stk) (k : Nat) : Stk := match st with
  | [] => if 1 = sz k then [] else [(k, 1)]
  | (d, n) :: r => if d = k then (if n + 1 = sz k then r else (k, n + 1) :: r) else (if 1 = sz k then (d, n) :: r else (k, 1) :: (d, n) :: r)
theorem psh_cons (sz : Nat → Nat) (d n k : Nat) (r : Stk) : psh sz ((d, n) :: r) k = if d = k then (if n + 1 = sz k then r else (k, n + 1) :: r) else (if 1 = sz k then (d, n) :: r else (k, 1) :: (d, n) :: r) := rfl
theorem psh_nil (sz : Nat → Nat) (k : Nat) : psh sz [] k = if 1 = sz k then [] else [(k, 1)] := rfl
def stk (sz : Nat → Nat) (l : List Nat) : Stk := l.foldl (psh sz) []
def flatS (st : Stk) : List Nat := match st with
  | [] => []
  | (k, n) :: r => flatS r ++ List.replicate n k
/-- neighbors differ, no run is full -/
def Vld (sz : Nat → Nat) : Stk → Prop
  | [] => True
  | [(k, n)] => 1 ≤ n ∧ n < sz k
  | (k, n) :: (d, m) :: r => 1 ≤ n ∧ n < sz k ∧ k ≠ d ∧ Vld sz ((d, m) :: r)
theorem Vld.tail {sz : Nat → Nat} {x : Nat × Nat} {r : Stk} (h : Vld sz (x :: r)) : Vld sz r := by
  cases r with
  | nil => trivial
  | cons y r => exact h.2.2.2
theorem Vld.head {sz : Nat → Nat} {k n : Nat} {r : Stk} (h : Vld sz ((k, n) :: r)) : 1 ≤ n ∧ n < sz k := by
  cases r with
  | nil => exact h
  | cons y r => exact ⟨h.1, h.2.1⟩
theorem Vld.ne {sz : Nat → Nat} {k n d m : Nat} {r : Stk} (h : Vld sz ((k, n) :: (d, m) :: r)) : k ≠ d := h.2.2.1
theorem Vld.cons {sz : Nat → Nat} {k n : Nat} {r : Stk} (h1 : 1 ≤ n) (h2 : n < sz k) (h3 : ∀ d m r', r = (d, m) :: r' → k ≠ d) (h4 : Vld sz r) : Vld sz ((k, n) :: r) := by
  cases r with
  | nil => exact ⟨h1, h2⟩
  | cons y r => exact ⟨h1, h2, h3 y.1 y.2 r rfl, h4⟩
theorem psh_vld {sz : Nat → Nat} {st : Stk} {k : Nat} (hs : 1 ≤ sz k) (h : Vld sz st) : Vld sz (psh sz st k) := by
  unfold psh
  split
  · split
    · trivial
    · exact ⟨Nat.le_refl _, by omega⟩
  · rename_i d n r
    split
    · rename_i hd
      subst hd
      split
      · exact h.tail
      · have hh := h.head
        refine Vld.cons (by omega) (by omega) (fun d' m r' e => ?_) h.tail
        subst e
        exact h.ne
    · rename_i hd
      split
      · exact h
      · exact Vld.cons (Nat.le_refl _) (by omega) (fun d' m r' e => by cases e; exact fun e2 => hd e2.symm) h
theorem stk_snoc (sz : Nat → Nat) (l : List Nat) (k : Nat) : stk sz (l ++ [k]) = psh sz (stk sz l) k := by
  unfold stk
  rw [List.foldl_append]
  rfl
theorem foldl_vld {sz : Nat → Nat} : ∀ (l : List Nat) (st : Stk), (∀ k ∈ l, 1 ≤ sz k) → Vld sz st → Vld sz (l.foldl (psh sz) st)
  | [], _, _, h => h
  | k :: l, st, hs, h => foldl_vld l (psh sz st k) (fun y hy => hs y (by simp [hy])) (psh_vld (hs k (by simp)) h)
theorem stk_vld {sz : Nat → Nat} {l : List Nat} (hs : ∀ k ∈ l, 1 ≤ sz k) : Vld sz (stk sz l) := foldl_vld l [] hs trivial
/-- n beads of the color on top -/
theorem psh_same {sz : Nat → Nat} {k : Nat} {r : Stk} : ∀ (j n : Nat), n + j < sz k → (List.replicate j k).foldl (psh sz) ((k, n) :: r) = (k, n + j) :: r
  | 0, n, _ => rfl
  | j + 1, n, h => by
    show (List.replicate j k).foldl (psh sz) (psh sz ((k, n) :: r) k) = _
    have e : psh sz ((k, n) :: r) k = (k, n + 1) :: r := by
      rw [psh_cons, if_pos rfl, if_neg (by omega)]
    rw [e, psh_same j (n + 1) (by omega)]
    congr 2
    omega
/-- the stack lets beads of another color begin a run -/
def NoTop (k : Nat) (st : Stk) : Prop := ∀ d m r, st = (d, m) :: r → d ≠ k
theorem psh_new {sz : Nat → Nat} {k : Nat} {st : Stk} (h : NoTop k st) (h1 : 1 ≠ sz k) : psh sz st k = (k, 1) :: st := by
  unfold psh
  split
  · rw [if_neg h1]
  · rw [if_neg (h _ _ _ rfl), if_neg h1]
theorem psh_run {sz : Nat → Nat} {k : Nat} {st : Stk} (h : NoTop k st) {n : Nat} (h0 : 1 ≤ n) (h1 : n < sz k) : (List.replicate n k).foldl (psh sz) st = (k, n) :: st := by
  cases n with
  | zero => omega
  | succ n =>
    show (List.replicate n k).foldl (psh sz) (psh sz st k) = _
    rw [psh_new h (by omega), psh_same n 1 (by omega)]
    congr 2
    omega
theorem psh_full {sz : Nat → Nat} {k : Nat} {st : Stk} (h : NoTop k st) (h1 : 1 ≤ sz k) : (List.replicate (sz k) k).foldl (psh sz) st = st := by
  by_cases e : sz k = 1
  · rw [e]
    show psh sz st k = st
    unfold psh
    split
    · rw [if_pos e.symm]
    · rw [if_neg (h _ _ _ rfl), if_pos e.symm]
  · obtain ⟨m, hm⟩ : ∃ m, sz k = m + 1 := ⟨sz k - 1, by omega⟩
    rw [hm, List.replicate_succ', List.foldl_append, psh_run h (by omega) (by omega)]
    show psh sz ((k, m) :: st) k = st
    rw [psh_cons, if_pos rfl, if_pos hm.symm]
/-- a pack leaves no trace -/
theorem psh_pack {sz : Nat → Nat} {k : Nat} {st : Stk} (h : Vld sz st) (h1 : 1 ≤ sz k) : (List.replicate (sz k) k).foldl (psh sz) st = st := by
  cases st with
  | nil => exact psh_full (fun d m r e => by cases e) h1
  | cons x r =>
    obtain ⟨d, n⟩ := x
    by_cases hd : d = k
    · subst hd
      have hh := h.head
      have hr : NoTop d r := fun d' m r' e => by subst e; exact h.ne.symm
      -- fill the run up, then begin anew
      have e1 : List.replicate (sz d) d = List.replicate (sz d - 1 - n) d ++ (d :: List.replicate n d) := by
        rw [← List.replicate_succ, List.replicate_append_replicate]
        congr 1
        omega
      rw [e1, List.foldl_append, psh_same (sz d - 1 - n) n (by omega)]
      show (List.replicate n d).foldl (psh sz) (psh sz ((d, n + (sz d - 1 - n)) :: r) d) = _
      have e2 : psh sz ((d, n + (sz d - 1 - n)) :: r) d = r := by
        rw [psh_cons, if_pos rfl, if_pos (by omega)]
      rw [e2, psh_run hr hh.1 hh.2]
    · exact psh_full (fun d' m r' e => by cases e; exact hd) h1
theorem stk_pack {sz : Nat → Nat} {u v : List Nat} {k : Nat} (hs : ∀ y ∈ u, 1 ≤ sz y) (h1 : 1 ≤ sz k) : stk sz (u ++ (List.replicate (sz k) k ++ v)) = stk sz (u ++ v) := by
  have e := psh_pack (k := k) (stk_vld hs) h1
  unfold stk at e ⊢
  rw [List.foldl_append, List.foldl_append, List.foldl_append, e]
/-- what remains, read again -/
theorem stk_flat {sz : Nat → Nat} : ∀ {st : Stk}, Vld sz st → stk sz (flatS st) = st
  | [], _ => rfl
  | (k, n) :: r, h => by
    have ih := stk_flat h.tail
    have hh := h.head
    unfold flatS
    unfold stk at ih ⊢
    rw [List.foldl_append, ih]
    refine psh_run (fun d m r' e => ?_) hh.1 hh.2
    subst e
    exact h.ne.symm
theorem flatS_mem {st : Stk} {y : Nat} (h : y ∈ flatS st) : ∃ n, (y, n) ∈ st := by
  induction st with
  | nil => simp [flatS] at h
  | cons x r ih =>
    obtain ⟨k, n⟩ := x
    unfold flatS at h
    rcases List.mem_append.mp h with h | h
    · obtain ⟨m, hm⟩ := ih h
      exact ⟨m, by simp [hm]⟩
    · rw [List.eq_of_mem_replicate h]
      exact ⟨n, by simp⟩
theorem psh_mem {sz : Nat → Nat} {st : Stk} {k y n : Nat} (h : (y, n) ∈ psh sz st k) : y = k ∨ ∃ m, (y, m) ∈ st := by
  unfold psh at h
  split at h
  · split at h
    · simp at h
    · simp at h; exact .inl h.1
  · split at h
    · split at h
      · exact .inr ⟨n, by simp [h]⟩
      · rcases List.mem_cons.mp h with e | h
        · cases e; exact .inl rfl
        · exact .inr ⟨n, by simp [h]⟩
    · split at h
      · exact .inr ⟨n, h⟩
      · rcases List.mem_cons.mp h with e | h
        · cases e; exact .inl rfl
        · exact .inr ⟨n, h⟩
theorem foldl_mem {sz : Nat → Nat} : ∀ (l : List Nat) (st : Stk) {y n : Nat}, (y, n) ∈ l.foldl (psh sz) st → y ∈ l ∨ ∃ m, (y, m) ∈ st
  | [], _, _, n, h => .inr ⟨n, h⟩
  | k :: l, st, y, n, h => by
    rcases foldl_mem l (psh sz st k) h with h | ⟨m, h⟩
    · exact .inl (by simp [h])
    · rcases psh_mem h with e | h
      · exact .inl (by simp [e])
      · exact .inr h
theorem stk_mem {sz : Nat → Nat} {l : List Nat} {y : Nat} (h : y ∈ flatS (stk sz l)) : y ∈ l := by
  obtain ⟨n, hn⟩ := flatS_mem h
  rcases foldl_mem l [] hn with h | ⟨m, h⟩
  · exact h
  · simp at h
theorem flatS_len_psh {sz : Nat → Nat} (st : Stk) (k : Nat) : (flatS (psh sz st k)).length ≤ (flatS st).length + 1 := by
  unfold psh
  split
  · split <;> simp [flatS]
  · split
    · split
      · simp [flatS]; omega
      · simp [flatS]; omega
    · split
      · simp [flatS]
      · simp [flatS]; omega
theorem foldl_flat_len {sz : Nat → Nat} : ∀ (l : List Nat) (st : Stk), (flatS (l.foldl (psh sz) st)).length ≤ (flatS st).length + l.length
  | [], _ => by simp
  | k :: l, st => by
    have := foldl_flat_len (sz := sz) l (psh sz st k)
    have := flatS_len_psh (sz := sz) st k
    simp only [List.foldl_cons, List.length_cons]
    omega
theorem stk_len {sz : Nat → Nat} (l : List Nat) : (flatS (stk sz l)).length ≤ l.length := by
  have h := foldl_flat_len (sz := sz) l []
  have e : (flatS ([] : Stk)).length = 0 := rfl
  rw [e, Nat.zero_add] at h
  exact h
/-- the residue -/
def res (sz : Nat → Nat) (l : List Nat) : List Nat := flatS (stk sz l)
theorem res_snoc {sz : Nat → Nat} {l : List Nat} {k : Nat} (hs : ∀ y ∈ l, 1 ≤ sz y) : res sz (res sz l ++ [k]) = res sz (l ++ [k]) := by
  unfold res
  rw [stk_snoc, stk_snoc, stk_flat (stk_vld hs)]
/-- a pack starts at i -/
def PackAt (sz : Nat → Nat) (l : List Nat) (i : Nat) : Prop := ∃ k, l[i]? = some k ∧ (l.drop i).take (sz k) = List.replicate (sz k) k
theorem packAt_split {sz : Nat → Nat} {l : List Nat} {i : Nat} (h : PackAt sz l i) : ∃ k, l[i]? = some k ∧ l = l.take i ++ (List.replicate (sz k) k ++ l.drop (i + sz k)) := by
  obtain ⟨k, hk, hp⟩ := h
  refine ⟨k, hk, ?_⟩
  rw [← hp, ← List.drop_drop, List.take_append_drop, List.take_append_drop]
theorem stk_remove {sz : Nat → Nat} {l : List Nat} {i k : Nat} (hs : ∀ y ∈ l, 1 ≤ sz y) (hk : l[i]? = some k) (h : PackAt sz l i) : stk sz (l.take i ++ l.drop (i + sz k)) = stk sz l := by
  obtain ⟨k', hk', e⟩ := packAt_split h
  rw [hk] at hk'
  cases hk'
  have h1 : 1 ≤ sz k := hs k (List.mem_of_getElem? hk)
  have e2 := stk_pack (sz := sz) (u := l.take i) (v := l.drop (i + sz k)) (k := k) (fun y hy => hs y (List.mem_of_mem_take hy)) h1
  rw [← e2, ← e]
/-- a row without packs is its own residue -/
theorem flat_irred {sz : Nat → Nat} : ∀ {l : List Nat}, (∀ y ∈ l, 1 ≤ sz y) → (∀ i, i < l.length → ¬ PackAt sz l i) → flatS (stk sz l) = l := by
  intro l hs hp
  -- from the left, bead by bead
  have key : ∀ n, n ≤ l.length → flatS (stk sz (l.take n)) = l.take n := by
    intro n
    induction n with
    | zero => intro _; rfl
    | succ n ih =>
      intro hn
      have hn' : n < l.length := by omega
      have ih' := ih (by omega)
      obtain ⟨x, hx⟩ : ∃ x, l[n]? = some x := ⟨_, List.getElem?_eq_getElem hn'⟩
      have e1 : l.take (n + 1) = l.take n ++ [x] := by rw [List.take_add_one, hx]; rfl
      rw [e1, stk_snoc]
      have hv : Vld sz (stk sz (l.take n)) := stk_vld fun y hy => hs y (List.mem_of_mem_take hy)
      generalize hst : stk sz (l.take n) = st at ih' hv
      have hk1 : 1 ≤ sz x := hs x (List.mem_of_getElem? hx)
      have full : ∀ (m : Nat), m + 1 = sz x → (∃ u, l.take n = u ++ List.replicate m x) → False := by
        rintro m hm ⟨u, hu⟩
        have hul : u.length + m = n := by
          have := congrArg List.length hu
          rw [List.length_take, List.length_append, List.length_replicate] at this
          omega
        have e2 : l = u ++ (List.replicate (sz x) x ++ l.drop (n + 1)) := by
          rw [← hm, List.replicate_succ', List.append_assoc, ← List.append_assoc u, ← hu, ← List.append_assoc, ← e1, List.take_append_drop]
        have hi : u.length < l.length := by omega
        refine hp u.length hi ⟨x, ?_, ?_⟩
        · rw [e2, List.getElem?_append_right (Nat.le_refl _), Nat.sub_self, ← hm]; rfl
        · have e3 : l.drop u.length = List.replicate (sz x) x ++ l.drop (n + 1) := by
            conv => lhs; rw [e2]
            rw [List.drop_append_of_le_length (Nat.le_refl _), List.drop_length, List.nil_append]
          rw [e3, List.take_append_of_le_length (by rw [List.length_replicate]; exact Nat.le_refl _), List.take_of_length_le (by rw [List.length_replicate]; exact Nat.le_refl _)]
      unfold psh
      split
      · split
        · rename_i h
          exact (full 0 h ⟨l.take n, by simp⟩).elim
        · rw [← ih']; rfl
      · rename_i d m r
        split
        · rename_i hd
          subst hd
          split
          · rename_i h
            exact (full m h ⟨flatS r, ih'.symm⟩).elim
          · rw [← ih']
            show flatS r ++ List.replicate (m + 1) d = flatS r ++ List.replicate m d ++ [d]
            rw [List.replicate_succ', List.append_assoc]
        · split
          · rename_i h
            exact (full 0 h ⟨l.take n, by simp⟩).elim
          · rw [← ih']; rfl
  have := key l.length (Nat.le_refl _)
  rwa [List.take_length] at this
/-! the scan's runs are this stack -/
def cntR (runs : Runs) : Stk := runs.map fun x => (x.1, x.2.length)
theorem flatR_eq (runs : Runs) : (runs.reverse.map fun x => List.replicate x.2.length x.1).flatten = flatS (cntR runs) := by
  induction runs with
  | nil => rfl
  | cons x r ih =>
    rw [List.reverse_cons, List.map_append, List.flatten_append, ih]
    simp [cntR, flatS]
theorem step_cnt (sz : Nat → Nat) (s : Sc) (p k : Nat) : cntR (stepS sz s p k).runs = psh sz (cntR s.runs) k := by
  obtain ⟨runs, nums, tot⟩ := s
  show cntR (closeTop sz (addTop p (pre runs k)) nums tot).runs = psh sz (cntR runs) k
  cases runs with
  | nil =>
    show cntR (if ([] ++ [p]).length = sz k then Sc.mk [] (fill nums tot ([] ++ [p])) (tot + 1) else Sc.mk [(k, [] ++ [p])] nums tot).runs = if 1 = sz k then [] else [(k, 1)]
    simp only [List.nil_append, List.length_singleton]
    split <;> rfl
  | cons x r =>
    obtain ⟨d, ps⟩ := x
    show cntR (closeTop sz (addTop p (if d = k then (d, ps) :: r else (k, []) :: (d, ps) :: r)) nums tot).runs = psh sz ((d, ps.length) :: cntR r) k
    rw [psh_cons]
    by_cases hd : d = k
    · subst hd
      rw [if_pos rfl, if_pos rfl]
      show cntR (if (ps ++ [p]).length = sz d then Sc.mk r (fill nums tot (ps ++ [p])) (tot + 1) else Sc.mk ((d, ps ++ [p]) :: r) nums tot).runs = _
      rw [List.length_append, List.length_singleton]
      split
      · rfl
      · show (d, (ps ++ [p]).length) :: cntR r = (d, ps.length + 1) :: cntR r
        rw [List.length_append, List.length_singleton]
    · rw [if_neg hd, if_neg hd]
      show cntR (if ([] ++ [p]).length = sz k then Sc.mk ((d, ps) :: r) (fill nums tot ([] ++ [p])) (tot + 1) else Sc.mk ((k, [] ++ [p]) :: (d, ps) :: r) nums tot).runs = _
      simp only [List.nil_append, List.length_singleton]
      split <;> rfl
theorem scan_cnt {sz : Nat → Nat} {n : Nat} {l : List Nat} : ∀ i, i ≤ l.length → cntR (scan sz n (l.take i)).runs = stk sz (l.take i)
  | 0, _ => rfl
  | i + 1, hi => by
    have ih := scan_cnt (sz := sz) (n := n) (l := l) i (by omega)
    have hk := List.getElem?_eq_getElem (by omega : i < l.length)
    have e : l.take (i + 1) = l.take i ++ [l[i]] := by rw [List.take_add_one, hk]; rfl
    rw [scan_take hk, step_cnt, ih, e, stk_snoc]
theorem scan_stk (sz : Nat → Nat) (n : Nat) (l : List Nat) : cntR (scan sz n l).runs = stk sz l := by
  have := scan_cnt (sz := sz) (n := n) (l := l) l.length (Nat.le_refl _)
  rwa [List.take_length] at this

-- NEEDS m_res
/-! ### rows up to packs: a group -/
section grp
variable {sz : Nat → Nat}
/-- a row acts as its residue does -/
theorem act_res (hs : ∀ k, 1 ≤ sz k) : ∀ (a : List Nat) {st : Stk}, Vld sz st → a.foldl (psh sz) st = (res sz a).foldl (psh sz) st := by
  intro a
  -- from the right
  have key : ∀ n, n ≤ a.length → ∀ {st : Stk}, Vld sz st → (a.take n).foldl (psh sz) st = (res sz (a.take n)).foldl (psh sz) st := by
    intro n
    induction n with
    | zero => intro _ st _; rfl
    | succ n ih =>
      intro hn st hv
      obtain ⟨x, hx⟩ : ∃ x, a[n]? = some x := ⟨_, List.getElem?_eq_getElem (by omega)⟩
      have e1 : a.take (n + 1) = a.take n ++ [x] := by rw [List.take_add_one, hx]; rfl
      have ih' := ih (by omega) hv
      rw [e1, List.foldl_append, ih']
      show psh sz ((res sz (a.take n)).foldl (psh sz) st) x = _
      unfold res
      rw [stk_snoc]
      generalize stk sz (a.take n) = t
      cases t with
      | nil =>
        rw [psh_nil]
        split
        · rename_i h
          -- a pack of one bead
          have e := psh_pack (sz := sz) (k := x) (st := st) hv (hs x)
          rw [← h] at e
          exact e
        · rfl
      | cons y r =>
        obtain ⟨d, m⟩ := y
        rw [psh_cons]
        by_cases hd : d = x
        · subst hd
          rw [if_pos rfl]
          split
          · rename_i h
            show psh sz ((flatS r ++ List.replicate m d).foldl (psh sz) st) d = (flatS r).foldl (psh sz) st
            have hv2 : Vld sz ((flatS r).foldl (psh sz) st) := foldl_vld _ _ (fun k _ => hs k) hv
            have e := psh_pack (sz := sz) (k := d) hv2 (hs d)
            rw [← h, List.replicate_succ', List.foldl_append] at e
            rw [List.foldl_append]
            exact e
          · show psh sz ((flatS r ++ List.replicate m d).foldl (psh sz) st) d = (flatS r ++ List.replicate (m + 1) d).foldl (psh sz) st
            rw [List.replicate_succ', ← List.append_assoc, List.foldl_append (l' := [d])]
            rfl
        · rw [if_neg hd]
          split
          · rename_i h
            have hv2 : Vld sz ((flatS ((d, m) :: r)).foldl (psh sz) st) := foldl_vld _ _ (fun k _ => hs k) hv
            have e := psh_pack (sz := sz) (k := x) hv2 (hs x)
            rw [← h] at e
            exact e
          · show psh sz ((flatS ((d, m) :: r)).foldl (psh sz) st) x = (flatS ((d, m) :: r) ++ List.replicate 1 x).foldl (psh sz) st
            rw [List.foldl_append]
            rfl
  intro st hv
  have := key a.length (Nat.le_refl _) hv
  rwa [List.take_length] at this
theorem vld0 : Vld sz ([] : Stk) := trivial
theorem stk_app (u v : List Nat) : stk sz (u ++ v) = v.foldl (psh sz) (stk sz u) := by
  unfold stk
  rw [List.foldl_append]
theorem vld_of (hs : ∀ k, 1 ≤ sz k) (l : List Nat) : Vld sz (stk sz l) := stk_vld fun k _ => hs k
theorem stk_cong (hs : ∀ k, 1 ≤ sz k) {a b : List Nat} (h : stk sz a = stk sz b) (u v : List Nat) : stk sz (u ++ (a ++ v)) = stk sz (u ++ (b ++ v)) := by
  have e : res sz a = res sz b := by unfold res; rw [h]
  rw [stk_app, stk_app, List.foldl_append, List.foldl_append, act_res hs a (vld_of hs u), act_res hs b (vld_of hs u), e]
theorem stk_congR (hs : ∀ k, 1 ≤ sz k) {a b : List Nat} (h : stk sz a = stk sz b) (u : List Nat) : stk sz (u ++ a) = stk sz (u ++ b) := by
  have := stk_cong hs h u []
  rwa [List.append_nil, List.append_nil] at this
theorem stk_congL (hs : ∀ k, 1 ≤ sz k) {a b : List Nat} (h : stk sz a = stk sz b) (v : List Nat) : stk sz (a ++ v) = stk sz (b ++ v) := stk_cong hs h [] v
theorem stk_res (hs : ∀ k, 1 ≤ sz k) (l : List Nat) : stk sz (res sz l) = stk sz l := stk_flat (vld_of hs l)
theorem res_res (hs : ∀ k, 1 ≤ sz k) (l : List Nat) : res sz (res sz l) = res sz l := by
  show flatS (stk sz (res sz l)) = _
  rw [stk_res hs]
  rfl
theorem res_eq_of {a b : List Nat} (h : stk sz a = stk sz b) : res sz a = res sz b := by unfold res; rw [h]
theorem stk_of_res (hs : ∀ k, 1 ≤ sz k) {a b : List Nat} (h : res sz a = res sz b) : stk sz a = stk sz b := by rw [← stk_res hs a, ← stk_res hs b, h]
/-! the inverse -/
def invS (sz : Nat → Nat) (st : Stk) : List Nat := (st.map fun x => List.replicate (sz x.1 - x.2) x.1).flatten
def inv (sz : Nat → Nat) (l : List Nat) : List Nat := invS sz (stk sz l)
theorem psh_fillup {k n : Nat} {r : Stk} (h0 : 1 ≤ n) (h1 : n < sz k) : (List.replicate (sz k - n) k).foldl (psh sz) ((k, n) :: r) = r := by
  obtain ⟨m, hm⟩ : ∃ m, sz k - n = m + 1 := ⟨sz k - n - 1, by omega⟩
  rw [hm, List.replicate_succ', List.foldl_append, psh_same m n (by omega)]
  show psh sz ((k, n + m) :: r) k = r
  rw [psh_cons, if_pos rfl, if_pos (by omega)]
theorem act_inv : ∀ {st : Stk}, Vld sz st → (invS sz st).foldl (psh sz) st = []
  | [], _ => rfl
  | (k, n) :: r, h => by
    have hh := h.head
    show (List.replicate (sz k - n) k ++ invS sz r).foldl (psh sz) ((k, n) :: r) = []
    rw [List.foldl_append, psh_fillup hh.1 hh.2]
    exact act_inv h.tail
theorem inv_right (hs : ∀ k, 1 ≤ sz k) (l : List Nat) : stk sz (l ++ inv sz l) = [] := by
  rw [stk_app]
  exact act_inv (vld_of hs l)
theorem inv_left (hs : ∀ k, 1 ≤ sz k) (l : List Nat) : stk sz (inv sz l ++ l) = [] := by
  have h1 := inv_right hs l
  have h2 := inv_right hs (inv sz l)
  -- l is as good as inv (inv l)
  have h3 : stk sz l = stk sz (inv sz (inv sz l)) := by
    have a1 : stk sz (l ++ (inv sz l ++ inv sz (inv sz l))) = stk sz (l ++ []) := stk_congR hs h2 l
    rw [List.append_nil] at a1
    have a2 : stk sz ((l ++ inv sz l) ++ inv sz (inv sz l)) = stk sz ([] ++ inv sz (inv sz l)) := stk_congL hs h1 _
    rw [List.append_assoc, List.nil_append] at a2
    rw [← a1, a2]
  rw [stk_congR hs h3 (inv sz l), h2]
theorem inv_uniq (hs : ∀ k, 1 ≤ sz k) {l b : List Nat} (h : stk sz (l ++ b) = []) : stk sz b = stk sz (inv sz l) := by
  have a1 : stk sz ((inv sz l ++ l) ++ b) = stk sz ([] ++ b) := stk_congL hs (inv_left hs l) b
  have a2 : stk sz (inv sz l ++ (l ++ b)) = stk sz (inv sz l ++ []) := stk_congR hs h _
  rw [List.append_assoc, List.nil_append] at a1
  rw [List.append_nil] at a2
  rw [← a1, a2]
/-! neighbors differ, read from either end -/
def Adj : Stk → Prop
  | [] => True
  | [_] => True
  | x :: y :: r => x.1 ≠ y.1 ∧ Adj (y :: r)
theorem vld_iff {st : Stk} : Vld sz st ↔ (∀ x ∈ st, 1 ≤ x.2 ∧ x.2 < sz x.1) ∧ Adj st := by
  induction st with
  | nil => simp [Vld, Adj]
  | cons x r ih =>
    cases r with
    | nil => simp [Vld, Adj]
    | cons y r =>
      constructor
      · intro h
        obtain ⟨h1, h2⟩ := ih.mp h.tail
        exact ⟨fun z hz => by
          rcases List.mem_cons.mp hz with e | hz
          · subst e; exact h.head
          · exact h1 z hz, h.ne, h2⟩
      · rintro ⟨h1, h2, h3⟩
        have hx := h1 x (by simp)
        exact ⟨hx.1, hx.2, h2, ih.mpr ⟨fun z hz => h1 z (by simp [List.mem_cons.mp hz]), h3⟩⟩
theorem adj_snoc : ∀ (a : Stk) (x y : Nat × Nat), Adj (a ++ [x]) → x.1 ≠ y.1 → Adj (a ++ [x] ++ [y])
  | [], x, y, _, h => ⟨h, trivial⟩
  | [z], x, y, h1, h => ⟨h1.1, h, trivial⟩
  | z :: w :: r, x, y, h1, h => ⟨h1.1, adj_snoc (w :: r) x y h1.2 h⟩
theorem adj_rev : ∀ {a : Stk}, Adj a → Adj a.reverse
  | [], _ => trivial
  | [x], _ => trivial
  | x :: y :: r, h => by
    have ih := adj_rev h.2
    rw [List.reverse_cons] at ih ⊢
    rw [List.reverse_cons]
    exact adj_snoc r.reverse y x ih h.1.symm
theorem flatS_flat (st : Stk) : flatS st = (st.reverse.map fun x => List.replicate x.2 x.1).flatten := by
  induction st with
  | nil => rfl
  | cons x r ih =>
    obtain ⟨k, n⟩ := x
    rw [List.reverse_cons, List.map_append, List.flatten_append, ← ih]
    simp [flatS]
theorem invS_flat (st : Stk) : invS sz st = flatS ((st.map fun x => (x.1, sz x.1 - x.2)).reverse) := by
  rw [flatS_flat, List.reverse_reverse, List.map_map]
  rfl
theorem adj_map {f : Nat × Nat → Nat × Nat} (hf : ∀ x, (f x).1 = x.1) : ∀ {a : Stk}, Adj a → Adj (a.map f)
  | [], _ => trivial
  | [_], _ => trivial
  | x :: y :: r, h => ⟨by rw [hf, hf]; exact h.1, adj_map hf h.2⟩
theorem inv_vld {st : Stk} (h : Vld sz st) : Vld sz ((st.map fun x => (x.1, sz x.1 - x.2)).reverse) := by
  obtain ⟨h1, h2⟩ := vld_iff.mp h
  refine vld_iff.mpr ⟨fun x hx => ?_, adj_rev (adj_map (f := fun x => (x.1, sz x.1 - x.2)) (fun _ => rfl) h2)⟩
  rw [List.mem_reverse] at hx
  obtain ⟨y, hy, rfl⟩ := List.mem_map.mp hx
  have := h1 y hy
  exact ⟨by show 1 ≤ sz y.1 - y.2; omega, by show sz y.1 - y.2 < sz y.1; omega⟩
theorem stk_inv (hs : ∀ k, 1 ≤ sz k) (l : List Nat) : stk sz (inv sz l) = ((stk sz l).map fun x => (x.1, sz x.1 - x.2)).reverse := by
  unfold inv
  rw [invS_flat]
  exact stk_flat (inv_vld (vld_of hs l))
theorem res_inv (hs : ∀ k, 1 ≤ sz k) (l : List Nat) : res sz (inv sz l) = inv sz l := by
  unfold res
  rw [stk_inv hs]
  unfold inv
  rw [invS_flat]
theorem inv_of_stk {a b : List Nat} (h : stk sz a = stk sz b) : inv sz a = inv sz b := by unfold inv; rw [h]
theorem inv_inv (hs : ∀ k, 1 ≤ sz k) (l : List Nat) : inv sz (inv sz l) = res sz l := by
  have h : stk sz l = stk sz (inv sz (inv sz l)) := inv_uniq hs (inv_left hs l)
  rw [← res_inv hs (inv sz l)]
  exact (res_eq_of h).symm
theorem inv_app (hs : ∀ k, 1 ≤ sz k) (a b : List Nat) : res sz (inv sz b ++ inv sz a) = inv sz (a ++ b) := by
  have h : stk sz ((a ++ b) ++ (inv sz b ++ inv sz a)) = [] := by
    have e : (a ++ b) ++ (inv sz b ++ inv sz a) = a ++ ((b ++ inv sz b) ++ inv sz a) := by simp
    rw [e, stk_cong hs (b := []) (inv_right hs b) a (inv sz a), List.nil_append, inv_right hs a]
  rw [← res_inv hs (a ++ b)]
  exact res_eq_of (inv_uniq hs h)
theorem inv_nil_iff {l : List Nat} (hs : ∀ k, 1 ≤ sz k) : inv sz l = [] ↔ res sz l = [] := by
  constructor
  · intro h
    have := inv_inv hs l
    rw [h] at this
    rw [← this]
    rfl
  · intro h
    have h2 : stk sz l = stk sz [] := stk_of_res hs h
    rw [inv_of_stk h2]
    rfl
/-! induction by packs -/
theorem pack_ind (hs : ∀ k, 1 ≤ sz k) {P : List Nat → Prop} (h0 : ∀ l, res sz l = l → P l) (h1 : ∀ u k v, P (u ++ v) → P (u ++ (List.replicate (sz k) k ++ v))) : ∀ l, P l := by
  have : ∀ n l, l.length ≤ n → P l := by
    intro n
    induction n with
    | zero =>
      intro l hl
      have : l = [] := List.length_eq_zero_iff.mp (by omega)
      subst this
      exact h0 [] rfl
    | succ n ih =>
      intro l hl
      by_cases hp : ∃ i, i < l.length ∧ PackAt sz l i
      · obtain ⟨i, hi, hp⟩ := hp
        obtain ⟨k, hk, e⟩ := packAt_split hp
        rw [e]
        refine h1 _ k _ (ih _ ?_)
        have el := congrArg List.length e
        rw [List.length_append, List.length_append, List.length_replicate] at el
        have := hs k
        rw [List.length_append]
        omega
      · exact h0 l (flat_irred (fun k _ => hs k) fun i hi hp2 => hp ⟨i, hi, hp2⟩)
  exact fun l => this l.length l (Nat.le_refl _)
/-- the row read from the other end -/
theorem flatS_rev (st : Stk) : (flatS st).reverse = flatS st.reverse := by
  rw [flatS_flat, flatS_flat, List.reverse_reverse, List.reverse_flatten, List.map_map, ← List.map_reverse, List.reverse_reverse]
  congr 1
  refine List.map_congr_left fun x _ => ?_
  show (List.replicate x.2 x.1).reverse = _
  rw [List.reverse_replicate]
theorem vld_rev {st : Stk} (h : Vld sz st) : Vld sz st.reverse := by
  obtain ⟨h1, h2⟩ := vld_iff.mp h
  exact vld_iff.mpr ⟨fun x hx => h1 x (List.mem_reverse.mp hx), adj_rev h2⟩
theorem stk_rev (hs : ∀ k, 1 ≤ sz k) : ∀ l : List Nat, stk sz l.reverse = (stk sz l).reverse := by
  refine pack_ind hs (fun l h => ?_) (fun u k v ih => ?_)
  · have hv := vld_of hs l
    have e : flatS (stk sz l) = l := h
    rw [← e, flatS_rev, stk_flat hv, stk_flat (vld_rev hv)]
  · rw [List.reverse_append, List.reverse_append, List.reverse_replicate, List.append_assoc]
    rw [stk_pack (fun y _ => hs y) (hs k), stk_pack (fun y _ => hs y) (hs k), ← List.reverse_append, ih]
theorem res_rev (hs : ∀ k, 1 ≤ sz k) (l : List Nat) : res sz l.reverse = (res sz l).reverse := by
  unfold res
  rw [stk_rev hs, flatS_rev]
theorem inv_rev (hs : ∀ k, 1 ≤ sz k) (l : List Nat) : inv sz l.reverse = (inv sz l).reverse := by
  unfold inv
  rw [stk_rev hs, invS_flat, invS_flat, flatS_rev, List.map_reverse, List.reverse_reverse]
theorem inv_mem {l : List Nat} {y : Nat} (h : y ∈ inv sz l) : y ∈ l := by
  unfold inv invS at h
  rw [List.mem_flatten] at h
  obtain ⟨z, hz, hy⟩ := h
  obtain ⟨x, hx, rfl⟩ := List.mem_map.mp hz
  rw [List.eq_of_mem_replicate hy]
  rcases foldl_mem l [] (n := x.2) (y := x.1) hx with h | ⟨m, h⟩
  · exact h
  · simp at h
end grp

-- NEEDS m_res split_runs checks
abbrev s_reduce_row : Stmt := topS 23
theorem sc_reduce_row : FnScope ["sizes", "row", "runs", "pack_numbers", "color", "positions"] ["sizes", "row"] (defScope s_reduce_row) := ⟨rfl, rfl, rfl, by decide +kernel, rfl, by decide +kernel, by decide +kernel⟩

abbrev txtR (x : Nat × List Nat) : List Nat := List.replicate x.2.length x.1
theorem RunsRep.get {H : Hp} {r : Runs} {as : List (Addr × Addr)} (h : RunsRep H r as) : ∀ {j : Nat} {x : V}, ((as.map fun x => V.ref x.1).reverse)[j]? = some x →
    ∃ k ps t b, x = .ref t ∧ H t = some (.tup [.str (S [k]), .ref b]) ∧ H b = some (.lst (ps.map iv)) ∧ r.reverse[j]? = some (k, ps) := by
  induction h with
  | nil => intro j x hx; simp at hx
  | @cons k ps r a b as h1 h2 h3 h4 ih =>
    intro j x hx
    rw [rev_ref] at hx
    have hl : ((as.map fun x => V.ref x.1).reverse).length = r.length := by rw [List.length_reverse, List.length_map, h4.len]
    rw [List.reverse_cons]
    by_cases hj : j < r.length
    · rw [List.getElem?_append_left (by omega)] at hx
      obtain ⟨k', ps', t, b', e1, e2, e3, e4⟩ := ih hx
      exact ⟨k', ps', t, b', e1, e2, e3, by rw [List.getElem?_append_left (by rw [List.length_reverse]; exact hj)]; exact e4⟩
    · rw [List.getElem?_append_right (by omega), hl] at hx
      have ej : j - r.length = 0 := by
        have := (List.getElem?_eq_some_iff.mp hx).1
        simp at this
        omega
      rw [ej] at hx
      cases hx
      refine ⟨k, ps, a, b, rfl, h1, h2, ?_⟩
      rw [List.getElem?_append_right (by rw [List.length_reverse]; omega), List.length_reverse, ej]; rfl
theorem sum_short {n : Nat} : ∀ (ys : List (List Nat)), (∀ y ∈ ys, y.length ≤ n) → (ys.map List.length).sum ≤ ys.length * n
  | [], _ => by simp
  | y :: r, h => by
    have ih := sum_short r fun z hz => h z (by simp [hz])
    have := h y (by simp)
    rw [List.map_cons, List.sum_cons, List.length_cons, Nat.succ_mul]
    omega
theorem OkR.szpos {zs : List Int} {l : List Nat} (hZ : OkZ zs) (h : OkR zs l) : ∀ y ∈ l, 1 ≤ szN zs y := fun y hy => by
  have := szI_ok hZ (h y hy)
  show 1 ≤ (szI zs y).toNat
  omega
theorem OkR.res {zs : List Int} {l : List Nat} (h : OkR zs l) : OkR zs (res (szN zs) l) := fun y hy => h y (stk_mem hy)
theorem szN_pos {zs : List Int} (hZ : OkZ zs) (k : Nat) : 1 ≤ szN zs k := by
  show 1 ≤ (szI zs k).toNat
  unfold szI
  rw [List.getD_eq_getElem?_getD]
  by_cases h : k - 97 < zs.length
  · rw [List.getElem?_eq_getElem h]
    have := hZ.all _ (List.getElem_mem h)
    show 1 ≤ (zs[k - 97]).toNat
    omega
  · rw [List.getElem?_eq_none (by omega)]
    decide
def sp_reduce_row (K : PySem.W.Frag) : Sp := fun vs H Q _ => ∃ (a : Addr) (zs : List Int) (l : List Nat), vs = [.ref a, .str (S l)] ∧ SqT K H a (zs.map V.int) ∧ OkZ zs ∧ OkR zs l ∧ l.length ≤ 1000 ∧ ∀ H', Same H H' → Q (.str (S (res (szN zs) l))) H'
theorem ok_reduce_row {f : Addr} {fd : FuncData} (F : Fun K "reduce_row" "reduce_row" s_reduce_row f fd) (B : Bi mg) (C_split_runs : Cal P w K mg base CX0 2 "split_runs" ["sizes", "row"] (sp_split_runs K)) : FnOk P w K mg base CX0 3 f fd ["sizes", "row"] (sp_reduce_row K) := by
  refine F.ok sc_reduce_row (fun vs H Q E h => ?_) (fun cdv A outer s H vs Q E hr h => ?_)
  · obtain ⟨v, lo, l, rfl, _⟩ := h
    rfl
  · obtain ⟨a, zs, l, rfl, hT, hZ, hR, hl, q⟩ := h
    refine ⟨_, (pss_cons (ps_asg (pe_cal C_split_runs (hr.mono (by decide)) pass0 (pa_cons (gv 0) (pa_cons (gv 1) pa_nil))) (pg_nm (K := K) (is := [2, 3]) (pgs_cons (pg_name (i := 2) sc_reduce_row.nd rfl (.inl rfl)) (pgs_cons (pg_name (i := 3) sc_reduce_row.nd rfl (.inl rfl)) pgs_nil)) nm2))
      (pss_one (ps_ret (pe_bmG (K := K) PySem.F.plainAttrs_str PySem.F.slot_str_join PySem.F.type_str_join (mt_joinG (K := K)) (pe_strC [] (by decide +kernel)) (pa_cons (pe_lc (own := [("color", 4), ("positions", 5)]) (by rfl) sc_reduce_row.nd (pi_seqG (K := K) (gv 2)) (blkOk_by (N := ["sizes", "row", "runs", "pack_numbers", "color", "positions"]) (sc := defScope s_reduce_row) (by decide +kernel)) (fun _ _ _ _ _ => (pg_nm (K := K) (is := [4, 5]) (pgs_cons (pg_name (i := 4) sc_reduce_row.nd rfl (.inl rfl)) (pgs_cons (pg_name (i := 5) sc_reduce_row.nd rfl (.inl rfl)) pgs_nil)) nm2)) (fun _ _ _ _ _ => pts_nil) (fun _ _ _ _ _ => (pe_op (op_mulG (K := K)) (gv 4) (pe_callB (cr_lenG (K := K)) (by rfl) B.len bt_len (pa_cons (gv 5) pa_nil))))) pa_nil))))), ?_⟩
    refine ⟨a, zs, l, rfl, hT, hZ, hR, hl, fun H1 p st pn as hsr hp hp1 => ⟨_, SqT.of hp1, rfl, .inl ⟨_, SqL.of hsr.hst, fun D hD => ?_⟩⟩⟩
    have hrl : (scan (szN zs) l.length l).runs.length ≤ l.length := by have := scan_runs_len (sz := szN zs) (n := l.length) (l := l) l.length (Nat.le_refl _); rwa [List.take_length] at this
    have hsh : Short l.length (scan (szN zs) l.length l).runs := by have := scan_short (sz := szN zs) (n := l.length) (l := l) l.length (Nat.le_refl _); rwa [List.take_length] at this
    have hres : res (szN zs) l = ((scan (szN zs) l.length l).runs.reverse.map txtR).flatten := by rw [flatR_eq, scan_stk]; rfl
    rw [hres] at q
    generalize scan (szN zs) l.length l = sc at *
    obtain ⟨runs, nums, tot⟩ := sc
    have hlas := hsr.rep.len
    have hlx : ((as.map fun x => V.ref x.1).reverse).length = runs.length := by rw [List.length_reverse, List.length_map]; exact hlas
    refine lc_list (xs := (as.map fun x => V.ref x.1).reverse) (fun j H2 => Same H1 H2 ∧ H2 D = some (.lst ((runs.reverse.take j).map fun x => V.str (S (txtR x))))) ⟨same_upd hD, upd_same⟩ ?_ ?_ ?_
    · rintro j H2 hj ⟨hsm, _⟩
      exact hsm.seq (SqL.of hsr.hst)
    · rintro j x H2 hx ⟨hsm, hD2⟩
      obtain ⟨k, ps, t, b, rfl, h1, h2, h3⟩ := hsr.rep.get hx
      have hj : j < runs.length := by rw [← hlx]; exact (List.getElem?_eq_some_iff.mp hx).1
      have hps : ps.length ≤ l.length := hsh (k, ps) (by
        have := List.mem_of_getElem? h3
        simpa using this)
      refine ⟨_, SqT.of (hsm _ _ h1), rfl, _, .inl (SqL.of (hsm _ _ h2)), ⟨by omega, by rw [List.length_map]; omega, ?_⟩, _, hD2, ?_, ?_⟩
      · rw [List.length_map, Int.toNat_natCast]
        show 1 * ps.length ≤ 1000000
        omega
      · rw [List.length_map, List.length_take, List.length_reverse]
        have hrl' : runs.length ≤ l.length := hrl
        exact small1000 (by omega)
      · refine ⟨hsm.at hD, ?_⟩
        rw [upd_same, List.take_add_one, h3, List.map_append]
        congr 3
        show [V.str (S (repL (((ps.map iv).length : Nat) : Int).toNat [k]))] = [V.str (S (List.replicate ps.length k))]
        rw [List.length_map, Int.toNat_natCast, repL_one]
    · rintro H2 ⟨hsm, hD2⟩
      rw [hlx, List.take_of_length_le (by rw [List.length_reverse]; exact Nat.le_refl _)] at hD2
      have hD3 : H2 D = some (.lst ((runs.reverse.map txtR).map fun l => V.str (S l))) := by rw [List.map_map]; exact hD2
      refine ⟨_, SqL.of hD3, ?_, ?_⟩
      · have e := sum_short (n := 1000) (runs.reverse.map txtR) (fun y hy => by
          obtain ⟨x, hx, rfl⟩ := List.mem_map.mp hy
          have := hsh x (by simpa using hx)
          show (List.replicate x.2.length x.1).length ≤ 1000
          rw [List.length_replicate]; omega)
        rw [List.length_map, List.length_reverse] at e
        show _ + _ * 0 ≤ _
        have : runs.length * 1000 ≤ 1000 * 1000 := Nat.mul_le_mul_right _ (by
          have : runs.length ≤ l.length := hrl
          omega)
        omega
      · show Q (.str (S (TL.joinL [] (runs.reverse.map txtR)))) H2
        rw [joinL_nil]
        exact q H2 (hsr.same.trans hsm)

-- NEEDS m_grp reduce_row
abbrev s_check_rows : Stmt := topS 19
theorem sc_check_rows : FnScope ["sizes", "first", "second"] ["sizes", "first", "second"] (defScope s_check_rows) := ⟨rfl, rfl, rfl, by decide +kernel, rfl, by decide +kernel, by decide +kernel⟩

def sp_check_rows (K : PySem.W.Frag) : Sp := fun vs H Q _ => ∃ (a : Addr) (zs : List Int) (l m : List Nat), vs = [.ref a, .str (S l), .str (S m)] ∧ SqT K H a (zs.map V.int) ∧ OkZ zs ∧ OkR zs l ∧ l.length ≤ 40 ∧ OkR zs m ∧ m.length ≤ 40 ∧ ∀ H', Same H H' → Q .non H'
theorem ok_check_rows {f : Addr} {fd : FuncData} (F : Fun K "check_rows" "check_rows" s_check_rows f fd) (B : Bi mg) (C_check_sizes : Cal P w K mg base CX0 2 "check_sizes" ["sizes"] (sp_check_sizes K)) (C_check_row : Cal P w K mg base CX0 2 "check_row" ["sizes", "row"] (sp_check_row K)) : FnOk P w K mg base CX0 3 f fd ["sizes", "first", "second"] (sp_check_rows K) := by
  refine F.ok sc_check_rows (fun vs H Q E h => ?_) (fun cdv A outer s H vs Q E hr h => ?_)
  · obtain ⟨a, zs, l, m, rfl, _⟩ := h
    rfl
  · obtain ⟨a, zs, l, m, rfl, hT, hZ, hR, hl, hR2, hl2, q⟩ := h
    refine ⟨_, (pss_cons (ps_expr (pe_cal C_check_sizes (hr.mono (by decide)) pass0 (pa_cons (gv 0) pa_nil)))
      (pss_cons (ps_expr (pe_cal C_check_row (hr.mono (by decide)) pass0 (pa_cons (gv 0) (pa_cons (gv 1) pa_nil))))
      (pss_one (ps_expr (pe_cal C_check_row (hr.mono (by decide)) pass0 (pa_cons (gv 0) (pa_cons (gv 2) pa_nil))))))), ?_⟩
    exact ⟨a, zs, rfl, hT, hZ, fun H1 s1 => ⟨a, zs, l, rfl, s1.tup hT, hZ, hR, hl, fun H2 s2 => ⟨a, zs, m, rfl, (s1.trans s2).tup hT, hZ, hR2, hl2, fun H3 s3 => q H3 ((s1.trans s2).trans s3)⟩⟩⟩
def sp_concat_residue (K : PySem.W.Frag) : Sp := fun vs H Q _ => ∃ (a : Addr) (zs : List Int) (l m : List Nat), vs = [.ref a, .str (S l), .str (S m)] ∧ SqT K H a (zs.map V.int) ∧ OkZ zs ∧ OkR zs l ∧ l.length ≤ 40 ∧ OkR zs m ∧ m.length ≤ 40 ∧ ∀ H', Same H H' → Q (.str (S (res (szN zs) (l ++ m)))) H'

abbrev s__law_size : Stmt := topS 56
theorem sc__law_size : FnScope ["_law_sizes_here", "_law_bead"] ["_law_sizes_here", "_law_bead"] (defScope s__law_size) := ⟨rfl, rfl, rfl, by decide +kernel, rfl, by decide +kernel, by decide +kernel⟩

def sp__law_size (K : PySem.W.Frag) : Sp := sp_size_of K
theorem ok__law_size {f : Addr} {fd : FuncData} (F : Fun K "_law_size" "_law_size" s__law_size f fd) (B : Bi mg) : FnOk P w K mg base CX0 1 f fd ["_law_sizes_here", "_law_bead"] (sp__law_size K) := by
  refine F.ok sc__law_size (fun vs H Q E h => ?_) (fun cdv A outer s H vs Q E hr h => ?_)
  · obtain ⟨a, zs, k, rfl, _⟩ := h
    rfl
  · obtain ⟨a, zs, k, rfl, hT, h1, h2, h3, q⟩ := h
    refine ⟨_, (pss_one (ps_ret (pe_ix (ixG (K := K)) (gv 0) (pe_bmG (K := K) PySem.F.plainAttrs_str PySem.F.slot_str_index PySem.F.type_str_index mt_indexG (pe_strC [97, 98, 99, 100, 101, 102] (by decide +kernel)) (pa_cons (gv 1) pa_nil)) (fun _ _ => rfl)))), ?_⟩
    exact ⟨rfl, k, rfl, rfl, ⟨h1, by omega⟩, zs.map V.int, _, .inr hT, at_szI h1 h2, q⟩

abbrev s__law_pack : Stmt := topS 57
theorem sc__law_pack : FnScope ["_law_sizes_here", "_law_row_here", "_law_at", "_law_size_here"] ["_law_sizes_here", "_law_row_here", "_law_at"] (defScope s__law_pack) := ⟨rfl, rfl, rfl, by decide +kernel, rfl, by decide +kernel, by decide +kernel⟩

/-- a pack starts at i, as a test -/
def packB (sz : Nat → Nat) (l : List Nat) (i : Nat) : Bool := decide ((l.drop i).take (sz (l.getD i 0)) = List.replicate (sz (l.getD i 0)) (l.getD i 0))
theorem getD_of {l : List Nat} {i k : Nat} (h : l[i]? = some k) : l.getD i 0 = k := by
  rw [List.getD_eq_getElem?_getD, h]; rfl
theorem packB_iff {sz : Nat → Nat} {l : List Nat} {i : Nat} (hi : i < l.length) : packB sz l i = true ↔ PackAt sz l i := by
  have hk := List.getElem?_eq_getElem hi
  unfold packB PackAt
  rw [decide_eq_true_iff, getD_of hk]
  constructor
  · intro h; exact ⟨_, hk, h⟩
  · rintro ⟨k, h1, h2⟩
    rw [hk] at h1
    cases h1
    exact h2
def sp__law_pack (K : PySem.W.Frag) : Sp := fun vs H Q _ => ∃ (a : Addr) (zs : List Int) (l : List Nat) (i : Nat), vs = [.ref a, .str (S l), iv i] ∧ SqT K H a (zs.map V.int) ∧ OkZ zs ∧ OkR zs l ∧ i < l.length ∧ l.length ≤ 1000 ∧ Q (.bl (packB (szN zs) l i)) H
theorem ok__law_pack {f : Addr} {fd : FuncData} (F : Fun K "_law_pack" "_law_pack" s__law_pack f fd) (B : Bi mg) (C__law_size : Cal P w K mg base CX0 1 "_law_size" ["_law_sizes_here", "_law_bead"] (sp__law_size K)) : FnOk P w K mg base CX0 2 f fd ["_law_sizes_here", "_law_row_here", "_law_at"] (sp__law_pack K) := by
  refine F.ok sc__law_pack (fun vs H Q E h => ?_) (fun cdv A outer s H vs Q E hr h => ?_)
  · obtain ⟨a, zs, l, i, rfl, _⟩ := h
    rfl
  · obtain ⟨a, zs, l, i, rfl, hT, hZ, hR, hi, hl, q⟩ := h
    refine ⟨_, (pss_cons (ps_set (i := 3) sc__law_pack.nd rfl (.inl rfl) (pe_cal C__law_size (hr.mono (by decide)) pass0 (pa_cons (gv 0) (pa_cons (pe_ix (ixG (K := K)) (gv 1) (gv 2) (fun _ _ => rfl)) pa_nil))))
      (pss_one (ps_ret (pe_cmpR (op_eqG (K := K) hr.units) (pe_slice (slG (K := K)) (gv 1) (po_someG (gv 2)) (po_someG (pe_op (op_addG (K := K)) (gv 2) (gv 3)))) (pe_op (op_mulG (K := K)) (pe_ix (ixG (K := K)) (gv 1) (gv 2) (fun _ _ => rfl)) (gv 3)) (nomark _))))), ?_⟩
    have hk := List.getElem?_eq_getElem hi
    have hk1 := hR _ (List.getElem_mem hi)
    have hz := szI_ok hZ hk1
    unfold packB at q
    rw [getD_of hk] at q
    generalize l[i] = k at *
    refine ⟨k, by rw [tl_S]; omega, atI_nat hk, a, zs, k, rfl, hT, hk1.1, hk1.2, hZ.six, by rw [tl_S]; omega, k, by rw [tl_S]; omega, atI_nat hk, ⟨by omega, by omega, ?_⟩, ?_⟩
    · show 1 * (szI zs k).toNat ≤ 1000000
      omega
    · show Q (.bl (decide (cutL l (some (i : Int)) (some ((i : Int) + szI zs k)) = repL (szI zs k).toNat [k]))) H
      rw [cutL_mid l (by omega) (by omega), repL_one, Int.toNat_natCast]
      have e : ((i : Int) + szI zs k).toNat - i = (szI zs k).toNat := by omega
      rw [e]
      exact q

abbrev s__law_equal : Stmt := topS 52
theorem sc__law_equal : FnScope ["_law_actual", "_law_expected", "_law_k"] ["_law_actual", "_law_expected"] (defScope s__law_equal) := ⟨rfl, rfl, rfl, by decide +kernel, rfl, by decide +kernel, by decide +kernel⟩

mutual
theorem Dp_same {K : PySem.W.Frag} {H H' : Hp} (s : Same H H') : ∀ {v : V} {d : PyData}, Dp K H v d → Dp K H' v d
  | _, _, .non => .non
  | _, _, .bl b => .bl b
  | _, _, .int i => .int i
  | _, _, .str x => .str x
  | _, _, .lst h1 h2 => .lst (s.seq h1) (DpAll_same s h2)
  | _, _, .tup h1 h2 => .tup (s.tup h1) (DpAll_same s h2)
theorem DpAll_same {K : PySem.W.Frag} {H H' : Hp} (s : Same H H') : ∀ {vs : List V} {ds : List PyData}, DpAll K H vs ds → DpAll K H' vs ds
  | _, _, .nil => .nil
  | _, _, .cons h1 h2 => .cons (Dp_same s h1) (DpAll_same s h2)
end
theorem DpAll_len {K : PySem.W.Frag} {H : Hp} : ∀ {vs : List V} {ds : List PyData}, DpAll K H vs ds → vs.length = ds.length
  | _, _, .nil => rfl
  | _, _, .cons _ h => by rw [List.length_cons, List.length_cons, DpAll_len h]
theorem DpAll_get {K : PySem.W.Frag} {H : Hp} : ∀ {vs : List V} {ds : List PyData}, DpAll K H vs ds → ∀ {i : Nat} {d : PyData}, ds[i]? = some d → ∃ v, vs[i]? = some v ∧ Dp K H v d
  | _, _, .nil, _, _, e => by simp at e
  | _, _, .cons h _, 0, _, e => by cases e; exact ⟨_, rfl, h⟩
  | _, _, .cons _ h, i + 1, _, e => DpAll_get h (i := i) e
/-- a datum of at most n levels, its lists not long -/
def Nar : Nat → PyData → Prop
  | _, .none => True
  | _, .bool _ => True
  | _, .int _ => True
  | _, .str _ => True
  | n + 1, .list ds => ds.length ≤ 100000 ∧ ∀ d ∈ ds, Nar n d
  | n + 1, .tuple ds => ds.length ≤ 100000 ∧ ∀ d ∈ ds, Nar n d
  | _, _ => False
/-- two values that read as one datum -/
def spEq (n : Nat) (K : PySem.W.Frag) : Sp := fun vs H Q _ => ∃ (u v : V) (d : PyData), vs = [u, v] ∧ Dp K H u d ∧ Dp K H v d ∧ Nar n d ∧ ∀ H', Same H H' → Q (.bl true) H'
def sp__law_equal (K : PySem.W.Frag) : Sp := spEq 4 K
theorem bool_yes {K : PySem.W.Frag} {b : Bool} {H : Hp} {Q : VK} (h : Q (.bl true) H) : gEqW K id (.bl b) (.bl b) H Q := by
  show Q (.bl (id (decide (b = b)))) H
  rw [decide_eq_true rfl]
  exact h
theorem ok_eq0 {f : Addr} {fd : FuncData} (F : Fun K "_law_equal" "_law_equal" s__law_equal f fd) (B : Bi mg) : FnOk P w K mg base CX0 1 f fd ["_law_actual", "_law_expected"] (spEq 0 K) := by
  refine F.ok sc__law_equal (fun vs H Q E h => ?_) (fun cdv A outer s H vs Q E hr h => ?_)
  · obtain ⟨a, zs, l, rfl, _⟩ := h
    rfl
  · obtain ⟨u, v, d, rfl, hu, hv, hd, q⟩ := h
    refine ⟨_, (pss_cons (ps_if (pt_cmpG op_isG (gv 1) pe_non (nomark _))
      (pss_one (ps_ret (pe_cmpR op_isG (gv 0) pe_non (nomark _))))
      pss_nil)
      (pss_cons (ps_if (pt_truG (K := K) (pe_callB (cr_isiG (K := K) .kbool) (by rfl) B.isinstance bt_isinstance (pa_cons (gv 1) (pa_cons (pe_bltn (v := .ty "bool") (by rfl) B.bool bt_bool rfl) pa_nil))))
      (pss_one (ps_ret (pe_andG (pe_callB (cr_isiG (K := K) .kbool) (by rfl) B.isinstance bt_isinstance (pa_cons (gv 0) (pa_cons (pe_bltn (v := .ty "bool") (by rfl) B.bool bt_bool rfl) pa_nil))) (pe_one (pe_cmpR (op_eqG (K := K) hr.units) (gv 0) (gv 1) (nomark _))))))
      pss_nil)
      (pss_cons (ps_if (pt_truG (K := K) (pe_callB (cr_isiG (K := K) .kint) (by rfl) B.isinstance bt_isinstance (pa_cons (gv 1) (pa_cons (pe_bltn (v := .ty "int") (by rfl) B.int bt_int rfl) pa_nil))))
      (pss_one (ps_ret (pe_andG (pe_callB (cr_isiG (K := K) .kint) (by rfl) B.isinstance bt_isinstance (pa_cons (gv 0) (pa_cons (pe_bltn (v := .ty "int") (by rfl) B.int bt_int rfl) pa_nil))) (pe_andG (pe_notG (pe_callB (cr_isiG (K := K) .kbool) (by rfl) B.isinstance bt_isinstance (pa_cons (gv 0) (pa_cons (pe_bltn (v := .ty "bool") (by rfl) B.bool bt_bool rfl) pa_nil)))) (pe_one (pe_cmpR (op_eqG (K := K) hr.units) (gv 0) (gv 1) (nomark _)))))))
      pss_nil)
      (pss_cons (ps_if (pt_truG (K := K) (pe_callB (cr_isiG (K := K) .kstr) (by rfl) B.isinstance bt_isinstance (pa_cons (gv 1) (pa_cons (pe_bltn (v := .ty "str") (by rfl) B.str bt_str rfl) pa_nil))))
      (pss_one (ps_ret (pe_andG (pe_callB (cr_isiG (K := K) .kstr) (by rfl) B.isinstance bt_isinstance (pa_cons (gv 0) (pa_cons (pe_bltn (v := .ty "str") (by rfl) B.str bt_str rfl) pa_nil))) (pe_one (pe_cmpR (op_eqG (K := K) hr.units) (gv 0) (gv 1) (nomark _))))))
      pss_nil)
      (pss_cons (ps_if (pt_cmpG (op_neG (K := K) hr.units) (pe_callB (cr_isiG (K := K) .ktuple) (by rfl) B.isinstance bt_isinstance (pa_cons (gv 1) (pa_cons (pe_bltn (v := .ty "tuple") (by rfl) B.tuple bt_tuple rfl) pa_nil))) (pe_callB (cr_isiG (K := K) .ktuple) (by rfl) B.isinstance bt_isinstance (pa_cons (gv 0) (pa_cons (pe_bltn (v := .ty "tuple") (by rfl) B.tuple bt_tuple rfl) pa_nil))) (nomark _))
      (pss_one (ps_ret pe_bl))
      pss_nil)
      (pss_cons (ps_if (pt_cmpG (op_neG (K := K) hr.units) (pe_callB (cr_isiG (K := K) .klist) (by rfl) B.isinstance bt_isinstance (pa_cons (gv 1) (pa_cons (pe_bltn (v := .ty "list") (by rfl) B.list bt_list rfl) pa_nil))) (pe_callB (cr_isiG (K := K) .klist) (by rfl) B.isinstance bt_isinstance (pa_cons (gv 0) (pa_cons (pe_bltn (v := .ty "list") (by rfl) B.list bt_list rfl) pa_nil))) (nomark _))
      (pss_one (ps_ret pe_bl))
      pss_nil)
      (pss_cons (ps_if (pt_cmpG (op_neG (K := K) hr.units) (pe_callB (cr_lenG (K := K)) (by rfl) B.len bt_len (pa_cons (gv 0) pa_nil)) (pe_callB (cr_lenG (K := K)) (by rfl) B.len bt_len (pa_cons (gv 1) pa_nil)) (nomark _))
      (pss_one (ps_ret pe_bl))
      pss_nil)
      (pss_one ps_never)))))))), ?_⟩
    have q := q H (Same.refl H)
    cases hv with
    | non => cases hu; exact q
    | bl b => cases hu; exact ⟨rfl, rfl, bool_yes (K := K) q⟩
    | int i =>
      cases hu
      refine ⟨rfl, rfl, rfl, rfl, ?_⟩
      show Q (.bl (id (decide (i = i)))) H
      rw [decide_eq_true rfl]
      exact q
    | str x =>
      cases hu
      refine ⟨rfl, rfl, rfl, rfl, ?_⟩
      show Q (.bl (id (decide (tl x = tl x)))) H
      rw [decide_eq_true rfl]
      exact q
    | lst h1 h2 => exact hd.elim
    | tup h1 h2 => exact hd.elim
theorem ok_eqS {n : Nat} {f : Addr} {fd : FuncData} (F : Fun K "_law_equal" "_law_equal" s__law_equal f fd) (B : Bi mg) (C_self : Cal P w K mg base CX0 (n + 1) "_law_equal" ["_law_actual", "_law_expected"] (spEq n K)) : FnOk P w K mg base CX0 (n + 2) f fd ["_law_actual", "_law_expected"] (spEq (n + 1) K) := by
  refine F.ok sc__law_equal (fun vs H Q E h => ?_) (fun cdv A outer s H vs Q E hr h => ?_)
  · obtain ⟨a, zs, l, rfl, _⟩ := h
    rfl
  · obtain ⟨u, v, d, rfl, hu, hv, hd, q⟩ := h
    refine ⟨_, (pss_cons (ps_if (pt_cmpG op_isG (gv 1) pe_non (nomark _))
      (pss_one (ps_ret (pe_cmpR op_isG (gv 0) pe_non (nomark _))))
      pss_nil)
      (pss_cons (ps_if (pt_truG (K := K) (pe_callB (cr_isiG (K := K) .kbool) (by rfl) B.isinstance bt_isinstance (pa_cons (gv 1) (pa_cons (pe_bltn (v := .ty "bool") (by rfl) B.bool bt_bool rfl) pa_nil))))
      (pss_one (ps_ret (pe_andG (pe_callB (cr_isiG (K := K) .kbool) (by rfl) B.isinstance bt_isinstance (pa_cons (gv 0) (pa_cons (pe_bltn (v := .ty "bool") (by rfl) B.bool bt_bool rfl) pa_nil))) (pe_one (pe_cmpR (op_eqG (K := K) hr.units) (gv 0) (gv 1) (nomark _))))))
      pss_nil)
      (pss_cons (ps_if (pt_truG (K := K) (pe_callB (cr_isiG (K := K) .kint) (by rfl) B.isinstance bt_isinstance (pa_cons (gv 1) (pa_cons (pe_bltn (v := .ty "int") (by rfl) B.int bt_int rfl) pa_nil))))
      (pss_one (ps_ret (pe_andG (pe_callB (cr_isiG (K := K) .kint) (by rfl) B.isinstance bt_isinstance (pa_cons (gv 0) (pa_cons (pe_bltn (v := .ty "int") (by rfl) B.int bt_int rfl) pa_nil))) (pe_andG (pe_notG (pe_callB (cr_isiG (K := K) .kbool) (by rfl) B.isinstance bt_isinstance (pa_cons (gv 0) (pa_cons (pe_bltn (v := .ty "bool") (by rfl) B.bool bt_bool rfl) pa_nil)))) (pe_one (pe_cmpR (op_eqG (K := K) hr.units) (gv 0) (gv 1) (nomark _)))))))
      pss_nil)
      (pss_cons (ps_if (pt_truG (K := K) (pe_callB (cr_isiG (K := K) .kstr) (by rfl) B.isinstance bt_isinstance (pa_cons (gv 1) (pa_cons (pe_bltn (v := .ty "str") (by rfl) B.str bt_str rfl) pa_nil))))
      (pss_one (ps_ret (pe_andG (pe_callB (cr_isiG (K := K) .kstr) (by rfl) B.isinstance bt_isinstance (pa_cons (gv 0) (pa_cons (pe_bltn (v := .ty "str") (by rfl) B.str bt_str rfl) pa_nil))) (pe_one (pe_cmpR (op_eqG (K := K) hr.units) (gv 0) (gv 1) (nomark _))))))
      pss_nil)
      (pss_cons (ps_if (pt_cmpG (op_neG (K := K) hr.units) (pe_callB (cr_isiG (K := K) .ktuple) (by rfl) B.isinstance bt_isinstance (pa_cons (gv 1) (pa_cons (pe_bltn (v := .ty "tuple") (by rfl) B.tuple bt_tuple rfl) pa_nil))) (pe_callB (cr_isiG (K := K) .ktuple) (by rfl) B.isinstance bt_isinstance (pa_cons (gv 0) (pa_cons (pe_bltn (v := .ty "tuple") (by rfl) B.tuple bt_tuple rfl) pa_nil))) (nomark _))
      (pss_one (ps_ret pe_bl))
      pss_nil)
      (pss_cons (ps_if (pt_cmpG (op_neG (K := K) hr.units) (pe_callB (cr_isiG (K := K) .klist) (by rfl) B.isinstance bt_isinstance (pa_cons (gv 1) (pa_cons (pe_bltn (v := .ty "list") (by rfl) B.list bt_list rfl) pa_nil))) (pe_callB (cr_isiG (K := K) .klist) (by rfl) B.isinstance bt_isinstance (pa_cons (gv 0) (pa_cons (pe_bltn (v := .ty "list") (by rfl) B.list bt_list rfl) pa_nil))) (nomark _))
      (pss_one (ps_ret pe_bl))
      pss_nil)
      (pss_cons (ps_if (pt_cmpG (op_neG (K := K) hr.units) (pe_callB (cr_lenG (K := K)) (by rfl) B.len bt_len (pa_cons (gv 0) pa_nil)) (pe_callB (cr_lenG (K := K)) (by rfl) B.len bt_len (pa_cons (gv 1) pa_nil)) (nomark _))
      (pss_one (ps_ret pe_bl))
      pss_nil)
      (pss_one (ps_ret (pe_callB (cr_allG (K := K) rfl) (by rfl) B.all bt_all (pa_cons (pe_lc (own := [("_law_k", 2)]) (by rfl) sc__law_equal.nd (pi_range1 (by rfl) B.range (pa_cons (pe_callB (cr_lenG (K := K)) (by rfl) B.len bt_len (pa_cons (gv 1) pa_nil)) pa_nil)) (blkOk_by (N := ["_law_actual", "_law_expected", "_law_k"]) (sc := defScope s__law_equal) (by decide +kernel)) (fun _ _ _ _ _ => (pg_name (i := 2) sc__law_equal.nd rfl (.inl rfl))) (fun _ _ _ _ _ => pts_nil) (fun _ _ _ _ _ => (pe_cal C_self hr pass0 (pa_cons (pe_ix (ixG (K := K)) (gv 0) (gv 2) (fun _ _ => rfl)) (pa_cons (pe_ix (ixG (K := K)) (gv 1) (gv 2) (fun _ _ => rfl)) pa_nil))))) pa_nil))))))))))), ?_⟩
    have q0 := q H (Same.refl H)
    -- the items, one by one
    have items : ∀ (a b : Addr) (xs ys : List V) (ds : List PyData), (SqL K H a xs ∨ SqT K H a xs) → (SqL K H b ys ∨ SqT K H b ys) → DpAll K H xs ds → DpAll K H ys ds → ds.length ≤ 100000 → (∀ d ∈ ds, Nar n d) →
        tRet (tCB (gAll K) (tCons (tLc (iRng1 (tCons (tCB (gLen K) (tCons (gV 1) tNil)) tNil)) (gName 2) tYes
          (tCal (spEq n K) E0 (tCons (tOp (gIx K) (gV 0) (gV 2)) (tCons (tOp (gIx K) (gV 1) (gV 2)) tNil))) (List.map (fun x => x.snd) [(Str.ofString "_law_k", 2)])) tNil))
          { nx := fun x H' => Q V.non H', rt := Q } [some (.ref a), some (.ref b), none] H := fun a b xs ys ds ha hb hx hy hlen hnar => by
      have hl1 := DpAll_len hx
      have hl2 := DpAll_len hy
      refine ⟨_, hb, _, rfl, by omega, by omega, fun D hD => ?_⟩
      refine lc_range (fun i H1 => Same H H1 ∧ H1 D = some (.lst ((List.replicate i true).map V.bl))) ⟨same_upd hD, upd_same⟩ ?_ ?_
      · rintro i H1 hi ⟨hs, hD1⟩
        rw [Int.toNat_natCast] at hi
        obtain ⟨d, hd⟩ : ∃ d, ds[i]? = some d := ⟨_, List.getElem?_eq_getElem (by omega)⟩
        obtain ⟨x, hx1, hx2⟩ := DpAll_get hx hd
        obtain ⟨y, hy1, hy2⟩ := DpAll_get hy hd
        have mv : ∀ {p : Addr} {zs : List V}, (SqL K H p zs ∨ SqT K H p zs) → (SqL K H1 p zs ∨ SqT K H1 p zs) := fun h => h.elim (fun h => .inl (hs.seq h)) fun h => .inr (hs.tup h)
        refine ⟨rfl, xs, x, mv ha, at_of (Int.zero_add _) hx1, ys, y, mv hb, at_of (Int.zero_add _) hy1, x, y, d, rfl, Dp_same hs hx2, Dp_same hs hy2, hnar d (List.mem_of_getElem? hd), fun H2 hs2 => ?_⟩
        refine ⟨_, hs2 _ _ hD1, ?_, (hs.trans hs2).at hD, ?_⟩
        · rw [List.length_map, List.length_replicate]
          exact Nat.lt_of_lt_of_le (show i < 1000000 by omega) line6
        · rw [upd_same, List.replicate_succ', List.map_append]; rfl
      · rintro H1 ⟨hs, hD1⟩
        refine ⟨_, SqL.of hD1, ?_⟩
        have e : (List.replicate ((((ys.length : Nat) : Int)).toNat) true).all id = true := by rw [List.all_eq_true]; intro x hx; rw [List.eq_of_mem_replicate hx]; rfl
        rw [e]
        exact q H1 hs
    cases hv with
    | non => cases hu; exact q0
    | bl b => cases hu; exact ⟨rfl, rfl, bool_yes (K := K) q0⟩
    | int i =>
      cases hu
      refine ⟨rfl, rfl, rfl, rfl, ?_⟩
      show Q (.bl (id (decide (i = i)))) H
      rw [decide_eq_true rfl]
      exact q0
    | str x =>
      cases hu
      refine ⟨rfl, rfl, rfl, rfl, ?_⟩
      show Q (.bl (id (decide (tl x = tl x)))) H
      rw [decide_eq_true rfl]
      exact q0
    | @lst b ys ds h1 h2 =>
      cases hu with
      | @lst a xs _ g1 g2 =>
        have hl1 := DpAll_len h2
        have hl2 := DpAll_len g2
        refine ⟨rfl, .inl ⟨⟨_, h1⟩, rfl, .inl ⟨⟨_, h1⟩, rfl, .inl ⟨⟨_, h1⟩, rfl, .inl ⟨⟨_, h1⟩, rfl, .inl ⟨⟨_, g1⟩, rfl, .inl ⟨⟨_, h1⟩, rfl, .inl ⟨⟨_, g1⟩, ?_⟩⟩⟩⟩⟩⟩⟩⟩
        refine ⟨_, .inl g1, _, .inl h1, iteB ⟨fun e => ?_, fun _ => items a b xs ys ds (.inl g1) (.inl h1) g2 h2 hd.1 hd.2⟩⟩
        exfalso
        have e2 : (!decide (((xs.length : Nat) : Int) = ((ys.length : Nat) : Int))) = true := e
        rw [decide_eq_true (by omega)] at e2
        cases e2
    | @tup b ys ds h1 h2 =>
      cases hu with
      | @tup a xs _ g1 g2 =>
        have hl1 := DpAll_len h2
        have hl2 := DpAll_len g2
        refine ⟨rfl, .inr ⟨⟨_, h1⟩, rfl, .inr ⟨⟨_, h1⟩, rfl, .inr ⟨⟨_, h1⟩, rfl, .inr ⟨⟨_, h1⟩, rfl, .inr ⟨⟨_, g1⟩, rfl, .inr ⟨⟨_, h1⟩, rfl, .inr ⟨⟨_, g1⟩, ?_⟩⟩⟩⟩⟩⟩⟩⟩
        refine ⟨_, .inr g1, _, .inr h1, iteB ⟨fun e => ?_, fun _ => items a b xs ys ds (.inr g1) (.inr h1) g2 h2 hd.1 hd.2⟩⟩
        exfalso
        have e2 : (!decide (((xs.length : Nat) : Int) = ((ys.length : Nat) : Int))) = true := e
        rw [decide_eq_true (by omega)] at e2
        cases e2
theorem ok__law_equal {f : Addr} {fd : FuncData} (F : Fun K "_law_equal" "_law_equal" s__law_equal f fd) (B : Bi mg) (hm : mg "_law_equal" = some (.ref f)) (hb : Binds K fd ["_law_actual", "_law_expected"] []) : FnOk P w K mg base CX0 5 f fd ["_law_actual", "_law_expected"] (sp__law_equal K) := by
  have c0 := ok_eq0 (P := P) (w := w) (base := base) F B
  have c1 := ok_eqS F B (Cal.mk' F hm hb c0)
  have c2 := ok_eqS F B (Cal.mk' F hm hb c1)
  have c3 := ok_eqS F B (Cal.mk' F hm hb c2)
  exact ok_eqS F B (Cal.mk' F hm hb c3)

-- NEEDS m_grp reduce_row
abbrev s_invert_row : Stmt := topS 24
theorem sc_invert_row : FnScope ["sizes", "row", "runs", "pack_numbers", "color", "positions"] ["sizes", "row"] (defScope s_invert_row) := ⟨rfl, rfl, rfl, by decide +kernel, rfl, by decide +kernel, by decide +kernel⟩

def sp_invert_row (K : PySem.W.Frag) : Sp := fun vs H Q _ => ∃ (a : Addr) (zs : List Int) (l : List Nat), vs = [.ref a, .str (S l)] ∧ SqT K H a (zs.map V.int) ∧ OkZ zs ∧ OkR zs l ∧ l.length ≤ 1000 ∧ ∀ H', Same H H' → Q (.str (S (inv (szN zs) l))) H'
theorem RunsRep.get' {H : Hp} {r : Runs} {as : List (Addr × Addr)} (h : RunsRep H r as) : ∀ {j : Nat} {x : V}, (as.map fun x => V.ref x.1)[j]? = some x →
    ∃ k ps t b, x = .ref t ∧ H t = some (.tup [.str (S [k]), .ref b]) ∧ H b = some (.lst (ps.map iv)) ∧ r[j]? = some (k, ps) := by
  induction h with
  | nil => intro j x hx; simp at hx
  | @cons k ps r a b as h1 h2 h3 h4 ih =>
    intro j x hx
    cases j with
    | zero => cases hx; exact ⟨k, ps, a, b, rfl, h1, h2, rfl⟩
    | succ j => exact ih hx
theorem inv_runs (sz : Nat → Nat) (runs : Runs) : (runs.map fun x => List.replicate (sz x.1 - x.2.length) x.1).flatten = invS sz (cntR runs) := by
  unfold invS cntR
  rw [List.map_map]
  rfl
theorem runs_colors {sz : Nat → Nat} {n : Nat} {l : List Nat} {x : Nat × List Nat} (h : x ∈ (scan sz n l).runs) : x.1 ∈ l := by
  have e := scan_stk sz n l
  have h2 : (x.1, x.2.length) ∈ stk sz l := by rw [← e]; exact List.mem_map.mpr ⟨x, h, rfl⟩
  rcases foldl_mem l [] h2 with h | ⟨m, h⟩
  · exact h
  · simp at h
theorem runs_sz {sz : Nat → Nat} {n : Nat} {l : List Nat} (hs : ∀ k, 1 ≤ sz k) {x : Nat × List Nat} (h : x ∈ (scan sz n l).runs) : 1 ≤ x.2.length ∧ x.2.length < sz x.1 := by
  have e := scan_stk sz n l
  have h2 : (x.1, x.2.length) ∈ stk sz l := by rw [← e]; exact List.mem_map.mpr ⟨x, h, rfl⟩
  exact (vld_iff.mp (vld_of hs l)).1 _ h2
theorem ok_invert_row {f : Addr} {fd : FuncData} (F : Fun K "invert_row" "invert_row" s_invert_row f fd) (B : Bi mg) (C_split_runs : Cal P w K mg base CX0 2 "split_runs" ["sizes", "row"] (sp_split_runs K)) (C_size_of : Cal P w K mg base CX0 1 "size_of" ["sizes", "color"] (sp_size_of K)) : FnOk P w K mg base CX0 3 f fd ["sizes", "row"] (sp_invert_row K) := by
  refine F.ok sc_invert_row (fun vs H Q E h => ?_) (fun cdv A outer s H vs Q E hr h => ?_)
  · obtain ⟨a, zs, l, rfl, _⟩ := h
    rfl
  · obtain ⟨a, zs, l, rfl, hT, hZ, hR, hl, q⟩ := h
    refine ⟨_, (pss_cons (ps_asg (pe_cal C_split_runs (hr.mono (by decide)) pass0 (pa_cons (gv 0) (pa_cons (gv 1) pa_nil))) (pg_nm (K := K) (is := [2, 3]) (pgs_cons (pg_name (i := 2) sc_invert_row.nd rfl (.inl rfl)) (pgs_cons (pg_name (i := 3) sc_invert_row.nd rfl (.inl rfl)) pgs_nil)) nm2))
      (pss_one (ps_ret (pe_bmG (K := K) PySem.F.plainAttrs_str PySem.F.slot_str_join PySem.F.type_str_join (mt_joinG (K := K)) (pe_strC [] (by decide +kernel)) (pa_cons (pe_lc (own := [("color", 4), ("positions", 5)]) (by rfl) sc_invert_row.nd (pi_seqG (K := K) (pe_revG (K := K) (gv 2))) (blkOk_by (N := ["sizes", "row", "runs", "pack_numbers", "color", "positions"]) (sc := defScope s_invert_row) (by decide +kernel)) (fun _ _ _ _ _ => (pg_nm (K := K) (is := [4, 5]) (pgs_cons (pg_name (i := 4) sc_invert_row.nd rfl (.inl rfl)) (pgs_cons (pg_name (i := 5) sc_invert_row.nd rfl (.inl rfl)) pgs_nil)) nm2)) (fun _ _ _ _ _ => pts_nil) (fun _ _ _ _ _ => (pe_op (op_mulG (K := K)) (gv 4) (pe_op op_subG (pe_cal C_size_of (hr.mono (by decide)) pass0 (pa_cons (gv 0) (pa_cons (gv 4) pa_nil))) (pe_callB (cr_lenG (K := K)) (by rfl) B.len bt_len (pa_cons (gv 5) pa_nil)))))) pa_nil))))), ?_⟩
    refine ⟨a, zs, l, rfl, hT, hZ, hR, hl, fun H1 p st pn as hsr hp hp1 => ⟨_, SqT.of hp1, rfl, _, SqL.of hsr.hst, fun g hg => .inl ⟨_, SqL.of upd_same, fun D hD => ?_⟩⟩⟩
    rw [List.reverse_reverse] at hD ⊢
    have hrl : (scan (szN zs) l.length l).runs.length ≤ l.length := by have := scan_runs_len (sz := szN zs) (n := l.length) (l := l) l.length (Nat.le_refl _); rwa [List.take_length] at this
    have hcol : ∀ x ∈ (scan (szN zs) l.length l).runs, x.1 ∈ l := fun x hx => runs_colors hx
    have hszs : ∀ x ∈ (scan (szN zs) l.length l).runs, 1 ≤ x.2.length ∧ x.2.length < szN zs x.1 := fun x hx => runs_sz (szN_pos hZ) hx
    have hres : inv (szN zs) l = ((scan (szN zs) l.length l).runs.map fun x => List.replicate (szN zs x.1 - x.2.length) x.1).flatten := by rw [inv_runs, scan_stk]; rfl
    rw [hres] at q
    generalize scan (szN zs) l.length l = sc at *
    obtain ⟨runs, nums, tot⟩ := sc
    have hlas := hsr.rep.len
    have hlx : (as.map fun x => V.ref x.1).length = runs.length := by rw [List.length_map]; exact hlas
    have s1 : Same H1 (upd H1 g (.lst (as.map fun x => V.ref x.1))) := same_upd hg
    refine lc_list (xs := as.map fun x => V.ref x.1) (fun j H2 => Same (upd H1 g (.lst (as.map fun x => V.ref x.1))) H2 ∧ H2 D = some (.lst (((runs.take j).map fun x => List.replicate (szN zs x.1 - x.2.length) x.1).map fun l => V.str (S l)))) ⟨same_upd hD, upd_same⟩ ?_ ?_ ?_
    · rintro j H2 hj ⟨hsm, _⟩
      exact hsm.seq (SqL.of upd_same)
    · rintro j x H2 hx ⟨hsm, hD2⟩
      obtain ⟨k, ps, t, b, rfl, h1, h2, h3⟩ := hsr.rep.get' hx
      have hj : j < runs.length := by rw [← hlx]; exact (List.getElem?_eq_some_iff.mp hx).1
      have hm := List.mem_of_getElem? h3
      have hk1 := hR k (hcol (k, ps) hm)
      have hps : 1 ≤ ps.length ∧ ps.length < szN zs k := hszs (k, ps) hm
      have hz := szI_ok hZ hk1
      have hps2 : ps.length < (szI zs k).toNat := hps.2
      have s12 := s1.trans hsm
      refine ⟨_, SqT.of (s12 _ _ h1), rfl, a, zs, k, rfl, (hsr.same.trans s12).tup hT, hk1.1, hk1.2, hZ.six, _, .inl (SqL.of (s12 _ _ h2)), ?_, _, hD2, ?_, hsm.at hD, ?_⟩
      · rw [List.length_map]
        refine ⟨by omega, by omega, ?_⟩
        show 1 * (szI zs k - (ps.length : Nat)).toNat ≤ 1000000
        omega
      · rw [List.length_map, List.length_map, List.length_take]
        have hrl' : runs.length ≤ l.length := hrl
        exact small1000 (by omega)
      · rw [upd_same, List.take_add_one, h3, List.map_append, List.map_append]
        congr 3
        show [V.str (S (repL (szI zs k - ((ps.map iv).length : Nat)).toNat [k]))] = [V.str (S (List.replicate (szN zs k - ps.length) k))]
        rw [List.length_map, repL_one]
        congr 4
        show _ = (szI zs k).toNat - ps.length
        omega
    · rintro H2 ⟨hsm, hD2⟩
      rw [hlx, List.take_of_length_le (Nat.le_refl _)] at hD2
      refine ⟨_, SqL.of hD2, ?_, ?_⟩
      · have e := sum_short (n := 4) (runs.map fun x => List.replicate (szN zs x.1 - x.2.length) x.1) (fun y hy => by
          obtain ⟨x, hx, rfl⟩ := List.mem_map.mp hy
          have := szI_ok hZ (hR x.1 (hcol x hx))
          rw [List.length_replicate]
          show (szI zs x.1).toNat - _ ≤ 4
          omega)
        rw [List.length_map] at e
        show _ + _ * 0 ≤ _
        have hrl' : runs.length ≤ l.length := hrl
        omega
      · show Q (.str (S (TL.joinL [] _))) H2
        rw [joinL_nil]
        exact q H2 (hsr.same.trans (s1.trans hsm))
theorem inv_len {zs : List Int} {l : List Nat} (hZ : OkZ zs) (hR : OkR zs l) {n : Nat} (hl : l.length ≤ n) : (inv (szN zs) l).length ≤ 4 * n := by
  have hst : (stk (szN zs) l).length ≤ l.length := by
    have h1 := scan_stk (szN zs) l.length l
    have h2 := scan_runs_len (sz := szN zs) (n := l.length) (l := l) l.length (Nat.le_refl _)
    rw [List.take_length] at h2
    rw [← h1]
    unfold cntR
    rw [List.length_map]
    exact h2
  have e : (inv (szN zs) l).length = (((stk (szN zs) l).map fun x => List.replicate (szN zs x.1 - x.2) x.1).map List.length).sum := by
    unfold inv invS
    rw [List.length_flatten]
  have h := sum_short (n := 4) ((stk (szN zs) l).map fun x => List.replicate (szN zs x.1 - x.2) x.1) (fun y hy => by
    obtain ⟨x, hx, rfl⟩ := List.mem_map.mp hy
    have hx2 : x.1 ∈ l := by
      rcases foldl_mem l [] (n := x.2) (y := x.1) hx with h | ⟨m, h⟩
      · exact h
      · simp at h
    have := szI_ok hZ (hR x.1 hx2)
    rw [List.length_replicate]
    show (szI zs x.1).toNat - _ ≤ 4
    omega)
  rw [List.length_map] at h
  omega
def sp_inverse (K : PySem.W.Frag) : Sp := fun vs H Q _ => ∃ (a : Addr) (zs : List Int) (l : List Nat), vs = [.ref a, .str (S l)] ∧ SqT K H a (zs.map V.int) ∧ OkZ zs ∧ OkR zs l ∧ l.length ≤ 40 ∧ ∀ H', Same H H' → Q (.str (S (inv (szN zs) l))) H'

-- NEEDS checks
abbrev s_tally : Stmt := topS 20
theorem sc_tally : FnScope ["sizes", "row", "color"] ["sizes", "row"] (defScope s_tally) := ⟨rfl, rfl, rfl, by decide +kernel, rfl, by decide +kernel, by decide +kernel⟩

/-- the numbers of beads of each of n colors -/
def cntI (n : Nat) (l : List Nat) : List Int := (List.range n).map fun j => ((l.count (97 + j) : Nat) : Int)
theorem cntI_len (n : Nat) (l : List Nat) : (cntI n l).length = n := by unfold cntI; rw [List.length_map, List.length_range]
theorem cntI_get {n j : Nat} (l : List Nat) (h : j < n) : (cntI n l)[j]? = some ((l.count (97 + j) : Nat) : Int) := by unfold cntI; rw [List.getElem?_map, List.getElem?_range h]; rfl
theorem abc_get {n j : Nat} (h6 : n ≤ 6) (h : j < n) : (abc.take n)[j]? = some (97 + j) := by
  rw [List.getElem?_take_of_lt h]
  have e : j = 0 ∨ j = 1 ∨ j = 2 ∨ j = 3 ∨ j = 4 ∨ j = 5 := by omega
  rcases e with rfl | rfl | rfl | rfl | rfl | rfl <;> rfl
theorem size_S (l : List Nat) : (S l).cps.size = l.length := by simp [S]
def sp_tally (K : PySem.W.Frag) : Sp := fun vs H Q _ => ∃ (a : Addr) (zs : List Int) (l : List Nat), vs = [.ref a, .str (S l)] ∧ SqT K H a (zs.map V.int) ∧ OkZ zs ∧ ∀ (H' : Hp) (t : Addr), Same H H' → H t = none → H' t = some (.tup ((cntI zs.length l).map V.int)) → Q (.ref t) H'
theorem ok_tally {f : Addr} {fd : FuncData} (F : Fun K "tally" "tally" s_tally f fd) (B : Bi mg) (C_colors_of : Cal P w K mg base CX0 1 "colors_of" ["sizes"] (sp_colors_of K)) : FnOk P w K mg base CX0 2 f fd ["sizes", "row"] (sp_tally K) := by
  refine F.ok sc_tally (fun vs H Q E h => ?_) (fun cdv A outer s H vs Q E hr h => ?_)
  · obtain ⟨a, zs, l, rfl, _⟩ := h
    rfl
  · obtain ⟨a, zs, l, rfl, hT, hZ, q⟩ := h
    refine ⟨_, (pss_one (ps_ret (pe_callTy (cr_tupleG (K := K)) (by rfl) B.tuple bt_tuple (pa_cons (pe_lc (own := [("color", 2)]) (by rfl) sc_tally.nd (pi_seqG (K := K) (pe_cal C_colors_of (hr.mono (by decide)) pass0 (pa_cons (gv 0) pa_nil))) (blkOk_by (N := ["sizes", "row", "color"]) (sc := defScope s_tally) (by decide +kernel)) (fun _ _ _ _ _ => (pg_name (i := 2) sc_tally.nd rfl (.inl rfl))) (fun _ _ _ _ _ => pts_nil) (fun _ _ _ _ _ => (pe_bmG (K := K) PySem.F.plainAttrs_str PySem.F.slot_str_count PySem.F.type_str_count mt_countG (gv 1) (pa_cons (gv 2) pa_nil)))) pa_nil)))), ?_⟩
    refine ⟨a, zs.map V.int, rfl, hT, fun D hD => ?_⟩
    rw [List.length_map]
    refine lc_it walk_str (fun j H' => Same H H' ∧ H' D = some (.lst ((cntI j l).map V.int))) ⟨same_upd hD, upd_same⟩ ?_ ?_ ?_
    · intros; trivial
    · rintro j x H1 H2 hj ⟨s1, hD1⟩ ⟨rfl, k, hk, rfl⟩
      have hj' : j < zs.length := by rw [size_S, abc_len hZ.six] at hj; exact hj
      have hk' : (abc.take zs.length)[j]? = some k := by simpa using hk
      rw [abc_get hZ.six hj'] at hk'
      cases hk'
      have h6 := hZ.six
      refine ⟨rfl, rfl, _, rfl, _, hD1, by rw [List.length_map, cntI_len]; exact small1000 (by omega), s1.at hD, ?_⟩
      rw [upd_same, tl_S]
      unfold cntI
      rw [List.range_succ, List.map_append, List.map_append]
      rfl
    · rintro H1 ⟨s1, hD1⟩
      rw [size_S, abc_len hZ.six] at hD1
      exact ⟨_, SqL.of hD1, fun t ht => q _ t (s1.trans (same_upd ht)) (s1.free ht) upd_same⟩
def sp__law_counts (K : PySem.W.Frag) : Sp := sp_tally K
def sp_count_beads (K : PySem.W.Frag) : Sp := fun vs H Q _ => ∃ (a : Addr) (zs : List Int) (l : List Nat), vs = [.ref a, .str (S l)] ∧ SqT K H a (zs.map V.int) ∧ OkZ zs ∧ OkR zs l ∧ l.length ≤ 40 ∧ ∀ (H' : Hp) (t : Addr), Same H H' → H t = none → H' t = some (.tup ((cntI zs.length l).map V.int)) → Q (.ref t) H'

-- NEEDS m_grp tally inverse
section
variable {sz : Nat → Nat}
theorem res_cat (hs : ∀ k, 1 ≤ sz k) (a b : List Nat) : res sz (res sz a ++ b) = res sz (a ++ b) := res_eq_of (stk_congL hs (stk_res hs a) b)
theorem res_cat2 (hs : ∀ k, 1 ≤ sz k) (a b : List Nat) : res sz (a ++ res sz b) = res sz (a ++ b) := res_eq_of (stk_congR hs (stk_res hs b) a)
theorem cnt_res_le (hs : ∀ k, 1 ≤ sz k) (k : Nat) : ∀ l : List Nat, (res sz l).count k ≤ l.count k := by
  refine pack_ind hs (fun l h => by rw [h]; exact Nat.le_refl _) fun u c v hq => ?_
  have e : res sz (u ++ (List.replicate (sz c) c ++ v)) = res sz (u ++ v) := res_eq_of (stk_pack (fun y _ => hs y) (hs c))
  rw [e]
  have e2 : (u ++ (List.replicate (sz c) c ++ v)).count k = (u ++ v).count k + (List.replicate (sz c) c).count k := by
    rw [List.count_append, List.count_append, List.count_append]
    omega
  omega
/-- the counts without one bead of the color j -/
def dec (cs : List Nat) (j : Nat) : List Nat := cs.set j (cs.getD j 0 - 1)
theorem dec_len (cs : List Nat) (j : Nat) : (dec cs j).length = cs.length := by unfold dec; rw [List.length_set]
/-- the colors of which beads are left -/
def lft (cs : List Nat) : List Nat := (List.range cs.length).filter fun j => decide (0 < cs.getD j 0)
theorem mem_lft {cs : List Nat} {j : Nat} : j ∈ lft cs ↔ j < cs.length ∧ 0 < cs.getD j 0 := by
  unfold lft
  rw [List.mem_filter, List.mem_range, decide_eq_true_iff]
theorem sum_set (cs : List Nat) (j v : Nat) (h : j < cs.length) : (cs.set j v).sum + cs.getD j 0 = cs.sum + v := by
  induction cs generalizing j with
  | nil => simp at h
  | cons c r ih =>
    cases j with
    | zero => simp [List.sum_cons]; omega
    | succ j =>
      have := ih j (by simpa using h)
      simp only [List.set_cons_succ, List.sum_cons, List.getD_cons_succ]
      omega
theorem dec_sum {cs : List Nat} {j m : Nat} (h : j ∈ lft cs) (hm : cs.sum = m + 1) : (dec cs j).sum = m := by
  obtain ⟨h1, h2⟩ := mem_lft.mp h
  have := sum_set cs j (cs.getD j 0 - 1) h1
  unfold dec
  omega
/-- all rows with these counts that lead from the residue pl to the residue tgt, in ascending order -/
def wl (sz : Nat → Nat) (tgt : List Nat) : Nat → List Nat → List Nat → List (List Nat)
  | 0, _, pl => if pl = tgt then [[]] else []
  | m + 1, cs, pl => (lft cs).flatMap fun j => (wl sz tgt m (dec cs j) (res sz (pl ++ [97 + j]))).map fun w => (97 + j) :: w
/-- the row w has the counts cs -/
def Cnt (cs : List Nat) (w : List Nat) : Prop := (∀ k ∈ w, 97 ≤ k ∧ k < 97 + cs.length) ∧ ∀ j, j < cs.length → w.count (97 + j) = cs.getD j 0
theorem sum_zero {cs : List Nat} (h : cs.sum = 0) (j : Nat) : cs.getD j 0 = 0 := by
  induction cs generalizing j with
  | nil => simp
  | cons c r ih =>
    rw [List.sum_cons] at h
    cases j with
    | zero => simp; omega
    | succ j => simpa using ih (by omega) j
theorem Cnt.nil {cs : List Nat} (h : cs.sum = 0) {w : List Nat} : Cnt cs w ↔ w = [] := by
  constructor
  · rintro ⟨h1, h2⟩
    cases w with
    | nil => rfl
    | cons k r =>
      have hk := h1 k (by simp)
      have := h2 (k - 97) (by omega)
      rw [sum_zero h, show 97 + (k - 97) = k by omega, List.count_cons_self] at this
      omega
  · rintro rfl
    exact ⟨fun k hk => by simp at hk, fun j _ => by rw [sum_zero h]; rfl⟩
theorem getD_set {cs : List Nat} {i j v : Nat} (h : i < cs.length) : (cs.set i v).getD j 0 = if i = j then v else cs.getD j 0 := by
  rw [List.getD_eq_getElem?_getD, List.getD_eq_getElem?_getD, List.getElem?_set]
  by_cases e : i = j
  · subst e
    rw [if_pos rfl, if_pos rfl, if_pos h]
    rfl
  · rw [if_neg e, if_neg e]
theorem Cnt.cons {cs : List Nat} {k : Nat} {w : List Nat} : Cnt cs (k :: w) ↔ ∃ j, k = 97 + j ∧ j ∈ lft cs ∧ Cnt (dec cs j) w := by
  constructor
  · rintro ⟨h1, h2⟩
    have hk := h1 k (by simp)
    have hj : k - 97 < cs.length := by omega
    have hc := h2 (k - 97) hj
    rw [show 97 + (k - 97) = k by omega, List.count_cons_self] at hc
    refine ⟨k - 97, by omega, mem_lft.mpr ⟨hj, by omega⟩, fun y hy => by rw [dec_len]; exact h1 y (by simp [hy]), fun i hi => ?_⟩
    rw [dec_len] at hi
    have := h2 i hi
    unfold dec
    rw [getD_set hj]
    rw [List.count_cons] at this
    by_cases e : k - 97 = i
    · rw [if_pos e]
      subst e
      rw [if_pos (by simp; omega)] at this
      omega
    · rw [if_neg e]
      rw [if_neg (by simp; omega)] at this
      omega
  · rintro ⟨j, rfl, hj, h1, h2⟩
    obtain ⟨hj1, hj2⟩ := mem_lft.mp hj
    refine ⟨fun y hy => ?_, fun i hi => ?_⟩
    · rcases List.mem_cons.mp hy with rfl | hy
      · omega
      · have := h1 y hy
        rw [dec_len] at this
        exact this
    · have := h2 i (by rw [dec_len]; exact hi)
      unfold dec at this
      rw [getD_set hj1] at this
      rw [List.count_cons]
      by_cases e : j = i
      · subst e
        rw [if_pos rfl] at this
        rw [if_pos (by simp)]
        omega
      · rw [if_neg e] at this
        rw [if_neg (by simp; omega)]
        omega
theorem mem_wl (hs : ∀ k, 1 ≤ sz k) {tgt : List Nat} : ∀ {m : Nat} {cs pl w : List Nat}, cs.sum = m → res sz pl = pl → (w ∈ wl sz tgt m cs pl ↔ Cnt cs w ∧ res sz (pl ++ w) = tgt)
  | 0, cs, pl, w, hm, hp => by
    unfold wl
    rw [Cnt.nil hm]
    by_cases h : pl = tgt
    · rw [if_pos h, List.mem_singleton]
      constructor
      · rintro rfl
        exact ⟨rfl, by rw [List.append_nil, hp, h]⟩
      · exact fun z => z.1
    · rw [if_neg h]
      constructor
      · intro z; simp at z
      · rintro ⟨rfl, z⟩
        rw [List.append_nil, hp] at z
        exact absurd z h
  | m + 1, cs, pl, w, hm, hp => by
    unfold wl
    rw [List.mem_flatMap]
    constructor
    · rintro ⟨j, hj, hw⟩
      obtain ⟨w', hw', rfl⟩ := List.mem_map.mp hw
      obtain ⟨h1, h2⟩ := (mem_wl hs (dec_sum hj hm) (res_res hs _)).mp hw'
      refine ⟨Cnt.cons.mpr ⟨j, rfl, hj, h1⟩, ?_⟩
      rw [res_cat hs, List.append_assoc] at h2
      exact h2
    · rintro ⟨hc, hr⟩
      cases w with
      | nil =>
        exfalso
        have h1 : ∀ j, cs.getD j 0 = 0 := fun j => by
          by_cases hj : j < cs.length
          · exact (hc.2 j hj).symm
          · rw [List.getD_eq_getElem?_getD, List.getElem?_eq_none (by omega)]; rfl
        have : ∀ l : List Nat, (∀ j, l.getD j 0 = 0) → l.sum = 0 := by
          intro l
          induction l with
          | nil => intro _; rfl
          | cons c r ih =>
            intro h
            have := h 0
            have h3 := ih fun j => by simpa using h (j + 1)
            rw [List.sum_cons]
            simp at this
            omega
        have := this cs h1
        omega
      | cons k w' =>
        obtain ⟨j, rfl, hj, h1⟩ := Cnt.cons.mp hc
        refine ⟨j, hj, List.mem_map.mpr ⟨w', (mem_wl hs (dec_sum hj hm) (res_res hs _)).mpr ⟨h1, ?_⟩, rfl⟩⟩
        rw [res_cat hs, List.append_assoc]
        exact hr
/-- where the beads that are left do not do, nothing leads there -/
theorem wl_feasible (hs : ∀ k, 1 ≤ sz k) {tgt cs pl : List Nat} {m : Nat} (hm : cs.sum = m) (hp : res sz pl = pl) (h : wl sz tgt m cs pl ≠ []) : ∀ j, j < cs.length → (res sz (inv sz pl ++ tgt)).count (97 + j) ≤ cs.getD j 0 := by
  obtain ⟨w, hw⟩ := List.exists_mem_of_ne_nil _ h
  obtain ⟨h1, h2⟩ := (mem_wl hs hm hp).mp hw
  intro j hj
  have e : res sz (inv sz pl ++ tgt) = res sz w := by
    rw [← h2, res_cat2 hs, ← List.append_assoc]
    exact res_eq_of (stk_congL hs (show stk sz (inv sz pl ++ pl) = stk sz [] from inv_left hs pl) w)
  rw [e]
  exact Nat.le_trans (cnt_res_le hs _ w) (Nat.le_of_eq (h1.2 j hj))
theorem wl_len (tgt cs pl : List Nat) (m : Nat) : (wl sz tgt (m + 1) cs pl).length = ((lft cs).map fun j => (wl sz tgt m (dec cs j) (res sz (pl ++ [97 + j]))).length).sum := by
  show ((lft cs).flatMap fun j => (wl sz tgt m (dec cs j) (res sz (pl ++ [97 + j]))).map fun w => (97 + j) :: w).length = _
  rw [List.length_flatMap]
  congr 1
  refine List.map_congr_left fun j _ => ?_
  rw [List.length_map]
end

-- NEEDS m_wl
section
variable {sz : Nat → Nat}
/-! ### how many states there are -/
theorem nodup_le {α : Type} [DecidableEq α] : ∀ {l m : List α}, l.Nodup → (∀ x ∈ l, x ∈ m) → l.length ≤ m.length
  | [], m, _, _ => Nat.zero_le _
  | x :: r, m, hn, hs => by
    rw [List.nodup_cons] at hn
    have hx := hs x (by simp)
    have := nodup_le (l := r) (m := m.erase x) hn.2 fun y hy => by
      have hne : y ≠ x := fun e => hn.1 (e ▸ hy)
      exact (List.mem_erase_of_ne hne).mpr (hs y (by simp [hy]))
    rw [List.length_erase_of_mem hx] at this
    have hp : 0 < m.length := List.length_pos_of_mem hx
    simp only [List.length_cons]
    omega
def arr : Nat → Nat
  | 0 => 1
  | s + 1 => 1 + (s + 1) * arr s
/-- all rows with at most these counts -/
def subw : Nat → List Nat → List (List Nat)
  | 0, _ => [[]]
  | s + 1, d => [] :: (lft d).flatMap fun j => (subw s (dec d j)).map fun w => (97 + j) :: w
def CntLe (d w : List Nat) : Prop := (∀ k ∈ w, 97 ≤ k ∧ k < 97 + d.length) ∧ ∀ j, j < d.length → w.count (97 + j) ≤ d.getD j 0
theorem lft_len (d : List Nat) : (lft d).length ≤ d.sum := by
  have : ∀ (n : Nat) (d : List Nat), d.length = n → ((List.range n).filter fun j => decide (0 < d.getD j 0)).length ≤ d.sum := by
    intro n
    induction n with
    | zero => intro d _; simp
    | succ n ih =>
      intro d hd
      cases d with
      | nil => simp at hd
      | cons c r =>
        have h := ih r (by simpa using hd)
        rw [List.range_succ_eq_map, List.filter_cons]
        have e : ((List.range n).map Nat.succ).filter (fun j => decide (0 < (c :: r).getD j 0)) = (((List.range n).filter fun j => decide (0 < r.getD j 0)).map Nat.succ) := by
          rw [List.filter_map]
          rfl
        rw [e, List.sum_cons]
        split
        · rename_i hc
          have hc' : 0 < c := by simpa using hc
          rw [List.length_cons, List.length_map]
          omega
        · rw [List.length_map]
          omega
  exact this _ d rfl
theorem subw_len : ∀ {s : Nat} {d : List Nat}, d.sum = s → (subw s d).length ≤ arr s
  | 0, _, _ => Nat.le_refl _
  | s + 1, d, hd => by
    unfold subw arr
    rw [List.length_cons, List.length_flatMap]
    have h1 : ∀ (l : List Nat), (∀ j ∈ l, j ∈ lft d) → (l.map fun j => ((subw s (dec d j)).map fun w => (97 + j) :: w).length).sum ≤ l.length * arr s := by
      intro l
      induction l with
      | nil => intro _; simp
      | cons j r ih =>
        intro hl
        have h2 := subw_len (dec_sum (hl j (by simp)) hd)
        have h3 := ih fun i hi => hl i (by simp [hi])
        rw [List.map_cons, List.sum_cons, List.length_map, List.length_cons, Nat.succ_mul]
        omega
    have h4 := h1 (lft d) fun _ h => h
    have h5 := Nat.mul_le_mul_right (arr s) (lft_len d)
    rw [hd] at h5
    omega
theorem mem_subw : ∀ {s : Nat} {d w : List Nat}, d.sum = s → CntLe d w → w ∈ subw s d
  | 0, d, w, hd, h => by
    unfold subw
    cases w with
    | nil => simp
    | cons k r =>
      exfalso
      have hk := h.1 k (by simp)
      have := h.2 (k - 97) (by omega)
      rw [sum_zero hd, show 97 + (k - 97) = k by omega, List.count_cons_self] at this
      omega
  | s + 1, d, w, hd, h => by
    unfold subw
    cases w with
    | nil => simp
    | cons k r =>
      refine List.mem_cons_of_mem _ (List.mem_flatMap.mpr ?_)
      have hk := h.1 k (by simp)
      have hj : k - 97 < d.length := by omega
      have hc := h.2 (k - 97) hj
      rw [show 97 + (k - 97) = k by omega, List.count_cons_self] at hc
      have hl : k - 97 ∈ lft d := mem_lft.mpr ⟨hj, by omega⟩
      refine ⟨k - 97, hl, List.mem_map.mpr ⟨r, mem_subw (dec_sum hl hd) ⟨fun y hy => by rw [dec_len]; exact h.1 y (by simp [hy]), fun i hi => ?_⟩, by rw [show 97 + (k - 97) = k by omega]⟩⟩
      rw [dec_len] at hi
      have := h.2 i hi
      unfold dec
      rw [getD_set hj]
      rw [List.count_cons] at this
      by_cases e : k - 97 = i
      · rw [if_pos e]
        subst e
        rw [if_pos (by simp; omega)] at this
        omega
      · rw [if_neg e]
        rw [if_neg (by simp; omega)] at this
        omega
/-- all lists of numbers below cs -/
def vecs : List Nat → List (List Nat)
  | [] => [[]]
  | c :: r => (List.range (c + 1)).flatMap fun i => (vecs r).map fun v => i :: v
def VecLe (cs v : List Nat) : Prop := v.length = cs.length ∧ ∀ j, v.getD j 0 ≤ cs.getD j 0
theorem mem_vecs : ∀ {cs v : List Nat}, VecLe cs v → v ∈ vecs cs
  | [], v, h => by
    have : v = [] := List.length_eq_zero_iff.mp h.1
    subst this
    simp [vecs]
  | c :: r, [], h => by simp [VecLe] at h
  | c :: r, i :: v, h => by
    unfold vecs
    have h0 := h.2 0
    simp at h0
    refine List.mem_flatMap.mpr ⟨i, List.mem_range.mpr (by omega), List.mem_map.mpr ⟨v, mem_vecs ⟨by simpa using h.1, fun j => by simpa using h.2 (j + 1)⟩, rfl⟩⟩
theorem pow_ge (c : Nat) : c + 1 ≤ 2 ^ c := by
  induction c with
  | zero => simp
  | succ c ih => rw [Nat.pow_succ]; omega
theorem sum_rep (n m : Nat) : (List.replicate n m).sum = n * m := by
  induction n with
  | zero => simp
  | succ n ih => rw [List.replicate_succ, List.sum_cons, ih, Nat.succ_mul]; omega
theorem vecs_len : ∀ cs : List Nat, (vecs cs).length ≤ 2 ^ cs.sum
  | [] => by simp [vecs]
  | c :: r => by
    unfold vecs
    rw [List.length_flatMap]
    have h1 := vecs_len r
    have : ((List.range (c + 1)).map fun i => ((vecs r).map fun v => i :: v).length) = List.replicate (c + 1) (vecs r).length := by
      refine List.eq_replicate_iff.mpr ⟨by simp, fun b hb => ?_⟩
      obtain ⟨i, _, rfl⟩ := List.mem_map.mp hb
      rw [List.length_map]
    rw [this, sum_rep, List.sum_cons, Nat.pow_add]
    exact Nat.mul_le_mul (pow_ge c) h1
/-- the counts tot without v -/
def subv (tot v : List Nat) : List Nat := (List.range tot.length).map fun j => tot.getD j 0 - v.getD j 0
def allS (sz : Nat → Nat) (tgt tot : List Nat) : List (List Nat × List Nat) := (vecs tot).flatMap fun v =>
  if v.sum ≤ 6 then (subw v.sum v).map fun u => (v, res sz (tgt ++ inv sz u)) else if (subv tot v).sum ≤ 6 then (subw (subv tot v).sum (subv tot v)).map fun p => (v, p) else []
theorem arr_mono {s : Nat} (h : s ≤ 6) : arr s ≤ 1957 := by
  have e : s = 0 ∨ s = 1 ∨ s = 2 ∨ s = 3 ∨ s = 4 ∨ s = 5 ∨ s = 6 := by omega
  rcases e with rfl | rfl | rfl | rfl | rfl | rfl | rfl <;> decide
theorem allS_len {tgt tot : List Nat} (h : tot.sum ≤ 12) : (allS sz tgt tot).length ≤ 8015872 := by
  unfold allS
  rw [List.length_flatMap]
  have h1 : ∀ l : List (List Nat), (l.map fun v => (if v.sum ≤ 6 then (subw v.sum v).map fun u => (v, res sz (tgt ++ inv sz u)) else if (subv tot v).sum ≤ 6 then (subw (subv tot v).sum (subv tot v)).map fun p => (v, p) else []).length).sum ≤ l.length * 1957 := by
    intro l
    induction l with
    | nil => simp
    | cons v r ih =>
      rw [List.map_cons, List.sum_cons, List.length_cons, Nat.succ_mul]
      have : (if v.sum ≤ 6 then (subw v.sum v).map fun u => (v, res sz (tgt ++ inv sz u)) else if (subv tot v).sum ≤ 6 then (subw (subv tot v).sum (subv tot v)).map fun p => (v, p) else []).length ≤ 1957 := by
        split
        · rename_i hv
          rw [List.length_map]
          exact Nat.le_trans (subw_len rfl) (arr_mono hv)
        · split
          · rename_i hv
            rw [List.length_map]
            exact Nat.le_trans (subw_len rfl) (arr_mono hv)
          · simp
      omega
  have h2 := vecs_len tot
  have h3 : 2 ^ tot.sum ≤ 2 ^ 12 := Nat.pow_le_pow_right (by decide) h
  have h4 := h1 (vecs tot)
  have h5 : (vecs tot).length ≤ 4096 := Nat.le_trans h2 h3
  omega
/-- a state that the search may meet: v is left of tot, pl is the residue of what was placed, and v does -/
def GoodS (sz : Nat → Nat) (tgt tot v pl : List Nat) : Prop := VecLe tot v ∧ CntLe (subv tot v) pl ∧ res sz pl = pl ∧ (∀ j, j < v.length → (res sz (inv sz pl ++ tgt)).count (97 + j) ≤ v.getD j 0) ∧ (∀ k ∈ tgt, 97 ≤ k ∧ k < 97 + tot.length)
theorem subv_sum {tot v : List Nat} (h : VecLe tot v) : (subv tot v).sum + v.sum = tot.sum := by
  have : ∀ (tot v : List Nat), VecLe tot v → ((List.range tot.length).map fun j => tot.getD j 0 - v.getD j 0).sum + v.sum = tot.sum := by
    intro tot
    induction tot with
    | nil => intro v h; have : v = [] := List.length_eq_zero_iff.mp h.1; subst this; rfl
    | cons c r ih =>
      intro v h
      cases v with
      | nil => simp [VecLe] at h
      | cons i v =>
        have h0 := h.2 0
        simp at h0
        have := ih v ⟨by simpa using h.1, fun j => by simpa using h.2 (j + 1)⟩
        rw [List.length_cons, List.range_succ_eq_map, List.map_cons, List.sum_cons, List.map_map, List.sum_cons, List.sum_cons]
        have e : (((List.range r.length).map ((fun j => (c :: r).getD j 0 - (i :: v).getD j 0) ∘ Nat.succ))) = (List.range r.length).map fun j => r.getD j 0 - v.getD j 0 := List.map_congr_left fun j _ => by simp
        rw [e]
        simp only [List.getD_cons_zero]
        omega
  exact this tot v h
theorem mem_allS (hs : ∀ k, 1 ≤ sz k) {tgt tot v pl : List Nat} (h : GoodS sz tgt tot v pl) (ht : tot.sum ≤ 12) : (v, pl) ∈ allS sz tgt tot := by
  obtain ⟨h1, h2, h3, h4, h5⟩ := h
  unfold allS
  refine List.mem_flatMap.mpr ⟨v, mem_vecs h1, ?_⟩
  by_cases hv : v.sum ≤ 6
  · rw [if_pos hv]
    refine List.mem_map.mpr ⟨res sz (inv sz pl ++ tgt), mem_subw rfl ⟨fun k hk => ?_, h4⟩, ?_⟩
    · rw [h1.1]
      rcases List.mem_append.mp (stk_mem hk) with z | z
      · have := h2.1 k (inv_mem z)
        unfold subv at this
        rw [List.length_map, List.length_range] at this
        exact this
      · exact h5 k z
    · congr 1
      have e1 : stk sz (inv sz (res sz (inv sz pl ++ tgt))) = stk sz (inv sz tgt ++ pl) := by
        rw [inv_of_stk (stk_res hs _)]
        have := inv_app hs (inv sz pl) tgt
        rw [← stk_res hs (inv sz (inv sz pl ++ tgt)), ← this, res_res hs, stk_res hs]
        refine stk_congR hs ?_ _
        rw [inv_inv hs, stk_res hs]
      have e2 : stk sz (tgt ++ inv sz (res sz (inv sz pl ++ tgt))) = stk sz pl := by
        rw [stk_congR hs e1 tgt, ← List.append_assoc]
        exact stk_congL hs (show stk sz (tgt ++ inv sz tgt) = stk sz [] from inv_right hs tgt) pl
      rw [res_eq_of e2, h3]
  · rw [if_neg hv]
    have := subv_sum h1
    rw [if_pos (by omega)]
    exact List.mem_map.mpr ⟨pl, mem_subw rfl h2, rfl⟩
theorem states_le (hs : ∀ k, 1 ≤ sz k) {tgt tot : List Nat} (ht : tot.sum ≤ 12) {l : List (List Nat × List Nat)} (hn : l.Nodup) (h : ∀ x ∈ l, GoodS sz tgt tot x.1 x.2) : l.length ≤ 8015872 :=
  Nat.le_trans (nodup_le hn fun x hx => mem_allS hs (h x hx) ht) (allS_len ht)
end

-- NEEDS tally reduce_row concat_residue
abbrev s_difference : Stmt := topS 39
theorem sc_difference : FnScope ["sizes", "first", "second", "color", "here", "there"] ["sizes", "first", "second"] (defScope s_difference) := ⟨rfl, rfl, rfl, by decide +kernel, rfl, by decide +kernel, by decide +kernel⟩

/-- the first color whose numbers differ -/
def firstDif (n : Nat) (l m : List Nat) : Option Nat := (List.range n).find? fun j => !decide (l.count (97 + j) = m.count (97 + j))
def difD (zs : List Int) (l m : List Nat) : PyData := match firstDif zs.length l m with
  | some j => .tuple [.str (S [98, 101, 97, 100, 115]), .str (S [97 + j]), .int ((l.count (97 + j) : Nat) : Int), .int ((m.count (97 + j) : Nat) : Int)]
  | none => if res (szN zs) l = res (szN zs) m then .none else .tuple [.str (S [114, 101, 115, 105, 100, 117, 101]), .str (S (res (szN zs) l)), .str (S (res (szN zs) m))]
theorem find_range {p : Nat → Bool} : ∀ {n i : Nat}, i < n → (∀ j, j < i → p j = false) → p i = true → (List.range n).find? p = some i
  | 0, i, h, _, _ => absurd h (Nat.not_lt_zero _)
  | n + 1, i, h, h1, h2 => by
    rw [List.range_succ, List.find?_append]
    by_cases e : i < n
    · rw [find_range e h1 h2]; rfl
    · have ei : i = n := by omega
      subst ei
      have : (List.range i).find? p = none := by
        rw [List.find?_eq_none]
        intro j hj
        rw [h1 j (List.mem_range.mp hj)]
        decide
      rw [this]
      simp [h2]
theorem find_rangeN {p : Nat → Bool} {n : Nat} (h : ∀ j, j < n → p j = false) : (List.range n).find? p = none := by
  rw [List.find?_eq_none]
  intro j hj
  rw [h j (List.mem_range.mp hj)]
  decide
def sp_difference (K : PySem.W.Frag) : Sp := fun vs H Q _ => ∃ (a : Addr) (zs : List Int) (l m : List Nat), vs = [.ref a, .str (S l), .str (S m)] ∧ SqT K H a (zs.map V.int) ∧ OkZ zs ∧ OkR zs l ∧ OkR zs m ∧ l.length ≤ 1000 ∧ m.length ≤ 1000 ∧ ∀ (H' : Hp) (v : V), Same H H' → Dp K H' v (difD zs l m) → Q v H'
theorem ok_difference {f : Addr} {fd : FuncData} (F : Fun K "difference" "difference" s_difference f fd) (B : Bi mg) (m_COLORS : ∃ t, mg "COLORS" = some (.str (S abc) t)) (C_tally : Cal P w K mg base CX0 2 "tally" ["sizes", "row"] (sp_tally K)) (C_reduce_row : Cal P w K mg base CX0 3 "reduce_row" ["sizes", "row"] (sp_reduce_row K)) : FnOk P w K mg base CX0 4 f fd ["sizes", "first", "second"] (sp_difference K) := by
  refine F.ok sc_difference (fun vs H Q E h => ?_) (fun cdv A outer s H vs Q E hr h => ?_)
  · obtain ⟨a, zs, l, m, rfl, _⟩ := h
    rfl
  · obtain ⟨a, zs, l, m, rfl, hT, hZ, hl, hm, hll, hml, q⟩ := h
    refine ⟨_, (pss_cons (ps_for PassesOwn.never rfl (pi_zip3G (K := K) B.zip (pa_cons (g_str m_COLORS) (pa_cons (pe_cal C_tally (hr.mono (by decide)) pass0 (pa_cons (gv 0) (pa_cons (gv 1) pa_nil))) (pa_cons (pe_cal C_tally (hr.mono (by decide)) pass0 (pa_cons (gv 0) (pa_cons (gv 2) pa_nil))) pa_nil)))) (pg_nm (K := K) (is := [3, 4, 5]) (pgs_cons (pg_name (i := 3) sc_difference.nd rfl (.inl rfl)) (pgs_cons (pg_name (i := 4) sc_difference.nd rfl (.inl rfl)) (pgs_cons (pg_name (i := 5) sc_difference.nd rfl (.inl rfl)) pgs_nil))) nm3)
      (pss_one (ps_if (pt_cmpG (op_neG (K := K) hr.units) (gv 4) (gv 5) (nomark _))
      (pss_one (ps_ret (pe_tup (pa_cons (pe_strC [98, 101, 97, 100, 115] (by decide +kernel)) (pa_cons (gv 3) (pa_cons (gv 4) (pa_cons (gv 5) pa_nil)))))))
      pss_nil)))
      (pss_cons (ps_par (i := 4) (j := 5) rfl sc_difference.nd rfl rfl (by decide) rfl rfl (pa_cons (pe_cal C_reduce_row (hr.mono (by decide)) pass0 (pa_cons (gv 0) (pa_cons (gv 1) pa_nil))) (pa_cons (pe_cal C_reduce_row (hr.mono (by decide)) pass0 (pa_cons (gv 0) (pa_cons (gv 2) pa_nil))) pa_nil)) rfl)
      (pss_one (ps_ret (pe_ifExp (pt_cmpG (op_eqG (K := K) hr.units) (gv 4) (gv 5) (nomark _)) pe_non (pe_tup (pa_cons (pe_strC [114, 101, 115, 105, 100, 117, 101] (by decide +kernel)) (pa_cons (gv 4) (pa_cons (gv 5) pa_nil))))))))), ?_⟩
    have h6 := hZ.six
    refine ⟨a, zs, l, rfl, hT, hZ, fun H1 t1 s1 ht10 ht1 => ⟨a, zs, m, rfl, s1.tup hT, hZ, fun H2 t2 s2 ht20 ht2 => ?_⟩⟩
    have s12 := s1.trans s2
    have ht12 := s2 _ _ ht1
    refine ⟨_, _, _, .txt (S abc), .tup t1 ((cntI zs.length l).map V.int), .tup t2 ((cntI zs.length m).map V.int), rfl, ⟨rfl, trivial⟩, ⟨rfl, SqT.of ht12⟩, ⟨rfl, SqT.of ht2⟩, ?_⟩
    have en : min (min (Src.txt (S abc)).items.length (Src.tup t1 ((cntI zs.length l).map V.int)).items.length) (Src.tup t2 ((cntI zs.length m).map V.int)).items.length = zs.length := by
      show min (min 6 ((cntI zs.length l).map V.int).length) ((cntI zs.length m).map V.int).length = _
      rw [List.length_map, List.length_map, cntI_len, cntI_len]; omega
    rw [en]
    refine for_it walk_jt (fun i σ H' => ∃ y3 y4 y5, σ = [some (.ref a), some (.str (S l)), some (.str (S m)), y3, y4, y5] ∧ Same H2 H' ∧ ∀ j, j < i → l.count (97 + j) = m.count (97 + j)) ⟨_, _, _, rfl, Same.refl _, fun j hj => absurd hj (Nat.not_lt_zero _)⟩ ?_ ?_ ?_
    · rintro i σ H3 hi ⟨y3, y4, y5, rfl, s3, _⟩
      exact ⟨trivial, SqT.of (s3 _ _ ht12), SqT.of (s3 _ _ ht2)⟩
    · rintro i x σ H3 H4 hi ⟨y3, y4, y5, rfl, s3, hq⟩ ⟨T, xs, rfl, hTn, rfl, u1, u2, u3, e1, e2, e3, rfl⟩
      have e2' : ((cntI zs.length l).map V.int)[i]? = some u2 := e2
      have e3' : ((cntI zs.length m).map V.int)[i]? = some u3 := e3
      rw [List.getElem?_map, cntI_get l hi] at e2'
      rw [List.getElem?_map, cntI_get m hi] at e3'
      cases e2'
      cases e3'
      have hu : u1 = .str (S [97 + i]) := by
        have e1' : (sgs (S abc))[i]? = some u1 := e1
        unfold sgs at e1'
        rw [tl_S, List.getElem?_map] at e1'
        have : abc[i]? = some (97 + i) := abc_get (n := 6) (j := i) (by decide) (by omega)
        rw [this] at e1'
        cases e1'
        rfl
      subst hu
      have s4 := s3.trans (same_upd (o := .tup [.str (S [97 + i]), .int ((l.count (97 + i) : Nat) : Int), .int ((m.count (97 + i) : Nat) : Int)]) hTn)
      refine ⟨_, SqT.of upd_same, iteB ⟨fun e => ?_, fun e => ⟨_, _, _, rfl, s4, fun j hj => ?_⟩⟩⟩
      · refine ⟨by show 4 ≤ sizeLine; decide, fun p hp => q _ _ ((s12.trans s4).trans (same_upd hp)) ?_⟩
        have ne : ¬ l.count (97 + i) = m.count (97 + i) := fun z => by
          have e' : (!decide (((l.count (97 + i) : Nat) : Int) = ((m.count (97 + i) : Nat) : Int))) = true := e
          rw [z] at e'
          simp at e'
        have ef : firstDif zs.length l m = some i := find_range hi (fun j hj => by rw [hq j hj]; simp) (by simp [ne])
        unfold difD
        rw [ef]
        exact .tup (SqT.of upd_same) (.cons (.str _) (.cons (.str _) (.cons (.int _) (.cons (.int _) .nil))))
      · rcases Nat.lt_or_ge j i with h | h
        · exact hq j h
        · have ej : j = i := by omega
          subst ej
          have e' : ¬ (!decide (((l.count (97 + j) : Nat) : Int) = ((m.count (97 + j) : Nat) : Int))) = true := e
          have : ((l.count (97 + j) : Nat) : Int) = ((m.count (97 + j) : Nat) : Int) := by
            by_cases z : ((l.count (97 + j) : Nat) : Int) = ((m.count (97 + j) : Nat) : Int)
            · exact z
            · exfalso; apply e'; simp [z]
          omega
    · rintro σ H3 ⟨y3, y4, y5, rfl, s3, hq⟩
      have s13 := s12.trans s3
      have ef : firstDif zs.length l m = none := find_rangeN (fun j hj => by rw [hq j hj]; simp)
      refine ⟨a, zs, l, rfl, s13.tup hT, hZ, hl, hll, fun H4 s4 => ⟨a, zs, m, rfl, (s13.trans s4).tup hT, hZ, hm, hml, fun H5 s5 => ⟨_, _, rfl, ?_⟩⟩⟩
      have s15 := (s13.trans s4).trans s5
      refine iteB ⟨fun e => ?_, fun e => ⟨by show 3 ≤ sizeLine; decide, fun p hp => q _ _ (s15.trans (same_upd hp)) ?_⟩⟩
      · have e' : res (szN zs) l = res (szN zs) m := by
          have := of_decide_eq_true e
          rwa [tl_S, tl_S] at this
        refine q _ _ s15 ?_
        unfold difD
        rw [ef]
        show Dp K H5 .non (if _ then _ else _)
        rw [if_pos e']
        exact .non
      · have e' : ¬ res (szN zs) l = res (szN zs) m := fun z => e (decide_eq_true (by rw [z]))
        unfold difD
        rw [ef]
        show Dp K _ (.ref p) (if _ then _ else _)
        rw [if_neg e']
        exact .tup (SqT.of upd_same) (.cons (.str _) (.cons (.str _) (.cons (.str _) .nil)))
def sp_find_difference (K : PySem.W.Frag) : Sp := fun vs H Q _ => ∃ (a : Addr) (zs : List Int) (l m : List Nat), vs = [.ref a, .str (S l), .str (S m)] ∧ SqT K H a (zs.map V.int) ∧ OkZ zs ∧ OkR zs l ∧ OkR zs m ∧ l.length ≤ 40 ∧ m.length ≤ 40 ∧ ∀ (H' : Hp) (v : V), Same H H' → Dp K H' v (difD zs l m) → Q v H'
def sp__law_difference (K : PySem.W.Frag) : Sp := sp_difference K

-- NEEDS tally m_res reduce_row
/-- the numbers of packs -/
def pkI (zs : List Int) (l : List Nat) (n : Nat) : List Int := (List.range n).map fun j => ((((l.count (97 + j) : Nat) : Int) - ((res (szN zs) l).count (97 + j) : Nat)) / szI zs (97 + j))
theorem pkI_len (zs : List Int) (l : List Nat) (n : Nat) : (pkI zs l n).length = n := by unfold pkI; rw [List.length_map, List.length_range]
theorem szI_get {zs : List Int} {j : Nat} {z : Int} (h : zs[j]? = some z) : szI zs (97 + j) = z := by
  unfold szI
  rw [show 97 + j - 97 = j by omega, List.getD_eq_getElem?_getD, h]
  rfl
def sp_packs_in (K : PySem.W.Frag) : Sp := fun vs H Q _ => ∃ (a : Addr) (zs : List Int) (l : List Nat), vs = [.ref a, .str (S l)] ∧ SqT K H a (zs.map V.int) ∧ OkZ zs ∧ OkR zs l ∧ l.length ≤ 1000 ∧ ∀ (H' : Hp) (t : Addr), Same H H' → H t = none → H' t = some (.tup ((pkI zs l zs.length).map V.int)) → Q (.ref t) H'
def sp_count_packs (K : PySem.W.Frag) : Sp := fun vs H Q _ => ∃ (a : Addr) (zs : List Int) (l : List Nat), vs = [.ref a, .str (S l)] ∧ SqT K H a (zs.map V.int) ∧ OkZ zs ∧ OkR zs l ∧ l.length ≤ 40 ∧ ∀ (H' : Hp) (t : Addr), Same H H' → H t = none → H' t = some (.tup ((pkI zs l zs.length).map V.int)) → Q (.ref t) H'

-- NEEDS packs_in m_grp
/-! numbers of packs -/
theorem count_rep (s k j : Nat) : (List.replicate s k).count j = if k = j then s else 0 := by
  rw [List.count_replicate]
  by_cases h : k = j
  · subst h; simp
  · simp [h]
theorem pkI_pack {zs : List Int} (hZ : OkZ zs) {u v : List Nat} {k j : Nat} (hk : 97 ≤ k ∧ k < 97 + zs.length) (hu : OkR zs u) :
    ((((u ++ (List.replicate (szN zs k) k ++ v)).count j : Nat) : Int) - ((res (szN zs) (u ++ (List.replicate (szN zs k) k ++ v))).count j : Nat)) / szI zs j
      = ((((u ++ v).count j : Nat) : Int) - ((res (szN zs) (u ++ v)).count j : Nat)) / szI zs j + (if k = j then 1 else 0) := by
  have e := res_eq_of (stk_pack (u := u) (v := v) (hu.szpos hZ) (szN_pos hZ k))
  rw [e, List.count_append, List.count_append, List.count_append, count_rep]
  by_cases h : k = j
  · subst h
    rw [if_pos rfl, if_pos rfl]
    have hz := szI_ok hZ hk
    have es : ((szN zs k : Nat) : Int) = szI zs k := by
      show (((szI zs k).toNat : Nat) : Int) = _
      omega
    have e2 : ((u.count k + (szN zs k + v.count k) : Nat) : Int) - ((res (szN zs) (u ++ v)).count k : Nat) = (((u.count k + v.count k : Nat) : Int) - ((res (szN zs) (u ++ v)).count k : Nat)) + 1 * szI zs k := by
      omega
    rw [e2, Int.add_mul_ediv_right _ _ (by omega)]
  · rw [if_neg h, if_neg h, Nat.zero_add, Int.add_zero]
theorem pkI_get {zs : List Int} {l : List Nat} {n j : Nat} (h : j < n) : (pkI zs l n)[j]? = some ((((l.count (97 + j) : Nat) : Int) - ((res (szN zs) l).count (97 + j) : Nat)) / szI zs (97 + j)) := by
  unfold pkI; rw [List.getElem?_map, List.getElem?_range h]; rfl
theorem pkI_rev {zs : List Int} (hZ : OkZ zs) (l : List Nat) (n : Nat) : pkI zs l.reverse n = pkI zs l n := by
  unfold pkI
  refine List.map_congr_left fun j _ => ?_
  rw [res_rev (szN_pos hZ), List.count_reverse, List.count_reverse]
theorem sum_step {f g : Nat → Int} {m : Nat} : ∀ n, (∀ j, j < n → g j = f j + (if m = j then 1 else 0)) → ((List.range n).map g).sum = ((List.range n).map f).sum + (if m < n then 1 else 0)
  | 0, _ => by simp
  | n + 1, h => by
    have ih := sum_step n fun j hj => h j (by omega)
    rw [List.range_succ, List.map_append, List.map_append, List.sum_append, List.sum_append, ih, List.map_singleton, List.map_singleton, List.sum_singleton, List.sum_singleton, h n (by omega)]
    by_cases e : m = n
    · subst e
      rw [if_neg (by omega), if_pos rfl, if_pos (by omega)]; omega
    · rw [if_neg e]
      by_cases e2 : m < n
      · rw [if_pos e2, if_pos (by omega)]; omega
      · rw [if_neg e2, if_neg (by omega)]; omega
theorem pkI_sum {zs : List Int} (hZ : OkZ zs) {u v : List Nat} {m n : Nat} (hm : m < zs.length) (hn : m < n) (hu : OkR zs u) :
    (pkI zs (u ++ (List.replicate (szN zs (97 + m)) (97 + m) ++ v)) n).sum = (pkI zs (u ++ v) n).sum + 1 := by
  have := sum_step (m := m) n (f := fun j => ((((u ++ v).count (97 + j) : Nat) : Int) - ((res (szN zs) (u ++ v)).count (97 + j) : Nat)) / szI zs (97 + j))
    (g := fun j => ((((u ++ (List.replicate (szN zs (97 + m)) (97 + m) ++ v)).count (97 + j) : Nat) : Int) - ((res (szN zs) (u ++ (List.replicate (szN zs (97 + m)) (97 + m) ++ v))).count (97 + j) : Nat)) / szI zs (97 + j))
    (fun j _ => by
      have := pkI_pack hZ (v := v) (j := 97 + j) (k := 97 + m) ⟨by omega, by omega⟩ hu
      rw [this]
      congr 1
      by_cases e : m = j
      · subst e; rw [if_pos rfl, if_pos rfl]
      · rw [if_neg (by omega), if_neg e])
  rw [if_pos hn] at this
  exact this

-- NEEDS _law_pack m_grp reduce_row
/-! moves -/
abbrev Mv := Nat × Bool
/-- true: to the left -/
def sideT : Bool → List Nat
  | true => [108, 101, 102, 116]
  | false => [114, 105, 103, 104, 116]
abbrev mvT (m : Mv) : List V := [iv m.1, .str (S (sideT m.2))]
def nbI (sz : Nat → Nat) (l : List Nat) (m : Mv) : Int := if m.2 = true then (m.1 : Int) - 1 else (m.1 : Int) + (sz (l.getD m.1 0) : Nat)
/-- why a move is rejected; nothing if it is legal -/
def rsn (sz : Nat → Nat) (l : List Nat) (m : Mv) : List Nat :=
  if packB sz l m.1 = true then (if 0 ≤ nbI sz l m ∧ nbI sz l m < (l.length : Nat) then (if l.getD (nbI sz l m).toNat 0 = l.getD m.1 0 then [101, 113, 117, 97, 108] else []) else [101, 110, 100]) else [112, 97, 99, 107]
def legal (sz : Nat → Nat) (l : List Nat) (m : Mv) : Bool := decide (rsn sz l m = [])
/-- the row after a move -/
def moved (sz : Nat → Nat) (l : List Nat) (m : Mv) : List Nat :=
  if m.2 = true then l.take (m.1 - 1) ++ ((l.drop m.1).take (sz (l.getD m.1 0)) ++ ([l.getD (m.1 - 1) 0] ++ l.drop (m.1 + sz (l.getD m.1 0))))
  else l.take m.1 ++ ([l.getD (m.1 + sz (l.getD m.1 0)) 0] ++ ((l.drop m.1).take (sz (l.getD m.1 0)) ++ l.drop (m.1 + sz (l.getD m.1 0) + 1)))
/-- all moves that there could be, in order -/
def allMv (n : Nat) : List Mv := ((List.range n).map fun i => [(i, true), (i, false)]).flatten
theorem allMv_succ (n : Nat) : allMv (n + 1) = allMv n ++ [(n, true), (n, false)] := by
  unfold allMv
  rw [List.range_succ, List.map_append, List.flatten_append]
  simp
theorem allMv_len : ∀ n, (allMv n).length = 2 * n
  | 0 => rfl
  | n + 1 => by rw [allMv_succ, List.length_append, allMv_len n]; show _ + 2 = _; omega
theorem allMv_lt {n : Nat} {m : Mv} (h : m ∈ allMv n) : m.1 < n := by
  unfold allMv at h
  rw [List.mem_flatten] at h
  obtain ⟨y, hy, hm⟩ := h
  obtain ⟨i, hi, rfl⟩ := List.mem_map.mp hy
  rw [List.mem_range] at hi
  have e : m = (i, true) ∨ m = (i, false) := by simpa using hm
  rcases e with rfl | rfl <;> exact hi
theorem mem_allMv {n : Nat} {m : Mv} (h : m.1 < n) : m ∈ allMv n := by
  unfold allMv
  rw [List.mem_flatten]
  refine ⟨_, List.mem_map.mpr ⟨m.1, List.mem_range.mpr h, rfl⟩, ?_⟩
  obtain ⟨i, b⟩ := m
  cases b <;> simp
def legals (sz : Nat → Nat) (l : List Nat) : List Mv := (allMv l.length).filter (legal sz l)
theorem legals_len (sz : Nat → Nat) (l : List Nat) : (legals sz l).length ≤ 2 * l.length := by
  have := List.length_filter_le (legal sz l) (allMv l.length)
  rw [allMv_len] at this
  exact this
theorem legals_mem {sz : Nat → Nat} {l : List Nat} {m : Mv} : m ∈ legals sz l ↔ m.1 < l.length ∧ legal sz l m = true := by
  unfold legals
  rw [List.mem_filter]
  constructor
  · rintro ⟨h1, h2⟩; exact ⟨allMv_lt h1, h2⟩
  · rintro ⟨h1, h2⟩; exact ⟨mem_allMv h1, h2⟩
/-- what a legal move is -/
theorem legal_iff {sz : Nat → Nat} {l : List Nat} {m : Mv} : legal sz l m = true ↔ packB sz l m.1 = true ∧ (0 ≤ nbI sz l m ∧ nbI sz l m < (l.length : Nat)) ∧ l.getD (nbI sz l m).toNat 0 ≠ l.getD m.1 0 := by
  unfold legal rsn
  rw [decide_eq_true_iff]
  by_cases h1 : packB sz l m.1 = true
  · rw [if_pos h1]
    by_cases h2 : 0 ≤ nbI sz l m ∧ nbI sz l m < (l.length : Nat)
    · rw [if_pos h2]
      by_cases h3 : l.getD (nbI sz l m).toNat 0 = l.getD m.1 0
      · rw [if_pos h3]; constructor
        · intro z; simp at z
        · intro z; exact absurd h3 z.2.2
      · rw [if_neg h3]; simp only [true_iff]; exact ⟨h1, h2, h3⟩
    · rw [if_neg h2]; constructor
      · intro z; simp at z
      · intro z; exact absurd z.2.1 h2
  · rw [if_neg h1]; constructor
    · intro z; simp at z
    · intro z; exact absurd z.1 h1
/-- a legal move to the left, to the right -/
theorem legal_left {sz : Nat → Nat} {l : List Nat} {i : Nat} (hi : i < l.length) (h : legal sz l (i, true) = true) : ∃ u x k v, l = u ++ ([x] ++ (List.replicate (sz k) k ++ v)) ∧ i = u.length + 1 ∧ x ≠ k ∧ l.getD i 0 = k ∧ moved sz l (i, true) = u ++ (List.replicate (sz k) k ++ ([x] ++ v)) := by
  obtain ⟨h1, h2, h3⟩ := legal_iff.mp h
  have e : nbI sz l (i, true) = (i : Int) - 1 := rfl
  rw [e] at h2 h3
  have hi1 : 1 ≤ i := by omega
  have en : ((i : Int) - 1).toNat = i - 1 := by omega
  rw [en] at h3
  obtain ⟨k, hk, es⟩ := packAt_split ((packB_iff hi).mp h1)
  have hkd : l.getD i 0 = k := getD_of hk
  have hx := List.getElem?_eq_getElem (show i - 1 < l.length by omega)
  have hxd : l.getD (i - 1) 0 = l[i - 1] := getD_of hx
  have et : l.take i = l.take (i - 1) ++ [l[i - 1]] := by
    have := List.take_add_one (l := l) (i := i - 1)
    rw [show i - 1 + 1 = i by omega, hx] at this
    exact this
  have ed : (l.drop i).take (sz k) = List.replicate (sz k) k := by
    obtain ⟨k', hk', e'⟩ := (packB_iff hi).mp h1
    rw [hk] at hk'; cases hk'; exact e'
  refine ⟨l.take (i - 1), l[i - 1], k, l.drop (i + sz k), ?_, ?_, ?_, hkd, ?_⟩
  · rw [← List.append_assoc, ← et]; exact es
  · rw [List.length_take]; omega
  · rw [← hxd, ← hkd]; exact h3
  · show (if true = true then _ else _) = _
    rw [if_pos rfl]
    show l.take (i - 1) ++ ((l.drop i).take (sz (l.getD i 0)) ++ ([l.getD (i - 1) 0] ++ l.drop (i + sz (l.getD i 0)))) = _
    rw [hkd, ed, hxd]
theorem legal_right {sz : Nat → Nat} {l : List Nat} {i : Nat} (hi : i < l.length) (h : legal sz l (i, false) = true) : ∃ u x k v, l = u ++ (List.replicate (sz k) k ++ ([x] ++ v)) ∧ i = u.length ∧ x ≠ k ∧ l.getD i 0 = k ∧ moved sz l (i, false) = u ++ ([x] ++ (List.replicate (sz k) k ++ v)) := by
  obtain ⟨h1, h2, h3⟩ := legal_iff.mp h
  obtain ⟨k, hk, es⟩ := packAt_split ((packB_iff hi).mp h1)
  have hkd : l.getD i 0 = k := getD_of hk
  have e : nbI sz l (i, false) = (i : Int) + (sz k : Nat) := by
    show (i : Int) + (sz (l.getD i 0) : Nat) = _
    rw [hkd]
  rw [e] at h2 h3
  have en : ((i : Int) + (sz k : Nat)).toNat = i + sz k := by omega
  rw [en, hkd] at h3
  have hn : i + sz k < l.length := by omega
  have hx := List.getElem?_eq_getElem hn
  have hxd : l.getD (i + sz k) 0 = l[i + sz k] := getD_of hx
  have ed : (l.drop i).take (sz k) = List.replicate (sz k) k := by
    obtain ⟨k', hk', e'⟩ := (packB_iff hi).mp h1
    rw [hk] at hk'; cases hk'; exact e'
  have et : l.drop (i + sz k) = [l[i + sz k]] ++ l.drop (i + sz k + 1) := by
    rw [List.drop_eq_getElem_cons hn]; rfl
  refine ⟨l.take i, l[i + sz k], k, l.drop (i + sz k + 1), ?_, ?_, ?_, hkd, ?_⟩
  · rw [← et]; exact es
  · rw [List.length_take]; omega
  · rw [← hxd]; exact h3
  · show (if false = true then _ else _) = _
    rw [if_neg Bool.false_ne_true]
    show l.take i ++ ([l.getD (i + sz (l.getD i 0)) 0] ++ ((l.drop i).take (sz (l.getD i 0)) ++ l.drop (i + sz (l.getD i 0) + 1))) = _
    rw [hkd, ed, hxd]
/-- a legal move keeps the stack, the beads, the length -/
theorem moved_stk {sz : Nat → Nat} (hs : ∀ k, 1 ≤ sz k) {l : List Nat} {m : Mv} (hi : m.1 < l.length) (h : legal sz l m = true) : stk sz (moved sz l m) = stk sz l := by
  obtain ⟨i, b⟩ := m
  cases b with
  | true =>
    obtain ⟨u, x, k, v, e, _, _, _, em⟩ := legal_left hi h
    rw [em, e, stk_pack (fun y _ => hs y) (hs k)]
    have e2 := stk_pack (sz := sz) (u := u ++ [x]) (v := v) (k := k) (fun y _ => hs y) (hs k)
    rw [List.append_assoc, List.append_assoc] at e2
    exact e2.symm
  | false =>
    obtain ⟨u, x, k, v, e, _, _, _, em⟩ := legal_right hi h
    rw [em, e, stk_pack (fun y _ => hs y) (hs k)]
    have e2 := stk_pack (sz := sz) (u := u ++ [x]) (v := v) (k := k) (fun y _ => hs y) (hs k)
    rw [List.append_assoc, List.append_assoc] at e2
    exact e2
theorem moved_perm {sz : Nat → Nat} {l : List Nat} {m : Mv} (hi : m.1 < l.length) (h : legal sz l m = true) : (moved sz l m).Perm l := by
  obtain ⟨i, b⟩ := m
  cases b with
  | true =>
    obtain ⟨u, x, k, v, e, _, _, _, em⟩ := legal_left hi h
    rw [em, e]
    refine List.Perm.append_left u ?_
    rw [← List.append_assoc, ← List.append_assoc]
    exact List.Perm.append_right v List.perm_append_comm
  | false =>
    obtain ⟨u, x, k, v, e, _, _, _, em⟩ := legal_right hi h
    rw [em, e]
    refine List.Perm.append_left u ?_
    rw [← List.append_assoc, ← List.append_assoc]
    exact List.Perm.append_right v List.perm_append_comm

-- NEEDS m_mv checks size_of
abbrev s_is_pack : Stmt := topS 34
theorem sc_is_pack : FnScope ["sizes", "row", "start", "size"] ["sizes", "row", "start"] (defScope s_is_pack) := ⟨rfl, rfl, rfl, by decide +kernel, rfl, by decide +kernel, by decide +kernel⟩

abbrev s_reject_reason : Stmt := topS 35
theorem sc_reject_reason : FnScope ["sizes", "row", "move", "start", "side", "neighbor"] ["sizes", "row", "move"] (defScope s_reject_reason) := ⟨rfl, rfl, rfl, by decide +kernel, rfl, by decide +kernel, by decide +kernel⟩

abbrev s_apply_move : Stmt := topS 36
theorem sc_apply_move : FnScope ["sizes", "row", "move", "start", "side", "end"] ["sizes", "row", "move"] (defScope s_apply_move) := ⟨rfl, rfl, rfl, by decide +kernel, rfl, by decide +kernel, by decide +kernel⟩

def sp_is_pack (K : PySem.W.Frag) : Sp := sp__law_pack K
theorem ok_is_pack {f : Addr} {fd : FuncData} (F : Fun K "is_pack" "is_pack" s_is_pack f fd) (B : Bi mg) (C_size_of : Cal P w K mg base CX0 1 "size_of" ["sizes", "color"] (sp_size_of K)) : FnOk P w K mg base CX0 2 f fd ["sizes", "row", "start"] (sp_is_pack K) := by
  refine F.ok sc_is_pack (fun vs H Q E h => ?_) (fun cdv A outer s H vs Q E hr h => ?_)
  · obtain ⟨a, zs, l, i, rfl, _⟩ := h
    rfl
  · obtain ⟨a, zs, l, i, rfl, hT, hZ, hR, hi, hl, q⟩ := h
    refine ⟨_, (pss_cons (ps_set (i := 3) sc_is_pack.nd rfl (.inl rfl) (pe_cal C_size_of (hr.mono (by decide)) pass0 (pa_cons (gv 0) (pa_cons (pe_ix (ixG (K := K)) (gv 1) (gv 2) (fun _ _ => rfl)) pa_nil))))
      (pss_one (ps_ret (pe_cmpR (op_eqG (K := K) hr.units) (pe_slice (slG (K := K)) (gv 1) (po_someG (gv 2)) (po_someG (pe_op (op_addG (K := K)) (gv 2) (gv 3)))) (pe_op (op_mulG (K := K)) (pe_ix (ixG (K := K)) (gv 1) (gv 2) (fun _ _ => rfl)) (gv 3)) (nomark _))))), ?_⟩
    have hk := List.getElem?_eq_getElem hi
    have hk1 := hR _ (List.getElem_mem hi)
    have hz := szI_ok hZ hk1
    unfold packB at q
    rw [getD_of hk] at q
    generalize l[i] = k at *
    refine ⟨k, by rw [tl_S]; omega, atI_nat hk, a, zs, k, rfl, hT, hk1.1, hk1.2, hZ.six, by rw [tl_S]; omega, k, by rw [tl_S]; omega, atI_nat hk, ⟨by omega, by omega, ?_⟩, ?_⟩
    · show 1 * (szI zs k).toNat ≤ 1000000
      omega
    · show Q (.bl (decide (cutL l (some (i : Int)) (some ((i : Int) + szI zs k)) = repL (szI zs k).toNat [k]))) H
      rw [cutL_mid l (by omega) (by omega), repL_one, Int.toNat_natCast]
      have e : ((i : Int) + szI zs k).toNat - i = (szI zs k).toNat := by omega
      rw [e]
      exact q
def sp_reject_reason (K : PySem.W.Frag) : Sp := fun vs H Q _ => ∃ (a t : Addr) (zs : List Int) (l : List Nat) (m : Mv), vs = [.ref a, .str (S l), .ref t] ∧ SqT K H a (zs.map V.int) ∧ OkZ zs ∧ OkR zs l ∧ l.length ≤ 1000 ∧ SqT K H t (mvT m) ∧ m.1 < l.length ∧ ∀ H', Same H H' → Q (.str (S (rsn (szN zs) l m))) H'
theorem szN_int {zs : List Int} {k : Nat} (hZ : OkZ zs) (h : 97 ≤ k ∧ k < 97 + zs.length) : ((szN zs k : Nat) : Int) = szI zs k := by
  have := szI_ok hZ h
  show (((szI zs k).toNat : Nat) : Int) = _
  omega
theorem ok_reject_reason {f : Addr} {fd : FuncData} (F : Fun K "reject_reason" "reject_reason" s_reject_reason f fd) (B : Bi mg) (C_is_int_in : Cal P w K mg base CX0 1 "is_int_in" ["value", "low", "high"] (sp_is_int_in K)) (C_is_pack : Cal P w K mg base CX0 2 "is_pack" ["sizes", "row", "start"] (sp_is_pack K)) (C_size_of : Cal P w K mg base CX0 1 "size_of" ["sizes", "color"] (sp_size_of K)) (m_LEFT : ∃ t, mg "LEFT" = some (.str (S [108, 101, 102, 116]) t)) {p_SIDES : Addr} (m_SIDES : mg "SIDES" = some (.ref p_SIDES)) (k_SIDES : ∀ H, SqT K H p_SIDES [.str (S [108, 101, 102, 116]), .str (S [114, 105, 103, 104, 116])]) : FnOk P w K mg base CX0 3 f fd ["sizes", "row", "move"] (sp_reject_reason K) := by
  refine F.ok sc_reject_reason (fun vs H Q E h => ?_) (fun cdv A outer s H vs Q E hr h => ?_)
  · obtain ⟨a, t, zs, l, m, rfl, _⟩ := h
    rfl
  · obtain ⟨a, t, zs, l, ⟨i, b⟩, rfl, hT, hZ, hR, hl, hm, hi, q⟩ := h
    refine ⟨_, (pss_cons (ps_if (pw_or (pt_not (pt_truG (K := K) (pe_callB (cr_isiG (K := K) .ktuple) (by rfl) B.isinstance bt_isinstance (pa_cons (gv 2) (pa_cons (pe_bltn (v := .ty "tuple") (by rfl) B.tuple bt_tuple rfl) pa_nil))))) (pw_or (pt_cmpG (op_neG (K := K) hr.units) (pe_callB (cr_lenG (K := K)) (by rfl) B.len bt_len (pa_cons (gv 2) pa_nil)) pe_int (nomark _)) (pw_or1 (pt_not (pt_truG (K := K) (pe_cal C_is_int_in (hr.mono (by decide)) pass0 (pa_cons (pe_ix (ixG (K := K)) (gv 2) pe_int (fun _ _ => rfl)) (pa_cons pe_int (pa_cons (pe_op op_subG (pe_callB (cr_lenG (K := K)) (by rfl) B.len bt_len (pa_cons (gv 1) pa_nil)) pe_int) pa_nil))))))))).pt
      (pss_one (ps_ret (pe_strC [102, 111, 114, 109] (by decide +kernel))))
      pss_nil)
      (pss_cons (ps_asg (gv 2) (pg_nm (K := K) (is := [3, 4]) (pgs_cons (pg_name (i := 3) sc_reject_reason.nd rfl (.inl rfl)) (pgs_cons (pg_name (i := 4) sc_reject_reason.nd rfl (.inl rfl)) pgs_nil)) nm2))
      (pss_cons (ps_if (pw_or (pt_not (pt_truG (K := K) (pe_callB (cr_isiG (K := K) .kstr) (by rfl) B.isinstance bt_isinstance (pa_cons (gv 4) (pa_cons (pe_bltn (v := .ty "str") (by rfl) B.str bt_str rfl) pa_nil))))) (pw_or1 (pt_cmpG (op_notInG (K := K)) (gv 4) (g_ref m_SIDES) rfl))).pt
      (pss_one (ps_ret (pe_strC [102, 111, 114, 109] (by decide +kernel))))
      pss_nil)
      (pss_cons (ps_if (pt_not (pt_truG (K := K) (pe_cal C_is_pack (hr.mono (by decide)) pass0 (pa_cons (gv 0) (pa_cons (gv 1) (pa_cons (gv 3) pa_nil))))))
      (pss_one (ps_ret (pe_strC [112, 97, 99, 107] (by decide +kernel))))
      pss_nil)
      (pss_cutG (ps_set (i := 5) sc_reject_reason.nd rfl (.inl rfl) (pe_ifExp (pt_cmpG (op_eqG (K := K) hr.units) (gv 4) (g_str m_LEFT) (nomark _)) (pe_op op_subG (gv 3) pe_int) (pe_op (op_addG (K := K)) (gv 3) (pe_cal C_size_of (hr.mono (by decide)) pass0 (pa_cons (gv 0) (pa_cons (pe_ix (ixG (K := K)) (gv 1) (gv 3) (fun _ _ => rfl)) pa_nil))))))
      (pss_cons (ps_if (pt_not (pt_chainG op_leG op_ltG pe_int (gv 5) (pe_callB (cr_lenG (K := K)) (by rfl) B.len bt_len (pa_cons (gv 1) pa_nil))))
      (pss_one (ps_ret (pe_strC [101, 110, 100] (by decide +kernel))))
      pss_nil)
      (pss_one (ps_ret (pe_ifExp (pt_cmpG (op_eqG (K := K) hr.units) (pe_ix (ixG (K := K)) (gv 1) (gv 5) (fun _ _ => rfl)) (pe_ix (ixG (K := K)) (gv 1) (gv 3) (fun _ _ => rfl)) (nomark _)) (pe_strC [101, 113, 117, 97, 108] (by decide +kernel)) (pe_strC [] (by decide +kernel))))))))))), ?_⟩
    have hi' : i < l.length := hi
    have hk := List.getElem?_eq_getElem hi'
    have hk1 := hR _ (List.getElem_mem hi')
    have hz := szI_ok hZ hk1
    have hsn := szN_int hZ hk1
    have hkd : l.getD i 0 = l[i] := getD_of hk
    have q := q H (Same.refl H)
    refine ⟨rfl, .inr ⟨⟨_, hm⟩, ?_⟩⟩
    refine ⟨_, .inr hm, ?_⟩
    refine ⟨_, _, .inr hm, rfl, by rw [tl_S]; omega, _, 0, _, rfl, .inl ⟨_, rfl, iteNS ?_ ?_⟩⟩
    · rw [tl_S]; omega
    refine ⟨_, hm, rfl, [.str (S [108, 101, 102, 116]), .str (S [114, 105, 103, 104, 116])], .inr (k_SIDES _), rfl, rfl, ?_⟩
    have hin : inV (.str (S (sideT b))) [.str (S [108, 101, 102, 116]), .str (S [114, 105, 103, 104, 116])] = true := by cases b <;> decide
    show if (!inV (.str (S (sideT b))) [.str (S [108, 101, 102, 116]), .str (S [114, 105, 103, 104, 116])]) = true then _ else _
    rw [hin]
    refine ⟨a, zs, l, i, rfl, hT, hZ, hR, hi', hl, ?_⟩
    unfold rsn at q
    by_cases hp : packB (szN zs) l i = true
    · rw [hp]
      rw [if_pos hp] at q
      refine ⟨fun σ' H' => σ' = [some (.ref a), some (.str (S l)), some (.ref t), some (iv i), some (.str (S (sideT b))), some (.int (nbI (szN zs) l (i, b)))] ∧ H' = H, ?_, ?_⟩
      · cases b with
        | true => exact ⟨rfl, rfl⟩
        | false =>
          refine ⟨l[i], by rw [tl_S]; omega, atI_nat hk, a, zs, l[i], rfl, hT, hk1.1, hk1.2, hZ.six, ?_, rfl⟩
          show _ = [some (.ref a), some (.str (S l)), some (.ref t), some (iv i), some (.str (S (sideT false))), some (.int ((i : Int) + (szN zs (l.getD i 0) : Nat)))]
          rw [hkd, hsn]
          rfl
      · rintro σ' H' ⟨rfl, rfl⟩
        generalize nbI (szN zs) l (i, b) = nb at *
        refine iteB ⟨fun c1 => ⟨by rw [tl_S]; omega, iteB ⟨fun c2 => ?_, fun c2 => ?_⟩⟩, fun c1 => ?_⟩
        · have hn : ¬ (0 ≤ nb ∧ nb < (l.length : Nat)) := fun z => by
            have c3 : decide (nb < (((tl (S l)).length : Nat) : Int)) = true := decide_eq_true (by rw [tl_S]; exact z.2)
            have c2' : (!decide (nb < (((tl (S l)).length : Nat) : Int))) = true := c2
            rw [c3] at c2'
            exact absurd c2' (by decide)
          rw [if_neg hn] at q
          exact q
        · have h0 : 0 ≤ nb := of_decide_eq_true c1
          have h1 : nb < (l.length : Nat) := by
            rcases Int.lt_or_le nb (l.length : Nat) with z | z
            · exact z
            · exfalso
              apply c2
              have c3 : decide (nb < (((tl (S l)).length : Nat) : Int)) = false := decide_eq_false (by rw [tl_S]; omega)
              show (!decide (nb < (((tl (S l)).length : Nat) : Int))) = true
              rw [c3]
              rfl
          rw [if_pos ⟨h0, h1⟩] at q
          obtain ⟨nn, rfl⟩ := Int.eq_ofNat_of_zero_le h0
          have hn := List.getElem?_eq_getElem (show nn < l.length by omega)
          rw [Int.toNat_natCast, getD_of hn, hkd] at q
          refine ⟨l[nn], by rw [tl_S]; omega, atI_nat hn, l[i], by rw [tl_S]; omega, atI_nat hk, iteB ⟨fun c3 => ?_, fun c3 => ?_⟩⟩
          · have : l[nn] = l[i] := by
              have := of_decide_eq_true c3
              rw [tl_S, tl_S] at this
              simpa using this
            rw [if_pos this] at q
            exact q
          · have : ¬ l[nn] = l[i] := fun z => c3 (decide_eq_true (by rw [z]))
            rw [if_neg this] at q
            exact q
        · have hn : ¬ (0 ≤ nb ∧ nb < (l.length : Nat)) := fun z => c1 (decide_eq_true z.1)
          rw [if_neg hn] at q
          exact q
    · have hp' : packB (szN zs) l i = false := by cases h : packB (szN zs) l i with
        | true => exact absurd h hp
        | false => rfl
      rw [hp']
      rw [if_neg hp] at q
      exact q
/-- the moves as they lie in the heap -/
inductive Mvs (K : PySem.W.Frag) (H : Hp) : List V → List Mv → Prop
  | nil : Mvs K H [] []
  | cons {T : Addr} {m : Mv} {vs : List V} {ms : List Mv} : SqT K H T (mvT m) → Mvs K H vs ms → Mvs K H (.ref T :: vs) (m :: ms)
theorem Mvs.same {K : PySem.W.Frag} {H H' : Hp} {vs : List V} {ms : List Mv} (h : Mvs K H vs ms) (s : Same H H') : Mvs K H' vs ms := by
  induction h with
  | nil => exact .nil
  | cons h1 _ ih => exact .cons (s.tup h1) ih
theorem Mvs.upd {K : PySem.W.Frag} {H : Hp} {d : Addr} {o : HO} {xs vs : List V} {ms : List Mv} (h : Mvs K H vs ms) (hd : H d = some (.lst xs)) : Mvs K (upd H d o) vs ms := by
  induction h with
  | nil => exact .nil
  | cons h1 _ ih => exact .cons (sameB_upd.tup hd h1) ih
theorem Mvs.len {K : PySem.W.Frag} {H : Hp} {vs : List V} {ms : List Mv} (h : Mvs K H vs ms) : vs.length = ms.length := by
  induction h with
  | nil => rfl
  | cons _ _ ih => simp [ih]
theorem Mvs.snoc {K : PySem.W.Frag} {H : Hp} {vs : List V} {ms : List Mv} {T : Addr} {m : Mv} (h : Mvs K H vs ms) (hT : SqT K H T (mvT m)) : Mvs K H (vs ++ [.ref T]) (ms ++ [m]) := by
  induction h with
  | nil => exact .cons hT .nil
  | cons h1 _ ih => exact .cons h1 ih
theorem Mvs.get {K : PySem.W.Frag} {H : Hp} {vs : List V} {ms : List Mv} (h : Mvs K H vs ms) : ∀ {j : Nat} {v : V}, vs[j]? = some v → ∃ T m, v = .ref T ∧ ms[j]? = some m ∧ SqT K H T (mvT m) := by
  induction h with
  | nil => intro j v hv; simp at hv
  | cons h1 _ ih =>
    intro j v hv
    cases j with
    | zero => cases hv; exact ⟨_, _, rfl, rfl, h1⟩
    | succ j => exact ih hv
abbrev mvD (m : Mv) : PyData := .tuple [.int ((m.1 : Nat) : Int), .str (S (sideT m.2))]
theorem Mvs.dp {K : PySem.W.Frag} {H : Hp} {vs : List V} {ms : List Mv} (h : Mvs K H vs ms) : DpAll K H vs (ms.map mvD) := by
  induction h with
  | nil => exact .nil
  | cons h1 _ ih => exact .cons (.tup h1 (.cons (.int _) (.cons (.str _) .nil))) ih
def sp_apply_move (K : PySem.W.Frag) : Sp := fun vs H Q _ => ∃ (a t : Addr) (zs : List Int) (l : List Nat) (m : Mv), vs = [.ref a, .str (S l), .ref t] ∧ SqT K H a (zs.map V.int) ∧ OkZ zs ∧ OkR zs l ∧ l.length ≤ 1000 ∧ SqT K H t (mvT m) ∧ m.1 < l.length ∧ legal (szN zs) l m = true ∧ ∀ H', Same H H' → Q (.str (S (moved (szN zs) l m))) H'
theorem ok_apply_move {f : Addr} {fd : FuncData} (F : Fun K "apply_move" "apply_move" s_apply_move f fd) (B : Bi mg) (C_size_of : Cal P w K mg base CX0 1 "size_of" ["sizes", "color"] (sp_size_of K)) (m_LEFT : ∃ t, mg "LEFT" = some (.str (S [108, 101, 102, 116]) t)) : FnOk P w K mg base CX0 2 f fd ["sizes", "row", "move"] (sp_apply_move K) := by
  refine F.ok sc_apply_move (fun vs H Q E h => ?_) (fun cdv A outer s H vs Q E hr h => ?_)
  · obtain ⟨a, t, zs, l, m, rfl, _⟩ := h
    rfl
  · obtain ⟨a, t, zs, l, ⟨i, b⟩, rfl, hT, hZ, hR, hl, hm, hi, hlg, q⟩ := h
    refine ⟨_, (pss_cons (ps_asg (gv 2) (pg_nm (K := K) (is := [3, 4]) (pgs_cons (pg_name (i := 3) sc_apply_move.nd rfl (.inl rfl)) (pgs_cons (pg_name (i := 4) sc_apply_move.nd rfl (.inl rfl)) pgs_nil)) nm2))
      (pss_cons (ps_set (i := 5) sc_apply_move.nd rfl (.inl rfl) (pe_op (op_addG (K := K)) (gv 3) (pe_cal C_size_of (hr.mono (by decide)) pass0 (pa_cons (gv 0) (pa_cons (pe_ix (ixG (K := K)) (gv 1) (gv 3) (fun _ _ => rfl)) pa_nil)))))
      (pss_cons (ps_if (pt_cmpG (op_eqG (K := K) hr.units) (gv 4) (g_str m_LEFT) (nomark _))
      (pss_one (ps_ret (pe_op (op_addG (K := K)) (pe_op (op_addG (K := K)) (pe_op (op_addG (K := K)) (pe_slice (slG (K := K)) (gv 1) po_none (po_someG (pe_op op_subG (gv 3) pe_int))) (pe_slice (slG (K := K)) (gv 1) (po_someG (gv 3)) (po_someG (gv 5)))) (pe_ix (ixG (K := K)) (gv 1) (pe_op op_subG (gv 3) pe_int) (fun _ _ => rfl))) (pe_slice (slG (K := K)) (gv 1) (po_someG (gv 5)) po_none))))
      pss_nil)
      (pss_one (ps_ret (pe_op (op_addG (K := K)) (pe_op (op_addG (K := K)) (pe_op (op_addG (K := K)) (pe_slice (slG (K := K)) (gv 1) po_none (po_someG (gv 3))) (pe_ix (ixG (K := K)) (gv 1) (gv 5) (fun _ _ => rfl))) (pe_slice (slG (K := K)) (gv 1) (po_someG (gv 3)) (po_someG (gv 5)))) (pe_slice (slG (K := K)) (gv 1) (po_someG (pe_op (op_addG (K := K)) (gv 5) pe_int)) po_none))))))), ?_⟩
    have hi' : i < l.length := hi
    have hk := List.getElem?_eq_getElem hi'
    have hk1 := hR _ (List.getElem_mem hi')
    have hz := szI_ok hZ hk1
    have hsn := szN_int hZ hk1
    have hkd : l.getD i 0 = l[i] := getD_of hk
    have q := q H (Same.refl H)
    obtain ⟨_, hnb, _⟩ := legal_iff.mp hlg
    refine ⟨_, hm, l[i], by rw [tl_S]; omega, atI_nat hk, a, zs, l[i], rfl, hT, hk1.1, hk1.2, hZ.six, ?_⟩
    generalize hke : l[i] = k at *
    have es : (szI zs k).toNat = szN zs k := rfl
    have c2 : cutL (tl (S l)) (some ((i : Nat) : Int)) (some (((i : Nat) : Int) + szI zs k)) = (l.drop i).take (szN zs k) := by
      rw [tl_S, cutL_mid l (by omega) (by omega), Int.toNat_natCast]
      congr 1
      omega
    have lc := fun lo hi => cutL_len l lo hi
    cases b with
    | true =>
      have hi1 : 1 ≤ i := by
        have := hnb.1
        have e : nbI (szN zs) l (i, true) = (i : Int) - 1 := rfl
        rw [e] at this
        omega
      have hx := List.getElem?_eq_getElem (show i - 1 < l.length by omega)
      have hxd : l.getD (i - 1) 0 = l[i - 1] := getD_of hx
      have ei : (((i : Nat) : Int) - 1) = ((i - 1 : Nat) : Int) := by omega
      have c1 : cutL (tl (S l)) none (some (((i : Nat) : Int) - 1)) = l.take (i - 1) := by rw [tl_S, cutL_to l (by omega)]; congr 1; omega
      have c3 : cutL (tl (S l)) (some (((i : Nat) : Int) + szI zs k)) none = l.drop (i + szN zs k) := by rw [tl_S, cutL_from l (by omega)]; congr 1; omega
      refine ⟨by rw [tl_S]; omega, by rw [tl_S]; omega, ?_, l[i - 1], by rw [tl_S]; omega, by rw [ei]; exact atI_nat hx, ?_, by rw [tl_S]; omega, ?_, ?_⟩
      · rw [c1, c2, tl_S, tl_S, List.length_take, List.length_take, List.length_drop]; omega
      · rw [c1, c2, tl_S, tl_S, tl_S, tl_S, List.length_append, List.length_take, List.length_take, List.length_drop]; show _ + 1 ≤ _; omega
      · rw [c1, c2, c3, tl_S, tl_S, tl_S, tl_S, tl_S, tl_S, List.length_append, List.length_append, List.length_take, List.length_take, List.length_drop, List.length_drop]; show _ + 1 + _ ≤ _; omega
      · have e : tl (S (tl (S (tl (S (cutL (tl (S l)) none (some (((i : Nat) : Int) - 1)))) ++ tl (S (cutL (tl (S l)) (some ((i : Nat) : Int)) (some (((i : Nat) : Int) + szI zs k)))))) ++ tl (S [l[i - 1]]))) ++ tl (S (cutL (tl (S l)) (some (((i : Nat) : Int) + szI zs k)) none)) = moved (szN zs) l (i, true) := by
          rw [c1, c2, c3]
          simp only [tl_S]
          show _ = l.take (i - 1) ++ ((l.drop i).take (szN zs (l.getD i 0)) ++ ([l.getD (i - 1) 0] ++ l.drop (i + szN zs (l.getD i 0))))
          rw [hkd, hxd]
          simp
        show Q (.str (S _)) H
        rw [e]
        exact q
    | false =>
      have e0 : nbI (szN zs) l (i, false) = (i : Int) + szI zs k := by
        show (i : Int) + (szN zs (l.getD i 0) : Nat) = _
        rw [hkd, hsn]
      rw [e0] at hnb
      have hn : i + szN zs k < l.length := by omega
      have hx := List.getElem?_eq_getElem hn
      have hxd : l.getD (i + szN zs k) 0 = l[i + szN zs k] := getD_of hx
      have ei : (((i : Nat) : Int) + szI zs k) = ((i + szN zs k : Nat) : Int) := by omega
      have c1 : cutL (tl (S l)) none (some ((i : Nat) : Int)) = l.take i := by rw [tl_S, cutL_to l (by omega), Int.toNat_natCast]
      have c3 : cutL (tl (S l)) (some ((((i : Nat) : Int) + szI zs k) + 1)) none = l.drop (i + szN zs k + 1) := by rw [tl_S, cutL_from l (by omega)]; congr 1; omega
      refine ⟨by rw [tl_S]; omega, l[i + szN zs k], by rw [tl_S]; omega, by rw [ei]; exact atI_nat hx, ?_, by rw [tl_S]; omega, ?_, by rw [tl_S]; omega, ?_, ?_⟩
      · rw [c1, tl_S, tl_S, List.length_take]; show _ + 1 ≤ _; omega
      · rw [c1, c2, tl_S, tl_S, tl_S, tl_S, List.length_append, List.length_take, List.length_take, List.length_drop]; show _ + 1 + _ ≤ _; omega
      · rw [c1, c2, c3, tl_S, tl_S, tl_S, tl_S, tl_S, tl_S, List.length_append, List.length_append, List.length_take, List.length_take, List.length_drop, List.length_drop]; show _ + 1 + _ + _ ≤ _; omega
      · have e : tl (S (tl (S (tl (S (cutL (tl (S l)) none (some ((i : Nat) : Int)))) ++ tl (S [l[i + szN zs k]]))) ++ tl (S (cutL (tl (S l)) (some ((i : Nat) : Int)) (some (((i : Nat) : Int) + szI zs k)))))) ++ tl (S (cutL (tl (S l)) (some ((((i : Nat) : Int) + szI zs k) + 1)) none)) = moved (szN zs) l (i, false) := by
          rw [c1, c2, c3]
          simp only [tl_S]
          show _ = l.take i ++ ([l.getD (i + szN zs (l.getD i 0)) 0] ++ ((l.drop i).take (szN zs (l.getD i 0)) ++ l.drop (i + szN zs (l.getD i 0) + 1)))
          rw [hkd, hxd]
          simp
        show Q (.str (S _)) H
        rw [e]
        exact q

-- NEEDS moves m_data
abbrev s_list_moves : Stmt := topS 37
theorem sc_list_moves : FnScope ["sizes", "row", "candidates", "start", "side", "move"] ["sizes", "row"] (defScope s_list_moves) := ⟨rfl, rfl, rfl, by decide +kernel, rfl, by decide +kernel, by decide +kernel⟩

theorem legal_of {zs : List Int} {l : List Nat} {m : Mv} : tl (S (rsn (szN zs) l m)) = tl (S []) ↔ legal (szN zs) l m = true := by
  unfold legal
  rw [decide_eq_true_iff, tl_S, tl_S]
def sp_list_moves (K : PySem.W.Frag) : Sp := fun vs H Q _ => ∃ (a : Addr) (zs : List Int) (l : List Nat), vs = [.ref a, .str (S l)] ∧ SqT K H a (zs.map V.int) ∧ OkZ zs ∧ OkR zs l ∧ l.length ≤ 100 ∧ ∀ (H' : Hp) (t : Addr) (vs' : List V), Same H H' → H t = none → H' t = some (.lst vs') → Mvs K H' vs' (legals (szN zs) l) → Q (.ref t) H'
theorem filter1' {α : Type} {p : α → Bool} {j : α} (h : p j = true) : [j].filter p = [j] := by simp [h]
theorem filter0' {α : Type} {p : α → Bool} {j : α} (h : ¬ p j = true) : [j].filter p = [] := by simp [h]
theorem ok_list_moves {f : Addr} {fd : FuncData} (F : Fun K "list_moves" "list_moves" s_list_moves f fd) (B : Bi mg) (C_reject_reason : Cal P w K mg base CX0 3 "reject_reason" ["sizes", "row", "move"] (sp_reject_reason K)) {p_SIDES : Addr} (m_SIDES : mg "SIDES" = some (.ref p_SIDES)) (k_SIDES : ∀ H, SqT K H p_SIDES [.str (S [108, 101, 102, 116]), .str (S [114, 105, 103, 104, 116])]) : FnOk P w K mg base CX0 4 f fd ["sizes", "row"] (sp_list_moves K) := by
  refine F.ok sc_list_moves (fun vs H Q E h => ?_) (fun cdv A outer s H vs Q E hr h => ?_)
  · obtain ⟨a, zs, l, rfl, _⟩ := h
    rfl
  · obtain ⟨a, zs, l, rfl, hT, hZ, hR, hl, q⟩ := h
    refine ⟨_, (pss_cons (ps_setLc2 (i := 2) (own := [("start", 3), ("side", 4)]) (vs1 := [4]) (by rfl) sc_list_moves.nd rfl rfl (sw_true rfl rfl rfl (by decide +kernel)) (pi_range1 (by rfl) B.range (pa_cons (pe_callB (cr_lenG (K := K)) (by rfl) B.len bt_len (pa_cons (gv 1) pa_nil)) pa_nil)) (blkOk_by (N := ["sizes", "row", "candidates", "start", "side", "move"]) (sc := defScope s_list_moves) (by decide +kernel)) (by decide) (fun _ _ _ _ _ => (pg_name (i := 3) sc_list_moves.nd rfl (.inl rfl))) (fun _ _ _ _ _ => pts_nil) (fun _ _ _ _ _ => (pi_seqG (K := K) (g_ref m_SIDES))) (fun _ _ _ _ _ => (pg_name (i := 4) sc_list_moves.nd rfl (.inl rfl))) (fun _ _ _ _ _ => pts_nil) (fun _ _ _ _ _ => (pe_tup (pa_cons (gv 3) (pa_cons (gv 4) pa_nil)))))
      (pss_one (ps_ret (pe_lc (own := [("move", 5)]) (by rfl) sc_list_moves.nd (pi_seqG (K := K) (gv 2)) (blkOk_by (N := ["sizes", "row", "candidates", "start", "side", "move"]) (sc := defScope s_list_moves) (by decide +kernel)) (fun _ _ _ _ _ => (pg_name (i := 5) sc_list_moves.nd rfl (.inl rfl))) (fun _ _ _ _ _ => pts_one (pt_cmpG (op_eqG (K := K) hr.units) (pe_cal C_reject_reason (hr.mono (by decide)) pass0 (pa_cons (gv 0) (pa_cons (gv 1) (pa_cons (gv 5) pa_nil)))) (pe_strC [] (by decide +kernel)) (nomark _))) (fun _ _ _ _ _ => (gv 5)))))), ?_⟩
    refine ⟨by rw [tl_S]; omega, _, rfl, by omega, by rw [tl_S]; omega, fun D hD => ?_⟩
    rw [tl_S, Int.toNat_natCast]
    refine out_it walk_range (fun i H' => ∃ acc, Same H H' ∧ H' D = some (.lst acc) ∧ Mvs K H' acc (allMv i)) ⟨[], same_upd hD, upd_same, .nil⟩ ?_ ?_ ?_
    · intros; trivial
    · rintro i x H1 H2 hi ⟨acc, s1, hD1, hM⟩ ⟨rfl, rfl⟩
      refine ⟨rfl, .inr ⟨_, k_SIDES _, ?_⟩⟩
      refine out_it (walk_tup (xs := [.str (S [108, 101, 102, 116]), .str (S [114, 105, 103, 104, 116])])) (fun j H' => ∃ acc, Same H H' ∧ H' D = some (.lst acc) ∧ Mvs K H' acc (allMv i ++ [(i, true), (i, false)].take j)) ⟨acc, s1, hD1, by rw [List.take_zero, List.append_nil]; exact hM⟩ ?_ ?_ ?_
      · intros; exact k_SIDES _
      · rintro j x H3 H4 hj ⟨acc, s3, hD3, hM3⟩ ⟨rfl, hx⟩
        refine ⟨rfl, by show 2 ≤ sizeLine; decide, fun T hTn => ?_⟩
        have hDT : D ≠ T := ne_of_none hD3 hTn
        have hl2 := hM3.len
        rw [List.length_append, allMv_len, List.length_take] at hl2
        have sT := same_upd (o := .tup [.int (0 + (i : Nat)), x]) hTn
        refine ⟨acc, by rw [upd_ne hDT]; exact hD3, small1000 (by simp at hl2; omega), acc ++ [.ref T], (s3.trans sT).at hD, upd_same, ?_⟩
        have hj2 : j = 0 ∨ j = 1 := by
          have : j < 2 := hj
          omega
        have hm : ∃ m, [(i, true), (i, false)][j]? = some m ∧ ([.int (0 + (i : Nat)), x] : List V) = mvT m := by
          rcases hj2 with rfl | rfl
          · cases hx; exact ⟨_, rfl, by rw [Int.zero_add]; rfl⟩
          · cases hx; exact ⟨_, rfl, by rw [Int.zero_add]; rfl⟩
        obtain ⟨m, hm, em⟩ := hm
        rw [List.take_add_one, hm, ← List.append_assoc]
        have hTT : upd H4 T (.tup [.int (0 + (i : Nat)), x]) T = some (.tup (mvT m)) := by rw [← em]; exact upd_same
        have hDl : upd H4 T (.tup [.int (0 + (i : Nat)), x]) D = some (.lst acc) := by rw [upd_ne hDT]; exact hD3
        exact ((hM3.same sT).snoc (SqT.of hTT)).upd hDl
      · rintro H3 ⟨acc, s3, hD3, hM3⟩
        exact ⟨acc, s3, hD3, by rw [allMv_succ]; exact hM3⟩
    · rintro H1 ⟨acc, s1, hD1, hM⟩
      refine .inl ⟨_, SqL.of hD1, fun D2 hD2 => ?_⟩
      refine lc_list (xs := acc) (fun j H' => ∃ ac2, Same H1 H' ∧ H' D2 = some (.lst ac2) ∧ Mvs K H' ac2 (((allMv l.length).take j).filter (legal (szN zs) l))) ⟨[], same_upd hD2, upd_same, .nil⟩ ?_ ?_ ?_
      · rintro j H2 hj ⟨ac2, s2, _⟩
        exact s2.seq (SqL.of hD1)
      · rintro j x H2 hx ⟨ac2, s2, hD3, hM3⟩
        obtain ⟨T, m, rfl, hm, hTm⟩ := hM.get hx
        have hml := allMv_lt (List.mem_of_getElem? hm)
        have hl2 := hM3.len
        have hl3 := List.length_filter_le (legal (szN zs) l) ((allMv l.length).take j)
        rw [List.length_take, allMv_len] at hl3
        refine ⟨rfl, a, T, zs, l, m, rfl, (s1.trans s2).tup hT, hZ, hR, by omega, s2.tup hTm, hml, fun H3 s3 => iteB ⟨fun e => ?_, fun e => ?_⟩⟩
        · have e' : legal (szN zs) l m = true := legal_of.mp (of_decide_eq_true e)
          refine ⟨ac2, s3 _ _ hD3, small1000 (by omega), ac2 ++ [.ref T], (s2.trans s3).at hD2, upd_same, ?_⟩
          rw [List.take_add_one, hm, List.filter_append]
          have : (some m).toList.filter (legal (szN zs) l) = [m] := filter1' e'
          rw [this]
          exact ((hM3.same s3).snoc ((s2.trans s3).tup hTm)).upd (s3 _ _ hD3)
        · have e' : ¬ legal (szN zs) l m = true := fun z => e (decide_eq_true (legal_of.mpr z))
          refine ⟨ac2, s2.trans s3, s3 _ _ hD3, ?_⟩
          rw [List.take_add_one, hm, List.filter_append]
          have : (some m).toList.filter (legal (szN zs) l) = [] := filter0' e'
          rw [this, List.append_nil]
          exact hM3.same s3
      · rintro H2 ⟨ac2, s2, hD3, hM3⟩
        rw [hM.len, List.take_length] at hM3
        exact q H2 D2 ac2 (s1.trans s2) (s1.free hD2) hD3 hM3
def sp_legal_moves (K : PySem.W.Frag) : Sp := fun vs H Q _ => ∃ (a : Addr) (zs : List Int) (l : List Nat), vs = [.ref a, .str (S l)] ∧ SqT K H a (zs.map V.int) ∧ OkZ zs ∧ OkR zs l ∧ l.length ≤ 40 ∧ ∀ (H' : Hp) (t : Addr) (vs' : List V), Same H H' → H t = none → H' t = some (.lst vs') → Mvs K H' vs' (legals (szN zs) l) → Q (.ref t) H'
/-- moves that are legal one after another, and the row behind them -/
def Way (sz : Nat → Nat) : List Nat → List Mv → List Nat → Prop
  | l, [], r => l = r
  | l, m :: ms, r => m.1 < l.length ∧ legal sz l m = true ∧ Way sz (moved sz l m) ms r
theorem OkR.perm {zs : List Int} {l r : List Nat} (h : OkR zs l) (hp : r.Perm l) : OkR zs r := fun k hk => h k (hp.mem_iff.mp hk)
theorem moved_len {sz : Nat → Nat} {l : List Nat} {m : Mv} (hi : m.1 < l.length) (h : legal sz l m = true) : (moved sz l m).length = l.length := (moved_perm hi h).length_eq
def sp_apply_moves (K : PySem.W.Frag) : Sp := fun vs H Q _ => ∃ (a b : Addr) (zs : List Int) (l r : List Nat) (vs' : List V) (ms : List Mv), vs = [.ref a, .str (S l), .ref b] ∧ SqT K H a (zs.map V.int) ∧ OkZ zs ∧ OkR zs l ∧ l.length ≤ 40 ∧ SqL K H b vs' ∧ Mvs K H vs' ms ∧ Way (szN zs) l ms r ∧ ∀ H', Same H H' → Q (.str (S r)) H'

-- NEEDS m_mv moves list_moves m_grp m_pk m_data
/-! moves undone; residues have no moves -/
theorem packB_mid {sz : Nat → Nat} (hs : ∀ k, 1 ≤ sz k) {u v : List Nat} {k : Nat} : (u ++ (List.replicate (sz k) k ++ v))[u.length]? = some k ∧ packB sz (u ++ (List.replicate (sz k) k ++ v)) u.length = true := by
  have h1 := hs k
  have hk : (u ++ (List.replicate (sz k) k ++ v))[u.length]? = some k := by
    rw [List.getElem?_append_right (Nat.le_refl _), Nat.sub_self, List.getElem?_append_left (by rw [List.length_replicate]; omega), List.getElem?_replicate]
    rw [if_pos (by omega)]
  refine ⟨hk, ?_⟩
  have hi : u.length < (u ++ (List.replicate (sz k) k ++ v)).length := (List.getElem?_eq_some_iff.mp hk).1
  rw [packB_iff hi]
  refine ⟨k, hk, ?_⟩
  rw [List.drop_left]
  exact List.take_left' (by rw [List.length_replicate])
theorem mk_right {sz : Nat → Nat} (hs : ∀ k, 1 ≤ sz k) {u v : List Nat} {k x : Nat} (hx : x ≠ k) : u.length < (u ++ (List.replicate (sz k) k ++ ([x] ++ v))).length ∧ legal sz (u ++ (List.replicate (sz k) k ++ ([x] ++ v))) (u.length, false) = true ∧
    moved sz (u ++ (List.replicate (sz k) k ++ ([x] ++ v))) (u.length, false) = u ++ ([x] ++ (List.replicate (sz k) k ++ v)) := by
  obtain ⟨hk, hp⟩ := packB_mid hs (u := u) (k := k) (v := [x] ++ v)
  have hi := (List.getElem?_eq_some_iff.mp hk).1
  have hkd := getD_of hk
  have hnx : (u ++ (List.replicate (sz k) k ++ ([x] ++ v)))[u.length + sz k]? = some x := by
    rw [List.getElem?_append_right (by omega), show u.length + sz k - u.length = sz k by omega, List.getElem?_append_right (by rw [List.length_replicate]; omega), List.length_replicate, Nat.sub_self]
    rfl
  have hn := (List.getElem?_eq_some_iff.mp hnx).1
  have hl : legal sz (u ++ (List.replicate (sz k) k ++ ([x] ++ v))) (u.length, false) = true := by
    rw [legal_iff]
    have e : nbI sz (u ++ (List.replicate (sz k) k ++ ([x] ++ v))) (u.length, false) = ((u.length + sz k : Nat) : Int) := by
      show (u.length : Int) + (sz ((u ++ (List.replicate (sz k) k ++ ([x] ++ v))).getD u.length 0) : Nat) = _
      rw [hkd]; omega
    rw [e]
    refine ⟨hp, ⟨by omega, by omega⟩, ?_⟩
    rw [Int.toNat_natCast, getD_of hnx]
    show x ≠ (u ++ (List.replicate (sz k) k ++ ([x] ++ v))).getD u.length 0
    rw [hkd]
    exact hx
  refine ⟨hi, hl, ?_⟩
  obtain ⟨u', x', k', v', e, eu, _, ek, em⟩ := legal_right hi hl
  rw [hkd] at ek
  subst ek
  obtain ⟨e1, e2⟩ := List.append_inj e eu
  have e3 := List.append_cancel_left e2
  have e4 : x = x' ∧ v = v' := by simpa using e3
  rw [em, ← e1, ← e4.1, ← e4.2]
theorem mk_left {sz : Nat → Nat} (hs : ∀ k, 1 ≤ sz k) {u v : List Nat} {k x : Nat} (hx : x ≠ k) : u.length + 1 < (u ++ ([x] ++ (List.replicate (sz k) k ++ v))).length ∧ legal sz (u ++ ([x] ++ (List.replicate (sz k) k ++ v))) (u.length + 1, true) = true ∧
    moved sz (u ++ ([x] ++ (List.replicate (sz k) k ++ v))) (u.length + 1, true) = u ++ (List.replicate (sz k) k ++ ([x] ++ v)) := by
  have ea : u ++ ([x] ++ (List.replicate (sz k) k ++ v)) = (u ++ [x]) ++ (List.replicate (sz k) k ++ v) := by rw [List.append_assoc]
  have el : (u ++ [x]).length = u.length + 1 := by rw [List.length_append]; rfl
  obtain ⟨hk, hp⟩ := packB_mid hs (u := u ++ [x]) (k := k) (v := v)
  rw [el, ← ea] at hk hp
  have hi := (List.getElem?_eq_some_iff.mp hk).1
  have hkd := getD_of hk
  have hnx : (u ++ ([x] ++ (List.replicate (sz k) k ++ v)))[u.length]? = some x := by
    rw [List.getElem?_append_right (Nat.le_refl _), Nat.sub_self]
    rfl
  have hl : legal sz (u ++ ([x] ++ (List.replicate (sz k) k ++ v))) (u.length + 1, true) = true := by
    rw [legal_iff]
    have e : nbI sz (u ++ ([x] ++ (List.replicate (sz k) k ++ v))) (u.length + 1, true) = ((u.length : Nat) : Int) := by
      show ((u.length + 1 : Nat) : Int) - 1 = _
      omega
    rw [e]
    refine ⟨hp, ⟨by omega, by omega⟩, ?_⟩
    rw [Int.toNat_natCast, getD_of hnx]
    show x ≠ (u ++ ([x] ++ (List.replicate (sz k) k ++ v))).getD (u.length + 1) 0
    rw [hkd]
    exact hx
  refine ⟨hi, hl, ?_⟩
  obtain ⟨u', x', k', v', e, eu, _, ek, em⟩ := legal_left hi hl
  rw [hkd] at ek
  subst ek
  obtain ⟨e1, e2⟩ := List.append_inj e (by omega)
  have e3 : x = x' ∧ List.replicate (sz k) k ++ v = List.replicate (sz k) k ++ v' := by simpa using e2
  rw [em, ← e1, ← e3.1, ← List.append_cancel_left e3.2]
/-- the move back -/
def backM (m : Mv) : Mv := if m.2 = true then (m.1 - 1, false) else (m.1 + 1, true)
theorem back_ok {sz : Nat → Nat} (hs : ∀ k, 1 ≤ sz k) {l : List Nat} {m : Mv} (hi : m.1 < l.length) (h : legal sz l m = true) :
    (m.2 = true → 1 ≤ m.1) ∧ (backM m).1 < (moved sz l m).length ∧ legal sz (moved sz l m) (backM m) = true ∧ moved sz (moved sz l m) (backM m) = l ∧ moved sz l m ≠ l := by
  obtain ⟨i, b⟩ := m
  cases b with
  | true =>
    obtain ⟨u, x, k, v, e, ei, hx, _, em⟩ := legal_left hi h
    obtain ⟨h1, h2, h3⟩ := mk_right hs (u := u) (v := v) hx
    have ei' : i = u.length + 1 := ei
    have eb : backM (i, true) = (u.length, false) := by show (i - 1, false) = _; rw [ei']; rfl
    rw [em, eb]
    refine ⟨fun _ => by show 1 ≤ i; omega, h1, h2, by rw [h3, e], fun z => ?_⟩
    rw [e] at z
    have z2 := List.append_cancel_left z
    obtain ⟨s', hs'⟩ : ∃ s', sz k = s' + 1 := ⟨sz k - 1, by have := hs k; omega⟩
    rw [hs', List.replicate_succ] at z2
    have z3 : k = x := by
      have := congrArg List.head? z2
      simpa using this
    exact hx z3.symm
  | false =>
    obtain ⟨u, x, k, v, e, ei, hx, _, em⟩ := legal_right hi h
    obtain ⟨h1, h2, h3⟩ := mk_left hs (u := u) (v := v) hx
    have ei' : i = u.length := ei
    have eb : backM (i, false) = (u.length + 1, true) := by show (i + 1, true) = _; rw [ei']
    rw [em, eb]
    refine ⟨fun z => absurd (show false = true from z) (by decide), h1, h2, by rw [h3, e], fun z => ?_⟩
    rw [e] at z
    have z2 := List.append_cancel_left z
    obtain ⟨s', hs'⟩ : ∃ s', sz k = s' + 1 := ⟨sz k - 1, by have := hs k; omega⟩
    rw [hs', List.replicate_succ] at z2
    have z3 : x = k := by
      have := congrArg List.head? z2
      simpa using this
    exact hx z3
theorem res_noPack {sz : Nat → Nat} (hs : ∀ k, 1 ≤ sz k) (l : List Nat) {i : Nat} (hi : i < (res sz l).length) : packB sz (res sz l) i = false := by
  cases hp : packB sz (res sz l) i with
  | false => rfl
  | true =>
    exfalso
    obtain ⟨k, hk, e⟩ := packAt_split ((packB_iff hi).mp hp)
    have e2 : stk sz (res sz l) = stk sz ((res sz l).take i ++ (res sz l).drop (i + sz k)) := by
      have := stk_pack (sz := sz) (u := (res sz l).take i) (v := (res sz l).drop (i + sz k)) (k := k) (fun y _ => hs y) (hs k)
      rw [← e] at this
      exact this
    have e3 := res_eq_of e2
    rw [res_res hs] at e3
    have h1 : (res sz ((res sz l).take i ++ (res sz l).drop (i + sz k))).length ≤ _ := stk_len (sz := sz) ((res sz l).take i ++ (res sz l).drop (i + sz k))
    rw [← e3, List.length_append] at h1
    have el := congrArg List.length e
    rw [List.length_append, List.length_append, List.length_replicate] at el
    have := hs k
    omega
theorem res_noMoves {sz : Nat → Nat} (hs : ∀ k, 1 ≤ sz k) (l : List Nat) : legals sz (res sz l) = [] := by
  unfold legals
  rw [List.filter_eq_nil_iff]
  intro m hm z
  have h := (legal_iff.mp z).1
  rw [res_noPack hs l (allMv_lt hm)] at h
  exact absurd h (by decide)
theorem pk_res {zs : List Int} (hZ : OkZ zs) (l : List Nat) : ∀ n, (pkI zs (res (szN zs) l) n).sum = 0
  | 0 => rfl
  | n + 1 => by
    have ih := pk_res hZ l n
    unfold pkI at ih ⊢
    rw [List.range_succ, List.map_append, List.sum_append, ih, res_res (szN_pos hZ)]
    simp
theorem pk_moved {zs : List Int} (hZ : OkZ zs) {l : List Nat} {m : Mv} (hi : m.1 < l.length) (h : legal (szN zs) l m = true) (n : Nat) : pkI zs (moved (szN zs) l m) n = pkI zs l n := by
  unfold pkI
  refine List.map_congr_left fun j _ => ?_
  rw [res_eq_of (moved_stk (szN_pos hZ) hi h), (moved_perm hi h).count_eq]
theorem cnt_moved {sz : Nat → Nat} {l : List Nat} {m : Mv} (hi : m.1 < l.length) (h : legal sz l m = true) (n : Nat) : cntI n (moved sz l m) = cntI n l := by
  unfold cntI
  refine List.map_congr_left fun j _ => ?_
  rw [(moved_perm hi h).count_eq]
/-! moves as data -/
theorem mvD_lay (m : Mv) : (mvD m).canLay0 = true := by
  have h : PyData.strOk (S (sideT m.2)) = true := by cases m.2 <;> decide +kernel
  simp [PyData.canLay0, PyData.canLayAll0, h]
theorem mvD_depth (m : Mv) : (mvD m).depth ≤ 2 := by simp [PyData.depth, PyData.depthAll]
theorem mvDs_lay : ∀ ms : List Mv, PyData.canLayAll0 (ms.map mvD) = true
  | [] => by simp [PyData.canLayAll0]
  | m :: ms => by rw [List.map_cons, PyData.canLayAll0, mvD_lay m, mvDs_lay ms]; rfl
theorem mvDs_depth : ∀ ms : List Mv, PyData.depthAll (ms.map mvD) ≤ 2
  | [] => by simp [PyData.depthAll]
  | m :: ms => by
    have h1 := mvDs_depth ms
    have h2 := mvD_depth m
    simp only [List.map_cons, PyData.depthAll]
    omega
theorem mvD_shp (m : Mv) : SeqAt.shaped (mvD m) = true := by
  have h := mvD_depth m
  show ((mvD m).canLay0 && decide ((mvD m).depth ≤ 64)) = true
  rw [Bool.and_eq_true]
  exact ⟨mvD_lay m, decide_eq_true (by omega)⟩
theorem mvDs_shp (ms : List Mv) : SeqAt.shaped (.list (ms.map mvD)) = true := by
  have h1 := mvDs_depth ms
  have h2 : PyData.depth (.list (ms.map mvD)) ≤ 64 := by
    simp only [PyData.depth]
    omega
  show (PyData.canLay0 (.list (ms.map mvD)) && decide (PyData.depth (.list (ms.map mvD)) ≤ 64)) = true
  rw [Bool.and_eq_true]
  exact ⟨by simp only [PyData.canLay0]; exact mvDs_lay ms, decide_eq_true h2⟩
theorem mvD_refl (m : Mv) : PyData.eqv (mvD m) (mvD m) = true := by simp [PyData.eqv, PyData.eqvAll]
theorem mvDs_any {ms : List Mv} {m : Mv} (h : m ∈ ms) : ((ms.map mvD).any fun z => PyData.eqv z (mvD m)) = true := by
  rw [List.any_eq_true]
  exact ⟨_, List.mem_map.mpr ⟨m, h, rfl⟩, mvD_refl m⟩

-- NEEDS moves list_moves m_data _law_pack
abbrev s__law_reason : Stmt := topS 58
theorem sc__law_reason : FnScope ["_law_sizes_here", "_law_row_here", "_law_move", "_law_at", "_law_side", "_law_other"] ["_law_sizes_here", "_law_row_here", "_law_move"] (defScope s__law_reason) := ⟨rfl, rfl, rfl, by decide +kernel, rfl, by decide +kernel, by decide +kernel⟩

abbrev s__law_moves : Stmt := topS 60
theorem sc__law_moves : FnScope ["_law_sizes_here", "_law_row_here", "_law_every", "_law_at", "_law_move"] ["_law_sizes_here", "_law_row_here"] (defScope s__law_moves) := ⟨rfl, rfl, rfl, by decide +kernel, rfl, by decide +kernel, by decide +kernel⟩

abbrev s__law_moved : Stmt := topS 59
theorem sc__law_moved : FnScope ["_law_sizes_here", "_law_row_here", "_law_move", "_law_at", "_law_side", "_law_size_here", "_law_rest", "_law_target"] ["_law_sizes_here", "_law_row_here", "_law_move"] (defScope s__law_moved) := ⟨rfl, rfl, rfl, by decide +kernel, rfl, by decide +kernel, by decide +kernel⟩

theorem iteF {c A B : Prop} [Decidable c] (h : ¬ c) (b : B) : if c then A else B := by rw [if_neg h]; exact b
def sp__law_reason (K : PySem.W.Frag) : Sp := sp_reject_reason K
theorem ok__law_reason {f : Addr} {fd : FuncData} (F : Fun K "_law_reason" "_law_reason" s__law_reason f fd) (B : Bi mg) (C__law_pack : Cal P w K mg base CX0 2 "_law_pack" ["_law_sizes_here", "_law_row_here", "_law_at"] (sp__law_pack K)) (C__law_size : Cal P w K mg base CX0 1 "_law_size" ["_law_sizes_here", "_law_bead"] (sp__law_size K)) : FnOk P w K mg base CX0 3 f fd ["_law_sizes_here", "_law_row_here", "_law_move"] (sp__law_reason K) := by
  refine F.ok sc__law_reason (fun vs H Q E h => ?_) (fun cdv A outer s H vs Q E hr h => ?_)
  · obtain ⟨a, t, zs, l, m, rfl, _⟩ := h
    rfl
  · obtain ⟨a, t, zs, l, ⟨i, b⟩, rfl, hT, hZ, hR, hl, hm, hi, q⟩ := h
    refine ⟨_, (pss_cons (ps_if (pw_or (pt_not (pt_truG (K := K) (pe_callB (cr_isiG (K := K) .ktuple) (by rfl) B.isinstance bt_isinstance (pa_cons (gv 2) (pa_cons (pe_bltn (v := .ty "tuple") (by rfl) B.tuple bt_tuple rfl) pa_nil))))) (pw_or1 (pt_cmpG (op_neG (K := K) hr.units) (pe_callB (cr_lenG (K := K)) (by rfl) B.len bt_len (pa_cons (gv 2) pa_nil)) pe_int (nomark _)))).pt
      (pss_one (ps_ret (pe_strC [102, 111, 114, 109] (by decide +kernel))))
      pss_nil)
      (pss_cons (ps_asg (gv 2) (pg_nm (K := K) (is := [3, 4]) (pgs_cons (pg_name (i := 3) sc__law_reason.nd rfl (.inl rfl)) (pgs_cons (pg_name (i := 4) sc__law_reason.nd rfl (.inl rfl)) pgs_nil)) nm2))
      (pss_cons (ps_if (pw_or (pt_not (pt_truG (K := K) (pe_callB (cr_isiG (K := K) .kint) (by rfl) B.isinstance bt_isinstance (pa_cons (gv 3) (pa_cons (pe_bltn (v := .ty "int") (by rfl) B.int bt_int rfl) pa_nil))))) (pw_or (pt_truG (K := K) (pe_callB (cr_isiG (K := K) .kbool) (by rfl) B.isinstance bt_isinstance (pa_cons (gv 3) (pa_cons (pe_bltn (v := .ty "bool") (by rfl) B.bool bt_bool rfl) pa_nil)))) (pw_or1 (pt_not (pt_chainG op_leG op_ltG pe_int (gv 3) (pe_callB (cr_lenG (K := K)) (by rfl) B.len bt_len (pa_cons (gv 1) pa_nil))))))).pt
      (pss_one (ps_ret (pe_strC [102, 111, 114, 109] (by decide +kernel))))
      pss_nil)
      (pss_cons (ps_if (pw_or (pt_not (pt_truG (K := K) (pe_callB (cr_isiG (K := K) .kstr) (by rfl) B.isinstance bt_isinstance (pa_cons (gv 4) (pa_cons (pe_bltn (v := .ty "str") (by rfl) B.str bt_str rfl) pa_nil))))) (pw_or1 (pt_cmpG (op_notInG (K := K)) (gv 4) (pe_tup (pa_cons (pe_strC [108, 101, 102, 116] (by decide +kernel)) (pa_cons (pe_strC [114, 105, 103, 104, 116] (by decide +kernel)) pa_nil))) rfl))).pt
      (pss_one (ps_ret (pe_strC [102, 111, 114, 109] (by decide +kernel))))
      pss_nil)
      (pss_cons (ps_if (pt_not (pt_truG (K := K) (pe_cal C__law_pack (hr.mono (by decide)) pass0 (pa_cons (gv 0) (pa_cons (gv 1) (pa_cons (gv 3) pa_nil))))))
      (pss_one (ps_ret (pe_strC [112, 97, 99, 107] (by decide +kernel))))
      pss_nil)
      (pss_cutG (ps_set (i := 5) sc__law_reason.nd rfl (.inl rfl) (pe_ifExp (pt_cmpG (op_eqG (K := K) hr.units) (gv 4) (pe_strC [108, 101, 102, 116] (by decide +kernel)) (nomark _)) (pe_op op_subG (gv 3) pe_int) (pe_op (op_addG (K := K)) (gv 3) (pe_cal C__law_size (hr.mono (by decide)) pass0 (pa_cons (gv 0) (pa_cons (pe_ix (ixG (K := K)) (gv 1) (gv 3) (fun _ _ => rfl)) pa_nil))))))
      (pss_cons (ps_if (pw_or (pt_cmpG op_ltG (gv 5) pe_int (nomark _)) (pw_or1 (pt_cmpG op_geG (gv 5) (pe_callB (cr_lenG (K := K)) (by rfl) B.len bt_len (pa_cons (gv 1) pa_nil)) (nomark _)))).pt
      (pss_one (ps_ret (pe_strC [101, 110, 100] (by decide +kernel))))
      pss_nil)
      (pss_one (ps_ret (pe_ifExp (pt_cmpG (op_eqG (K := K) hr.units) (pe_ix (ixG (K := K)) (gv 1) (gv 5) (fun _ _ => rfl)) (pe_ix (ixG (K := K)) (gv 1) (gv 3) (fun _ _ => rfl)) (nomark _)) (pe_strC [101, 113, 117, 97, 108] (by decide +kernel)) (pe_strC [] (by decide +kernel)))))))))))), ?_⟩
    have hi' : i < l.length := hi
    have hk := List.getElem?_eq_getElem hi'
    have hk1 := hR _ (List.getElem_mem hi')
    have hz := szI_ok hZ hk1
    have hsn := szN_int hZ hk1
    have hkd : l.getD i 0 = l[i] := getD_of hk
    refine ⟨rfl, .inr ⟨⟨_, hm⟩, ?_⟩⟩
    refine ⟨_, .inr hm, ?_⟩
    refine ⟨_, hm, rfl, rfl, ?_⟩
    have c0 : decide ((0 : Int) ≤ ((i : Nat) : Int)) = true := decide_eq_true (by omega)
    have c1 : decide (((i : Nat) : Int) < (((tl (S l)).length : Nat) : Int)) = true := decide_eq_true (by rw [tl_S]; omega)
    refine ⟨by rw [tl_S]; omega, iteB ⟨fun z => ?_, fun _ => ?_⟩⟩
    · have z' : (!decide (((i : Nat) : Int) < (((tl (S l)).length : Nat) : Int))) = true := z
      rw [c1] at z'
      exact absurd z' (by decide)
    refine ⟨rfl, by show 2 ≤ sizeLine; decide, fun p hp => ⟨_, .inr (SqT.of upd_same), rfl, rfl, ?_⟩⟩
    have hin : inV (.str (S (sideT b))) [.str (S [108, 101, 102, 116]), .str (S [114, 105, 103, 104, 116])] = true := by cases b <;> decide
    show if (!inV (.str (S (sideT b))) [.str (S [108, 101, 102, 116]), .str (S [114, 105, 103, 104, 116])]) = true then _ else _
    rw [hin]
    have sp1 := same_upd (o := .tup [.str (S [108, 101, 102, 116]), .str (S [114, 105, 103, 104, 116])]) hp
    have q := q _ sp1
    have hT := sp1.tup hT
    have hm := sp1.tup hm
    generalize upd H p (.tup [.str (S [108, 101, 102, 116]), .str (S [114, 105, 103, 104, 116])]) = H1 at *
    refine ⟨a, zs, l, i, rfl, hT, hZ, hR, hi', hl, ?_⟩
    unfold rsn at q
    by_cases hp : packB (szN zs) l i = true
    · rw [hp]
      rw [if_pos hp] at q
      refine ⟨fun σ' H' => σ' = [some (.ref a), some (.str (S l)), some (.ref t), some (iv i), some (.str (S (sideT b))), some (.int (nbI (szN zs) l (i, b)))] ∧ H' = H1, ?_, ?_⟩
      · cases b with
        | true => exact ⟨rfl, rfl⟩
        | false =>
          refine ⟨l[i], by rw [tl_S]; omega, atI_nat hk, a, zs, l[i], rfl, hT, hk1.1, hk1.2, hZ.six, ?_, rfl⟩
          show _ = [some (.ref a), some (.str (S l)), some (.ref t), some (iv i), some (.str (S (sideT false))), some (.int ((i : Int) + (szN zs (l.getD i 0) : Nat)))]
          rw [hkd, hsn]
          rfl
      · rintro σ' H' ⟨rfl, rfl⟩
        generalize nbI (szN zs) l (i, b) = nb at *
        have fin : (0 ≤ nb ∧ nb < (l.length : Nat)) → Q (.str (S (if l.getD nb.toNat 0 = l.getD i 0 then [101, 113, 117, 97, 108] else []))) H' := fun z => by rw [if_pos z] at q; exact q
        have end' : ¬ (0 ≤ nb ∧ nb < (l.length : Nat)) → Q (.str (S [101, 110, 100])) H' := fun z => by rw [if_neg z] at q; exact q
        refine iteB ⟨fun c1 => ?_, fun c1 => ⟨by rw [tl_S]; omega, iteB ⟨fun c2 => ?_, fun c2 => ?_⟩⟩⟩
        · exact end' fun z => by
            have : nb < 0 := of_decide_eq_true c1
            omega
        · exact end' fun z => by
            have : (((tl (S l)).length : Nat) : Int) ≤ nb := of_decide_eq_true c2
            rw [tl_S] at this
            omega
        · have h0 : 0 ≤ nb := by
            rcases Int.lt_or_le nb 0 with z | z
            · exact absurd (decide_eq_true z) c1
            · exact z
          have h1 : nb < (l.length : Nat) := by
            rcases Int.lt_or_le nb (l.length : Nat) with z | z
            · exact z
            · exact absurd (decide_eq_true (show (((tl (S l)).length : Nat) : Int) ≤ nb by rw [tl_S]; exact z)) c2
          have q := fin ⟨h0, h1⟩
          obtain ⟨nn, rfl⟩ := Int.eq_ofNat_of_zero_le h0
          have hn := List.getElem?_eq_getElem (show nn < l.length by omega)
          rw [Int.toNat_natCast, getD_of hn, hkd] at q
          refine ⟨l[nn], by rw [tl_S]; omega, atI_nat hn, l[i], by rw [tl_S]; omega, atI_nat hk, iteB ⟨fun c3 => ?_, fun c3 => ?_⟩⟩
          · have : l[nn] = l[i] := by
              have := of_decide_eq_true c3
              rw [tl_S, tl_S] at this
              simpa using this
            rw [if_pos this] at q
            exact q
          · have : ¬ l[nn] = l[i] := fun z => c3 (decide_eq_true (by rw [z]))
            rw [if_neg this] at q
            exact q
    · have hp' : packB (szN zs) l i = false := by cases h : packB (szN zs) l i with
        | true => exact absurd h hp
        | false => rfl
      rw [hp']
      rw [if_neg hp] at q
      exact q
def sp__law_moves (K : PySem.W.Frag) : Sp := sp_list_moves K
theorem ok__law_moves {f : Addr} {fd : FuncData} (F : Fun K "_law_moves" "_law_moves" s__law_moves f fd) (B : Bi mg) (C__law_reason : Cal P w K mg base CX0 3 "_law_reason" ["_law_sizes_here", "_law_row_here", "_law_move"] (sp__law_reason K)) : FnOk P w K mg base CX0 4 f fd ["_law_sizes_here", "_law_row_here"] (sp__law_moves K) := by
  refine F.ok sc__law_moves (fun vs H Q E h => ?_) (fun cdv A outer s H vs Q E hr h => ?_)
  · obtain ⟨a, zs, l, rfl, _⟩ := h
    rfl
  · obtain ⟨a, zs, l, rfl, hT, hZ, hR, hl, q⟩ := h
    refine ⟨_, (pss_cons (ps_set (i := 2) sc__law_moves.nd rfl (.inl rfl) (pe_lst pa_nil))
      (pss_cons (ps_for PassesOwn.never rfl (pi_range1 (by rfl) B.range (pa_cons (pe_callB (cr_lenG (K := K)) (by rfl) B.len bt_len (pa_cons (gv 1) pa_nil)) pa_nil)) (pg_name (i := 3) sc__law_moves.nd rfl (.inl rfl))
      (pss_one (ps_set (i := 2) sc__law_moves.nd rfl (.inl rfl) (pe_op (op_addG (K := K)) (gv 2) (pe_lst (pa_cons (pe_tup (pa_cons (gv 3) (pa_cons (pe_strC [108, 101, 102, 116] (by decide +kernel)) pa_nil))) (pa_cons (pe_tup (pa_cons (gv 3) (pa_cons (pe_strC [114, 105, 103, 104, 116] (by decide +kernel)) pa_nil))) pa_nil)))))))
      (pss_one (ps_ret (pe_lc (own := [("_law_move", 4)]) (by rfl) sc__law_moves.nd (pi_seqG (K := K) (gv 2)) (blkOk_by (N := ["_law_sizes_here", "_law_row_here", "_law_every", "_law_at", "_law_move"]) (sc := defScope s__law_moves) (by decide +kernel)) (fun _ _ _ _ _ => (pg_name (i := 4) sc__law_moves.nd rfl (.inl rfl))) (fun _ _ _ _ _ => pts_one (pt_cmpG (op_eqG (K := K) hr.units) (pe_cal C__law_reason (hr.mono (by decide)) pass0 (pa_cons (gv 0) (pa_cons (gv 1) (pa_cons (gv 4) pa_nil)))) (pe_strC [] (by decide +kernel)) (nomark _))) (fun _ _ _ _ _ => (gv 4))))))), ?_⟩
    refine ⟨Nat.zero_le _, fun ev hev => ?_⟩
    refine ⟨by rw [tl_S]; omega, _, rfl, by omega, by rw [tl_S]; omega, ?_⟩
    rw [tl_S, Int.toNat_natCast]
    refine for_range (fun i σ H' => ∃ ev acc y3 y4, σ = [some (.ref a), some (.str (S l)), some (.ref ev), y3, y4] ∧ Same H H' ∧ H' ev = some (.lst acc) ∧ Mvs K H' acc (allMv i)) ⟨ev, [], none, none, rfl, same_upd hev, upd_same, .nil⟩ ?_ ?_
    · rintro i σ H1 hi ⟨ev, acc, y3, y4, rfl, s1, hev1, hM⟩
      have hl2 := hM.len
      rw [allMv_len] at hl2
      refine ⟨by show 2 ≤ sizeLine; decide, fun p1 hp1 => ⟨by show 2 ≤ sizeLine; decide, fun p2 hp2 => ⟨by show 2 ≤ sizeLine; decide, fun p3 hp3 => ?_⟩⟩⟩
      rw [show (0 : Int) + (i : Nat) = (i : Nat) from Int.zero_add _]
      rw [show (0 : Int) + (i : Nat) = (i : Nat) from Int.zero_add _] at hp3 hp2
      have t1 := same_upd (o := .tup [.int (i : Nat), .str (S [108, 101, 102, 116])]) hp1
      have t2 := same_upd (o := .tup [.int (i : Nat), .str (S [114, 105, 103, 104, 116])]) hp2
      have t3 := same_upd (o := .lst [.ref p1, .ref p2]) hp3
      refine .inl ⟨acc, [.ref p1, .ref p2], (t1.trans (t2.trans t3)) _ _ hev1, upd_same, by show _ + 2 ≤ _; omega, fun p4 hp4 => ?_⟩
      have t4 := same_upd (o := .lst (acc ++ [.ref p1, .ref p2])) hp4
      refine ⟨p4, acc ++ [.ref p1, .ref p2], _, _, rfl, s1.trans (t1.trans (t2.trans (t3.trans t4))), upd_same, ?_⟩
      have h1 : SqT K _ p1 (mvT (i, true)) := SqT.of (t4 _ _ (t3 _ _ (t2 _ _ upd_same)))
      have h2 : SqT K _ p2 (mvT (i, false)) := SqT.of (t4 _ _ (t3 _ _ upd_same))
      have := ((hM.same (t1.trans (t2.trans (t3.trans t4)))).snoc h1).snoc h2
      rw [List.append_assoc, List.append_assoc] at this
      rw [allMv_succ]
      exact this
    · rintro σ H1 ⟨ev, acc, y3, y4, rfl, s1, hD1, hM⟩
      refine .inl ⟨_, SqL.of hD1, fun D2 hD2 => ?_⟩
      refine lc_list (xs := acc) (fun j H' => ∃ ac2, Same H1 H' ∧ H' D2 = some (.lst ac2) ∧ Mvs K H' ac2 (((allMv l.length).take j).filter (legal (szN zs) l))) ⟨[], same_upd hD2, upd_same, .nil⟩ ?_ ?_ ?_
      · rintro j H2 hj ⟨ac2, s2, _⟩
        exact s2.seq (SqL.of hD1)
      · rintro j x H2 hx ⟨ac2, s2, hD3, hM3⟩
        obtain ⟨T, m, rfl, hm, hTm⟩ := hM.get hx
        have hml := allMv_lt (List.mem_of_getElem? hm)
        have hl2 := hM3.len
        have hl3 := List.length_filter_le (legal (szN zs) l) ((allMv l.length).take j)
        rw [List.length_take, allMv_len] at hl3
        refine ⟨rfl, a, T, zs, l, m, rfl, (s1.trans s2).tup hT, hZ, hR, by omega, s2.tup hTm, hml, fun H3 s3 => iteB ⟨fun e => ?_, fun e => ?_⟩⟩
        · have e' : legal (szN zs) l m = true := legal_of.mp (of_decide_eq_true e)
          refine ⟨ac2, s3 _ _ hD3, small1000 (by omega), ac2 ++ [.ref T], (s2.trans s3).at hD2, upd_same, ?_⟩
          rw [List.take_add_one, hm, List.filter_append]
          have : (some m).toList.filter (legal (szN zs) l) = [m] := filter1' e'
          rw [this]
          exact ((hM3.same s3).snoc ((s2.trans s3).tup hTm)).upd (s3 _ _ hD3)
        · have e' : ¬ legal (szN zs) l m = true := fun z => e (decide_eq_true (legal_of.mpr z))
          refine ⟨ac2, s2.trans s3, s3 _ _ hD3, ?_⟩
          rw [List.take_add_one, hm, List.filter_append]
          have : (some m).toList.filter (legal (szN zs) l) = [] := filter0' e'
          rw [this, List.append_nil]
          exact hM3.same s3
      · rintro H2 ⟨ac2, s2, hD3, hM3⟩
        rw [hM.len, List.take_length] at hM3
        exact q H2 D2 ac2 (s1.trans s2) (s1.free hD2) hD3 hM3
def sp__law_moved (K : PySem.W.Frag) : Sp := sp_apply_move K
theorem moved_alt {sz : Nat → Nat} {l : List Nat} {i : Nat} {b : Bool} (hi : i < l.length) (h : legal sz l (i, b) = true) :
    let rest := l.take i ++ l.drop (i + sz (l.getD i 0))
    let t := if b = true then i - 1 else i + 1
    (b = true → 1 ≤ i) ∧ rest.take t ++ (List.replicate (sz (l.getD i 0)) (l.getD i 0) ++ rest.drop t) = moved sz l (i, b) := by
  cases b with
  | true =>
    obtain ⟨u, x, k, v, e, ei, hx, hk, em⟩ := legal_left hi h
    refine ⟨fun _ => by omega, ?_⟩
    rw [em, hk]
    have e1 : l.take i = u ++ [x] := by rw [e, ei, ← List.append_assoc]; exact List.take_left' (by rw [List.length_append]; rfl)
    have e2 : l.drop (i + sz k) = v := by
      rw [e, ei, ← List.append_assoc, ← List.append_assoc]
      exact List.drop_left' (by rw [List.length_append, List.length_append, List.length_replicate]; rfl)
    rw [e1, e2]
    have et : (if true = true then i - 1 else i + 1) = u.length := by rw [if_pos rfl]; omega
    rw [et, List.append_assoc, List.take_left, List.drop_left]
  | false =>
    obtain ⟨u, x, k, v, e, ei, hx, hk, em⟩ := legal_right hi h
    refine ⟨fun z => absurd z (by decide), ?_⟩
    rw [em, hk]
    have e1 : l.take i = u := by rw [e, ei]; exact List.take_left
    have e2 : l.drop (i + sz k) = [x] ++ v := by
      rw [e, ei, ← List.append_assoc]
      exact List.drop_left' (by rw [List.length_append, List.length_replicate])
    rw [e1, e2]
    have et : (if false = true then i - 1 else i + 1) = (u ++ [x]).length := by rw [if_neg Bool.false_ne_true, List.length_append]; show i + 1 = _ + 1; omega
    have ea : u ++ ([x] ++ v) = (u ++ [x]) ++ v := by rw [List.append_assoc]
    rw [et, ea, List.take_left, List.drop_left, List.append_assoc]
theorem ok__law_moved {f : Addr} {fd : FuncData} (F : Fun K "_law_moved" "_law_moved" s__law_moved f fd) (B : Bi mg) (C__law_size : Cal P w K mg base CX0 1 "_law_size" ["_law_sizes_here", "_law_bead"] (sp__law_size K)) : FnOk P w K mg base CX0 2 f fd ["_law_sizes_here", "_law_row_here", "_law_move"] (sp__law_moved K) := by
  refine F.ok sc__law_moved (fun vs H Q E h => ?_) (fun cdv A outer s H vs Q E hr h => ?_)
  · obtain ⟨a, t, zs, l, m, rfl, _⟩ := h
    rfl
  · obtain ⟨a, t, zs, l, ⟨i, b⟩, rfl, hT, hZ, hR, hl, hm, hi, hlg, q⟩ := h
    refine ⟨_, (pss_cons (ps_asg (gv 2) (pg_nm (K := K) (is := [3, 4]) (pgs_cons (pg_name (i := 3) sc__law_moved.nd rfl (.inl rfl)) (pgs_cons (pg_name (i := 4) sc__law_moved.nd rfl (.inl rfl)) pgs_nil)) nm2))
      (pss_cons (ps_set (i := 5) sc__law_moved.nd rfl (.inl rfl) (pe_cal C__law_size (hr.mono (by decide)) pass0 (pa_cons (gv 0) (pa_cons (pe_ix (ixG (K := K)) (gv 1) (gv 3) (fun _ _ => rfl)) pa_nil))))
      (pss_cons (ps_set (i := 6) sc__law_moved.nd rfl (.inl rfl) (pe_op (op_addG (K := K)) (pe_slice (slG (K := K)) (gv 1) po_none (po_someG (gv 3))) (pe_slice (slG (K := K)) (gv 1) (po_someG (pe_op (op_addG (K := K)) (gv 3) (gv 5))) po_none)))
      (pss_cutG (ps_set (i := 7) sc__law_moved.nd rfl (.inl rfl) (pe_ifExp (pt_cmpG (op_eqG (K := K) hr.units) (gv 4) (pe_strC [108, 101, 102, 116] (by decide +kernel)) (nomark _)) (pe_op op_subG (gv 3) pe_int) (pe_op (op_addG (K := K)) (gv 3) pe_int)))
      (pss_one (ps_ret (pe_op (op_addG (K := K)) (pe_op (op_addG (K := K)) (pe_slice (slG (K := K)) (gv 6) po_none (po_someG (gv 7))) (pe_op (op_mulG (K := K)) (pe_ix (ixG (K := K)) (gv 1) (gv 3) (fun _ _ => rfl)) (gv 5))) (pe_slice (slG (K := K)) (gv 6) (po_someG (gv 7)) po_none)))))))), ?_⟩
    have hi' : i < l.length := hi
    have hk := List.getElem?_eq_getElem hi'
    have hk1 := hR _ (List.getElem_mem hi')
    have hz := szI_ok hZ hk1
    have hkd : l.getD i 0 = l[i] := getD_of hk
    have q := q H (Same.refl H)
    obtain ⟨hb, he⟩ := moved_alt hi' hlg
    rw [hkd] at he
    generalize hke : l[i] = k at *
    have c1 : cutL (tl (S l)) none (some ((i : Nat) : Int)) = l.take i := by rw [tl_S, cutL_to l (by omega), Int.toNat_natCast]
    have c2 : cutL (tl (S l)) (some (((i : Nat) : Int) + szI zs k)) none = l.drop (i + szN zs k) := by
      rw [tl_S, cutL_from l (by omega)]
      congr 1
      show _ = i + (szI zs k).toNat
      omega
    refine ⟨_, hm, k, by rw [tl_S]; omega, atI_nat hk, a, zs, k, rfl, hT, hk1.1, hk1.2, hZ.six, by rw [tl_S]; omega, by rw [tl_S]; omega, ?_, ?_⟩
    · rw [c1, c2, tl_S, tl_S, List.length_take, List.length_drop]; omega
    rw [c1, c2, tl_S, tl_S]
    have hrl : (l.take i ++ l.drop (i + szN zs k)).length ≤ 1000 := by rw [List.length_append, List.length_take, List.length_drop]; omega
    generalize l.take i ++ l.drop (i + szN zs k) = rest at *
    refine ⟨fun σ' H' => σ' = [some (.ref a), some (.str (S l)), some (.ref t), some (iv i), some (.str (S (sideT b))), some (.int (szI zs k)), some (.str (S rest)), some (iv (if b = true then i - 1 else i + 1))] ∧ H' = H, ?_, ?_⟩
    · cases b with
      | true =>
        have := hb rfl
        refine ⟨?_, rfl⟩
        rw [if_pos rfl]
        show _ = [some (.ref a), some (.str (S l)), some (.ref t), some (iv i), some (.str (S (sideT true))), some (.int (szI zs k)), some (.str (S rest)), some (.int ((i - 1 : Nat) : Int))]
        rw [show ((i - 1 : Nat) : Int) = (i : Int) - 1 by omega]
        rfl
      | false => exact ⟨rfl, rfl⟩
    · rintro σ' H' ⟨rfl, rfl⟩
      generalize (if b = true then i - 1 else i + 1) = tg at *
      have d1 : cutL (tl (S rest)) none (some ((tg : Nat) : Int)) = rest.take tg := by rw [tl_S, cutL_to rest (by omega), Int.toNat_natCast]
      have d2 : cutL (tl (S rest)) (some ((tg : Nat) : Int)) none = rest.drop tg := by rw [tl_S, cutL_from rest (by omega), Int.toNat_natCast]
      have lz : (repL (szI zs k).toNat [k]).length ≤ 4 := by rw [repL_one, List.length_replicate]; omega
      refine ⟨by rw [tl_S]; omega, k, by rw [tl_S]; omega, atI_nat hk, ⟨by omega, by omega, ?_⟩, ?_, by rw [tl_S]; omega, ?_, ?_⟩
      · show 1 * (szI zs k).toNat ≤ 1000000
        omega
      · rw [d1]; simp only [tl_S]; rw [List.length_take]; omega
      · rw [d1, d2]; simp only [tl_S]; rw [List.length_append, List.length_take, List.length_drop]; omega
      · have e : tl (S (tl (S (cutL (tl (S rest)) none (some ((tg : Nat) : Int)))) ++ tl (S (repL (szI zs k).toNat (tl (S [k])))))) ++ tl (S (cutL (tl (S rest)) (some ((tg : Nat) : Int)) none)) = moved (szN zs) l (i, b) := by
          rw [d1, d2]
          simp only [tl_S]
          rw [repL_one, ← he, List.append_assoc]
        show Q (.str (S _)) H'
        rw [e]
        exact q

-- NEEDS list_moves m_mvb _law_equal
theorem Way.snoc {sz : Nat → Nat} : ∀ {l : List Nat} {ms : List Mv} {x : List Nat} {m : Mv}, Way sz l ms x → m.1 < x.length → legal sz x m = true → Way sz l (ms ++ [m]) (moved sz x m)
  | l, [], x, m, h, h1, h2 => by cases (show l = x from h); exact ⟨h1, h2, rfl⟩
  | l, n :: ms, x, m, h, h1, h2 => ⟨h.1, h.2.1, Way.snoc h.2.2 h1 h2⟩
theorem Way.okr {zs : List Int} : ∀ {l : List Nat} {ms : List Mv} {x : List Nat}, Way (szN zs) l ms x → OkR zs l → OkR zs x ∧ x.length = l.length
  | l, [], x, h, hl => by cases (show l = x from h); exact ⟨hl, rfl⟩
  | l, n :: ms, x, h, hl => by
    obtain ⟨h1, h2⟩ := Way.okr h.2.2 (hl.perm (moved_perm h.1 h.2.1))
    exact ⟨h1, h2.trans (moved_len h.1 h.2.1)⟩
theorem narMv (ms : List Mv) : ∀ d ∈ ms.map mvD, Nar 3 d := fun d hd => by
  obtain ⟨m, _, rfl⟩ := List.mem_map.mp hd
  refine ⟨by show 2 ≤ 100000; decide, fun e he => ?_⟩
  have : e = .int ((m.1 : Nat) : Int) ∨ e = .str (S (sideT m.2)) := by simpa using he
  rcases this with rfl | rfl <;> trivial
theorem at_2 {u v r : Int} (h0 : 0 ≤ r) (h1 : r < 2) : atI [V.int u, V.int v] r = some (.int (if r = 0 then u else v)) := by
  have e : r = 0 ∨ r = 1 := by omega
  rcases e with rfl | rfl <;> rfl
theorem at_3 {u v x r : Int} (h0 : 0 ≤ r) (h1 : r < 3) : atI [V.int u, V.int v, V.int x] r = some (.int (if r = 0 then u else if r = 1 then v else x)) := by
  have e : r = 0 ∨ r = 1 ∨ r = 2 := by omega
  rcases e with rfl | rfl | rfl <;> rfl
theorem cutL_init {α : Type} (l : List α) : cutL l none (some (-1)) = l.dropLast := by
  unfold cutL
  rw [HT.sIx_none, List.drop_zero, Nat.sub_zero, List.dropLast_eq_take]
  congr 1
  unfold HT.sIx
  show (if (-1 : Int) < 0 then ((-1 : Int) + (l.length : Int)).toNat else min (-1 : Int).toNat l.length) = _
  rw [if_pos (by decide)]
  omega
/-- what is taken out of a text's signs -/
theorem signs_of {p : Nat → Prop} : ∀ {out : List V}, (∀ v ∈ out, ∃ k, v = .str (S [k]) ∧ p k) → ∃ m : List Nat, out = (m.map fun k => [k]).map (fun l => V.str (S l)) ∧ ∀ k ∈ m, p k
  | [], _ => ⟨[], rfl, by simp⟩
  | v :: out, h => by
    obtain ⟨k, rfl, hk⟩ := h v (by simp)
    obtain ⟨m, rfl, hm⟩ := signs_of (out := out) fun v hv => h v (by simp [hv])
    exact ⟨k :: m, rfl, fun y hy => by rcases List.mem_cons.mp hy with rfl | hy; exact hk; exact hm y hy⟩
theorem flat_one {α : Type} (m : List α) : (m.map fun k => [k]).flatten = m := by
  induction m with
  | nil => rfl
  | cons x m ih => rw [List.map_cons, List.flatten_cons, ih]; rfl
theorem sum_one {α : Type} (m : List α) : ((m.map fun k => [k]).map List.length).sum = m.length := by
  induction m with
  | nil => rfl
  | cons x m ih => rw [List.map_cons, List.map_cons, List.sum_cons, ih]; show 1 + _ = _ + 1; omega
theorem Mvs.sameB {K : PySem.W.Frag} {H H' : Hp} {d : Addr} {xs vs : List V} {ms : List Mv} (h : Mvs K H vs ms) (s : SameB d H H') (hd : H d = some (.lst xs)) : Mvs K H' vs ms := by
  induction h with
  | nil => exact .nil
  | cons h1 _ ih => exact .cons (s.tup hd h1) ih

-- NEEDS m_mv m_mvb list_moves
/-- a ring read from a place -/
def rot {α : Type} (l : List α) (i : Nat) : List α := l.drop i ++ l.take i
theorem rot_len {α : Type} (l : List α) (i : Nat) : (rot l i).length = l.length := by
  unfold rot
  rw [List.length_append, List.length_drop, List.length_take]
  omega
theorem rot_perm {α : Type} (l : List α) (i : Nat) : (rot l i).Perm l := by
  unfold rot
  exact List.perm_append_comm.trans (by rw [List.take_append_drop])
theorem rot_zero {α : Type} (l : List α) : rot l 0 = l := by simp [rot]
theorem rot_full {α : Type} (l : List α) : rot l l.length = l := by simp [rot]
theorem rot_app {α : Type} (u v : List α) : rot (u ++ v) u.length = v ++ u := by simp [rot]
/-- one is a rotation of the other -/
def Rt {α : Type} (a b : List α) : Prop := ∃ u v, a = u ++ v ∧ b = v ++ u
theorem Rt.refl {α : Type} (a : List α) : Rt a a := ⟨[], a, rfl, by simp⟩
theorem Rt.symm {α : Type} {a b : List α} (h : Rt a b) : Rt b a := by
  obtain ⟨u, v, rfl, rfl⟩ := h
  exact ⟨v, u, rfl, rfl⟩
theorem rt_rot {α : Type} (l : List α) (i : Nat) : Rt l (rot l i) := ⟨l.take i, l.drop i, (List.take_append_drop i l).symm, rfl⟩
theorem Rt.rot {α : Type} {a b : List α} (h : Rt a b) : ∃ i, i ≤ a.length ∧ b = rot a i := by
  obtain ⟨u, v, rfl, rfl⟩ := h
  exact ⟨u.length, by simp, (rot_app u v).symm⟩
theorem Rt.trans {α : Type} {a b c : List α} (h : Rt a b) (h2 : Rt b c) : Rt a c := by
  obtain ⟨u, v, rfl, rfl⟩ := h
  obtain ⟨x, y, e, rfl⟩ := h2
  rcases List.append_eq_append_iff.mp e with ⟨w, rfl, rfl⟩ | ⟨w, rfl, rfl⟩
  · exact ⟨w, y ++ v, by simp, by simp⟩
  · exact ⟨u ++ x, w, by simp, by simp⟩
theorem Rt.perm {α : Type} {a b : List α} (h : Rt a b) : b.Perm a := by
  obtain ⟨u, v, rfl, rfl⟩ := h
  exact List.perm_append_comm
theorem Rt.len {α : Type} {a b : List α} (h : Rt a b) : b.length = a.length := h.perm.length_eq
theorem Rt.one {α : Type} (x : α) (a : List α) : Rt (x :: a) (a ++ [x]) := ⟨[x], a, rfl, rfl⟩
/-- what is kept by one step is kept by all rotations -/
theorem Rt.inv {α β : Type} {f : List α → β} (h : ∀ x a, f (x :: a) = f (a ++ [x])) : ∀ {a b : List α}, Rt a b → f a = f b := by
  have go : ∀ (u v : List α), f (u ++ v) = f (v ++ u) := by
    intro u
    induction u with
    | nil => intro v; simp
    | cons x u ih =>
      intro v
      rw [List.cons_append, h, List.append_assoc, ih]
      simp
  intro a b hr
  obtain ⟨u, v, rfl, rfl⟩ := hr
  exact go u v
theorem rot_get {α : Type} (l : List α) {i j : Nat} (hi : i ≤ l.length) (hj : j < l.length) : (rot l i)[j]? = l[(i + j) % l.length]? := by
  unfold rot
  by_cases h : j < l.length - i
  · rw [List.getElem?_append_left (by rw [List.length_drop]; exact h), List.getElem?_drop, Nat.mod_eq_of_lt (by omega)]
  · rw [List.getElem?_append_right (by rw [List.length_drop]; omega), List.length_drop, List.getElem?_take_of_lt (by omega)]
    congr 1
    rw [Nat.mod_eq_sub_mod (by omega), Nat.mod_eq_of_lt (by omega)]
    omega
/-- read back -/
def unrot {α : Type} (r : List α) (f : Nat) : List α := rot r ((r.length - f) % r.length)
theorem unrot_rot {α : Type} (l : List α) {f : Nat} (hf : f < l.length) : unrot (rot l f) f = l := by
  unfold unrot
  rw [rot_len]
  by_cases h : f = 0
  · subst h
    rw [Nat.sub_zero, Nat.mod_self, rot_zero, rot_zero]
  · rw [Nat.mod_eq_of_lt (by omega)]
    unfold rot
    have e : l.length - f = (l.drop f).length := by rw [List.length_drop]
    rw [e, List.drop_left, List.take_left, List.take_append_drop]
theorem unrot_set {α : Type} (r : List α) {f p : Nat} {y : α} (hf : f < r.length) (hp : p < r.length) : unrot (r.set p y) f = (unrot r f).set ((f + p) % r.length) y := by
  unfold unrot
  rw [List.length_set]
  by_cases h : f = 0
  · subst h
    rw [Nat.sub_zero, Nat.mod_self, rot_zero, rot_zero, Nat.zero_add, Nat.mod_eq_of_lt hp]
  · rw [Nat.mod_eq_of_lt (show r.length - f < r.length by omega)]
    unfold rot
    by_cases h2 : p < r.length - f
    · rw [Nat.mod_eq_of_lt (by omega), List.set_append_right _ _ (by rw [List.length_drop]; omega), List.drop_set_of_lt h2, List.take_set]
      congr 2
      rw [List.length_drop]
      omega
    · have e : (f + p) % r.length = p - (r.length - f) := by rw [Nat.mod_eq_sub_mod (by omega), Nat.mod_eq_of_lt (by omega)]; omega
      rw [e, List.set_append_left _ _ (by rw [List.length_drop]; omega), List.drop_set, if_neg (by omega), List.take_set_of_le (by omega)]
theorem rot_pred {α : Type} (l : List α) {i : Nat} (hi : i < l.length) : ∃ x, l[(i + l.length - 1) % l.length]? = some x ∧ rot l ((i + l.length - 1) % l.length) = [x] ++ (rot l i).dropLast ∧ rot l i = (rot l i).dropLast ++ [x] := by
  have hm : (i + l.length - 1) % l.length < l.length := Nat.mod_lt _ (by omega)
  refine ⟨l[(i + l.length - 1) % l.length], List.getElem?_eq_getElem hm, ?_⟩
  by_cases h : i = 0
  · subst h
    have e : (0 + l.length - 1) % l.length = l.length - 1 := by rw [Nat.zero_add]; exact Nat.mod_eq_of_lt (by omega)
    have hne : l ≠ [] := by intro z; subst z; simp at hi
    have ed : l.drop (l.length - 1) = [l[l.length - 1]] := by rw [List.drop_eq_getElem_cons (by omega), List.drop_of_length_le (by omega)]
    have hl : l.dropLast ++ [l[l.length - 1]] = l := by
      have := List.dropLast_concat_getLast hne
      rw [List.getLast_eq_getElem] at this
      exact this
    simp only [e]
    rw [rot_zero]
    unfold rot
    rw [ed, ← List.dropLast_eq_take]
    exact ⟨rfl, hl.symm⟩
  · have e : (i + l.length - 1) % l.length = i - 1 := by
      rw [show i + l.length - 1 = (i - 1) + l.length by omega, Nat.add_mod_right]
      exact Nat.mod_eq_of_lt (by omega)
    simp only [e]
    have et : l.take i = l.take (i - 1) ++ [l[i - 1]] := by
      have := List.take_succ_eq_append_getElem (l := l) (i := i - 1) (by omega)
      rw [show i - 1 + 1 = i by omega] at this
      exact this
    have ed : l.drop (i - 1) = l[i - 1] :: l.drop i := by rw [List.drop_eq_getElem_cons (by omega)]; congr 2; omega
    have er : rot l i = (l.drop i ++ l.take (i - 1)) ++ [l[i - 1]] := by unfold rot; rw [et, List.append_assoc]
    rw [er, List.dropLast_concat]
    refine ⟨?_, rfl⟩
    unfold rot
    rw [ed]
    rfl
/-! ### moves in a ring -/
def rrsn (sz : Nat → Nat) (l : List Nat) (m : Mv) : List Nat :=
  if (rot l m.1).take (sz (l.getD m.1 0)) = List.replicate (sz (l.getD m.1 0)) (l.getD m.1 0) then
    (if l.length = sz (l.getD m.1 0) then [101, 110, 100] else (if (if m.2 = true then l.getD ((m.1 + l.length - 1) % l.length) 0 else l.getD ((m.1 + sz (l.getD m.1 0)) % l.length) 0) = l.getD m.1 0 then [101, 113, 117, 97, 108] else []))
  else [112, 97, 99, 107]
def rlegal (sz : Nat → Nat) (l : List Nat) (m : Mv) : Bool := decide (rrsn sz l m = [])
def rfst (l : List Nat) (m : Mv) : Nat := if m.2 = true then (m.1 + l.length - 1) % l.length else m.1
def rmv (m : Mv) : Mv := if m.2 = true then (1, true) else (0, false)
def rmoved (sz : Nat → Nat) (l : List Nat) (m : Mv) : List Nat := unrot (moved sz (rot l (rfst l m)) (rmv m)) (rfst l m)
/-- the law's own way, bead by bead -/
def rset (sz : Nat → Nat) (l : List Nat) (m : Mv) : List Nat :=
  if m.2 = true then (l.set ((m.1 + sz (l.getD m.1 0) - 1) % l.length) (l.getD ((m.1 + l.length - 1) % l.length) 0)).set ((m.1 + l.length - 1) % l.length) (l.getD m.1 0)
  else (l.set m.1 (l.getD ((m.1 + sz (l.getD m.1 0)) % l.length) 0)).set ((m.1 + sz (l.getD m.1 0)) % l.length) (l.getD m.1 0)
theorem set_rep_left (x k s : Nat) (v : List Nat) (hs : 1 ≤ s) : (([x] ++ (List.replicate s k ++ v)).set s x).set 0 k = List.replicate s k ++ ([x] ++ v) := by
  obtain ⟨t, rfl⟩ : ∃ t, s = t + 1 := ⟨s - 1, by omega⟩
  have e : ([x] ++ (List.replicate (t + 1) k ++ v)) = (x :: List.replicate t k) ++ ([k] ++ v) := by rw [List.replicate_succ']; simp
  rw [e, List.set_append_right _ _ (by simp)]
  simp [List.replicate_succ]
theorem set_rep_right (x k s : Nat) (v : List Nat) (hs : 1 ≤ s) : ((List.replicate s k ++ ([x] ++ v)).set 0 x).set s k = [x] ++ (List.replicate s k ++ v) := by
  obtain ⟨t, rfl⟩ : ∃ t, s = t + 1 := ⟨s - 1, by omega⟩
  have e : (List.replicate (t + 1) k ++ ([x] ++ v)).set 0 x = (x :: List.replicate t k) ++ ([x] ++ v) := by rw [List.replicate_succ]; simp
  rw [e, List.set_append_right _ _ (by simp)]
  have e2 : List.replicate (t + 1) k = List.replicate t k ++ [k] := List.replicate_succ'
  rw [e2]
  simp
theorem rlegal_facts {sz : Nat → Nat} (hs : ∀ k, 1 ≤ sz k) {l : List Nat} {m : Mv} (hi : m.1 < l.length) (h : rlegal sz l m = true) :
    rfst l m < l.length ∧ (rmv m).1 < (rot l (rfst l m)).length ∧ legal sz (rot l (rfst l m)) (rmv m) = true ∧ rmoved sz l m = rset sz l m ∧ Rt (moved sz (rot l (rfst l m)) (rmv m)) (rmoved sz l m) := by
  obtain ⟨i, b⟩ := m
  have hi : i < l.length := hi
  have h : rrsn sz l (i, b) = [] := of_decide_eq_true h
  unfold rrsn at h
  have hk := List.getElem?_eq_getElem hi
  have hkd : l.getD i 0 = l[i] := getD_of hk
  simp only [hkd] at h
  generalize hke : l[i] = k at *
  have hsk := hs k
  by_cases h1 : (rot l i).take (sz k) = List.replicate (sz k) k
  · rw [if_pos h1] at h
    by_cases h2 : l.length = sz k
    · rw [if_pos h2] at h; cases h
    · rw [if_neg h2] at h
      have hlen : sz k ≤ l.length := by
        have := congrArg List.length h1
        rw [List.length_take, List.length_replicate, rot_len] at this
        omega
      have hsplit : rot l i = List.replicate (sz k) k ++ (rot l i).drop (sz k) := by rw [← h1, List.take_append_drop]
      have rtu : ∀ (r : List Nat) (f : Nat), Rt r (unrot r f) := fun r f => rt_rot _ _
      cases b with
      | true =>
        rw [if_pos rfl] at h
        obtain ⟨x, hx, hr, ht⟩ := rot_pred l hi
        have hxd : l.getD ((i + l.length - 1) % l.length) 0 = x := getD_of hx
        rw [hxd] at h
        have hxk : x ≠ k := fun z => by rw [if_pos z] at h; cases h
        have hf : rfst l (i, true) = (i + l.length - 1) % l.length := rfl
        have hflt : (i + l.length - 1) % l.length < l.length := Nat.mod_lt _ (by omega)
        have hne : (rot l i).drop (sz k) ≠ [] := fun z => by
          have := congrArg List.length z
          rw [List.length_drop, rot_len, List.length_nil] at this
          omega
        obtain ⟨v, hv⟩ : ∃ v, (rot l i).drop (sz k) = v ++ [x] := by
          refine ⟨((rot l i).drop (sz k)).dropLast, ?_⟩
          have e1 := (List.dropLast_concat_getLast hne).symm
          have e2 : ((rot l i).drop (sz k)).getLast hne = x := by
            rw [List.getLast_drop]
            have hne2 : rot l i ≠ [] := fun z => by rw [z] at ht; simp at ht
            have e3 := (List.dropLast_concat_getLast hne2).trans ht
            have e4 := List.append_cancel_left e3
            simpa using e4
          rw [e2] at e1
          exact e1
        rw [hv] at hsplit
        have hd : (rot l i).dropLast = List.replicate (sz k) k ++ v := by rw [hsplit, ← List.append_assoc, List.dropLast_concat]
        rw [hd] at hr
        obtain ⟨g1, g2, g3⟩ := mk_left (sz := sz) hs (u := []) (v := v) hxk
        rw [hf]
        have er : rmv (i, true) = (1, true) := rfl
        rw [er, hr]
        have e0 : ([] : List Nat) ++ ([x] ++ (List.replicate (sz k) k ++ v)) = [x] ++ (List.replicate (sz k) k ++ v) := rfl
        rw [e0] at g1 g2 g3
        refine ⟨hflt, g1, g2, ?_, ?_⟩
        · unfold rmoved rset
          rw [hf, er, hr]
          have g3' : moved sz ([x] ++ (List.replicate (sz k) k ++ v)) (1, true) = List.replicate (sz k) k ++ ([x] ++ v) := g3
          rw [g3', ← set_rep_left x k (sz k) v hsk, ← hr]
          have hrl : (rot l ((i + l.length - 1) % l.length)).length = l.length := rot_len _ _
          rw [unrot_set _ (by rw [List.length_set, hrl]; exact hflt) (by rw [List.length_set, hrl]; omega), unrot_set _ (by rw [hrl]; exact hflt) (by rw [hrl]; omega), unrot_rot l hflt]
          rw [List.length_set, hrl, if_pos rfl, hkd, hxd, Nat.add_zero, Nat.mod_mod, Nat.mod_add_mod]
          congr 2
          rw [show i + l.length - 1 + sz k = (i + sz k - 1) + l.length by omega, Nat.add_mod_right]
        · have : rmoved sz l (i, true) = unrot (moved sz ([x] ++ (List.replicate (sz k) k ++ v)) (1, true)) ((i + l.length - 1) % l.length) := by
            unfold rmoved
            rw [hf, er, hr]
          rw [this]
          exact rtu _ _
      | false =>
        rw [if_neg Bool.false_ne_true] at h
        have hne : (rot l i).drop (sz k) ≠ [] := fun z => by
          have := congrArg List.length z
          rw [List.length_drop, rot_len, List.length_nil] at this
          omega
        obtain ⟨x, v, hv⟩ : ∃ x v, (rot l i).drop (sz k) = [x] ++ v := by
          cases hc : (rot l i).drop (sz k) with
          | nil => exact absurd hc hne
          | cons x v => exact ⟨x, v, rfl⟩
        have hx : l[(i + sz k) % l.length]? = some x := by
          rw [← rot_get l (by omega) (by omega), hsplit, hv, List.getElem?_append_right (by simp), List.length_replicate, Nat.sub_self]
          rfl
        have hxd : l.getD ((i + sz k) % l.length) 0 = x := getD_of hx
        rw [hxd] at h
        have hxk : x ≠ k := fun z => by rw [if_pos z] at h; cases h
        rw [hv] at hsplit
        obtain ⟨g1, g2, g3⟩ := mk_right (sz := sz) hs (u := []) (v := v) hxk
        have hf : rfst l (i, false) = i := rfl
        have er : rmv (i, false) = (0, false) := rfl
        rw [hf, er, hsplit]
        have e0 : ([] : List Nat) ++ (List.replicate (sz k) k ++ ([x] ++ v)) = List.replicate (sz k) k ++ ([x] ++ v) := rfl
        rw [e0] at g1 g2 g3
        refine ⟨hi, g1, g2, ?_, ?_⟩
        · unfold rmoved rset
          rw [hf, er, hsplit]
          have g3' : moved sz (List.replicate (sz k) k ++ ([x] ++ v)) (0, false) = [x] ++ (List.replicate (sz k) k ++ v) := g3
          rw [g3', ← set_rep_right x k (sz k) v hsk, ← hsplit]
          have hrl : (rot l i).length = l.length := rot_len _ _
          rw [unrot_set _ (by rw [List.length_set, hrl]; exact hi) (by rw [List.length_set, hrl]; omega), unrot_set _ (by rw [hrl]; exact hi) (by rw [hrl]; omega), unrot_rot l hi]
          rw [List.length_set, hrl, if_neg Bool.false_ne_true, hkd, hxd, Nat.add_zero, Nat.mod_eq_of_lt hi]
        · have : rmoved sz l (i, false) = unrot (moved sz (List.replicate (sz k) k ++ ([x] ++ v)) (0, false)) i := by
            unfold rmoved
            rw [hf, er, hsplit]
          rw [this]
          exact rtu _ _
  · rw [if_neg h1] at h; cases h
theorem rmoved_perm {sz : Nat → Nat} (hs : ∀ k, 1 ≤ sz k) {l : List Nat} {m : Mv} (hi : m.1 < l.length) (h : rlegal sz l m = true) : (rmoved sz l m).Perm l := by
  obtain ⟨_, g1, g2, _, g4⟩ := rlegal_facts hs hi h
  exact g4.perm.trans ((moved_perm g1 g2).trans (rot_perm _ _))

-- NEEDS m_ring moves checks
def sp_rotate (K : PySem.W.Frag) : Sp := fun vs H Q _ => ∃ (l : List Nat) (i : Nat), vs = [.str (S l), .int (i : Nat)] ∧ l.length ≤ 1000 ∧ Q (.str (S (rot l i))) H
def sp_reject_ring_move (K : PySem.W.Frag) : Sp := fun vs H Q _ => ∃ (a t : Addr) (zs : List Int) (l : List Nat) (m : Mv), vs = [.ref a, .str (S l), .ref t] ∧ SqT K H a (zs.map V.int) ∧ OkZ zs ∧ OkR zs l ∧ l.length ≤ 1000 ∧ SqT K H t (mvT m) ∧ m.1 < l.length ∧ Q (.str (S (rrsn (szN zs) l m))) H
theorem rot_last (l : List Nat) {i : Nat} (hi : i < l.length) : atI (rot l i) (-1) = some (l.getD ((i + l.length - 1) % l.length) 0) := by
  obtain ⟨x, hx, _, ht⟩ := rot_pred l hi
  rw [ht, getD_of hx]
  exact atI_last _ _
theorem rot_at (l : List Nat) {i s : Nat} (hi : i < l.length) (hs : s < l.length) : (rot l i)[s]? = some (l.getD ((i + s) % l.length) 0) := by
  rw [rot_get l (by omega) hs]
  have hm : (i + s) % l.length < l.length := Nat.mod_lt _ (by omega)
  rw [getD_of (List.getElem?_eq_getElem hm)]
  exact List.getElem?_eq_getElem hm
def sp_apply_ring_move (K : PySem.W.Frag) : Sp := fun vs H Q _ => ∃ (a : Addr) (zs : List Int) (l : List Nat) (m : Mv), vs = [.ref a, .str (S l), iv m.1, .str (S (sideT m.2))] ∧ SqT K H a (zs.map V.int) ∧ OkZ zs ∧ OkR zs l ∧ l.length ≤ 40 ∧ m.1 < l.length ∧ rlegal (szN zs) l m = true ∧ ∀ H', Same H H' → Q (.str (S (rmoved (szN zs) l m))) H'
theorem rfst_int (l : List Nat) {i : Nat} {b : Bool} (hi : i < l.length) : ((i : Int) - (if b = true then 1 else 0)) % (l.length : Nat) = ((rfst l (i, b) : Nat) : Int) := by
  unfold rfst
  cases b with
  | true =>
    rw [if_pos rfl, if_pos rfl]
    by_cases h : i = 0
    · subst h
      rw [Nat.zero_add, Nat.mod_eq_of_lt (by omega)]
      rw [show ((0 : Nat) : Int) - 1 = ((l.length - 1 : Nat) : Int) + (l.length : Nat) * (-1) by omega, Int.add_mul_emod_self_left]
      exact Int.emod_eq_of_lt (by omega) (by omega)
    · rw [show i + l.length - 1 = (i - 1) + l.length by omega, Nat.add_mod_right, Nat.mod_eq_of_lt (by omega), show (i : Int) - 1 = ((i - 1 : Nat) : Int) by omega]
      exact Int.emod_eq_of_lt (by omega) (by omega)
  | false =>
    rw [if_neg Bool.false_ne_true, if_neg Bool.false_ne_true, Int.sub_zero]
    exact Int.emod_eq_of_lt (by omega) (by omega)
theorem back_int {n f : Nat} (hf : f < n) : ((0 : Int) - (f : Nat)) % (n : Nat) = (((n - f) % n : Nat) : Int) := by
  by_cases h : f = 0
  · subst h
    simp
  · rw [Nat.mod_eq_of_lt (by omega), show (0 : Int) - (f : Nat) = ((n - f : Nat) : Int) + (n : Nat) * (-1) by omega, Int.add_mul_emod_self_left]
    exact Int.emod_eq_of_lt (by omega) (by omega)

-- NEEDS m_way
/-! ### a list of tuples -/
inductive Tps {α : Type} (K : PySem.W.Frag) (H : Hp) (f : α → List V) : List V → List α → Prop
  | nil : Tps K H f [] []
  | cons {T : Addr} {m : α} {vs : List V} {ms : List α} : SqT K H T (f m) → Tps K H f vs ms → Tps K H f (.ref T :: vs) (m :: ms)
section
variable {α : Type} {K : PySem.W.Frag} {H H' : Hp} {f : α → List V} {vs ws : List V} {ms ns : List α} {T d : Addr} {m : α} {o : HO} {xs : List V}
theorem Tps.same (h : Tps K H f vs ms) (s : Same H H') : Tps K H' f vs ms := by
  induction h with
  | nil => exact .nil
  | cons h1 _ ih => exact .cons (s.tup h1) ih
theorem Tps.upd (h : Tps K H f vs ms) (hd : H d = some (.lst xs)) : Tps K (upd H d o) f vs ms := by
  induction h with
  | nil => exact .nil
  | cons h1 _ ih => exact .cons (sameB_upd.tup hd h1) ih
theorem Tps.sameB (h : Tps K H f vs ms) (s : SameB d H H') (hd : H d = some (.lst xs)) : Tps K H' f vs ms := by
  induction h with
  | nil => exact .nil
  | cons h1 _ ih => exact .cons (s.tup hd h1) ih
theorem Tps.len (h : Tps K H f vs ms) : vs.length = ms.length := by
  induction h with
  | nil => rfl
  | cons _ _ ih => simp [ih]
theorem Tps.app (h : Tps K H f vs ms) (h2 : Tps K H f ws ns) : Tps K H f (vs ++ ws) (ms ++ ns) := by
  induction h with
  | nil => exact h2
  | cons h1 _ ih => exact .cons h1 ih
theorem Tps.snoc (h : Tps K H f vs ms) (hT : SqT K H T (f m)) : Tps K H f (vs ++ [.ref T]) (ms ++ [m]) := h.app (.cons hT .nil)
theorem Tps.get (h : Tps K H f vs ms) : ∀ {j : Nat} {v : V}, vs[j]? = some v → ∃ T m, v = .ref T ∧ ms[j]? = some m ∧ SqT K H T (f m) := by
  induction h with
  | nil => intro j v hv; simp at hv
  | cons h1 _ ih =>
    intro j v hv
    cases j with
    | zero => cases hv; exact ⟨_, _, rfl, rfl, h1⟩
    | succ j => exact ih hv
theorem Tps.split {vs : List V} {a b : List α} (h : Tps K H f vs (a ++ b)) : ∃ u v, vs = u ++ v ∧ Tps K H f u a ∧ Tps K H f v b := by
  induction a generalizing vs with
  | nil => exact ⟨[], vs, rfl, .nil, h⟩
  | cons x a ih =>
    cases h with
    | cons h1 h2 =>
      obtain ⟨u, v, rfl, h3, h4⟩ := ih h2
      exact ⟨_ :: u, v, rfl, .cons h1 h3, h4⟩
theorem Tps.take (h : Tps K H f vs ms) : ∀ n : Nat, Tps K H f (vs.take n) (ms.take n) := by
  induction h with
  | nil => intro n; simp; exact .nil
  | cons h1 _ ih =>
    intro n
    cases n with
    | zero => exact .nil
    | succ n => exact .cons h1 (ih n)
theorem Tps.drop (h : Tps K H f vs ms) : ∀ n : Nat, Tps K H f (vs.drop n) (ms.drop n) := by
  induction h with
  | nil => intro n; simp; exact .nil
  | cons h1 h2 ih =>
    intro n
    cases n with
    | zero => exact .cons h1 h2
    | succ n => exact ih n
theorem Tps.rev (h : Tps K H f vs ms) : Tps K H f vs.reverse ms.reverse := by
  induction h with
  | nil => exact .nil
  | cons h1 _ ih => rw [List.reverse_cons, List.reverse_cons]; exact ih.snoc h1
end

-- NEEDS m_wlb reduce_row tally inverse checks m_tps
abbrev csI (cs : List Nat) : List Int := cs.map fun c => ((c : Nat) : Int)
abbrev skey (cs pl : List Nat) : SK := (csI cs, pl)
abbrev fsC (a : Addr) (tgt : List Nat) (st c : Addr) : List (Str × V) := [("sizes", .ref a), ("target", .str (S tgt)), ("start", .ref st), ("cache", .ref c)]
/-- what the class must have -/
structure CtrT (K : PySem.W.Frag) (CC : Addr) : Prop where
  cl : Cls K CC
  n1 : NoAttr K CC "sizes"
  n2 : NoAttr K CC "target"
  n3 : NoAttr K CC "start"
  n4 : NoAttr K CC "cache"
structure CInv (K : PySem.W.Frag) (zs : List Int) (tgt tot : List Nat) (H : Hp) (kvs : List NE) : Prop where
  nd : (kvs.map (·.1)).Nodup
  ok : ∀ e ∈ kvs, StAt K H e.1 e.2.1 ∧ ∃ cs pl, e.1 = skey cs pl ∧ GoodS (szN zs) tgt tot cs pl ∧ e.2.2 = .int ((wl (szN zs) tgt cs.sum cs pl).length : Nat)
/-- a counter stands at p, its cache at c -/
structure Ctr (P : Program) (w : World) (K : PySem.W.Frag) (CC : Addr) (zs : List Int) (tgt tot : List Nat) (H : Hp) (p c : Addr) : Prop where
  ex : ∃ a st dx, H p = some (.ins CC dx (fsC a tgt st c)) ∧ SqT K H a (zs.map V.int) ∧ StAt K H (skey tot []) st
  ch : ∃ kvs, H c = some (DN P w c kvs) ∧ CInv K zs tgt tot H kvs
/-- what stands of the sizes, the target and the counts -/
structure CtrS (zs : List Int) (tgt tot : List Nat) : Prop where
  z : OkZ zs
  t : OkR zs tgt
  r : res (szN zs) tgt = tgt
  l : tot.length = zs.length
  m : tot.sum ≤ 12
  n : tgt.length ≤ 12
theorem DN_tup {a : Addr} {kvs : List NE} (xs : List V) : DN P w a kvs ≠ .tup xs := fun z => by unfold DN at z; cases z
theorem DN_frz {a : Addr} {kvs : List NE} (o : Obj) (u : HO) : DN P w a kvs ≠ .frz o u := fun z => by unfold DN at z; cases z
theorem sameX {c : Addr} {H H' : Hp} {o : HO} {a : Addr} {xs : List V} (s : SameB c H H') (hc : H c = some o) (h1 : ∀ xs, o ≠ .tup xs) (h2 : ∀ ob u, o ≠ .frz ob u) (h : SqT K H a xs) : SqT K H' a xs := by
  rcases h with (h | ⟨o', h⟩) | h
  · exact .inl (.inl (s _ _ (ne_of h hc fun z => h1 _ z.symm) h))
  · exact .inl (.inr ⟨o', s _ _ (ne_of h hc fun z => h2 _ _ z.symm) h⟩)
  · exact .inr h
theorem StAt.sameX {c : Addr} {H H' : Hp} {o : HO} {a : Addr} {k : SK} (h : StAt K H k a) (s : SameB c H H') (hc : H c = some o) (h1 : ∀ xs, o ≠ .tup xs) (h2 : ∀ ob u, o ≠ .frz ob u) : StAt K H' k a := by
  obtain ⟨b, h3, h4⟩ := h
  exact ⟨b, Pk.sameX s hc h1 h2 h3, Pk.sameX s hc h1 h2 h4⟩
section
variable {CC : Addr} {zs : List Int} {tgt tot : List Nat} {H H' : Hp} {p c : Addr}
theorem CInv.same {kvs : List NE} (h : CInv K zs tgt tot H kvs) (s : Same H H') : CInv K zs tgt tot H' kvs := ⟨h.nd, fun e he => ⟨(h.ok e he).1.same s, (h.ok e he).2⟩⟩
theorem Ctr.same (h : Ctr P w K CC zs tgt tot H p c) (s : Same H H') : Ctr P w K CC zs tgt tot H' p c := by
  obtain ⟨a, st, dx, h1, h2, h3⟩ := h.ex
  obtain ⟨kvs, h4, h5⟩ := h.ch
  exact ⟨⟨a, st, dx, s _ _ h1, s.tup h2, h3.same s⟩, ⟨kvs, s _ _ h4, h5.same s⟩⟩
end
abbrev cntN (n : Nat) (l : List Nat) : List Nat := (List.range n).map fun j => l.count (97 + j)
theorem csI_cnt (n : Nat) (l : List Nat) : csI (cntN n l) = cntI n l := by
  unfold cntI
  rw [csI, List.map_map]
  rfl
abbrev s_RowCounter____init__ : Stmt := (C8.clsBody (topS 29)).getD 0 (.Pass ⟨0, 0, 0, 0⟩)
theorem sc_RowCounter____init__ : FnScope ["self", "sizes", "row"] ["self", "sizes", "row"] (defScope s_RowCounter____init__) := ⟨rfl, rfl, rfl, by decide +kernel, rfl, by decide +kernel, by decide +kernel⟩

def sp_RowCounter____init__ (P : Program) (w : World) (CC : Addr) (K : PySem.W.Frag) : Sp := fun vs H Q _ => ∃ (x a dx : Addr) (zs : List Int) (l : List Nat), vs = [.ref x, .ref a, .str (S l)] ∧ H x = some (.ins CC dx []) ∧ SqT K H a (zs.map V.int) ∧ OkZ zs ∧ OkR zs l ∧ l.length ≤ 12 ∧
  ∀ H' c, SameB x H H' → H c = none → Ctr P w K CC zs (res (szN zs) l) (cntN zs.length l) H' x c → Q .non H'
theorem ok_RowCounter____init__ {f : Addr} {fd : FuncData} (F : Fun K "__init__" "RowCounter.__init__" s_RowCounter____init__ f fd) (B : Bi mg) {CC : Addr} (T : CtrT K CC) (C_reduce_row : Cal P w K mg base CX0 3 "reduce_row" ["sizes", "row"] (sp_reduce_row K)) (C_tally : Cal P w K mg base CX0 2 "tally" ["sizes", "row"] (sp_tally K)) : FnOk P w K mg base CX0 4 f fd ["self", "sizes", "row"] (sp_RowCounter____init__ P w CC K) := by
  refine F.ok sc_RowCounter____init__ (fun vs H Q E h => ?_) (fun cdv A outer s H vs Q E hr h => ?_)
  · obtain ⟨x, a, dx, zs, l, rfl, _⟩ := h
    rfl
  obtain ⟨x, a, dx, zs, l, rfl, hx, hT, hZ, hL, hl, q⟩ := h
  refine ⟨_, (pss_cons (ps_setF (K := K) (gv 0) (gv 1))
      (pss_cons (ps_setF (K := K) (gv 0) (pe_cal C_reduce_row (hr.mono (by decide)) pass0 (pa_cons (gv 1) (pa_cons (gv 2) pa_nil))))
      (pss_cons (ps_setF (K := K) (gv 0) (pe_tup (pa_cons (pe_cal C_tally (hr.mono (by decide)) pass0 (pa_cons (gv 1) (pa_cons (gv 2) pa_nil))) (pa_cons (pe_strC [] (by decide +kernel)) pa_nil))))
      (pss_one (ps_setF (K := K) (gv 0) pe_newN))))), ?_⟩
  refine ⟨CC, dx, [], hx, T.cl, T.n1, by decide, ?_⟩
  have b1 : SameB x H (upd H x (.ins CC dx (putF "sizes" (.ref a) []))) := sameB_upd
  have T1 : SqT K (upd H x (.ins CC dx (putF "sizes" (.ref a) []))) a (zs.map V.int) := sameX b1 hx (fun _ z => by cases z) (fun _ _ z => by cases z) hT
  have e1 : upd H x (.ins CC dx (putF "sizes" (.ref a) [])) x = some (.ins CC dx [("sizes", .ref a)]) := upd_same
  generalize upd H x (.ins CC dx (putF "sizes" (.ref a) [])) = H1 at *
  refine ⟨a, zs, l, rfl, T1, hZ, hL, by omega, fun H2 s2 => ⟨CC, dx, _, s2 _ _ e1, T.cl, T.n2, by show 1 < 1000; decide, ?_⟩⟩
  have b2 : SameB x H (upd H2 x (.ins CC dx (putF "target" (.str (S (res (szN zs) l))) [("sizes", .ref a)]))) := b1.trans ((SameB.of s2).trans sameB_upd)
  have e2 : upd H2 x (.ins CC dx (putF "target" (.str (S (res (szN zs) l))) [("sizes", .ref a)])) x = some (.ins CC dx [("sizes", .ref a), ("target", .str (S (res (szN zs) l)))]) := upd_same
  have T2 : SqT K (upd H2 x (.ins CC dx (putF "target" (.str (S (res (szN zs) l))) [("sizes", .ref a)]))) a (zs.map V.int) := sameX sameB_upd (s2 _ _ e1) (fun _ z => by cases z) (fun _ _ z => by cases z) (s2.tup T1)
  generalize upd H2 x (.ins CC dx (putF "target" (.str (S (res (szN zs) l))) [("sizes", .ref a)])) = H3 at *
  refine ⟨a, zs, l, rfl, T2, hZ, fun H4 t s4 nt et => ⟨by show 2 ≤ sizeLine; decide, fun st hst => ?_⟩⟩
  have s5 := s4.trans (same_upd (o := .tup [.ref t, .str (S [])]) hst)
  have e5 : upd H4 st (.tup [.ref t, .str (S [])]) st = some (.tup [.ref t, .str (S [])]) := upd_same
  have t5 := same_upd (o := .tup [.ref t, .str (S [])]) hst _ _ et
  generalize upd H4 st (.tup [.ref t, .str (S [])]) = H5 at *
  refine ⟨CC, dx, _, s5 _ _ e2, T.cl, T.n3, by show 2 < 1000; decide, ?_⟩
  have b6 : SameB x H (upd H5 x (.ins CC dx (putF "start" (.ref st) [("sizes", .ref a), ("target", .str (S (res (szN zs) l)))]))) := b2.trans ((SameB.of s5).trans sameB_upd)
  have e6 : upd H5 x (.ins CC dx (putF "start" (.ref st) [("sizes", .ref a), ("target", .str (S (res (szN zs) l)))])) x = some (.ins CC dx [("sizes", .ref a), ("target", .str (S (res (szN zs) l))), ("start", .ref st)]) := upd_same
  have T6 : SqT K (upd H5 x (.ins CC dx (putF "start" (.ref st) [("sizes", .ref a), ("target", .str (S (res (szN zs) l)))]))) a (zs.map V.int) := sameX sameB_upd (s5 _ _ e2) (fun _ z => by cases z) (fun _ _ z => by cases z) (s5.tup T2)
  have st6 : StAt K (upd H5 x (.ins CC dx (putF "start" (.ref st) [("sizes", .ref a), ("target", .str (S (res (szN zs) l)))]))) (skey (cntN zs.length l) []) st := by
    refine ⟨t, ?_, ?_⟩
    · exact sameX sameB_upd (s5 _ _ e2) (fun _ z => by cases z) (fun _ _ z => by cases z) (SqT.of e5)
    · show SqT K _ t ((csI (cntN zs.length l)).map V.int)
      rw [csI_cnt]
      exact sameX sameB_upd (s5 _ _ e2) (fun _ z => by cases z) (fun _ _ z => by cases z) (SqT.of t5)
  generalize upd H5 x (.ins CC dx (putF "start" (.ref st) [("sizes", .ref a), ("target", .str (S (res (szN zs) l)))])) = H6 at *
  intro c hc
  have nc : c ≠ x := (ne_of_none e6 hc).symm
  refine ⟨CC, dx, _, by rw [upd_ne nc.symm]; exact e6, T.cl, T.n4, by show 3 < 1000; decide, ?_⟩
  have s7 := same_upd (o := DN P w c []) hc
  refine q _ c (b6.trans ((SameB.of s7).trans sameB_upd)) (b6.free hc nc) ⟨⟨a, st, dx, upd_same, ?_, ?_⟩, [], by rw [upd_ne nc]; exact upd_same, List.nodup_nil, fun e he => by simp at he⟩
  · exact sameX sameB_upd (s7 _ _ e6) (fun _ z => by cases z) (fun _ _ z => by cases z) (s7.tup T6)
  · exact (st6.same s7).sameX sameB_upd (s7 _ _ e6) (fun _ z => by cases z) (fun _ _ z => by cases z)
/-- a state and the first bead behind it -/
def SucAt (K : PySem.W.Frag) (H : Hp) (zs : List Int) (cs pl : List Nat) (j : Nat) (v : V) : Prop := ∃ T s2, v = .ref T ∧ SqT K H T [.str (S [97 + j]), .ref s2] ∧ StAt K H (skey (dec cs j) (res (szN zs) (pl ++ [97 + j]))) s2
def SucL (K : PySem.W.Frag) (H : Hp) (zs : List Int) (cs pl : List Nat) (js : List Nat) (vs : List V) : Prop := Paired (fun j v => SucAt K H zs cs pl j v) js vs
theorem SucAt.same {H H' : Hp} {zs : List Int} {cs pl : List Nat} {j : Nat} {v : V} (h : SucAt K H zs cs pl j v) (s : Same H H') : SucAt K H' zs cs pl j v := by
  obtain ⟨T, s2, e, h1, h2⟩ := h
  exact ⟨T, s2, e, s.tup h1, h2.same s⟩
theorem SucL.same {H H' : Hp} {zs : List Int} {cs pl js : List Nat} {vs : List V} (h : SucL K H zs cs pl js vs) (s : Same H H') : SucL K H' zs cs pl js vs := Paired.mapP h fun _ _ z => z.same s
theorem paired_snoc {α β : Type} {R : α → β → Prop} {x : α} {y : β} : ∀ {l : List α} {m : List β}, Paired R l m → R x y → Paired R (l ++ [x]) (m ++ [y])
  | _, _, .nil, h => .cons h .nil
  | _, _, .cons r t, h => .cons r (paired_snoc t h)
abbrev s_RowCounter__successors : Stmt := (C8.clsBody (topS 29)).getD 1 (.Pass ⟨0, 0, 0, 0⟩)
theorem sc_RowCounter__successors : FnScope ["self", "state", "remaining", "placed", "result", "position", "color", "fewer"] ["self", "state"] (defScope s_RowCounter__successors) := ⟨rfl, rfl, rfl, by decide +kernel, rfl, by decide +kernel, by decide +kernel⟩

def sp_RowCounter__successors (P : Program) (w : World) (CC : Addr) (K : PySem.W.Frag) : Sp := fun vs H Q _ => ∃ (p c s : Addr) (zs : List Int) (tgt tot cs pl : List Nat), vs = [.ref p, .ref s] ∧ CtrS zs tgt tot ∧ Ctr P w K CC zs tgt tot H p c ∧ StAt K H (skey cs pl) s ∧ cs.length = zs.length ∧ OkR zs pl ∧ pl.length ≤ 100 ∧
  ∀ H' t vs', Same H H' → H t = none → H' t = some (.lst vs') → SucL K H' zs cs pl (lft cs) vs' → Q (.ref t) H'
theorem ok_RowCounter__successors {f : Addr} {fd : FuncData} (F : Fun K "successors" "RowCounter.successors" s_RowCounter__successors f fd) (B : Bi mg) {CC : Addr} (T : CtrT K CC) (C_colors_of : Cal P w K mg base CX0 1 "colors_of" ["sizes"] (sp_colors_of K)) (C_reduce_row : Cal P w K mg base CX0 3 "reduce_row" ["sizes", "row"] (sp_reduce_row K)) : FnOk P w K mg base CX0 4 f fd ["self", "state"] (sp_RowCounter__successors P w CC K) := by
  refine F.ok sc_RowCounter__successors (fun vs H Q E h => ?_) (fun cdv A outer s H vs Q E hr h => ?_)
  · obtain ⟨p, c, s, zs, tgt, tot, cs, pl, rfl, _⟩ := h
    rfl
  obtain ⟨p, c, s, zs, tgt, tot, cs, pl, rfl, S0, hC, ⟨sb, hs1, hs2⟩, hl, hP, hp100, q⟩ := h
  refine ⟨_, (pss_cons (ps_asg (gv 1) (pg_nm (K := K) (is := [2, 3]) (pgs_cons (pg_name (i := 2) sc_RowCounter__successors.nd rfl (.inl rfl)) (pgs_cons (pg_name (i := 3) sc_RowCounter__successors.nd rfl (.inl rfl)) pgs_nil)) nm2))
      (pss_cons (ps_set (i := 4) sc_RowCounter__successors.nd rfl (.inl rfl) (pe_lst pa_nil))
      (pss_cons (ps_for PassesOwn.never rfl (pi_enumG (K := K) B.enumerate (pa_cons (pe_cal C_colors_of (hr.mono (by decide)) pass0 (pa_cons (pe_fldG (K := K) (gv 0)) pa_nil)) pa_nil)) (pg_nm (K := K) (is := [5, 6]) (pgs_cons (pg_name (i := 5) sc_RowCounter__successors.nd rfl (.inl rfl)) (pgs_cons (pg_name (i := 6) sc_RowCounter__successors.nd rfl (.inl rfl)) pgs_nil)) nm2)
      (pss_one (ps_if (pt_cmpG op_gtG (pe_ix (ixG (K := K)) (gv 2) (gv 5) (fun _ _ => rfl)) pe_int (nomark _))
      (pss_cons (ps_set (i := 7) sc_RowCounter__successors.nd rfl (.inl rfl) (pe_op (op_addG2 (K := K)) (pe_op (op_addG2 (K := K)) (pe_slice (slG2 (K := K)) (gv 2) po_none (po_someG (gv 5))) (pe_tup (pa_cons (pe_op op_subG (pe_ix (ixG (K := K)) (gv 2) (gv 5) (fun _ _ => rfl)) pe_int) pa_nil))) (pe_slice (slG2 (K := K)) (gv 2) (po_someG (pe_op (op_addG2 (K := K)) (gv 5) pe_int)) po_none)))
      (pss_one (ps_expr (pe_bmG (K := K) PySem.F.plainAttrs_list PySem.F.slot_list_append PySem.F.type_list_append mt_appendG (gv 4) (pa_cons (pe_tup (pa_cons (gv 6) (pa_cons (pe_tup (pa_cons (gv 7) (pa_cons (pe_cal C_reduce_row (hr.mono (by decide)) pass0 (pa_cons (pe_fldG (K := K) (gv 0)) (pa_cons (pe_op (op_addG2 (K := K)) (gv 3) (gv 6)) pa_nil))) pa_nil))) pa_nil))) pa_nil)))))
      pss_nil)))
      (pss_one (ps_ret (gv 4)))))), ?_⟩
  obtain ⟨a, st, dx, e1, hT, hst⟩ := hC.ex
  refine ⟨_, hs1, by show 0 ≤ sizeLine; decide, fun t ht => ?_⟩
  have s1 := same_upd (o := .lst []) ht
  refine ⟨CC, dx, _, _, s1 _ _ e1, T.cl, T.n1, rfl, a, _, rfl, s1.tup hT, ?_⟩
  rw [List.length_map]
  have h6 := S0.z.six
  have hlen : (tl (S (abc.take zs.length))).length = zs.length := by rw [tl_S, List.length_take]; show min _ 6 = _; omega
  refine for_it walk_jt (fun i σ H' => ∃ y5 y6 y7 vs', σ = [some (.ref p), some (.ref s), some (.ref sb), some (.str (S pl)), some (.ref t), y5, y6, y7] ∧ Same H H' ∧ H' t = some (.lst vs') ∧ vs'.length ≤ i ∧ SucL K H' zs cs pl ((List.range i).filter fun j => decide (0 < cs.getD j 0)) vs')
    ⟨_, _, _, [], rfl, s1, upd_same, Nat.le_refl _, .nil⟩ ?_ ?_ ?_
  · rintro i σ H' hi ⟨y5, y6, y7, vs', rfl, _⟩
    trivial
  · rintro i x σ H1 H2 hi ⟨y5, y6, y7, vs', rfl, s2, et, hvl, hS⟩ ⟨TT, xs, rfl, hTn, rfl, v, hv, rfl⟩
    rw [hlen] at hi
    have hv' : v = .str (S [97 + i]) := by
      unfold sgs at hv
      rw [tl_S, List.getElem?_map, abc_get h6 hi] at hv
      exact (Option.some.inj hv).symm
    subst hv'
    have s3 := s2.trans (same_upd (o := .tup [.int (i : Nat), .str (S [97 + i])]) hTn)
    have et3 := same_upd (o := .tup [.int (i : Nat), .str (S [97 + i])]) hTn _ _ et
    have hS3 := hS.same (same_upd (o := .tup [.int (i : Nat), .str (S [97 + i])]) hTn)
    refine ⟨_, SqT.of upd_same, ?_⟩
    generalize upd H1 TT (.tup [.int (i : Nat), .str (S [97 + i])]) = H3 at *
    have hic : i < cs.length := by omega
    have hgc : ((csI cs).map V.int)[i]? = some (.int ((cs.getD i 0 : Nat) : Int)) := by
      rw [List.getElem?_map, List.getElem?_map, List.getElem?_eq_getElem hic, List.getD_eq_getElem?_getD, List.getElem?_eq_getElem hic]
      rfl
    refine ⟨_, _, .inr (s3.tup hs2), atI_nat hgc, ?_⟩
    rw [List.range_succ, List.filter_append]
    refine iteB ⟨fun e => ?_, fun e => ?_⟩
    · have e' : (0 : Int) < ((cs.getD i 0 : Nat) : Int) := of_decide_eq_true e
      have hpos : 0 < cs.getD i 0 := by omega
      have ef : [i].filter (fun j => decide (0 < cs.getD j 0)) = [i] := by rw [List.filter_cons, if_pos (by simpa using hpos)]; rfl
      refine .inr ⟨_, s3.tup hs2, fun q1 H4 s4 g1 _ => ⟨_, _, .inr ((s3.trans s4).tup hs2), atI_nat hgc, by show 1 ≤ sizeLine; decide, fun p1 k1 => ?_⟩⟩
      have s5 := same_upd (o := .tup [.int (((cs.getD i 0 : Nat) : Int) - 1)]) k1
      have f1 : upd H4 p1 (.tup [.int (((cs.getD i 0 : Nat) : Int) - 1)]) p1 = _ := upd_same
      generalize upd H4 p1 (.tup [.int (((cs.getD i 0 : Nat) : Int) - 1)]) = H5 at *
      have cl0 : ∀ lo hi, (cutL ((csI cs).map V.int) lo hi).length ≤ 6 := fun lo hi => by
        refine Nat.le_trans (cutL_len _ _ _) ?_
        rw [List.length_map, List.length_map]
        omega
      have cl1 : ∀ {lo hi : Option Int} {x : V}, (cutL ((csI cs).map V.int) lo hi).length + [x].length ≤ 1000000 := fun {lo hi x} => by
        have := cl0 lo hi
        show _ + 1 ≤ _
        omega
      have cl2 : ∀ {lo hi lo' hi' : Option Int} {x : V}, (cutL ((csI cs).map V.int) lo hi ++ [x]).length + (cutL ((csI cs).map V.int) lo' hi').length ≤ 1000000 := fun {lo hi lo' hi' x} => by
        have := cl0 lo hi
        have := cl0 lo' hi'
        rw [List.length_append]
        show _ + 1 + _ ≤ _
        omega
      refine .inr ⟨_, _, s5.tup g1, SqT.of f1, cl1, fun q2 H6 s6 g2 _ => .inr ⟨_, (s3.trans (s4.trans (s5.trans s6))).tup hs2, fun q3 H7 s7 g3 _ => .inr ⟨_, _, s7.tup g2, g3, cl2, fun q4 H8 s8 g4 _ => ?_⟩⟩⟩
      have s38 := s4.trans (s5.trans (s6.trans (s7.trans s8)))
      have g4' : SqT K H8 q4 ((csI (dec cs i)).map V.int) := by
        have e : cutL ((csI cs).map V.int) none (some ((i : Nat) : Int)) ++ [V.int (((cs.getD i 0 : Nat) : Int) - 1)] ++ cutL ((csI cs).map V.int) (some (((i : Nat) : Int) + 1)) none = (csI (dec cs i)).map V.int := by
          rw [cutL_to _ (by omega), cutL_from _ (by omega), Int.toNat_natCast, show (((i : Nat) : Int) + 1).toNat = i + 1 by omega]
          unfold dec
          rw [List.append_assoc, csI, csI, List.map_set, List.map_set, List.set_eq_take_append_cons_drop, if_pos (by rw [List.length_map, List.length_map]; exact hic)]
          rw [show (((cs.getD i 0 - 1 : Nat) : Nat) : Int) = ((cs.getD i 0 : Nat) : Int) - 1 by omega]
          rfl
        rw [← e]
        exact g4
      have s08 := s3.trans s38
      refine ⟨.inl ⟨rfl, _, SqL.of (s38 _ _ et3)⟩, ?_⟩
      refine ⟨CC, dx, _, _, s08 _ _ e1, T.cl, T.n1, rfl, ⟨by show pl.length + 1 ≤ _; omega, a, zs, pl ++ [97 + i], rfl, s08.tup hT, S0.z, fun k hk => ?_, by rw [List.length_append]; show _ + 1 ≤ _; omega, fun H9 s9 => ⟨by show 2 ≤ sizeLine; decide, fun u hu => ⟨by show 2 ≤ sizeLine; decide, fun v hv => ?_⟩⟩⟩⟩
      · rcases List.mem_append.mp hk with z | z
        · exact hP k z
        · rw [List.mem_singleton.mp z]; omega
      have t10 := same_upd (o := .tup [.ref q4, .str (S (res (szN zs) (pl ++ [97 + i])))]) hu
      have f10 : upd H9 u (.tup [.ref q4, .str (S (res (szN zs) (pl ++ [97 + i])))]) u = _ := upd_same
      generalize upd H9 u (.tup [.ref q4, .str (S (res (szN zs) (pl ++ [97 + i])))]) = H10 at *
      have t11 := same_upd (o := .tup [.str (S [97 + i]), .ref u]) hv
      have f11 : upd H10 v (.tup [.str (S [97 + i]), .ref u]) v = _ := upd_same
      generalize upd H10 v (.tup [.str (S [97 + i]), .ref u]) = H11 at *
      have s3_11 := s38.trans (s9.trans (t10.trans t11))
      have et11 := s3_11 _ _ et3
      refine ⟨_, et11, by omega, ?_⟩
      have s_up : ∀ b o, H11 b = some o → b ≠ t → upd H11 t (.lst (vs' ++ [.ref v])) b = some o := fun b o h1 h2 => by rw [upd_ne h2]; exact h1
      have keepT : ∀ {b : Addr} {ys : List V}, SqT K H11 b ys → SqT K (upd H11 t (.lst (vs' ++ [.ref v]))) b ys := fun h => sameB_upd.tup et11 h
      refine ⟨_, _, _, vs' ++ [.ref v], rfl, (s3.trans s3_11).at ht, upd_same, by rw [List.length_append]; show _ + 1 ≤ _; omega, ?_⟩
      rw [ef]
      have hkS : ∀ {j : Nat} {x : V}, SucAt K H11 zs cs pl j x → SucAt K (upd H11 t (.lst (vs' ++ [.ref v]))) zs cs pl j x := fun ⟨T', s2', e, h1, ⟨b', h2, h3⟩⟩ => ⟨T', s2', e, keepT h1, b', keepT h2, keepT h3⟩
      refine paired_snoc (Paired.mapP (hS3.same s3_11) fun _ _ z => hkS z) (hkS ⟨v, u, rfl, SqT.of f11, q4, SqT.of (t11 _ _ f10), (s9.trans (t10.trans t11)).tup g4'⟩)
    · have hz : cs.getD i 0 = 0 := by
        by_cases h : cs.getD i 0 = 0
        · exact h
        · exact absurd (decide_eq_true (by omega : (0 : Int) < ((cs.getD i 0 : Nat) : Int))) e
      have ef : [i].filter (fun j => decide (0 < cs.getD j 0)) = [] := by rw [List.filter_cons, if_neg (by rw [hz]; decide)]; rfl
      exact ⟨_, _, _, vs', rfl, s3, et3, by omega, by rw [ef, List.append_nil]; exact hS3⟩
  · rintro σ H' ⟨y5, y6, y7, vs', rfl, s2, et, hvl, hS⟩
    rw [hlen, ← hl] at hS
    exact q H' t vs' s2 ht et hS

-- NEEDS counter
def Feas (sz : Nat → Nat) (tgt cs pl : List Nat) : Prop := ∀ j, j < cs.length → (res sz (inv sz pl ++ tgt)).count (97 + j) ≤ cs.getD j 0
instance (sz : Nat → Nat) (tgt cs pl : List Nat) : Decidable (Feas sz tgt cs pl) := by unfold Feas; infer_instance
abbrev s_RowCounter__is_feasible : Stmt := (C8.clsBody (topS 29)).getD 2 (.Pass ⟨0, 0, 0, 0⟩)
theorem sc_RowCounter__is_feasible : FnScope ["self", "state", "remaining", "placed", "missing", "there", "needed"] ["self", "state"] (defScope s_RowCounter__is_feasible) := ⟨rfl, rfl, rfl, by decide +kernel, rfl, by decide +kernel, by decide +kernel⟩

def sp_RowCounter__is_feasible (P : Program) (w : World) (CC : Addr) (K : PySem.W.Frag) : Sp := fun vs H Q _ => ∃ (p c s : Addr) (zs : List Int) (tgt tot cs pl : List Nat), vs = [.ref p, .ref s] ∧ CtrS zs tgt tot ∧ Ctr P w K CC zs tgt tot H p c ∧ StAt K H (skey cs pl) s ∧ cs.length = zs.length ∧ OkR zs pl ∧ pl.length ≤ 100 ∧
  ∀ H', Same H H' → Q (.bl (decide (Feas (szN zs) tgt cs pl))) H'
theorem ok_RowCounter__is_feasible {f : Addr} {fd : FuncData} (F : Fun K "is_feasible" "RowCounter.is_feasible" s_RowCounter__is_feasible f fd) (B : Bi mg) {CC : Addr} (T : CtrT K CC) (C_tally : Cal P w K mg base CX0 2 "tally" ["sizes", "row"] (sp_tally K)) (C_reduce_row : Cal P w K mg base CX0 3 "reduce_row" ["sizes", "row"] (sp_reduce_row K)) (C_invert_row : Cal P w K mg base CX0 3 "invert_row" ["sizes", "row"] (sp_invert_row K)) : FnOk P w K mg base CX0 4 f fd ["self", "state"] (sp_RowCounter__is_feasible P w CC K) := by
  refine F.ok sc_RowCounter__is_feasible (fun vs H Q E h => ?_) (fun cdv A outer s H vs Q E hr h => ?_)
  · obtain ⟨p, c, s, zs, tgt, tot, cs, pl, rfl, _⟩ := h
    rfl
  obtain ⟨p, c, s, zs, tgt, tot, cs, pl, rfl, S0, hC, ⟨sb, hs1, hs2⟩, hl, hP, hp100, q⟩ := h
  refine ⟨_, (pss_cons (ps_asg (gv 1) (pg_nm (K := K) (is := [2, 3]) (pgs_cons (pg_name (i := 2) sc_RowCounter__is_feasible.nd rfl (.inl rfl)) (pgs_cons (pg_name (i := 3) sc_RowCounter__is_feasible.nd rfl (.inl rfl)) pgs_nil)) nm2))
      (pss_cons (ps_set (i := 4) sc_RowCounter__is_feasible.nd rfl (.inl rfl) (pe_cal C_tally (hr.mono (by decide)) pass0 (pa_cons (pe_fldG (K := K) (gv 0)) (pa_cons (pe_cal C_reduce_row (hr.mono (by decide)) pass0 (pa_cons (pe_fldG (K := K) (gv 0)) (pa_cons (pe_op (op_addG (K := K)) (pe_cal C_invert_row (hr.mono (by decide)) pass0 (pa_cons (pe_fldG (K := K) (gv 0)) (pa_cons (gv 3) pa_nil))) (pe_fldG (K := K) (gv 0))) pa_nil))) pa_nil))))
      (pss_one (ps_ret (pe_callB (cr_allG (K := K) rfl) (by rfl) B.all bt_all (pa_cons (pe_lc (own := [("there", 5), ("needed", 6)]) (by rfl) sc_RowCounter__is_feasible.nd (pi_zip2G (K := K) B.zip (pa_cons (gv 2) (pa_cons (gv 4) pa_nil))) (blkOk_by (N := ["self", "state", "remaining", "placed", "missing", "there", "needed"]) (sc := defScope s_RowCounter__is_feasible) (by decide +kernel)) (fun _ _ _ _ _ => (pg_nm (K := K) (is := [5, 6]) (pgs_cons (pg_name (i := 5) sc_RowCounter__is_feasible.nd rfl (.inl rfl)) (pgs_cons (pg_name (i := 6) sc_RowCounter__is_feasible.nd rfl (.inl rfl)) pgs_nil)) nm2)) (fun _ _ _ _ _ => pts_nil) (fun _ _ _ _ _ => (pe_cmpR op_geG (gv 5) (gv 6) (nomark _)))) pa_nil)))))), ?_⟩
  obtain ⟨a, st, dx, e1, hT, hst⟩ := hC.ex
  have hiv : OkR zs (inv (szN zs) pl) := fun k hk => hP k (inv_mem hk)
  have hil : (inv (szN zs) pl).length ≤ 400 := inv_len S0.z hP hp100
  have hn := S0.n
  refine ⟨_, hs1, CC, dx, _, _, e1, T.cl, T.n1, rfl, CC, dx, _, _, e1, T.cl, T.n1, rfl, CC, dx, _, _, e1, T.cl, T.n1, rfl, a, zs, pl, rfl, hT, S0.z, hP, by omega, fun H1 s1 => ?_⟩
  refine ⟨CC, dx, _, _, s1 _ _ e1, T.cl, T.n2, rfl, ⟨by show (inv (szN zs) pl).length + tgt.length ≤ _; omega, a, zs, inv (szN zs) pl ++ tgt, rfl, s1.tup hT, S0.z, fun k hk => ?_, by rw [List.length_append]; omega, fun H2 s2 => ?_⟩⟩
  · exact (List.mem_append.mp hk).elim (hiv k) (S0.t k)
  refine ⟨a, zs, res (szN zs) (inv (szN zs) pl ++ tgt), rfl, (s1.trans s2).tup hT, S0.z, fun H3 t s3 nt et => ?_⟩
  have s03 := s1.trans (s2.trans s3)
  refine ⟨_, _, .tup sb ((csI cs).map V.int), .tup t ((cntI zs.length (res (szN zs) (inv (szN zs) pl ++ tgt))).map V.int), rfl, ⟨rfl, s03.tup hs2⟩, ⟨rfl, SqT.of et⟩, fun D hD => ?_⟩
  have en : min (Src.tup sb ((csI cs).map V.int)).items.length (Src.tup t ((cntI zs.length (res (szN zs) (inv (szN zs) pl ++ tgt))).map V.int)).items.length = zs.length := by
    show min ((csI cs).map V.int).length ((cntI zs.length (res (szN zs) (inv (szN zs) pl ++ tgt))).map V.int).length = _
    rw [List.length_map, List.length_map, List.length_map, cntI_len, hl]; omega
  rw [en]
  have h6 := S0.z.six
  refine lc_it walk_jt (fun j H' => Same H3 H' ∧ H' D = some (.lst (((List.range j).map fun i => decide (((res (szN zs) (inv (szN zs) pl ++ tgt)).count (97 + i) : Int) ≤ ((cs.getD i 0 : Nat) : Int))).map V.bl))) ⟨same_upd hD, upd_same⟩ ?_ ?_ ?_
  · rintro j H4 hj ⟨s4, _⟩
    exact ⟨(s03.trans s4).tup hs2, SqT.of (s4 _ _ et)⟩
  · rintro j x H4 H5 hj ⟨s4, hD4⟩ ⟨TT, xs, rfl, hTn, rfl, u1, u2, e3, e4, rfl⟩
    have hjc : j < cs.length := by omega
    have e3' : ((csI cs).map V.int)[j]? = some u1 := e3
    have e4' : ((cntI zs.length (res (szN zs) (inv (szN zs) pl ++ tgt))).map V.int)[j]? = some u2 := e4
    rw [List.getElem?_map, cntI_get _ hj] at e4'
    rw [List.getElem?_map, List.getElem?_map, List.getElem?_eq_getElem hjc] at e3'
    cases e4'
    have hg : cs[j] = cs.getD j 0 := by rw [List.getD_eq_getElem?_getD, List.getElem?_eq_getElem hjc]; rfl
    rw [hg] at e3'
    cases e3'
    have s7 := same_upd (o := .tup [.int ((cs.getD j 0 : Nat) : Int), .int (((res (szN zs) (inv (szN zs) pl ++ tgt)).count (97 + j) : Nat) : Int)]) hTn
    refine ⟨_, SqT.of upd_same, rfl, _, s7 _ _ hD4, by rw [List.length_map, List.length_map, List.length_range]; exact small1000 (by omega), (s4.trans s7).at hD, ?_⟩
    rw [upd_same, List.range_succ, List.map_append, List.map_append]
    rfl
  · rintro H4 ⟨s4, hD4⟩
    refine ⟨_, SqL.of hD4, ?_⟩
    have e : ((List.range zs.length).map fun i => decide (((res (szN zs) (inv (szN zs) pl ++ tgt)).count (97 + i) : Int) ≤ ((cs.getD i 0 : Nat) : Int))).all id = decide (Feas (szN zs) tgt cs pl) := by
      rw [Bool.eq_iff_iff, List.all_eq_true, decide_eq_true_iff]
      unfold Feas
      constructor
      · intro h j hj
        have := h _ (List.mem_map.mpr ⟨j, List.mem_range.mpr (by omega), rfl⟩)
        have := of_decide_eq_true this
        omega
      · intro h b hb
        obtain ⟨j, hj, rfl⟩ := List.mem_map.mp hb
        have := h j (by have := List.mem_range.mp hj; omega)
        exact decide_eq_true (by omega)
    rw [e]
    exact q H4 (s03.trans s4)

-- NEEDS counter2
theorem getN_put (k : SK) (a : Addr) (v : V) : ∀ kvs : List NE, getN (putN kvs k a v) k = some v := by
  intro kvs
  unfold putN
  split
  · rename_i h
    induction kvs with
    | nil => simp [getN] at h
    | cons e r ih =>
      rw [List.map_cons]
      unfold getN at h ⊢
      by_cases he : e.1 = k
      · simp [he]
      · rw [if_neg he] at h ⊢
        rw [if_neg he]
        exact ih h
  · rename_i h
    induction kvs with
    | nil => simp [getN]
    | cons e r ih =>
      rw [List.cons_append]
      unfold getN at h ⊢
      by_cases he : e.1 = k
      · rw [if_pos he] at h
        simp at h
      · rw [if_neg he] at h ⊢
        exact ih h
theorem getN_mem {k : SK} {v : V} : ∀ {kvs : List NE}, getN kvs k = some v → ∃ e ∈ kvs, e.1 = k ∧ e.2.2 = v
  | [], h => by simp [getN] at h
  | e :: r, h => by
    unfold getN at h
    by_cases he : e.1 = k
    · rw [if_pos he] at h
      exact ⟨e, by simp, he, Option.some.inj h⟩
    · rw [if_neg he] at h
      obtain ⟨e', h1, h2⟩ := getN_mem h
      exact ⟨e', by simp [h1], h2⟩
theorem getN_none {k : SK} : ∀ {kvs : List NE}, getN kvs k = none → ∀ e ∈ kvs, e.1 ≠ k
  | [], _, _, h => by simp at h
  | e :: r, h, e', h' => by
    unfold getN at h
    by_cases he : e.1 = k
    · rw [if_pos he] at h
      cases h
    · rw [if_neg he] at h
      rcases List.mem_cons.mp h' with rfl | h'
      · exact he
      · exact getN_none h e' h'
theorem csI_inj {a b : List Nat} (h : csI a = csI b) : a = b := (List.map_inj_right (f := fun c : Nat => ((c : Nat) : Int)) (fun x y z => by omega)).mp h
theorem skey_inj {a b c d : List Nat} (h : skey a b = skey c d) : a = c ∧ b = d := by
  have h1 : csI a = csI c := congrArg Prod.fst h
  exact ⟨csI_inj h1, congrArg Prod.snd h⟩
section
variable {zs : List Int} {tgt tot : List Nat} {H H' : Hp}
theorem CInv.len (S0 : CtrS zs tgt tot) {kvs : List NE} (h : CInv K zs tgt tot H kvs) : kvs.length ≤ 8015872 := by
  have hb : ∀ e ∈ kvs, ∃ cs pl, e.1 = skey cs pl ∧ GoodS (szN zs) tgt tot cs pl := fun e he => by
    obtain ⟨_, cs, pl, h1, h2, _⟩ := h.ok e he
    exact ⟨cs, pl, h1, h2⟩
  have back : ∀ cs : List Nat, (csI cs).map Int.toNat = cs := fun cs => by
    rw [csI, List.map_map]
    conv => rhs; rw [← List.map_id cs]
    exact List.map_congr_left fun c _ => Int.toNat_natCast c
  have e : (kvs.map fun e => (e.1.1.map Int.toNat, e.1.2)).length = kvs.length := List.length_map _
  rw [← e]
  refine states_le (sz := szN zs) (fun k => szN_pos S0.z k) S0.m (tgt := tgt) (tot := tot) ?_ ?_
  · have hn := h.nd
    clear e
    have : ∀ l : List NE, (∀ e ∈ l, ∃ cs pl, e.1 = skey cs pl ∧ GoodS (szN zs) tgt tot cs pl) → (l.map (·.1)).Nodup → (l.map fun e => (e.1.1.map Int.toNat, e.1.2)).Nodup := by
      intro l
      induction l with
      | nil => intro _ _; exact List.nodup_nil
      | cons x r ih =>
        intro h1 h2
        rw [List.map_cons, List.nodup_cons] at h2 ⊢
        refine ⟨fun z => h2.1 ?_, ih (fun e he => h1 e (by simp [he])) h2.2⟩
        obtain ⟨y, hy, e2⟩ := List.mem_map.mp z
        obtain ⟨cs, pl, e3, _⟩ := h1 x (by simp)
        obtain ⟨cs', pl', e4, _⟩ := h1 y (by simp [hy])
        rw [e3, e4] at e2
        have e5 : (csI cs').map Int.toNat = (csI cs).map Int.toNat := congrArg Prod.fst e2
        rw [back, back] at e5
        have e6 : pl' = pl := congrArg Prod.snd e2
        refine List.mem_map.mpr ⟨y, hy, ?_⟩
        rw [e4, e3, e5, e6]
    exact this kvs hb hn
  · intro x hx
    obtain ⟨e, he, rfl⟩ := List.mem_map.mp hx
    obtain ⟨cs, pl, h1, h2⟩ := hb e he
    rw [h1]
    show GoodS (szN zs) tgt tot ((csI cs).map Int.toNat) pl
    rw [back]
    exact h2
theorem CInv.put {kvs : List NE} (h : CInv K zs tgt tot H kvs) {cs pl : List Nat} {a : Addr} (hg : GoodS (szN zs) tgt tot cs pl) (hs : StAt K H (skey cs pl) a) :
    CInv K zs tgt tot H (putN kvs (skey cs pl) a (.int ((wl (szN zs) tgt cs.sum cs pl).length : Nat))) := by
  unfold putN
  split
  · refine ⟨?_, fun e he => ?_⟩
    · have e : (kvs.map fun e => if e.1 = skey cs pl then (e.1, e.2.1, V.int ((wl (szN zs) tgt cs.sum cs pl).length : Nat)) else e).map (·.1) = kvs.map (·.1) := by
        rw [List.map_map]
        refine List.map_congr_left fun e _ => ?_
        show (if e.1 = skey cs pl then (e.1, e.2.1, V.int ((wl (szN zs) tgt cs.sum cs pl).length : Nat)) else e).1 = e.1
        split <;> rfl
      rw [e]
      exact h.nd
    · obtain ⟨e0, he0, rfl⟩ := List.mem_map.mp he
      obtain ⟨h1, cs', pl', h2, h3, h4⟩ := h.ok e0 he0
      split
      · rename_i hk
        exact ⟨h1, cs, pl, hk, hg, rfl⟩
      · exact ⟨h1, cs', pl', h2, h3, h4⟩
  · rename_i hn
    have hn' : getN kvs (skey cs pl) = none := by
      cases hh : getN kvs (skey cs pl) with
      | none => rfl
      | some v => rw [hh] at hn; exact absurd rfl hn
    refine ⟨?_, fun e he => ?_⟩
    · rw [List.map_append, List.nodup_append]
      refine ⟨h.nd, by simp, fun x hx y hy => ?_⟩
      obtain ⟨e, he, rfl⟩ := List.mem_map.mp hx
      simp at hy
      subst hy
      exact getN_none hn' e he
    · rcases List.mem_append.mp he with he | he
      · exact h.ok e he
      · rw [List.mem_singleton.mp he]
        exact ⟨hs, cs, pl, rfl, hg, rfl⟩
end

-- NEEDS counter3
section
theorem subw_bound : ∀ {s : Nat} {d w : List Nat}, w ∈ subw s d → w.length ≤ s
  | 0, d, w, h => by
    unfold subw at h
    simp at h
    subst h
    simp
  | s + 1, d, w, h => by
    unfold subw at h
    rcases List.mem_cons.mp h with rfl | h
    · simp
    · obtain ⟨j, _, h2⟩ := List.mem_flatMap.mp h
      obtain ⟨u, h3, rfl⟩ := List.mem_map.mp h2
      have := subw_bound h3
      rw [List.length_cons]
      omega
theorem CntLe.len {d w : List Nat} (h : CntLe d w) : w.length ≤ d.sum := subw_bound (mem_subw rfl h)
theorem subv_len (tot v : List Nat) : (subv tot v).length = tot.length := by unfold subv; rw [List.length_map, List.length_range]
theorem subv_get {tot v : List Nat} {j : Nat} (h : j < tot.length) : (subv tot v).getD j 0 = tot.getD j 0 - v.getD j 0 := by
  unfold subv
  rw [List.getD_eq_getElem?_getD, List.getElem?_map, List.getElem?_range h]
  rfl
/-- cs are left of tot, pl is the residue of the beads placed -/
structure WSt (zs : List Int) (tot cs pl : List Nat) : Prop where
  v : VecLe tot cs
  c : CntLe (subv tot cs) pl
  r : res (szN zs) pl = pl
variable {zs : List Int} {tgt tot cs pl : List Nat}
theorem WSt.start : WSt zs tot tot [] := ⟨⟨rfl, fun _ => Nat.le_refl _⟩, ⟨fun k hk => by simp at hk, fun j _ => by simp⟩, rfl⟩
theorem WSt.len (h : WSt zs tot cs pl) (S0 : CtrS zs tgt tot) : cs.length = zs.length := h.v.1.trans S0.l
theorem WSt.ok (h : WSt zs tot cs pl) (S0 : CtrS zs tgt tot) : OkR zs pl := fun k hk => by
  have := h.c.1 k hk
  rw [subv_len, S0.l] at this
  exact this
theorem WSt.pl12 (h : WSt zs tot cs pl) (S0 : CtrS zs tgt tot) : pl.length ≤ 12 := by
  have h1 := h.c.len
  have h2 := subv_sum h.v
  have := S0.m
  omega
theorem WSt.sum12 (h : WSt zs tot cs pl) (S0 : CtrS zs tgt tot) : cs.sum ≤ 12 := by
  have h2 := subv_sum h.v
  have := S0.m
  omega
theorem WSt.next (h : WSt zs tot cs pl) (S0 : CtrS zs tgt tot) {j : Nat} (hj : j ∈ lft cs) : WSt zs tot (dec cs j) (res (szN zs) (pl ++ [97 + j])) := by
  obtain ⟨h1, h2⟩ := mem_lft.mp hj
  have hs : ∀ k, 1 ≤ szN zs k := fun k => szN_pos S0.z k
  have hg : ∀ i, (dec cs j).getD i 0 = if j = i then cs.getD j 0 - 1 else cs.getD i 0 := fun i => by unfold dec; exact getD_set h1
  have hl : cs.length = tot.length := h.v.1
  refine ⟨⟨(dec_len cs j).trans h.v.1, fun i => ?_⟩, ⟨fun k hk => ?_, fun i hi => ?_⟩, res_res hs _⟩
  · rw [hg i]
    have := h.v.2 i
    split
    · rename_i e
      subst e
      omega
    · exact this
  · rw [subv_len]
    rcases List.mem_append.mp (stk_mem hk) with z | z
    · have := h.c.1 k z
      rw [subv_len] at this
      exact this
    · rw [List.mem_singleton.mp z]
      omega
  · rw [subv_len] at hi
    rw [subv_get hi, hg i]
    refine Nat.le_trans (cnt_res_le hs _ _) ?_
    rw [List.count_append]
    have h3 := h.c.2 i (by rw [subv_len]; exact hi)
    rw [subv_get hi] at h3
    have h4 := h.v.2 i
    by_cases e : j = i
    · subst e
      rw [if_pos rfl, List.count_singleton_self]
      omega
    · rw [if_neg e, List.count_singleton, if_neg (by simp; omega)]
      omega
theorem WSt.good (h : WSt zs tot cs pl) (S0 : CtrS zs tgt tot) (hF : Feas (szN zs) tgt cs pl) : GoodS (szN zs) tgt tot cs pl := ⟨h.v, h.c, h.r, hF, fun k hk => by rw [S0.l]; exact S0.t k hk⟩
theorem csI_sum : ∀ cs : List Nat, (csI cs).sum = ((cs.sum : Nat) : Int)
  | [] => rfl
  | c :: r => by
    show (c : Int) + (csI r).sum = _
    rw [csI_sum r, List.sum_cons]
    omega
/-- how many rows lead on -/
abbrev wN (zs : List Int) (tgt cs pl : List Nat) : Nat := (wl (szN zs) tgt cs.sum cs pl).length
theorem wN_inf (h : WSt zs tot cs pl) (S0 : CtrS zs tgt tot) (hF : ¬ Feas (szN zs) tgt cs pl) : wN zs tgt cs pl = 0 := by
  by_cases e : wl (szN zs) tgt cs.sum cs pl = []
  · show (wl _ _ _ _ _).length = 0
    rw [e]
    rfl
  · exact absurd (wl_feasible (fun k => szN_pos S0.z k) rfl h.r e) hF
theorem wN_zero (h : cs.sum = 0) : wN zs tgt cs pl = if pl = tgt then 1 else 0 := by
  show (wl _ _ _ _ _).length = _
  rw [h]
  unfold wl
  split <;> rfl
theorem wN_sum {m : Nat} (h : cs.sum = m + 1) : wN zs tgt cs pl = ((lft cs).map fun j => wN zs tgt (dec cs j) (res (szN zs) (pl ++ [97 + j]))).sum := by
  show (wl _ _ _ _ _).length = _
  rw [h, wl_len]
  congr 1
  refine List.map_congr_left fun j hj => ?_
  show _ = (wl _ _ _ _ _).length
  rw [dec_sum hj h]
end

-- NEEDS counter4
section
variable {CC : Addr} {zs : List Int} {tgt tot : List Nat} {H H' : Hp} {p c : Addr}
theorem DN_lst {a : Addr} {kvs : List NE} (xs : List V) : DN P w a kvs ≠ .lst xs := fun z => by unfold DN at z; cases z
theorem DN_ins {a : Addr} {kvs : List NE} (C d : Addr) (fs : List (Str × V)) : DN P w a kvs ≠ .ins C d fs := fun z => by unfold DN at z; cases z
/-- the cache written anew, all else as it was -/
theorem Ctr.sameB (h : Ctr P w K CC zs tgt tot H p c) (s : SameB c H H') {kvs : List NE} (h1 : H' c = some (DN P w c kvs)) (h2 : CInv K zs tgt tot H' kvs) : Ctr P w K CC zs tgt tot H' p c := by
  obtain ⟨a, st, dx, h3, h4, h5⟩ := h.ex
  obtain ⟨kv, h6, _⟩ := h.ch
  exact ⟨⟨a, st, dx, s _ _ (ne_of h3 h6 fun z => DN_ins _ _ _ z.symm) h3, sameX s h6 DN_tup DN_frz h4, h5.sameX s h6 DN_tup DN_frz⟩, kvs, h1, h2⟩
theorem Ctr.wr (h : Ctr P w K CC zs tgt tot H p c) {D : Addr} {acc : List V} {o : HO} (hD : H D = some (.lst acc)) : Ctr P w K CC zs tgt tot (upd H D o) p c := by
  obtain ⟨a, st, dx, h3, h4, h5⟩ := h.ex
  obtain ⟨kv, h6, h7⟩ := h.ch
  have s : SameB D H (upd H D o) := sameB_upd
  exact ⟨⟨a, st, dx, s _ _ (ne_of h3 hD fun z => by cases z) h3, sameX s hD (fun _ z => by cases z) (fun _ _ z => by cases z) h4, h5.sameX s hD (fun _ z => by cases z) (fun _ _ z => by cases z)⟩, kv, s _ _ (ne_of h6 hD fun z => DN_lst _ z) h6, h7.nd, fun e he => ⟨(h7.ok e he).1.sameX s hD (fun _ z => by cases z) (fun _ _ z => by cases z), (h7.ok e he).2⟩⟩
theorem SucAt.sameX {cs pl : List Nat} {j : Nat} {v : V} {o : HO} (h : SucAt K H zs cs pl j v) (s : SameB c H H') (hc : H c = some o) (h1 : ∀ xs, o ≠ .tup xs) (h2 : ∀ ob u, o ≠ .frz ob u) : SucAt K H' zs cs pl j v := by
  obtain ⟨T, s2, e, g1, g2⟩ := h
  exact ⟨T, s2, e, Pk.sameX s hc h1 h2 g1, g2.sameX s hc h1 h2⟩
theorem paired_get {α β : Type} {R : α → β → Prop} : ∀ {l : List α} {m : List β}, Paired R l m → ∀ {i : Nat} {x : α}, l[i]? = some x → ∃ y, m[i]? = some y ∧ R x y
  | _, _, .nil, _, _, e => by simp at e
  | _, _, .cons h _, 0, _, e => by cases e; exact ⟨_, rfl, h⟩
  | _, _, .cons _ h, i + 1, _, e => paired_get h (i := i) e
end
abbrev s_RowCounter__ways : Stmt := (C8.clsBody (topS 29)).getD 3 (.Pass ⟨0, 0, 0, 0⟩)
theorem sc_RowCounter__ways : FnScope ["self", "state", "bead", "follower"] ["self", "state"] (defScope s_RowCounter__ways) := ⟨rfl, rfl, rfl, by decide +kernel, rfl, by decide +kernel, by decide +kernel⟩

def sp_waysN (n : Nat) (P : Program) (w : World) (CC : Addr) (K : PySem.W.Frag) : Sp := fun vs H Q _ => ∃ (p c s : Addr) (zs : List Int) (tgt tot cs pl : List Nat), vs = [.ref p, .ref s] ∧ CtrS zs tgt tot ∧ Ctr P w K CC zs tgt tot H p c ∧ StAt K H (skey cs pl) s ∧ WSt zs tot cs pl ∧ cs.sum ≤ n ∧
  ∀ H', SameB c H H' → Ctr P w K CC zs tgt tot H' p c → Q (.int (wN zs tgt cs pl : Nat)) H'
def sp_RowCounter__ways (P : Program) (w : World) (CC : Addr) (K : PySem.W.Frag) : Sp := sp_waysN 12 P w CC K
theorem ok_waysS {n : Nat} {f : Addr} {fd : FuncData} (F : Fun K "ways" "RowCounter.ways" s_RowCounter__ways f fd) (B : Bi mg) {CC : Addr} (T : CtrT K CC) (C_RowCounter__is_feasible : MCal P w K mg base CX0 4 CC "is_feasible" ["self", "state"] (sp_RowCounter__is_feasible P w CC K)) (C_RowCounter__successors : MCal P w K mg base CX0 4 CC "successors" ["self", "state"] (sp_RowCounter__successors P w CC K)) (C_self : MCal P w K mg base CX0 (8 + n) CC "ways" ["self", "state"] (sp_waysN n P w CC K)) : FnOk P w K mg base CX0 (9 + n) f fd ["self", "state"] (sp_waysN (n + 1) P w CC K) := by
  rw [show 9 + n = (8 + n) + 1 by omega]
  refine F.ok sc_RowCounter__ways (fun vs H Q E h => ?_) (fun cdv A outer s H vs Q E hr h => ?_)
  · obtain ⟨p, c, s, zs, tgt, tot, cs, pl, rfl, _⟩ := h
    rfl
  obtain ⟨p, c, s, zs, tgt, tot, cs, pl, rfl, S0, hC, hS, hW, hn, q⟩ := h
  refine ⟨_, (pss_cons (ps_if (pt_not (pt_truG (K := K) (pe_mcal (gv 0) C_RowCounter__is_feasible (hr.mono (by omega)) pass0 (pa_cons (gv 1) pa_nil))))
      (pss_one (ps_ret pe_int))
      pss_nil)
      (pss_cons (ps_if (pt_cmpG (op_eqG (K := K) hr.units) (pe_callB (cr_sumG2 (K := K) rfl) (by rfl) B.sum bt_sum (pa_cons (pe_ix (ixG (K := K)) (gv 1) pe_int (fun _ _ => rfl)) pa_nil)) pe_int (nomark _))
      (pss_one (ps_ret (pe_callTy cr_intG2 (by rfl) B.int bt_int (pa_cons (pe_cmpR (op_eqG (K := K) hr.units) (pe_ix (ixG (K := K)) (gv 1) pe_int (fun _ _ => rfl)) (pe_fldG (K := K) (gv 0)) (nomark _)) pa_nil))))
      pss_nil)
      (pss_cutG (ps_if (pt_cmpG (op_notInN hr.units) (gv 1) (pe_fldG (K := K) (gv 0)) rfl)
      (pss_one (ps_asg (pe_callB (cr_sumG2 (K := K) rfl) (by rfl) B.sum bt_sum (pa_cons (pe_lc (own := [("bead", 2), ("follower", 3)]) (by rfl) sc_RowCounter__ways.nd (pi_seqG (K := K) (pe_mcal (gv 0) C_RowCounter__successors (hr.mono (by omega)) pass0 (pa_cons (gv 1) pa_nil))) (blkOk_by (N := ["self", "state", "bead", "follower"]) (sc := defScope s_RowCounter__ways) (by decide +kernel)) (fun _ _ _ _ _ => (pg_nm (K := K) (is := [2, 3]) (pgs_cons (pg_name (i := 2) sc_RowCounter__ways.nd rfl (.inl rfl)) (pgs_cons (pg_name (i := 3) sc_RowCounter__ways.nd rfl (.inl rfl)) pgs_nil)) nm2)) (fun _ _ _ _ _ => pts_nil) (fun _ _ _ _ _ => (pe_mcal (gv 0) C_self hr pass0 (pa_cons (gv 3) pa_nil)))) pa_nil)) (pg_sub (pe_fldG (K := K) (gv 0)) (gv 1) (set_N hr.units))))
      pss_nil)
      (pss_one (ps_ret (pe_ix (ixN_ hr.units) (pe_fldG (K := K) (gv 0)) (gv 1) (fun _ _ => rfl))))))), ?_⟩
  obtain ⟨a, st, dx, e1, hT, hst⟩ := hC.ex
  obtain ⟨kvs, ec, hI⟩ := hC.ch
  refine ⟨dx, _, e1, rfl, p, c, s, zs, tgt, tot, cs, pl, rfl, S0, hC, hS, hW.len S0, hW.ok S0, by have := hW.pl12 S0; omega, fun H1 s1 => ?_⟩
  have C1 := hC.same s1
  refine iteB ⟨fun e => ?_, fun e => ?_⟩
  · have hF : ¬ Feas (szN zs) tgt cs pl := by simpa using e
    have := q H1 (SameB.of s1) C1
    rw [wN_inf hW S0 hF] at this
    exact this
  have hF : Feas (szN zs) tgt cs pl := by simpa using e
  obtain ⟨sb, hs1, hs2⟩ := hS
  refine ⟨_, _, .inr (s1.tup hs1), rfl, _, .inr (s1.tup hs2), ?_⟩
  refine iteB ⟨fun e => ?_, fun e => ?_⟩
  · have hz : cs.sum = 0 := by
      have := of_decide_eq_true e
      have h2 : (csI cs).sum = 0 := this
      rw [csI_sum] at h2
      omega
    have := q H1 (SameB.of s1) C1
    rw [wN_zero hz] at this
    refine ⟨_, _, .inr (s1.tup hs1), rfl, CC, dx, _, _, s1 _ _ e1, T.cl, T.n2, rfl, ?_⟩
    show Q (.int (if id (decide (tl (S pl) = tl (S tgt))) = true then 1 else 0)) H1
    rw [tl_S, tl_S]
    by_cases h : pl = tgt
    · rw [if_pos h] at this
      rw [if_pos (by simpa using h)]
      exact this
    · rw [if_neg h] at this
      rw [if_neg (by simpa using h)]
      exact this
  have hz : ∃ m, cs.sum = m + 1 := by
    refine ⟨cs.sum - 1, ?_⟩
    have h2 : ¬ (csI cs).sum = 0 := fun h => e (decide_eq_true h)
    rw [csI_sum] at h2
    omega
  obtain ⟨m, hm⟩ := hz
  obtain ⟨kv1, ec1, hI1⟩ := C1.ch
  have hS1 : StAt K H1 (skey cs pl) s := ⟨sb, s1.tup hs1, s1.tup hs2⟩
  refine ⟨fun σ H' => ∃ y2 y3, σ = [some (.ref p), some (.ref s), y2, y3] ∧ SameB c H1 H' ∧ Ctr P w K CC zs tgt tot H' p c ∧ ∃ kv, H' c = some (DN P w c kv) ∧ CInv K zs tgt tot H' kv ∧ getN kv (skey cs pl) = some (.int (wN zs tgt cs pl : Nat)), ?_, ?_⟩
  · refine ⟨CC, dx, _, _, s1 _ _ e1, T.cl, T.n4, rfl, s, c, kv1, skey cs pl, rfl, rfl, ⟨ec1, hS1, fun e he => (hI1.ok e he).1⟩, ?_⟩
    refine iteB ⟨fun e => ?_, fun e => ?_⟩
    · refine ⟨dx, _, s1 _ _ e1, rfl, p, c, s, zs, tgt, tot, cs, pl, rfl, S0, C1, hS1, hW.len S0, hW.ok S0, by have := hW.pl12 S0; omega, fun H2 t vs' s2 nt et hL => ?_⟩
      have C2 := C1.same s2
      have ec2 := s2 _ _ ec1
      have ntc : t ≠ c := (ne_of_none ec1 nt).symm
      refine .inl ⟨_, SqL.of et, fun D hD => ?_⟩
      have nDc : D ≠ c := (ne_of_none ec2 hD).symm
      have nDt : D ≠ t := (ne_of_none et hD).symm
      have hlen : (lft cs).length = vs'.length := paired_len hL
      refine lc_list (xs := vs') (fun j H' => SameB c H2 H' ∧ Ctr P w K CC zs tgt tot H' p c ∧ H' D = some (.lst ((((lft cs).take j).map fun i => ((wN zs tgt (dec cs i) (res (szN zs) (pl ++ [97 + i])) : Nat) : Int)).map V.int))) ⟨SameB.of (same_upd hD), C2.same (same_upd hD), upd_same⟩ ?_ ?_ ?_
      · rintro i H' hi ⟨b3, _, _⟩
        exact SqL.of (b3 _ _ ntc et)
      · rintro i x H' hx ⟨b3, C3, eD⟩
        have hi : i < vs'.length := (List.getElem?_eq_some_iff.mp hx).1
        have hi' : i < (lft cs).length := by omega
        obtain ⟨y, hy, TT, s3, rfl, g1, g2⟩ := paired_get hL (List.getElem?_eq_getElem hi')
        rw [hx] at hy
        cases hy
        have hj : (lft cs)[i] ∈ lft cs := List.getElem_mem hi'
        obtain ⟨a3, st3, dx3, e3, _, _⟩ := C3.ex
        refine ⟨_, sameX b3 ec2 DN_tup DN_frz g1, rfl, dx3, _, e3, rfl, p, c, s3, zs, tgt, tot, _, _, rfl, S0, C3, g2.sameX b3 ec2 DN_tup DN_frz, hW.next S0 hj, by rw [dec_sum hj hm]; omega, fun H4 b4 C4 => ?_⟩
        refine ⟨_, b4 _ _ nDc eD, ?_, ?_⟩
        · rw [List.length_map, List.length_map]
          exact small1000 (by have := lft_len cs; have := List.length_take_le i (lft cs); have := hW.sum12 S0; omega)
        · have b5 : SameB c H2 (upd H4 D (.lst ((((lft cs).take i).map fun i => ((wN zs tgt (dec cs i) (res (szN zs) (pl ++ [97 + i])) : Nat) : Int)).map V.int ++ [.int (wN zs tgt (dec cs (lft cs)[i]) (res (szN zs) (pl ++ [97 + (lft cs)[i]])) : Nat)]))) := (b3.trans b4).at hD
          refine ⟨b5, ?_, ?_⟩
          · exact C4.wr (b4 _ _ nDc eD)
          · rw [upd_same, List.take_succ, List.getElem?_eq_getElem hi', List.map_append, List.map_append]
            rfl
      · rintro H' ⟨b3, C3, eD⟩
        refine ⟨_, .inl (SqL.of eD), ?_⟩
        obtain ⟨a3, st3, dx3, e3, _, _⟩ := C3.ex
        obtain ⟨kv3, ek3, hI3⟩ := C3.ch
        have hS3 : StAt K H' (skey cs pl) s := (hS1.same s2).sameX b3 ec2 DN_tup DN_frz
        refine ⟨CC, dx3, _, _, e3, T.cl, T.n4, rfl, s, c, kv3, skey cs pl, rfl, rfl, ⟨ek3, hS3, fun e he => (hI3.ok e he).1⟩, by have := hI3.len S0; omega, ?_⟩
        have ev : (((lft cs).take vs'.length).map fun i => ((wN zs tgt (dec cs i) (res (szN zs) (pl ++ [97 + i])) : Nat) : Int)).sum = ((wN zs tgt cs pl : Nat) : Int) := by
          rw [← hlen, List.take_length, wN_sum hm, ← csI_sum, csI, List.map_map]
          rfl
        rw [ev]
        have b4 : SameB c H' (upd H' c (DN P w c (putN kv3 (skey cs pl) s (.int (wN zs tgt cs pl : Nat))))) := sameB_upd
        have hI4 : CInv K zs tgt tot (upd H' c (DN P w c (putN kv3 (skey cs pl) s (.int (wN zs tgt cs pl : Nat))))) (putN kv3 (skey cs pl) s (.int (wN zs tgt cs pl : Nat))) := by
          have h5 := hI3.put (hW.good S0 hF) hS3
          exact ⟨h5.nd, fun e he => ⟨(h5.ok e he).1.sameX b4 ek3 DN_tup DN_frz, (h5.ok e he).2⟩⟩
        exact ⟨_, _, rfl, (SameB.of s2).trans (b3.trans b4), C3.sameB b4 upd_same hI4, _, upd_same, hI4, getN_put _ _ _ _⟩
    · have e' : (getN kv1 (skey cs pl)).isSome = true := by cases h : (getN kv1 (skey cs pl)).isSome with | true => rfl | false => rw [h] at e; exact absurd rfl e
      obtain ⟨v, hv⟩ := Option.isSome_iff_exists.mp e'
      obtain ⟨ee, he1, he2, he3⟩ := getN_mem hv
      obtain ⟨_, cs', pl', h1, _, h2⟩ := hI1.ok ee he1
      obtain ⟨rfl, rfl⟩ := skey_inj (he2.symm.trans h1)
      exact ⟨_, _, rfl, SameB.of (Same.refl H1), C1, kv1, ec1, hI1, by rw [hv, ← he3, h2]⟩
  · rintro σ H' ⟨y2, y3, rfl, b1, C2, kv, ek, hIk, hg⟩
    obtain ⟨a', st', dx', e1', _, _⟩ := C2.ex
    refine ⟨CC, dx', _, _, e1', T.cl, T.n4, rfl, s, c, kv, skey cs pl, _, rfl, rfl, ⟨ek, hS1.sameX b1 ec1 DN_tup DN_frz, fun e he => (hIk.ok e he).1⟩, hg, q H' ((SameB.of s1).trans b1) C2⟩
theorem ok_ways0 {f : Addr} {fd : FuncData} (F : Fun K "ways" "RowCounter.ways" s_RowCounter__ways f fd) (B : Bi mg) {CC : Addr} (T : CtrT K CC) (C_RowCounter__is_feasible : MCal P w K mg base CX0 4 CC "is_feasible" ["self", "state"] (sp_RowCounter__is_feasible P w CC K)) : FnOk P w K mg base CX0 8 f fd ["self", "state"] (sp_waysN 0 P w CC K) := by
  refine F.ok sc_RowCounter__ways (fun vs H Q E h => ?_) (fun cdv A outer s H vs Q E hr h => ?_)
  · obtain ⟨p, c, s, zs, tgt, tot, cs, pl, rfl, _⟩ := h
    rfl
  obtain ⟨p, c, s, zs, tgt, tot, cs, pl, rfl, S0, hC, hS, hW, hn, q⟩ := h
  refine ⟨_, (pss_cons (ps_if (pt_not (pt_truG (K := K) (pe_mcal (gv 0) C_RowCounter__is_feasible (hr.mono (by omega)) pass0 (pa_cons (gv 1) pa_nil))))
      (pss_one (ps_ret pe_int))
      pss_nil)
      (pss_cons (ps_if (pt_cmpG (op_eqG (K := K) hr.units) (pe_callB (cr_sumG2 (K := K) rfl) (by rfl) B.sum bt_sum (pa_cons (pe_ix (ixG (K := K)) (gv 1) pe_int (fun _ _ => rfl)) pa_nil)) pe_int (nomark _))
      (pss_one (ps_ret (pe_callTy cr_intG2 (by rfl) B.int bt_int (pa_cons (pe_cmpR (op_eqG (K := K) hr.units) (pe_ix (ixG (K := K)) (gv 1) pe_int (fun _ _ => rfl)) (pe_fldG (K := K) (gv 0)) (nomark _)) pa_nil))))
      pss_nil)
      (pss_cutG (ps_if (pt_cmpG (op_notInN hr.units) (gv 1) (pe_fldG (K := K) (gv 0)) rfl)
      (pss_one ps_never)
      pss_nil)
      (pss_one (ps_ret (pe_ix (ixN_ hr.units) (pe_fldG (K := K) (gv 0)) (gv 1) (fun _ _ => rfl))))))), ?_⟩
  obtain ⟨a, st, dx, e1, hT, hst⟩ := hC.ex
  obtain ⟨kvs, ec, hI⟩ := hC.ch
  refine ⟨dx, _, e1, rfl, p, c, s, zs, tgt, tot, cs, pl, rfl, S0, hC, hS, hW.len S0, hW.ok S0, by have := hW.pl12 S0; omega, fun H1 s1 => ?_⟩
  have C1 := hC.same s1
  refine iteB ⟨fun e => ?_, fun e => ?_⟩
  · have hF : ¬ Feas (szN zs) tgt cs pl := by simpa using e
    have := q H1 (SameB.of s1) C1
    rw [wN_inf hW S0 hF] at this
    exact this
  have hF : Feas (szN zs) tgt cs pl := by simpa using e
  obtain ⟨sb, hs1, hs2⟩ := hS
  refine ⟨_, _, .inr (s1.tup hs1), rfl, _, .inr (s1.tup hs2), ?_⟩
  have hz : cs.sum = 0 := by omega
  refine iteB ⟨fun e => ?_, fun e => ?_⟩
  · have := q H1 (SameB.of s1) C1
    rw [wN_zero hz] at this
    refine ⟨_, _, .inr (s1.tup hs1), rfl, CC, dx, _, _, s1 _ _ e1, T.cl, T.n2, rfl, ?_⟩
    show Q (.int (if id (decide (tl (S pl) = tl (S tgt))) = true then 1 else 0)) H1
    rw [tl_S, tl_S]
    by_cases h : pl = tgt
    · rw [if_pos h] at this
      rw [if_pos (by simpa using h)]
      exact this
    · rw [if_neg h] at this
      rw [if_neg (by simpa using h)]
      exact this
  · refine absurd (decide_eq_true ?_) e
    show (csI cs).sum = 0
    rw [csI_sum, hz]
    rfl
theorem ok_RowCounter__ways {f : Addr} {fd : FuncData} (F : Fun K "ways" "RowCounter.ways" s_RowCounter__ways f fd) (B : Bi mg) {CC : Addr} (T : CtrT K CC) (MT : Meth K CC "ways" f) (Bd : Binds K fd ["self", "state"] []) (C_RowCounter__is_feasible : MCal P w K mg base CX0 4 CC "is_feasible" ["self", "state"] (sp_RowCounter__is_feasible P w CC K)) (C_RowCounter__successors : MCal P w K mg base CX0 4 CC "successors" ["self", "state"] (sp_RowCounter__successors P w CC K)) : FnOk P w K mg base CX0 20 f fd ["self", "state"] (sp_RowCounter__ways P w CC K) := by
  have : ∀ n : Nat, FnOk P w K mg base CX0 (8 + n) f fd ["self", "state"] (sp_waysN n P w CC K) := by
    intro n
    induction n with
    | zero => exact ok_ways0 F B T C_RowCounter__is_feasible
    | succ n ih =>
      have := ok_waysS F B T C_RowCounter__is_feasible C_RowCounter__successors ⟨T.cl, f, fd, MT, Bd, ih⟩
      rw [show 9 + n = 8 + (n + 1) by omega] at this
      exact this
  exact this 12

-- NEEDS counter5
/-- the colors that lead on -/
abbrev via (zs : List Int) (tgt cs pl : List Nat) : List Nat := (lft cs).filter fun j => decide (0 < wN zs tgt (dec cs j) (res (szN zs) (pl ++ [97 + j])))

-- NEEDS checks

-- NEEDS counter6
/-- all rows that the row reaches, in ascending order -/
abbrev reachL (zs : List Int) (l : List Nat) : List (List Nat) := wl (szN zs) (res (szN zs) l) (cntN zs.length l).sum (cntN zs.length l) []
theorem cntN_get {n j : Nat} (l : List Nat) (h : j < n) : (cntN n l).getD j 0 = l.count (97 + j) := by
  rw [List.getD_eq_getElem?_getD, List.getElem?_map, List.getElem?_range h]
  rfl
theorem cntN_len (n : Nat) (l : List Nat) : (cntN n l).length = n := by rw [List.length_map, List.length_range]
theorem map_sum_add {f g : Nat → Nat} : ∀ L : List Nat, (L.map fun j => f j + g j).sum = (L.map f).sum + (L.map g).sum
  | [] => rfl
  | x :: r => by
    rw [List.map_cons, List.sum_cons, map_sum_add r, List.map_cons, List.map_cons, List.sum_cons, List.sum_cons]
    omega
theorem one_sum : ∀ (n k : Nat), k < n → ((List.range n).map fun j => if k = j then 1 else 0).sum = 1
  | 0, k, h => by omega
  | n + 1, k, h => by
    rw [List.range_succ, List.map_append, List.sum_append]
    by_cases e : k = n
    · subst e
      have : ((List.range k).map fun j => if k = j then 1 else 0).sum = 0 := by
        have : ∀ L : List Nat, (∀ x ∈ L, x < k) → (L.map fun j => if k = j then 1 else 0).sum = 0 := by
          intro L
          induction L with
          | nil => intro _; rfl
          | cons x r ih =>
            intro hx
            have h1 := hx x (by simp)
            rw [List.map_cons, List.sum_cons, ih fun y hy => hx y (by simp [hy]), if_neg (by omega)]
        exact this _ fun x hx => List.mem_range.mp hx
      rw [this]
      simp
    · rw [one_sum n k (by omega)]
      simp [e]
theorem cntN_sum {n : Nat} : ∀ {l : List Nat}, (∀ k ∈ l, 97 ≤ k ∧ k < 97 + n) → (cntN n l).sum = l.length
  | [], _ => by
    have : ∀ L : List Nat, (L.map fun j => ([] : List Nat).count (97 + j)).sum = 0 := by
      intro L
      induction L with
      | nil => rfl
      | cons x r ih => rw [List.map_cons, List.sum_cons, ih]; rfl
    exact this _
  | k :: r, h => by
    have hk := h k (by simp)
    have e : (cntN n (k :: r)) = (List.range n).map fun j => r.count (97 + j) + if k - 97 = j then 1 else 0 := by
      refine List.map_congr_left fun j _ => ?_
      rw [List.count_cons]
      by_cases e : k - 97 = j
      · rw [if_pos e, if_pos (by simp; omega)]
      · rw [if_neg e, if_neg (by simp; omega)]
    rw [e, map_sum_add (f := fun j => r.count (97 + j)), one_sum _ _ (by omega), show ((List.range n).map fun j => r.count (97 + j)) = cntN n r from rfl, cntN_sum fun y hy => h y (by simp [hy]), List.length_cons]
section
variable {zs : List Int} {l : List Nat}
theorem ctrs_of (hZ : OkZ zs) (hL : OkR zs l) (hl : l.length ≤ 12) : CtrS zs (res (szN zs) l) (cntN zs.length l) :=
  ⟨hZ, fun k hk => hL k (stk_mem hk), res_res (fun k => szN_pos hZ k) l, cntN_len _ _, by rw [cntN_sum hL]; exact hl, Nat.le_trans (stk_len l) hl⟩
theorem cnt_iff (hL : OkR zs l) {m : List Nat} : Cnt (cntN zs.length l) m ↔ OkR zs m ∧ cntN zs.length m = cntN zs.length l := by
  unfold Cnt
  rw [cntN_len]
  constructor
  · rintro ⟨h1, h2⟩
    refine ⟨h1, List.map_congr_left fun j hj => ?_⟩
    have hj' := List.mem_range.mp hj
    rw [h2 j hj', cntN_get l hj']
  · rintro ⟨h1, h2⟩
    refine ⟨h1, fun j hj => ?_⟩
    rw [← h2, cntN_get m hj]
theorem mem_reach (hZ : OkZ zs) (hL : OkR zs l) {m : List Nat} : m ∈ reachL zs l ↔ OkR zs m ∧ cntN zs.length m = cntN zs.length l ∧ res (szN zs) m = res (szN zs) l := by
  rw [mem_wl (fun k => szN_pos hZ k) rfl rfl, cnt_iff hL, List.nil_append, and_assoc]
theorem reach_same (h1 : cntN zs.length m = cntN zs.length l) (h2 : res (szN zs) m = res (szN zs) l) : reachL zs m = reachL zs l := by
  show wl _ _ _ _ _ = wl _ _ _ _ _
  rw [h1, h2]
theorem self_reach (hZ : OkZ zs) (hL : OkR zs l) : l ∈ reachL zs l := (mem_reach hZ hL).mpr ⟨hL, rfl, rfl⟩
end

-- NEEDS m_reach
theorem cnt_perm {n : Nat} {l m : List Nat} (hl : ∀ k ∈ l, 97 ≤ k ∧ k < 97 + n) (hm : ∀ k ∈ m, 97 ≤ k ∧ k < 97 + n) : cntN n m = cntN n l ↔ m.Perm l := by
  constructor
  · intro h
    rw [List.perm_iff_count]
    intro k
    by_cases hk : 97 ≤ k ∧ k < 97 + n
    · have h1 := cntN_get (n := n) (j := k - 97) m (by omega)
      have h2 := cntN_get (n := n) (j := k - 97) l (by omega)
      rw [h, h2, show 97 + (k - 97) = k by omega] at h1
      exact h1.symm
    · rw [List.count_eq_zero.mpr fun z => hk (hm k z), List.count_eq_zero.mpr fun z => hk (hl k z)]
  · intro h
    exact List.map_congr_left fun j _ => h.count_eq _

-- NEEDS m_reach short
section
variable {CC : Addr} {zs : List Int} {l : List Nat}
theorem same_B {c : Addr} {H H1 H2 : Hp} (s : Same H H1) (b : SameB c H1 H2) (hc : H c = none) : Same H H2 := fun x o e => b x o (ne_of_none e hc) (s x o e)
/-- a new counter -/
theorem make_ctr {H : Hp} {a : Addr} (hT : SqT K H a (zs.map V.int)) (hZ : OkZ zs) (hL : OkR zs l) (hl : l.length ≤ 12) {G : Addr → Hp → Prop} {E : XK}
    (q : ∀ x c H', Same H H' → H c = none → Ctr P w K CC zs (res (szN zs) l) (cntN zs.length l) H' x c → G x H') (x dx : Addr) (h1 : H x = none) (h2 : H dx = none) (h3 : dx ≠ x) :
    sp_RowCounter____init__ P w CC K [.ref x, .ref a, .str (S l)] (upd (upd H dx (.own x)) x (.ins CC dx [])) (fun v H2 => v = .non ∧ G x H2) E := by
  have s1 : Same H (upd (upd H dx (.own x)) x (.ins CC dx [])) := (same_upd h2).at h1
  refine ⟨x, a, dx, zs, l, rfl, upd_same, s1.tup hT, hZ, hL, hl, fun H' c b hc C => ⟨rfl, q x c H' (same_B s1 b h1) ?_ C⟩⟩
  cases e : H c with
  | none => rfl
  | some o => rw [s1 _ _ e] at hc; cases hc
end

-- NEEDS m_reach
/-! ### ranks -/
abbrev wlS (zs : List Int) (tgt cs pl : List Nat) : List (List Nat) := wl (szN zs) tgt cs.sum cs pl
abbrev fm (L : Nat → List (List Nat)) (js : List Nat) : List (List Nat) := js.flatMap fun j => (L j).map fun w => (97 + j) :: w
theorem fm_filter (L : Nat → List (List Nat)) : ∀ js : List Nat, fm L js = fm L (js.filter fun j => decide (0 < (L j).length))
  | [] => rfl
  | j :: r => by
    have ih := fm_filter L r
    rw [List.filter_cons]
    split
    · show _ ++ fm L r = _ ++ fm L _
      rw [← ih]
    · rename_i h
      have e : L j = [] := by
        have : ¬ 0 < (L j).length := by simpa using h
        exact List.length_eq_zero_iff.mp (by omega)
      show (L j).map _ ++ fm L r = _
      rw [e, ← ih]
      rfl
theorem fm_get (L : Nat → List (List Nat)) : ∀ (js : List Nat) (i j u : Nat), js[i]? = some j → u < (L j).length → (fm L js)[((js.take i).map fun j => (L j).length).sum + u]? = ((L j)[u]?).map fun w => (97 + j) :: w
  | [], _, _, _, h, _ => by simp at h
  | j0 :: r, 0, j, u, h, hu => by
    cases h
    show ((L j0).map _ ++ fm L r)[0 + u]? = _
    rw [Nat.zero_add, List.getElem?_append_left (by rw [List.length_map]; exact hu), List.getElem?_map]
  | j0 :: r, i + 1, j, u, h, hu => by
    have ih := fm_get L r i j u (by simpa using h) hu
    show ((L j0).map _ ++ fm L r)[_]? = _
    rw [List.take_succ_cons, List.map_cons, List.sum_cons, List.getElem?_append_right (by rw [List.length_map]; omega), List.length_map, ← ih]
    congr 1
    omega
theorem fm_len (L : Nat → List (List Nat)) : ∀ js : List Nat, (fm L js).length = (js.map fun j => (L j).length).sum
  | [] => rfl
  | j :: r => by
    show ((L j).map _ ++ fm L r).length = _
    rw [List.length_append, List.length_map, fm_len L r, List.map_cons, List.sum_cons]
section
variable {zs : List Int} {tgt cs pl : List Nat} {m : Nat}
abbrev fol (zs : List Int) (tgt cs pl : List Nat) (j : Nat) : List (List Nat) := wlS zs tgt (dec cs j) (res (szN zs) (pl ++ [97 + j]))
theorem wl_all (h : cs.sum = m + 1) : wlS zs tgt cs pl = fm (fol zs tgt cs pl) (lft cs) := by
  show wl _ _ _ _ _ = _
  rw [h]
  unfold wl
  unfold fm
  rw [List.flatMap_def, List.flatMap_def]
  congr 1
  refine List.map_congr_left fun j hj => ?_
  show _ = (wl _ _ _ _ _).map _
  rw [dec_sum hj h]
theorem wl_via (h : cs.sum = m + 1) : wlS zs tgt cs pl = fm (fol zs tgt cs pl) (via zs tgt cs pl) := by
  rw [wl_all h]
  exact fm_filter _ _
theorem via_get (h : cs.sum = m + 1) {i j u : Nat} (h1 : (via zs tgt cs pl)[i]? = some j) (h2 : u < wN zs tgt (dec cs j) (res (szN zs) (pl ++ [97 + j]))) :
    (wlS zs tgt cs pl)[(((via zs tgt cs pl).take i).map fun j => wN zs tgt (dec cs j) (res (szN zs) (pl ++ [97 + j]))).sum + u]? = ((fol zs tgt cs pl j)[u]?).map fun w => (97 + j) :: w := by
  rw [wl_via h]
  exact fm_get _ _ i j u h1 h2
theorem via_len (h : cs.sum = m + 1) : wN zs tgt cs pl = ((via zs tgt cs pl).map fun j => wN zs tgt (dec cs j) (res (szN zs) (pl ++ [97 + j]))).sum := by
  show (wlS zs tgt cs pl).length = _
  rw [wl_via h, fm_len]
theorem via_lft {j : Nat} (h : j ∈ via zs tgt cs pl) : j ∈ lft cs := (List.mem_filter.mp h).1
theorem via_cons (h : cs.sum = m + 1) {k : Nat} {u : List Nat} (hu : k :: u ∈ wlS zs tgt cs pl) : ∃ j, k = 97 + j ∧ j ∈ via zs tgt cs pl ∧ u ∈ fol zs tgt cs pl j := by
  rw [wl_via h] at hu
  obtain ⟨j, h1, h2⟩ := List.mem_flatMap.mp hu
  obtain ⟨w, h3, h4⟩ := List.mem_map.mp h2
  cases h4
  exact ⟨j, rfl, h1, h3⟩
theorem wl_lens (hs : ∀ k, 1 ≤ szN zs k) (hp : res (szN zs) pl = pl) {u : List Nat} (h : u ∈ wlS zs tgt cs pl) : u.length = cs.sum := by
  have h1 := ((mem_wl hs rfl hp).mp h).1
  have e : cntN cs.length u = cs := by
    refine List.ext_getElem? fun j => ?_
    by_cases hj : j < cs.length
    · rw [List.getElem?_map, List.getElem?_range hj, List.getElem?_eq_getElem hj]
      have := h1.2 j hj
      rw [List.getD_eq_getElem?_getD, List.getElem?_eq_getElem hj] at this
      exact congrArg some this
    · rw [List.getElem?_eq_none (by rw [cntN_len]; omega), List.getElem?_eq_none (by omega)]
  have h2 := cntN_sum (n := cs.length) h1.1
  rw [e] at h2
  exact h2.symm
end
/-- the first place of j -/
theorem first_at {j : Nat} : ∀ {l : List Nat}, j ∈ l → ∃ i : Nat, l[i]? = some j ∧ ∀ i' : Nat, i' < i → l[i']? ≠ some j
  | [], h => by simp at h
  | x :: r, h => by
    by_cases e : x = j
    · exact ⟨0, by rw [e]; rfl, fun i' hi => by omega⟩
    · obtain ⟨i, h1, h2⟩ := first_at (l := r) (by
        rcases List.mem_cons.mp h with h | h
        · exact absurd h.symm e
        · exact h)
      refine ⟨i + 1, by simpa using h1, fun i' hi => ?_⟩
      cases i' with
      | zero => intro z; exact e (Option.some.inj z)
      | succ i' => simpa using h2 i' (by omega)
theorem sum_take_succ {f : Nat → Nat} {l : List Nat} {i j : Nat} (h : l[i]? = some j) : ((l.take (i + 1)).map f).sum = ((l.take i).map f).sum + f j := by
  rw [List.take_succ, h, List.map_append, List.sum_append]
  simp

-- NEEDS reach m_rank
def RInv (P : Program) (w : World) (K : PySem.W.Frag) (CC : Addr) (zs : List Int) (l : List Nat) (k : Nat) (a x c : Addr) (H : Hp) (m : Nat) (σ : L2.St) (H' : Hp) : Prop :=
  ∃ (r : Nat) (s : Addr) (cs pl pre : List Nat) (y6 y7 y8 : Option V), σ = [some (.ref a), some (.str (S l)), some (.int (r : Nat)), some (.ref x), some (.ref s), some (.str (S pre)), y6, y7, y8] ∧ Same H H' ∧ Ctr P w K CC zs (res (szN zs) l) (cntN zs.length l) H' x c ∧ StAt K H' (skey cs pl) s ∧ WSt zs (cntN zs.length l) cs pl ∧
    pre.length + cs.sum = l.length ∧ m = cs.sum ∧ r < wN zs (res (szN zs) l) cs pl ∧ (reachL zs l)[k]? = ((wlS zs (res (szN zs) l) cs pl)[r]?).map fun w => pre ++ w

-- NEEDS reach2
abbrev smB (zs : List Int) (tgt cs pl : List Nat) (i : Nat) : Nat := (((via zs tgt cs pl).take i).map fun j => wN zs tgt (dec cs j) (res (szN zs) (pl ++ [97 + j]))).sum

-- NEEDS reach3
/-- the first or the last place -/
abbrev ixE (b : Bool) (n : Nat) : Nat := if b then n - 1 else 0
section
variable {zs : List Int} {tgt cs pl : List Nat} {m : Nat}
theorem via_pos {j : Nat} (h : j ∈ via zs tgt cs pl) : 0 < wN zs tgt (dec cs j) (res (szN zs) (pl ++ [97 + j])) := of_decide_eq_true (List.mem_filter.mp h).2
theorem step_end (hm : cs.sum = m + 1) {b : Bool} {g : List Nat} (h : (wlS zs tgt cs pl)[ixE b (wN zs tgt cs pl)]? = some g) :
    ∃ j g', (via zs tgt cs pl)[ixE b (via zs tgt cs pl).length]? = some j ∧ g = (97 + j) :: g' ∧ (fol zs tgt cs pl j)[ixE b (wN zs tgt (dec cs j) (res (szN zs) (pl ++ [97 + j])))]? = some g' := by
  have hl := via_len (zs := zs) (tgt := tgt) (pl := pl) hm
  have hpos : 0 < wN zs tgt cs pl := by
    have := (List.getElem?_eq_some_iff.mp h).1
    exact Nat.lt_of_le_of_lt (Nat.zero_le _) this
  have hv : 0 < (via zs tgt cs pl).length := by
    cases e : via zs tgt cs pl with
    | nil =>
      rw [e] at hl
      have hl' : wN zs tgt cs pl = 0 := hl
      omega
    | cons x r => simp
  have hi : ixE b (via zs tgt cs pl).length < (via zs tgt cs pl).length := by
    cases b with
    | false => exact hv
    | true => show _ - 1 < _; omega
  have hj := List.getElem?_eq_getElem hi
  have hjm : (via zs tgt cs pl)[ixE b (via zs tgt cs pl).length] ∈ via zs tgt cs pl := List.getElem_mem hi
  generalize (via zs tgt cs pl)[ixE b (via zs tgt cs pl).length] = j at *
  have hp := via_pos hjm
  have hu : ixE b (wN zs tgt (dec cs j) (res (szN zs) (pl ++ [97 + j]))) < wN zs tgt (dec cs j) (res (szN zs) (pl ++ [97 + j])) := by
    cases b with
    | false => exact hp
    | true => show _ - 1 < _; omega
  have hg := via_get hm hj hu
  have e : smB zs tgt cs pl (ixE b (via zs tgt cs pl).length) + ixE b (wN zs tgt (dec cs j) (res (szN zs) (pl ++ [97 + j]))) = ixE b (wN zs tgt cs pl) := by
    cases b with
    | false => rfl
    | true =>
      have h1 : smB zs tgt cs pl ((via zs tgt cs pl).length - 1 + 1) = smB zs tgt cs pl ((via zs tgt cs pl).length - 1) + _ := sum_take_succ hj
      rw [show (via zs tgt cs pl).length - 1 + 1 = (via zs tgt cs pl).length by omega] at h1
      have h2 : smB zs tgt cs pl (via zs tgt cs pl).length = wN zs tgt cs pl := by
        show (((via zs tgt cs pl).take _).map _).sum = _
        rw [List.take_length, hl]
      show smB zs tgt cs pl ((via zs tgt cs pl).length - 1) + (wN zs tgt (dec cs j) (res (szN zs) (pl ++ [97 + j])) - 1) = wN zs tgt cs pl - 1
      have h3 : wN zs tgt cs pl = smB zs tgt cs pl ((via zs tgt cs pl).length - 1) + wN zs tgt (dec cs j) (res (szN zs) (pl ++ [97 + j])) := by rw [← h2, h1]
      omega
  rw [show (((via zs tgt cs pl).take (ixE b (via zs tgt cs pl).length)).map fun j => wN zs tgt (dec cs j) (res (szN zs) (pl ++ [97 + j]))).sum = smB zs tgt cs pl (ixE b (via zs tgt cs pl).length) from rfl, e, h] at hg
  obtain ⟨g', h1, h2⟩ := Option.map_eq_some_iff.mp hg.symm
  exact ⟨j, g', hj, h2.symm, h1⟩
end

-- NEEDS reach4
/-! ### the order of the rows -/
theorem lft_sorted (cs : List Nat) : (lft cs).Pairwise (· < ·) := List.pairwise_lt_range.filter _
theorem via_sorted (zs : List Int) (tgt cs pl : List Nat) : (via zs tgt cs pl).Pairwise (· < ·) := (lft_sorted cs).filter _
theorem wl_sorted {sz : Nat → Nat} {tgt : List Nat} : ∀ (m : Nat) (cs pl : List Nat), (wl sz tgt m cs pl).Pairwise (· < ·)
  | 0, cs, pl => by
    unfold wl
    split <;> simp
  | m + 1, cs, pl => by
    unfold wl
    rw [List.pairwise_flatMap]
    refine ⟨fun j _ => ?_, (lft_sorted cs).imp fun {j j'} h x hx y hy => ?_⟩
    · rw [List.pairwise_map]
      exact (wl_sorted m _ _).imp fun {x y} h => List.cons_lt_cons_iff.mpr (.inr ⟨rfl, h⟩)
    · obtain ⟨u, _, rfl⟩ := List.mem_map.mp hx
      obtain ⟨v, _, rfl⟩ := List.mem_map.mp hy
      exact List.cons_lt_cons_iff.mpr (.inl (by omega))
theorem wl_get_inj {sz : Nat → Nat} {tgt cs pl : List Nat} {m i k : Nat} {x : List Nat} (h1 : (wl sz tgt m cs pl)[i]? = some x) (h2 : (wl sz tgt m cs pl)[k]? = some x) : i = k := by
  have hp := wl_sorted (sz := sz) (tgt := tgt) m cs pl
  rw [List.pairwise_iff_getElem] at hp
  obtain ⟨a1, a2⟩ := List.getElem?_eq_some_iff.mp h1
  obtain ⟨b1, b2⟩ := List.getElem?_eq_some_iff.mp h2
  by_cases e1 : i < k
  · have := hp i k a1 b1 e1
    rw [a2, b2] at this
    exact absurd this (List.lt_irrefl x)
  · by_cases e2 : k < i
    · have := hp k i b1 a1 e2
      rw [a2, b2] at this
      exact absurd this (List.lt_irrefl x)
    · omega
theorem filt_gt {x : Nat} : ∀ {l : List Nat}, l.Pairwise (· < ·) → ∀ {i : Nat}, l[i]? = some x → l.filter (fun y => decide (x < y)) = l.drop (i + 1)
  | [], _, _, h => by simp at h
  | y :: r, hp, 0, h => by
    cases h
    rw [List.pairwise_cons] at hp
    rw [List.filter_cons, if_neg (by simp), List.drop_succ_cons, List.drop_zero]
    exact List.filter_eq_self.mpr fun z hz => decide_eq_true (hp.1 z hz)
  | y :: r, hp, i + 1, h => by
    rw [List.pairwise_cons] at hp
    have h' : r[i]? = some x := by simpa using h
    have := hp.1 x (List.mem_of_getElem? h')
    rw [List.filter_cons, if_neg (by simp; omega), List.drop_succ_cons, filt_gt hp.2 h']
theorem filt_lt {x : Nat} : ∀ {l : List Nat}, l.Pairwise (· < ·) → ∀ {i : Nat}, l[i]? = some x → l.filter (fun y => decide (y < x)) = l.take i
  | [], _, _, h => by simp at h
  | y :: r, hp, 0, h => by
    cases h
    rw [List.pairwise_cons] at hp
    rw [List.filter_cons, if_neg (by simp), List.take_zero]
    refine List.filter_eq_nil_iff.mpr fun z hz => ?_
    have := hp.1 z hz
    simp
    omega
  | y :: r, hp, i + 1, h => by
    rw [List.pairwise_cons] at hp
    have h' : r[i]? = some x := by simpa using h
    have := hp.1 x (List.mem_of_getElem? h')
    rw [List.filter_cons, if_pos (by simp; omega), List.take_succ_cons, filt_lt hp.2 h']
/-! ### the states along a row -/
abbrev csA (zs : List Int) (l : List Nat) (i : Nat) : List Nat := cntN zs.length (l.drop i)
abbrev plA (zs : List Int) (l : List Nat) (i : Nat) : List Nat := res (szN zs) (l.take i)
section
variable {zs : List Int} {l : List Nat} {i j : Nat}
theorem csA_sum (hL : OkR zs l) : (csA zs l i).sum = l.length - i := by rw [cntN_sum (hL.drop i), List.length_drop]
theorem drop_at (h : l[i]? = some (97 + j)) : l.drop i = (97 + j) :: l.drop (i + 1) := by
  obtain ⟨h1, h2⟩ := List.getElem?_eq_some_iff.mp h
  rw [List.drop_eq_getElem_cons h1, h2]
theorem csA_lft (hL : OkR zs l) (h : l[i]? = some (97 + j)) : j ∈ lft (csA zs l i) := by
  have hj := hL _ (List.mem_of_getElem? h)
  refine mem_lft.mpr ⟨by rw [cntN_len]; omega, ?_⟩
  rw [cntN_get _ (by omega), drop_at h, List.count_cons_self]
  omega
theorem csA_dec (hL : OkR zs l) (h : l[i]? = some (97 + j)) : dec (csA zs l i) j = csA zs l (i + 1) := by
  have hj := hL _ (List.mem_of_getElem? h)
  unfold dec
  refine List.ext_getElem? fun k => ?_
  by_cases hk : k < zs.length
  · rw [List.getElem?_map (l := List.range zs.length) (f := fun j => (l.drop (i + 1)).count (97 + j)), List.getElem?_range hk, List.getElem?_set, cntN_get _ (by omega), drop_at h]
    by_cases e : j = k
    · subst e
      rw [if_pos rfl, if_pos (by rw [cntN_len]; omega), List.count_cons_self]
      rfl
    · rw [if_neg e, List.getElem?_map, List.getElem?_range hk]
      show some ((l.drop i).count (97 + k)) = some ((l.drop (i + 1)).count (97 + k))
      rw [drop_at h, List.count_cons, if_neg (by simp; omega)]
      rfl
  · rw [List.getElem?_eq_none (by rw [List.length_set, cntN_len]; omega), List.getElem?_eq_none (by rw [cntN_len]; omega)]
theorem plA_next (hZ : OkZ zs) (h : l[i]? = some (97 + j)) : res (szN zs) (plA zs l i ++ [97 + j]) = plA zs l (i + 1) := by
  rw [res_cat (fun k => szN_pos hZ k), plA, List.take_add_one, h]
  rfl
theorem letter (hL : OkR zs l) (h : i < l.length) : ∃ j, l[i]? = some (97 + j) := by
  refine ⟨l[i] - 97, ?_⟩
  have := hL _ (List.getElem_mem h)
  rw [List.getElem?_eq_getElem h]
  congr 1
  omega
theorem wstA (hZ : OkZ zs) (hL : OkR zs l) (hl : l.length ≤ 12) : ∀ {i : Nat}, i ≤ l.length → WSt zs (cntN zs.length l) (csA zs l i) (plA zs l i)
  | 0, _ => .start
  | i + 1, h => by
    obtain ⟨j, hj⟩ := letter hL (show i < l.length by omega)
    have := (wstA hZ hL hl (show i ≤ l.length by omega)).next (ctrs_of hZ hL hl) (csA_lft hL hj)
    rw [csA_dec hL hj, plA_next hZ hj] at this
    exact this
theorem mem_A (hZ : OkZ zs) (hL : OkR zs l) : l.drop i ∈ wlS zs (res (szN zs) l) (csA zs l i) (plA zs l i) := by
  have hs : ∀ k, 1 ≤ szN zs k := fun k => szN_pos hZ k
  refine (mem_wl hs rfl (res_res hs _)).mpr ⟨(cnt_iff (hL.drop i)).mpr ⟨hL.drop i, rfl⟩, ?_⟩
  rw [res_cat hs, List.take_append_drop]
theorem via_A (hZ : OkZ zs) (hL : OkR zs l) (h : l[i]? = some (97 + j)) : j ∈ via zs (res (szN zs) l) (csA zs l i) (plA zs l i) := by
  have hm := mem_A (i := i) hZ hL
  rw [drop_at h] at hm
  have hi := (List.getElem?_eq_some_iff.mp h).1
  obtain ⟨m, e⟩ : ∃ m, (csA zs l i).sum = m + 1 := ⟨l.length - i - 1, by rw [csA_sum hL]; omega⟩
  obtain ⟨j', h1, h2, _⟩ := via_cons e hm
  have : j = j' := by omega
  subst this
  exact h2
end

-- NEEDS m_adj
section
variable (zs : List Int) (l : List Nat)
abbrev viaA (i : Nat) : List Nat := via zs (res (szN zs) l) (csA zs l i) (plA zs l i)
abbrev wnA (i : Nat) : Nat := wN zs (res (szN zs) l) (csA zs l i) (plA zs l i)
abbrev smA (i n : Nat) : Nat := smB zs (res (szN zs) l) (csA zs l i) (plA zs l i) n
abbrev ixA (i : Nat) : Nat := (viaA zs l i).idxOf (l.getD i 0 - 97)
/-- where the rows that begin as l, i beads long, begin -/
def oA : Nat → Nat
  | 0 => 0
  | i + 1 => oA i + smA zs l i (ixA zs l i)
/-- the rows before or behind -/
def nbr (b : Bool) (W : List (List Nat)) (k : Nat) : Option (List Nat) := if b then (if k = 0 then none else W[k - 1]?) else W[k + 1]?
def AInv (b : Bool) (i : Nat) : Prop := if b then oA zs l l.length = oA zs l i else oA zs l l.length + 1 = oA zs l i + wnA zs l i
abbrev optA (b : Bool) (i : Nat) : List Nat := if b then (viaA zs l i).take (ixA zs l i) else (viaA zs l i).drop (ixA zs l i + 1)
end
section
variable {zs : List Int} {l : List Nat} {i j : Nat}
theorem ixA_get (hZ : OkZ zs) (hL : OkR zs l) (h : l[i]? = some (97 + j)) : (viaA zs l i)[ixA zs l i]? = some j := by
  have hm := via_A hZ hL h
  have e : l.getD i 0 - 97 = j := by rw [List.getD_eq_getElem?_getD, h]; show 97 + j - 97 = j; omega
  unfold ixA
  rw [e, List.getElem?_eq_getElem (List.idxOf_lt_length_of_mem hm)]
  exact congrArg some (List.getElem_idxOf _)
theorem folA (hZ : OkZ zs) (hL : OkR zs l) (h : l[i]? = some (97 + j)) : fol zs (res (szN zs) l) (csA zs l i) (plA zs l i) j = wlS zs (res (szN zs) l) (csA zs l (i + 1)) (plA zs l (i + 1)) := by
  show wlS _ _ _ _ = _
  rw [csA_dec hL h, plA_next hZ h]
theorem smA_succ (hZ : OkZ zs) (hL : OkR zs l) (h : l[i]? = some (97 + j)) : smA zs l i (ixA zs l i + 1) = smA zs l i (ixA zs l i) + wnA zs l (i + 1) := by
  have h1 := sum_take_succ (f := fun j => wN zs (res (szN zs) l) (dec (csA zs l i) j) (res (szN zs) (plA zs l i ++ [97 + j]))) (ixA_get hZ hL h)
  have h2 : wN zs (res (szN zs) l) (dec (csA zs l i) j) (res (szN zs) (plA zs l i ++ [97 + j])) = wnA zs l (i + 1) := congrArg List.length (folA hZ hL h)
  rw [← h2]
  exact h1
theorem sumA (hL : OkR zs l) (h : i < l.length) : ∃ m, (csA zs l i).sum = m + 1 := ⟨l.length - i - 1, by rw [csA_sum hL]; omega⟩
theorem blkA (hZ : OkZ zs) (hL : OkR zs l) : ∀ {i : Nat}, i ≤ l.length → ∀ u, u < wnA zs l i → (reachL zs l)[oA zs l i + u]? = ((wlS zs (res (szN zs) l) (csA zs l i) (plA zs l i))[u]?).map fun w => l.take i ++ w
  | 0, _, u, hu => by
    show (reachL zs l)[0 + u]? = ((reachL zs l)[u]?).map _
    rw [Nat.zero_add]
    cases (reachL zs l)[u]? <;> rfl
  | i + 1, hi, u, hu => by
    obtain ⟨j, hj⟩ := letter hL (show i < l.length by omega)
    obtain ⟨m, hm⟩ := sumA hL (show i < l.length by omega)
    have hf := folA hZ hL hj
    have hu' : u < wN zs (res (szN zs) l) (dec (csA zs l i) j) (res (szN zs) (plA zs l i ++ [97 + j])) := by
      have : wN zs (res (szN zs) l) (dec (csA zs l i) j) (res (szN zs) (plA zs l i ++ [97 + j])) = wnA zs l (i + 1) := congrArg List.length hf
      omega
    have hv := via_get hm (ixA_get hZ hL hj) hu'
    rw [hf] at hv
    have hlt : smA zs l i (ixA zs l i) + u < wnA zs l i := by
      rw [List.getElem?_eq_getElem (show u < (wlS zs (res (szN zs) l) (csA zs l (i + 1)) (plA zs l (i + 1))).length from hu)] at hv
      exact (List.getElem?_eq_some_iff.mp hv).1
    have ih := blkA hZ hL (show i ≤ l.length by omega) _ hlt
    rw [hv, Option.map_map] at ih
    rw [oA, Nat.add_assoc, ih]
    congr 1
    funext w
    show l.take i ++ (97 + j) :: w = l.take (i + 1) ++ w
    rw [List.take_add_one, hj, List.append_assoc]
    rfl
theorem wnA_end (hZ : OkZ zs) (hL : OkR zs l) : wlS zs (res (szN zs) l) (csA zs l l.length) (plA zs l l.length) = [[]] := by
  have hm := mem_A (i := l.length) hZ hL
  have hz : (csA zs l l.length).sum = 0 := by rw [csA_sum hL]; omega
  rw [List.drop_length] at hm
  rw [show wlS zs (res (szN zs) l) (csA zs l l.length) (plA zs l l.length) = wl (szN zs) (res (szN zs) l) 0 (csA zs l l.length) (plA zs l l.length) by show wl _ _ _ _ _ = _; rw [hz]] at hm ⊢
  unfold wl at hm ⊢
  split at hm
  · rename_i h
    rw [if_pos h]
  · simp at hm
theorem oA_at (hZ : OkZ zs) (hL : OkR zs l) : (reachL zs l)[oA zs l l.length]? = some l := by
  have := blkA hZ hL (Nat.le_refl _) 0 (by show 0 < (wlS _ _ _ _).length; rw [wnA_end hZ hL]; decide)
  rw [wnA_end hZ hL] at this
  rw [Nat.add_zero] at this
  rw [this, List.take_length]
  show some (l ++ []) = _
  rw [List.append_nil]
theorem adj_start (hZ : OkZ zs) (hL : OkR zs l) (b : Bool) : AInv zs l b l.length := by
  cases b with
  | true => rfl
  | false =>
    show _ + 1 = _ + (wlS _ _ _ _).length
    rw [wnA_end hZ hL]
    rfl
theorem adj_end {b : Bool} (h : AInv zs l b 0) : nbr b (reachL zs l) (oA zs l l.length) = none := by
  cases b with
  | true =>
    have : oA zs l l.length = 0 := h
    unfold nbr
    rw [if_pos rfl, if_pos this]
  | false =>
    have h' : oA zs l l.length + 1 = 0 + (reachL zs l).length := h
    show (reachL zs l)[_]? = none
    exact List.getElem?_eq_none (by omega)
theorem adj_nil (hZ : OkZ zs) (hL : OkR zs l) {b : Bool} (hi : i < l.length) (h : AInv zs l b (i + 1)) (ho : optA zs l b i = []) : AInv zs l b i := by
  obtain ⟨j, hj⟩ := letter hL hi
  have hx := ixA_get hZ hL hj
  obtain ⟨m, hm⟩ := sumA hL hi
  cases b with
  | true =>
    have h' : oA zs l l.length = oA zs l i + smA zs l i (ixA zs l i) := h
    have ho' : (viaA zs l i).take (ixA zs l i) = [] := ho
    have : smA zs l i (ixA zs l i) = 0 := by
      show (((viaA zs l i).take (ixA zs l i)).map _).sum = 0
      rw [ho']
      rfl
    show _ = _
    omega
  | false =>
    have h' : oA zs l l.length + 1 = oA zs l i + smA zs l i (ixA zs l i) + wnA zs l (i + 1) := h
    have h2 := smA_succ hZ hL hj
    have ho' : (viaA zs l i).drop (ixA zs l i + 1) = [] := ho
    have h3 : (viaA zs l i).take (ixA zs l i + 1) = viaA zs l i := by
      conv => rhs; rw [← List.take_append_drop (ixA zs l i + 1) (viaA zs l i), ho', List.append_nil]
    have h4 : smA zs l i (ixA zs l i + 1) = wnA zs l i := by
      show (((viaA zs l i).take (ixA zs l i + 1)).map _).sum = _
      rw [h3]
      exact (via_len hm).symm
    show _ + 1 = _
    omega
theorem adj_some (hZ : OkZ zs) (hL : OkR zs l) {b : Bool} (hi : i < l.length) (h : AInv zs l b (i + 1)) {j' : Nat} {g : List Nat} (ho : (optA zs l b i)[ixE b (optA zs l b i).length]? = some j')
    (hg : (fol zs (res (szN zs) l) (csA zs l i) (plA zs l i) j')[ixE b (wN zs (res (szN zs) l) (dec (csA zs l i) j') (res (szN zs) (plA zs l i ++ [97 + j'])))]? = some g) : nbr b (reachL zs l) (oA zs l l.length) = some (l.take i ++ (97 + j') :: g) := by
  obtain ⟨j, hj⟩ := letter hL hi
  have hx := ixA_get hZ hL hj
  obtain ⟨m, hm⟩ := sumA hL hi
  have hu : ixE b (wN zs (res (szN zs) l) (dec (csA zs l i) j') (res (szN zs) (plA zs l i ++ [97 + j']))) < wN zs (res (szN zs) l) (dec (csA zs l i) j') (res (szN zs) (plA zs l i ++ [97 + j'])) := (List.getElem?_eq_some_iff.mp hg).1
  have key : ∀ n, (viaA zs l i)[n]? = some j' → (reachL zs l)[oA zs l i + (smA zs l i n + ixE b (wN zs (res (szN zs) l) (dec (csA zs l i) j') (res (szN zs) (plA zs l i ++ [97 + j']))))]? = some (l.take i ++ (97 + j') :: g) := fun n hn => by
    have hv := via_get hm hn hu
    rw [hg] at hv
    have hlt := (List.getElem?_eq_some_iff.mp hv).1
    rw [blkA hZ hL (Nat.le_of_lt hi) _ hlt, hv]
    rfl
  cases b with
  | true =>
    have h' : oA zs l l.length = oA zs l i + smA zs l i (ixA zs l i) := h
    have ho' : ((viaA zs l i).take (ixA zs l i))[((viaA zs l i).take (ixA zs l i)).length - 1]? = some j' := ho
    have hle : ixA zs l i < (viaA zs l i).length := (List.getElem?_eq_some_iff.mp hx).1
    rw [List.length_take, Nat.min_eq_left (Nat.le_of_lt hle)] at ho'
    have hpos : 0 < ixA zs l i := by
      have := (List.getElem?_eq_some_iff.mp ho').1
      rw [List.length_take] at this
      omega
    rw [List.getElem?_take, if_pos (by omega)] at ho'
    have hk := key _ ho'
    have hss : smA zs l i (ixA zs l i - 1 + 1) = smA zs l i (ixA zs l i - 1) + wN zs (res (szN zs) l) (dec (csA zs l i) j') (res (szN zs) (plA zs l i ++ [97 + j'])) := sum_take_succ ho'
    rw [show ixA zs l i - 1 + 1 = ixA zs l i by omega] at hss
    have hu' : wN zs (res (szN zs) l) (dec (csA zs l i) j') (res (szN zs) (plA zs l i ++ [97 + j'])) - 1 < wN zs (res (szN zs) l) (dec (csA zs l i) j') (res (szN zs) (plA zs l i ++ [97 + j'])) := hu
    unfold nbr
    rw [if_pos rfl, if_neg (by omega)]
    rw [← hk]
    congr 1
    show _ = _ + (_ + (wN _ _ _ _ - 1))
    omega
  | false =>
    have h' : oA zs l l.length + 1 = oA zs l i + smA zs l i (ixA zs l i) + wnA zs l (i + 1) := h
    have h2 := smA_succ hZ hL hj
    have ho' : ((viaA zs l i).drop (ixA zs l i + 1))[0]? = some j' := ho
    rw [List.getElem?_drop, Nat.add_zero] at ho'
    have hk := key _ ho'
    show (reachL zs l)[oA zs l l.length + 1]? = _
    rw [← hk]
    congr 1
    show _ = _ + (_ + 0)
    omega
end

-- NEEDS m_adj2 reach4
/-! the layers: the states of all reachable rows, bead by bead -/
abbrev StN := List Nat × List Nat
abbrev stA (zs : List Int) (w : List Nat) (i : Nat) : StN := (csA zs w i, plA zs w i)
abbrev nxtS (zs : List Int) (s : StN) (j : Nat) : StN := (dec s.1 j, res (szN zs) (s.2 ++ [97 + j]))
abbrev StE := StN × Nat
def stepsOf (zs : List Int) (tgt : List Nat) (L : List StN) : List StE := L.flatMap fun s => (via zs tgt s.1 s.2).map fun j => (s, j)
def addS (acc : List StN) (s : StN) : List StN := if s ∈ acc then acc else acc ++ [s]
def dedS (L : List StN) : List StN := L.foldl addS []
theorem dedS_snoc (L : List StN) (s : StN) : dedS (L ++ [s]) = addS (dedS L) s := by
  unfold dedS
  rw [List.foldl_append]
  rfl
theorem mem_addS {acc : List StN} {s t : StN} : t ∈ addS acc s ↔ t ∈ acc ∨ t = s := by
  unfold addS
  split
  · rename_i h
    constructor
    · exact .inl
    · rintro (h2 | rfl)
      · exact h2
      · exact h
  · simp
theorem nd_addS {acc : List StN} {s : StN} (h : acc.Nodup) : (addS acc s).Nodup := by
  unfold addS
  split
  · exact h
  · rename_i hn
    rw [List.nodup_append]
    refine ⟨h, by simp, fun a ha b hb z => ?_⟩
    rw [List.mem_singleton.mp hb] at z
    exact hn (z ▸ ha)
theorem dedS_ind {P : List StN → List StN → Prop} (h0 : P [] []) (hs : ∀ L s acc, P L acc → P (L ++ [s]) (addS acc s)) (L : List StN) : P L (dedS L) := by
  have : ∀ (R pre : List StN) (acc : List StN), P pre acc → P (pre ++ R) (R.foldl addS acc) := by
    intro R
    induction R with
    | nil => intro pre acc h; rw [List.append_nil]; exact h
    | cons s R ih =>
      intro pre acc h
      have := ih (pre ++ [s]) (addS acc s) (hs _ _ _ h)
      rw [List.append_assoc] at this
      exact this
  exact this L [] [] h0
theorem mem_dedS (L : List StN) : ∀ t, t ∈ dedS L ↔ t ∈ L := dedS_ind (P := fun L acc => ∀ t, t ∈ acc ↔ t ∈ L) (fun t => Iff.rfl) (fun L s acc h t => by rw [mem_addS, h]; simp) L
theorem nd_dedS (L : List StN) : (dedS L).Nodup := dedS_ind (P := fun _ acc => acc.Nodup) List.nodup_nil (fun _ _ _ h => nd_addS h) L
/-- the i-th layer -/
def LY (zs : List Int) (l : List Nat) : Nat → List StN
  | 0 => [stA zs l 0]
  | i + 1 => dedS ((stepsOf zs (res (szN zs) l) (LY zs l i)).map fun e => nxtS zs e.1 e.2)
abbrev SY (zs : List Int) (l : List Nat) (i : Nat) : List StE := stepsOf zs (res (szN zs) l) (LY zs l i)
theorem LY_nd (zs : List Int) (l : List Nat) : ∀ i, (LY zs l i).Nodup
  | 0 => by simp [LY]
  | i + 1 => nd_dedS _
section
variable {zs : List Int} {l : List Nat}
theorem splice (hZ : OkZ zs) (hL : OkR zs l) {i : Nat} (hi : i ≤ l.length) {v : List Nat} (h : v ∈ wlS zs (res (szN zs) l) (csA zs l i) (plA zs l i)) : l.take i ++ v ∈ reachL zs l := by
  obtain ⟨u, hu, e⟩ := List.getElem_of_mem h
  have := blkA hZ hL hi u hu
  rw [List.getElem?_eq_getElem hu, e] at this
  exact List.mem_of_getElem? this
theorem reach_facts (hZ : OkZ zs) (hL : OkR zs l) {w : List Nat} (hw : w ∈ reachL zs l) : OkR zs w ∧ w.length = l.length ∧ cntN zs.length w = cntN zs.length l ∧ res (szN zs) w = res (szN zs) l ∧ reachL zs w = reachL zs l := by
  obtain ⟨h1, h2, h3⟩ := (mem_reach hZ hL).mp hw
  have hl : w.length = l.length := by rw [← cntN_sum h1, h2, cntN_sum hL]
  exact ⟨h1, hl, h2, h3, reach_same h2 h3⟩
theorem sy_of (hZ : OkZ zs) (hL : OkR zs l) {i : Nat} (hi : i < l.length) (hly : ∀ s, s ∈ LY zs l i ↔ ∃ w ∈ reachL zs l, stA zs w i = s) : ∀ e : StE, e ∈ SY zs l i ↔ ∃ w ∈ reachL zs l, stA zs w i = e.1 ∧ w[i]? = some (97 + e.2) := by
  intro e
  unfold SY stepsOf
  rw [List.mem_flatMap]
  constructor
  · rintro ⟨s, hs, he⟩
    obtain ⟨j, hj, rfl⟩ := List.mem_map.mp he
    obtain ⟨w, hw, rfl⟩ := (hly s).mp hs
    obtain ⟨hW, hwl, _, hwr, hwe⟩ := reach_facts hZ hL hw
    rw [← hwr] at hj
    obtain ⟨m, hm⟩ := sumA hW (show i < w.length by omega)
    have hpos := via_pos hj
    obtain ⟨u, hu⟩ := List.length_pos_iff_exists_mem.mp hpos
    have hv : (97 + j) :: u ∈ wlS zs (res (szN zs) w) (csA zs w i) (plA zs w i) := by
      rw [wl_via hm]
      exact List.mem_flatMap.mpr ⟨j, hj, List.mem_map.mpr ⟨u, hu, rfl⟩⟩
    have hw' := splice hZ hW (by omega) hv
    rw [hwe] at hw'
    have htl : (w.take i).length = i := by rw [List.length_take]; omega
    have hat : (w.take i ++ (97 + j) :: u)[i]? = some (97 + j) := by rw [List.getElem?_append_right (by omega), htl, Nat.sub_self]; rfl
    refine ⟨_, hw', ?_, hat⟩
    have e1 : (w.take i ++ (97 + j) :: u).take i = w.take i := by rw [List.take_append_of_le_length (by omega), List.take_of_length_le (by omega)]
    obtain ⟨hW', hwl', hc', _, _⟩ := reach_facts hZ hL hw'
    obtain ⟨_, _, hc, _, _⟩ := reach_facts hZ hL hw
    show (csA zs _ i, plA zs _ i) = (csA zs w i, plA zs w i)
    have e2 : plA zs (w.take i ++ (97 + j) :: u) i = plA zs w i := by unfold plA; rw [e1]
    have e3 : csA zs (w.take i ++ (97 + j) :: u) i = csA zs w i := by
      have hd : (w.take i ++ (97 + j) :: u).drop i = (97 + j) :: u := by rw [List.drop_append_of_le_length (by omega), List.drop_of_length_le (by omega), List.nil_append]
      have hsplit : ∀ k, k < zs.length → ((w.take i ++ (97 + j) :: u).drop i).count (97 + k) = (w.drop i).count (97 + k) := fun k hk => by
        have c1 : (w.take i ++ (97 + j) :: u).count (97 + k) = w.count (97 + k) := by
          have h0 : (cntN zs.length (w.take i ++ (97 + j) :: u)).getD k 0 = (cntN zs.length w).getD k 0 := by rw [hc', hc]
          rw [cntN_get _ hk, cntN_get _ hk] at h0
          exact h0
        have c2 : w.count (97 + k) = (w.take i).count (97 + k) + (w.drop i).count (97 + k) := by rw [← List.count_append, List.take_append_drop]
        rw [List.count_append] at c1
        rw [hd]
        omega
      exact List.map_congr_left fun k hk => hsplit k (List.mem_range.mp hk)
    rw [e2, e3]
  · rintro ⟨w, hw, he, hat⟩
    obtain ⟨hW, hwl, _, hwr, hwe⟩ := reach_facts hZ hL hw
    have hv := via_A hZ hW hat
    rw [hwr] at hv
    obtain ⟨s, j⟩ := e
    have he : stA zs w i = s := he
    subst he
    exact ⟨_, (hly _).mpr ⟨w, hw, rfl⟩, List.mem_map.mpr ⟨j, hv, rfl⟩⟩
theorem ly_mem (hZ : OkZ zs) (hL : OkR zs l) : ∀ i, i ≤ l.length → ∀ s, s ∈ LY zs l i ↔ ∃ w ∈ reachL zs l, stA zs w i = s
  | 0, _, s => by
    show s ∈ [stA zs l 0] ↔ _
    rw [List.mem_singleton]
    constructor
    · rintro rfl
      exact ⟨l, self_reach hZ hL, rfl⟩
    · rintro ⟨w, hw, rfl⟩
      obtain ⟨_, _, hc, _, _⟩ := reach_facts hZ hL hw
      show (cntN zs.length (w.drop 0), res (szN zs) (w.take 0)) = (cntN zs.length (l.drop 0), res (szN zs) (l.take 0))
      rw [List.drop_zero, List.drop_zero, List.take_zero, List.take_zero, hc]
  | i + 1, hi, s => by
    have ih := ly_mem hZ hL i (by omega)
    have hsy := sy_of hZ hL (show i < l.length by omega) ih
    show s ∈ dedS _ ↔ _
    rw [mem_dedS, List.mem_map]
    constructor
    · rintro ⟨e, he, rfl⟩
      obtain ⟨w, hw, h1, h2⟩ := (hsy e).mp he
      obtain ⟨hW, _, _, _, _⟩ := reach_facts hZ hL hw
      refine ⟨w, hw, ?_⟩
      rw [← h1]
      show (csA zs w (i + 1), plA zs w (i + 1)) = (dec (csA zs w i) e.2, res (szN zs) (plA zs w i ++ [97 + e.2]))
      rw [csA_dec hW h2, plA_next hZ h2]
    · rintro ⟨w, hw, rfl⟩
      obtain ⟨hW, hwl, _, _, _⟩ := reach_facts hZ hL hw
      obtain ⟨j, hj⟩ := letter hW (show i < w.length by omega)
      refine ⟨(stA zs w i, j), (hsy _).mpr ⟨w, hw, rfl, hj⟩, ?_⟩
      show (dec (csA zs w i) j, res (szN zs) (plA zs w i ++ [97 + j])) = (csA zs w (i + 1), plA zs w (i + 1))
      rw [csA_dec hW hj, plA_next hZ hj]
theorem sy_mem (hZ : OkZ zs) (hL : OkR zs l) {i : Nat} (hi : i < l.length) (e : StE) : e ∈ SY zs l i ↔ ∃ w ∈ reachL zs l, stA zs w i = e.1 ∧ w[i]? = some (97 + e.2) := sy_of hZ hL hi (ly_mem hZ hL i (by omega)) e
theorem nd_flat {α β : Type} [DecidableEq α] (f : α → List β) (hf : ∀ a, (f a).Nodup) (hd : ∀ a b x, x ∈ f a → x ∈ f b → a = b) : ∀ {L : List α}, L.Nodup → (L.flatMap f).Nodup
  | [], _ => by simp
  | a :: L, h => by
    rw [List.flatMap_cons, List.nodup_append]
    obtain ⟨h1, h2⟩ := List.nodup_cons.mp h
    refine ⟨hf a, nd_flat f hf hd h2, fun x hx y hy z => ?_⟩
    subst z
    obtain ⟨b, hb, hy⟩ := List.mem_flatMap.mp hy
    exact h1 (hd a b x hx hy ▸ hb)
theorem sy_nd (zs : List Int) (l : List Nat) (i : Nat) : (SY zs l i).Nodup := by
  refine nd_flat _ (fun s => ?_) (fun a b x ha hb => ?_) (LY_nd zs l i)
  · have h := via_sorted zs (res (szN zs) l) s.1 s.2
    rw [List.nodup_iff_pairwise_ne, List.pairwise_map]
    exact h.imp fun h z => by
      have : _ = _ := congrArg Prod.snd z
      omega
  · obtain ⟨j, _, rfl⟩ := List.mem_map.mp ha
    obtain ⟨k, _, e⟩ := List.mem_map.mp hb
    exact (congrArg Prod.fst e).symm
theorem sy_len (hZ : OkZ zs) (hL : OkR zs l) {i : Nat} (hi : i < l.length) : (SY zs l i).length ≤ (reachL zs l).length := by
  rw [← List.length_map (as := reachL zs l) (f := fun w => (stA zs w i, w.getD i 0 - 97))]
  refine (sy_nd zs l i).length_le_of_subset fun e he => ?_
  obtain ⟨w, hw, h1, h2⟩ := (sy_mem hZ hL hi e).mp he
  refine List.mem_map.mpr ⟨w, hw, ?_⟩
  rw [List.getD_eq_getElem?_getD, h2, h1]
  show (e.1, 97 + e.2 - 97) = e
  rw [Nat.add_sub_cancel_left]
theorem ly_len (hZ : OkZ zs) (hL : OkR zs l) {i : Nat} (hi : i ≤ l.length) : (LY zs l i).length ≤ (reachL zs l).length := by
  rw [← List.length_map (as := reachL zs l) (f := fun w => stA zs w i)]
  refine (LY_nd zs l i).length_le_of_subset fun s hs => ?_
  obtain ⟨w, hw, h1⟩ := (ly_mem hZ hL i hi s).mp hs
  exact List.mem_map.mpr ⟨w, hw, h1⟩
theorem ly_wst (hZ : OkZ zs) (hL : OkR zs l) (hl : l.length ≤ 12) {i : Nat} (hi : i ≤ l.length) {s : StN} (h : s ∈ LY zs l i) : WSt zs (cntN zs.length l) s.1 s.2 := by
  obtain ⟨w, hw, rfl⟩ := (ly_mem hZ hL i hi s).mp h
  obtain ⟨hW, hwl, hc, _, _⟩ := reach_facts hZ hL hw
  have := wstA hZ hW (by omega) (show i ≤ w.length by omega)
  rw [hc] at this
  exact this
/-- the colors at a place -/
theorem sy_cols (hZ : OkZ zs) (hL : OkR zs l) {i : Nat} (hi : i < l.length) (k : Nat) : (∃ e ∈ SY zs l i, 97 + e.2 = k) ↔ ∃ w ∈ reachL zs l, w.getD i 0 = k := by
  constructor
  · rintro ⟨e, he, rfl⟩
    obtain ⟨w, hw, _, h2⟩ := (sy_mem hZ hL hi e).mp he
    exact ⟨w, hw, by rw [List.getD_eq_getElem?_getD, h2]; rfl⟩
  · rintro ⟨w, hw, rfl⟩
    obtain ⟨hW, hwl, _, _, _⟩ := reach_facts hZ hL hw
    obtain ⟨j, hj⟩ := letter hW (show i < w.length by omega)
    exact ⟨(stA zs w i, j), (sy_mem hZ hL hi _).mpr ⟨w, hw, rfl, hj⟩, by rw [List.getD_eq_getElem?_getD, hj]; rfl⟩
end

-- NEEDS m_reach m_adj m_adj2
def fac : Nat → Nat
  | 0 => 1
  | n + 1 => (n + 1) * fac n
theorem wl_fac {sz : Nat → Nat} {tgt : List Nat} : ∀ {m : Nat} {cs pl : List Nat}, cs.sum = m → (wl sz tgt m cs pl).length ≤ fac m
  | 0, cs, pl, _ => by
    unfold wl
    split <;> simp [fac]
  | m + 1, cs, pl, h => by
    rw [wl_len]
    have h1 : ∀ L : List Nat, (∀ j ∈ L, j ∈ lft cs) → (L.map fun j => (wl sz tgt m (dec cs j) (res sz (pl ++ [97 + j]))).length).sum ≤ L.length * fac m := by
      intro L
      induction L with
      | nil => intro _; simp
      | cons j r ih =>
        intro hj
        have a1 := ih fun y hy => hj y (by simp [hy])
        have a2 := wl_fac (sz := sz) (tgt := tgt) (pl := res sz (pl ++ [97 + j])) (dec_sum (hj j (by simp)) h)
        rw [List.map_cons, List.sum_cons, List.length_cons, Nat.succ_mul]
        omega
    have h2 := h1 (lft cs) fun _ z => z
    have h3 := lft_len cs
    rw [h] at h3
    exact Nat.le_trans h2 (Nat.mul_le_mul_right _ h3)
theorem fac_le {m : Nat} (h : m ≤ 12) : fac m ≤ 479001600 := by
  have e : m = 0 ∨ m = 1 ∨ m = 2 ∨ m = 3 ∨ m = 4 ∨ m = 5 ∨ m = 6 ∨ m = 7 ∨ m = 8 ∨ m = 9 ∨ m = 10 ∨ m = 11 ∨ m = 12 := by omega
  rcases e with rfl | rfl | rfl | rfl | rfl | rfl | rfl | rfl | rfl | rfl | rfl | rfl | rfl <;> decide
theorem reach_le {zs : List Int} {l : List Nat} (hL : OkR zs l) (hl : l.length ≤ 12) : (reachL zs l).length ≤ 479001600 := Nat.le_trans (wl_fac rfl) (fac_le (by rw [cntN_sum hL]; exact hl))
/-- a row that l reaches -/
theorem reach_of {zs : List Int} {l g : List Nat} (hZ : OkZ zs) (hL : OkR zs l) (hl : l.length ≤ 12) {k : Nat} (h : (reachL zs l)[k]? = some g) :
    OkR zs g ∧ g.length ≤ 12 ∧ cntN zs.length g = cntN zs.length l ∧ res (szN zs) g = res (szN zs) l ∧ reachL zs g = reachL zs l ∧ oA zs g g.length = k := by
  obtain ⟨h1, h2, h3⟩ := (mem_reach hZ hL).mp (List.mem_of_getElem? h)
  have hr := reach_same h2 h3
  refine ⟨h1, ?_, h2, h3, hr, ?_⟩
  · have := cntN_sum h1
    rw [h2, cntN_sum hL] at this
    omega
  · have := oA_at hZ h1
    rw [hr] at this
    exact wl_get_inj this h

-- NEEDS m_rank m_adj m_reachb
/-! all rows, by growing prefixes -/
abbrev Pst := List Nat × List Nat × List Nat
section
variable {zs : List Int} {tgt l : List Nat}
def rowsP (zs : List Int) (tgt : List Nat) (p : Pst) : List (List Nat) := (wlS zs tgt p.2.1 p.2.2).map fun w => p.1 ++ w
def kidsP (zs : List Int) (tgt : List Nat) (p : Pst) : List Pst := (via zs tgt p.2.1 p.2.2).map fun j => (p.1 ++ [97 + j], dec p.2.1 j, res (szN zs) (p.2.2 ++ [97 + j]))
theorem kids_rows {p : Pst} {m : Nat} (h : p.2.1.sum = m + 1) : (kidsP zs tgt p).flatMap (rowsP zs tgt) = rowsP zs tgt p := by
  obtain ⟨pre, cs, pl⟩ := p
  have h' : cs.sum = m + 1 := h
  unfold kidsP rowsP
  rw [List.flatMap_map]
  show (via zs tgt cs pl).flatMap (fun j => (fol zs tgt cs pl j).map fun w => (pre ++ [97 + j]) ++ w) = (wlS zs tgt cs pl).map fun w => pre ++ w
  rw [wl_via h', List.map_flatMap]
  congr 1
  funext j
  rw [List.map_map]
  congr 1
  funext w
  show pre ++ [97 + j] ++ w = pre ++ ((97 + j) :: w)
  rw [List.append_assoc]
  rfl
structure PInv (zs : List Int) (l : List Nat) (i : Nat) (L : List Pst) : Prop where
  rows : L.flatMap (rowsP zs (res (szN zs) l)) = reachL zs l
  each : ∀ p ∈ L, p.1.length = i ∧ p.2.1.sum + i = l.length ∧ WSt zs (cntN zs.length l) p.2.1 p.2.2 ∧ 0 < wN zs (res (szN zs) l) p.2.1 p.2.2
theorem PInv.start (hZ : OkZ zs) (hL : OkR zs l) : PInv zs l 0 [([], cntN zs.length l, [])] := by
  refine ⟨?_, fun p hp => ?_⟩
  · rw [List.flatMap_cons, List.flatMap_nil, List.append_nil]
    show (wlS zs (res (szN zs) l) (cntN zs.length l) []).map (fun w => [] ++ w) = _
    conv => rhs; rw [← List.map_id (reachL zs l)]
    rfl
  · rw [List.mem_singleton.mp hp]
    exact ⟨rfl, cntN_sum hL, .start, List.length_pos_of_mem (self_reach hZ hL)⟩
theorem PInv.step (S0 : CtrS zs (res (szN zs) l) (cntN zs.length l)) {i : Nat} {L : List Pst} (h : PInv zs l i L) (hi : i < l.length) : PInv zs l (i + 1) (L.flatMap (kidsP zs (res (szN zs) l))) := by
  refine ⟨?_, fun p hp => ?_⟩
  · rw [List.flatMap_assoc, ← h.rows]
    have : ∀ M : List Pst, (∀ p ∈ M, p ∈ L) → (M.flatMap fun p => (kidsP zs (res (szN zs) l) p).flatMap (rowsP zs (res (szN zs) l))) = M.flatMap (rowsP zs (res (szN zs) l)) := by
      intro M
      induction M with
      | nil => intro _; rfl
      | cons p r ih =>
        intro hm
        obtain ⟨_, e2, _⟩ := h.each p (hm p (by simp))
        rw [List.flatMap_cons, List.flatMap_cons, ih fun y hy => hm y (by simp [hy]), kids_rows (m := p.2.1.sum - 1) (by omega)]
    exact this L fun _ z => z
  · obtain ⟨p0, h0, hk⟩ := List.mem_flatMap.mp hp
    obtain ⟨j, hj, rfl⟩ := List.mem_map.mp hk
    obtain ⟨e1, e2, e3, _⟩ := h.each p0 h0
    have hl := via_lft hj
    have hs := dec_sum (m := p0.2.1.sum - 1) hl (by omega)
    refine ⟨by show (p0.1 ++ [97 + j]).length = _; rw [List.length_append, e1]; rfl, by show (dec p0.2.1 j).sum + _ = _; omega, e3.next S0 hl, of_decide_eq_true (List.mem_filter.mp hj).2⟩
theorem flat_len {α β : Type} {f : α → List β} : ∀ {L : List α}, (∀ p ∈ L, 0 < (f p).length) → L.length ≤ (L.flatMap f).length
  | [], _ => Nat.zero_le _
  | p :: r, h => by
    have h1 := h p (by simp)
    have h2 := flat_len (L := r) fun y hy => h y (by simp [hy])
    rw [List.flatMap_cons, List.length_append, List.length_cons]
    omega
theorem PInv.len {i : Nat} {L : List Pst} (h : PInv zs l i L) : L.length ≤ (reachL zs l).length := by
  rw [← h.rows]
  refine flat_len fun p hp => ?_
  obtain ⟨_, _, _, e4⟩ := h.each p hp
  unfold rowsP
  rw [List.length_map]
  exact e4
theorem PInv.done {L : List Pst} (h : PInv zs l l.length L) : L.map (·.1) = reachL zs l := by
  rw [← h.rows]
  have : ∀ M : List Pst, (∀ p ∈ M, p ∈ L) → M.map (·.1) = M.flatMap (rowsP zs (res (szN zs) l)) := by
    intro M
    induction M with
    | nil => intro _; rfl
    | cons p r ih =>
      intro hm
      obtain ⟨_, e2, _, e4⟩ := h.each p (hm p (by simp))
      have e0 : p.2.1.sum = 0 := by omega
      have er : rowsP zs (res (szN zs) l) p = [p.1] := by
        have e4' : 0 < (wl (szN zs) (res (szN zs) l) p.2.1.sum p.2.1 p.2.2).length := e4
        unfold rowsP
        show (wl (szN zs) (res (szN zs) l) p.2.1.sum p.2.1 p.2.2).map _ = _
        rw [e0] at e4' ⊢
        unfold wl at e4' ⊢
        by_cases hp : p.2.2 = res (szN zs) l
        · rw [if_pos hp]
          show [p.1 ++ []] = _
          rw [List.append_nil]
        · rw [if_neg hp] at e4'
          exact absurd e4' (Nat.lt_irrefl 0)
      rw [List.map_cons, List.flatMap_cons, ih fun y hy => hm y (by simp [hy]), er]
      rfl
  exact this L fun _ z => z
end

-- NEEDS m_allr counter6 reach
/-! all_reachable -/
def PaR (K : PySem.W.Frag) (H : Hp) (p : Pst) (v : V) : Prop := ∃ T s, v = .ref T ∧ SqT K H T [.str (S p.1), .ref s] ∧ StAt K H (skey p.2.1 p.2.2) s
theorem PaR.same {K : PySem.W.Frag} {H H' : Hp} {p : Pst} {v : V} (h : PaR K H p v) (s : Same H H') : PaR K H' p v := by
  obtain ⟨T, st, e, h1, h2⟩ := h
  exact ⟨T, st, e, s.tup h1, h2.same s⟩
theorem PaR.sameX {K : PySem.W.Frag} {c : Addr} {H H' : Hp} {o : HO} {p : Pst} {v : V} (h : PaR K H p v) (s : SameB c H H') (hc : H c = some o) (h1 : ∀ xs, o ≠ .tup xs) (h2 : ∀ ob u, o ≠ .frz ob u) : PaR K H' p v := by
  obtain ⟨T, st, e, h3, h4⟩ := h
  exact ⟨T, st, e, Pk.sameX s hc h1 h2 h3, h4.sameX s hc h1 h2⟩
theorem lstT {xs : List V} : ∀ ys, (HO.lst xs) ≠ .tup ys := fun _ z => by cases z
theorem lstF {xs : List V} : ∀ ob u, (HO.lst xs) ≠ .frz ob u := fun _ _ z => by cases z
abbrev s_check_enumerable : Stmt := topS 42
theorem sc_check_enumerable : FnScope ["sizes", "row", "counter"] ["sizes", "row"] (defScope s_check_enumerable) := ⟨rfl, rfl, rfl, by decide +kernel, rfl, by decide +kernel, by decide +kernel⟩

def sp_check_enumerable (K : PySem.W.Frag) : Sp := fun vs H Q _ => ∃ (a : Addr) (zs : List Int) (l : List Nat), vs = [.ref a, .str (S l)] ∧ SqT K H a (zs.map V.int) ∧ OkZ zs ∧ OkR zs l ∧ l.length ≤ 12 ∧ (reachL zs l).length ≤ 2000 ∧ ∀ H', Same H H' → Q .non H'
theorem ok_check_enumerable {f : Addr} {fd : FuncData} (F : Fun K "check_enumerable" "check_enumerable" s_check_enumerable f fd) (B : Bi mg) {CC : Addr} (T : CtrT K CC) (m_MAX_SHORT : ∃ t, mg "MAX_SHORT" = some (.int 12 t)) (m_MAX_REACHABLE : ∃ t, mg "MAX_REACHABLE" = some (.int 2000 t)) (C_RowCounter____init__ : KCal P w K mg base CX0 4 "RowCounter" CC ["self", "sizes", "row"] (sp_RowCounter____init__ P w CC K)) (C_RowCounter__ways : MCal P w K mg base CX0 20 CC "ways" ["self", "state"] (sp_RowCounter__ways P w CC K)) : FnOk P w K mg base CX0 21 f fd ["sizes", "row"] (sp_check_enumerable K) := by
  refine F.ok sc_check_enumerable (fun vs H Q E h => ?_) (fun cdv A outer s H vs Q E hr h => ?_)
  · obtain ⟨a, zs, l, rfl, _⟩ := h
    rfl
  obtain ⟨a, zs, l, rfl, hT, hZ, hL, hl, hmany, q⟩ := h
  refine ⟨_, (pss_cons (ps_if (pt_cmpG op_gtG (pe_callB (cr_lenG (K := K)) (by rfl) B.len bt_len (pa_cons (gv 1) pa_nil)) (g_int m_MAX_SHORT) (nomark _))
      (pss_one ps_never)
      pss_nil)
      (pss_cons (ps_set (i := 2) sc_check_enumerable.nd rfl (.inl rfl) (pe_kcal C_RowCounter____init__ (hr.mono (by decide)) pass0 (pa_cons (gv 0) (pa_cons (gv 1) pa_nil))))
      (pss_one (ps_if (pt_cmpG op_gtG (pe_mcal (gv 2) C_RowCounter__ways (hr.mono (by decide)) pass0 (pa_cons (pe_fldG (K := K) (gv 2)) pa_nil)) (g_int m_MAX_REACHABLE) (nomark _))
      (pss_one ps_never)
      pss_nil)))), ?_⟩
  refine ⟨by rw [tl_S]; omega, iteB ⟨fun e => absurd (of_decide_eq_true e) (by rw [tl_S]; omega), fun _ => make_ctr hT hZ hL hl fun x c H2 s2 nc C2 => ?_⟩⟩
  obtain ⟨a2, st, dx, e2, _, hst⟩ := C2.ex
  have S0 := ctrs_of hZ hL hl
  refine ⟨dx, _, e2, rfl, CC, dx, _, _, e2, T.cl, T.n3, rfl, x, c, st, zs, _, _, _, _, rfl, S0, C2, hst, .start, S0.m, fun H3 b3 C3 => iteB ⟨fun e => absurd (of_decide_eq_true e) (by have : wN zs (res (szN zs) l) (cntN zs.length l) [] ≤ 2000 := hmany; omega), fun _ => q H3 (same_B s2 b3 nc)⟩⟩

-- NEEDS m_reach difference
theorem difD_same {zs : List Int} {l g : List Nat} (h1 : cntN zs.length g = cntN zs.length l) (h2 : res (szN zs) g = res (szN zs) l) : difD zs l g = .none := by
  unfold difD
  have : firstDif zs.length l g = none := find_rangeN fun j hj => by
    have h := cntN_get g hj
    rw [h1, cntN_get l hj] at h
    simp [h]
  rw [this]
  exact if_pos h2.symm

-- NEEDS m_way m_mvb m_grp
/-! rows with the same beads and the same residue are joined by moves -/
section
variable {sz : Nat → Nat}
theorem Way.app : ∀ {l : List Nat} {ms : List Mv} {x : List Nat} {ns : List Mv} {y : List Nat}, Way sz l ms x → Way sz x ns y → Way sz l (ms ++ ns) y
  | l, [], x, ns, y, h, h1 => by cases (show l = x from h); exact h1
  | l, n :: ms, x, ns, y, h, h1 => ⟨h.1, h.2.1, Way.app h.2.2 h1⟩
/-- the moves back, the last one first -/
def backs (ms : List Mv) : List Mv := (ms.map backM).reverse
theorem Way.back (hs : ∀ k, 1 ≤ sz k) : ∀ {l : List Nat} {ms : List Mv} {x : List Nat}, Way sz l ms x → Way sz x (backs ms) l
  | l, [], x, h => by cases (show l = x from h); exact rfl
  | l, n :: ms, x, h => by
    have h1 := Way.back hs h.2.2
    obtain ⟨_, b1, b2, b3, _⟩ := back_ok hs h.1 h.2.1
    unfold backs
    rw [List.map_cons, List.reverse_cons]
    have := Way.snoc h1 b1 b2
    rw [b3] at this
    exact this
def Conn (sz : Nat → Nat) (l m : List Nat) : Prop := ∃ ms, Way sz l ms m
theorem Conn.refl (l : List Nat) : Conn sz l l := ⟨[], rfl⟩
theorem Conn.of_eq {l m : List Nat} (h : l = m) : Conn sz l m := ⟨[], h⟩
theorem Conn.trans {l m n : List Nat} (h : Conn sz l m) (h' : Conn sz m n) : Conn sz l n := by
  obtain ⟨a, h⟩ := h
  obtain ⟨b, h'⟩ := h'
  exact ⟨a ++ b, h.app h'⟩
theorem Conn.symm (hs : ∀ k, 1 ≤ sz k) {l m : List Nat} (h : Conn sz l m) : Conn sz m l := by
  obtain ⟨a, h⟩ := h
  exact ⟨_, h.back hs⟩
theorem Conn.step {l : List Nat} {m : Mv} (h1 : m.1 < l.length) (h2 : legal sz l m = true) : Conn sz l (moved sz l m) := ⟨[m], h1, h2, rfl⟩
/-- a move within a longer row -/
theorem lift_mv (hs : ∀ k, 1 ≤ sz k) {l : List Nat} {m : Mv} (u v : List Nat) (h1 : m.1 < l.length) (h2 : legal sz l m = true) :
    (u.length + m.1 < (u ++ (l ++ v)).length) ∧ legal sz (u ++ (l ++ v)) (u.length + m.1, m.2) = true ∧ moved sz (u ++ (l ++ v)) (u.length + m.1, m.2) = u ++ (moved sz l m ++ v) := by
  obtain ⟨i, b⟩ := m
  cases b with
  | true =>
    obtain ⟨u', x, k, v', e, ei, hx, _, em⟩ := legal_left h1 h2
    obtain ⟨a1, a2, a3⟩ := mk_left hs (u := u ++ u') (v := v' ++ v) hx
    have e1 : u ++ (l ++ v) = (u ++ u') ++ ([x] ++ (List.replicate (sz k) k ++ (v' ++ v))) := by rw [e]; simp only [List.append_assoc]
    have e2 : u.length + i = (u ++ u').length + 1 := by rw [List.length_append]; have : i = u'.length + 1 := ei; omega
    rw [em, e1]
    show u.length + i < _ ∧ legal sz _ (u.length + i, true) = true ∧ moved sz _ (u.length + i, true) = _
    rw [e2]
    exact ⟨a1, a2, by rw [a3]; simp only [List.append_assoc]⟩
  | false =>
    obtain ⟨u', x, k, v', e, ei, hx, _, em⟩ := legal_right h1 h2
    obtain ⟨a1, a2, a3⟩ := mk_right hs (u := u ++ u') (v := v' ++ v) hx
    have e1 : u ++ (l ++ v) = (u ++ u') ++ (List.replicate (sz k) k ++ ([x] ++ (v' ++ v))) := by rw [e]; simp only [List.append_assoc]
    have e2 : u.length + i = (u ++ u').length := by rw [List.length_append]; have : i = u'.length := ei; omega
    rw [em, e1]
    show u.length + i < _ ∧ legal sz _ (u.length + i, false) = true ∧ moved sz _ (u.length + i, false) = _
    rw [e2]
    exact ⟨a1, a2, by rw [a3]; simp only [List.append_assoc]⟩
theorem Way.lift (hs : ∀ k, 1 ≤ sz k) (u v : List Nat) : ∀ {l : List Nat} {ms : List Mv} {x : List Nat}, Way sz l ms x → Conn sz (u ++ (l ++ v)) (u ++ (x ++ v))
  | l, [], x, h => by cases (show l = x from h); exact .refl _
  | l, n :: ms, x, h => by
    obtain ⟨a1, a2, a3⟩ := lift_mv hs u v h.1 h.2.1
    refine Conn.trans (Conn.step (m := (u.length + n.1, n.2)) a1 a2) ?_
    rw [a3]
    exact Way.lift hs u v h.2.2
theorem Conn.lift (hs : ∀ k, 1 ≤ sz k) (u v : List Nat) {l m : List Nat} (h : Conn sz l m) : Conn sz (u ++ (l ++ v)) (u ++ (m ++ v)) := by
  obtain ⟨a, h⟩ := h
  exact h.lift hs u v
theorem Conn.pre (hs : ∀ k, 1 ≤ sz k) (u : List Nat) {l m : List Nat} (h : Conn sz l m) : Conn sz (u ++ l) (u ++ m) := by
  have := h.lift hs u []
  rwa [List.append_nil, List.append_nil] at this
theorem Conn.suf (hs : ∀ k, 1 ≤ sz k) (v : List Nat) {l m : List Nat} (h : Conn sz l m) : Conn sz (l ++ v) (m ++ v) := h.lift hs [] v
/-- a pack past one bead, past many -/
theorem conn_one (hs : ∀ k, 1 ≤ sz k) (x k : Nat) : Conn sz ([x] ++ List.replicate (sz k) k) (List.replicate (sz k) k ++ [x]) := by
  by_cases hx : x = k
  · subst hx
    exact .of_eq (by rw [← List.replicate_succ', List.replicate_succ]; rfl)
  · obtain ⟨a1, a2, a3⟩ := mk_left hs (u := []) (v := []) hx
    have := Conn.step a1 a2
    rw [a3] at this
    simpa using this
theorem conn_past (hs : ∀ k, 1 ≤ sz k) (k : Nat) : ∀ u : List Nat, Conn sz (u ++ List.replicate (sz k) k) (List.replicate (sz k) k ++ u)
  | [] => .of_eq (by simp)
  | x :: u => by
    have h1 := (conn_past hs k u).pre hs [x]
    have h2 := (conn_one hs x k).suf hs u
    have e : [x] ++ (List.replicate (sz k) k ++ u) = [x] ++ List.replicate (sz k) k ++ u := by rw [List.append_assoc]
    rw [e] at h1
    have h3 := h1.trans h2
    rw [List.append_assoc] at h3
    exact h3
/-- packs, one behind the other -/
def pks (sz : Nat → Nat) (ks : List Nat) : List Nat := (ks.map fun k => List.replicate (sz k) k).flatten
theorem pks_cons (k : Nat) (ks : List Nat) : pks sz (k :: ks) = List.replicate (sz k) k ++ pks sz ks := rfl
theorem pks_count (hs : ∀ k, 1 ≤ sz k) (k : Nat) : ∀ ks : List Nat, (pks sz ks).count k = ks.count k * sz k
  | [] => by simp [pks]
  | x :: ks => by
    rw [pks_cons, List.count_append, pks_count hs k ks, List.count_cons, List.count_replicate]
    by_cases h : x = k
    · subst h
      rw [if_pos (by simp), if_pos (by simp), Nat.add_mul]
      omega
    · rw [if_neg (by simpa using h), if_neg (by simpa using h)]
      simp
theorem conn_canon (hs : ∀ k, 1 ≤ sz k) : ∀ l : List Nat, ∃ ks, Conn sz l (pks sz ks ++ res sz l) := by
  refine pack_ind hs (fun l h => ⟨[], .of_eq (by rw [h]; rfl)⟩) (fun u k v ⟨ks, h⟩ => ⟨k :: ks, ?_⟩)
  have h1 := (conn_past hs k u).suf hs v
  rw [List.append_assoc, List.append_assoc] at h1
  have h2 := h.pre hs (List.replicate (sz k) k)
  have e : res sz (u ++ (List.replicate (sz k) k ++ v)) = res sz (u ++ v) := res_eq_of (stk_pack (fun y _ => hs y) (hs k))
  rw [e, pks_cons, List.append_assoc]
  exact h1.trans h2
theorem conn_perm (hs : ∀ k, 1 ≤ sz k) {a b : List Nat} (h : a.Perm b) : Conn sz (pks sz a) (pks sz b) := by
  induction h with
  | nil => exact .refl _
  | cons k _ ih => exact ih.pre hs _
  | swap x y l =>
    have := (conn_past hs x (List.replicate (sz y) y)).suf hs (pks sz l)
    rw [List.append_assoc, List.append_assoc] at this
    exact this
  | trans _ _ ih1 ih2 => exact ih1.trans ih2
theorem Way.keeps (hs : ∀ k, 1 ≤ sz k) : ∀ {l : List Nat} {ms : List Mv} {x : List Nat}, Way sz l ms x → x.Perm l ∧ res sz x = res sz l
  | l, [], x, h => by cases (show l = x from h); exact ⟨.refl _, rfl⟩
  | l, n :: ms, x, h => by
    obtain ⟨h1, h2⟩ := Way.keeps hs h.2.2
    exact ⟨h1.trans (moved_perm h.1 h.2.1), h2.trans (res_eq_of (moved_stk hs h.1 h.2.1))⟩
theorem Conn.keeps (hs : ∀ k, 1 ≤ sz k) {l m : List Nat} (h : Conn sz l m) : m.Perm l ∧ res sz m = res sz l := by
  obtain ⟨a, h⟩ := h
  exact h.keeps hs
theorem conn_of (hs : ∀ k, 1 ≤ sz k) {l m : List Nat} (h1 : m.Perm l) (h2 : res sz m = res sz l) : Conn sz l m := by
  obtain ⟨ks, hk⟩ := conn_canon hs l
  obtain ⟨js, hj⟩ := conn_canon hs m
  have p1 := (hk.keeps hs).1
  have p2 := (hj.keeps hs).1
  rw [h2] at hj p2
  have hp : ks.Perm js := by
    rw [List.perm_iff_count]
    intro k
    have c1 := p1.count_eq k
    have c2 := p2.count_eq k
    rw [List.count_append, pks_count hs] at c1 c2
    have c3 := h1.count_eq k
    have := hs k
    exact Nat.eq_of_mul_eq_mul_right (show 0 < sz k by omega) (by omega)
  exact (hk.trans ((conn_perm hs hp).suf hs _)).trans (hj.symm hs)
theorem conn_iff (hs : ∀ k, 1 ≤ sz k) {l m : List Nat} : Conn sz l m ↔ m.Perm l ∧ res sz m = res sz l := ⟨fun h => h.keeps hs, fun h => conn_of hs h.1 h.2⟩
end

-- NEEDS m_conn m_cnt m_reachb m_adj2 m_mvb
/-! counts that are known: rows that reach only themselves, and all sizes 1 -/
section
variable {sz : Nat → Nat} {zs : List Int} {l : List Nat}
/-- a legal move changes the row -/
theorem moved_ne (hs : ∀ k, 1 ≤ sz k) {m : Mv} (hi : m.1 < l.length) (h : legal sz l m = true) : moved sz l m ≠ l := by
  obtain ⟨i, b⟩ := m
  cases b with
  | true =>
    obtain ⟨u, x, k, v, e1, _, hx, _, e5⟩ := legal_left hi h
    rw [e5]
    intro e
    rw [e1] at e
    have e := List.append_cancel_left e
    obtain ⟨n, hn⟩ : ∃ n, sz k = n + 1 := ⟨sz k - 1, by have := hs k; omega⟩
    rw [hn, List.replicate_succ] at e
    exact hx (List.cons.inj e).1.symm
  | false =>
    obtain ⟨u, x, k, v, e1, _, hx, _, e5⟩ := legal_right hi h
    rw [e5]
    intro e
    rw [e1] at e
    have e := List.append_cancel_left e
    obtain ⟨n, hn⟩ : ∃ n, sz k = n + 1 := ⟨sz k - 1, by have := hs k; omega⟩
    rw [hn, List.replicate_succ] at e
    exact hx (List.cons.inj e).1
theorem way_none (h : legals sz l = []) : ∀ {ms : List Mv} {x : List Nat}, Way sz l ms x → x = l
  | [], _, e => Eq.symm e
  | m :: ms, _, ⟨h1, h2, _⟩ => by
    have := legals_mem.mpr ⟨h1, h2⟩
    rw [h] at this
    cases this
theorem one_of {W : List (List Nat)} {a : List Nat} (hp : W.Pairwise (· < ·)) (ha : a ∈ W) (h : ∀ x ∈ W, x = a) : W = [a] := by
  match W, hp, ha, h with
  | [], _, ha, _ => cases ha
  | [x], _, _, h => rw [h x (by simp)]
  | x :: y :: r, hp, _, h =>
    have h1 := h x (by simp)
    have h2 := h y (by simp)
    have h3 := (List.pairwise_cons.mp hp).1 y (by simp)
    rw [h1, h2] at h3
    exact absurd h3 (List.lt_irrefl _)
theorem reach_none (hZ : OkZ zs) (hL : OkR zs l) (h : legals (szN zs) l = []) : reachL zs l = [l] := one_of (wl_sorted _ _ _) (self_reach hZ hL) fun x hx => by
  obtain ⟨a1, a2, a3⟩ := (mem_reach hZ hL).mp hx
  obtain ⟨ms, hw⟩ := (conn_iff (szN_pos hZ)).mpr ⟨(cnt_perm hL a1).mp a2, a3⟩
  exact way_none h hw
theorem reach_one (hZ : OkZ zs) (hL : OkR zs l) : (reachL zs l).length = 1 ↔ legals (szN zs) l = [] := by
  constructor
  · intro h
    cases e : legals (szN zs) l with
    | nil => rfl
    | cons m r =>
      exfalso
      obtain ⟨h1, h2⟩ := legals_mem.mp (show m ∈ legals (szN zs) l by rw [e]; simp)
      have hw := (Conn.step h1 h2).keeps (szN_pos hZ)
      have hm : moved (szN zs) l m ∈ reachL zs l := (mem_reach hZ hL).mpr ⟨hL.perm hw.1, (cnt_perm hL (hL.perm hw.1)).mpr hw.1, hw.2⟩
      obtain ⟨a, ea⟩ := List.length_eq_one_iff.mp h
      have hl := self_reach hZ hL
      rw [ea, List.mem_singleton] at hm hl
      exact moved_ne (szN_pos hZ) h1 h2 (hm.trans hl.symm)
  · intro h
    rw [reach_none hZ hL h]
    rfl
theorem reach_res (hZ : OkZ zs) (hR : OkR zs (res (szN zs) l)) : reachL zs (res (szN zs) l) = [res (szN zs) l] := reach_none hZ hR (res_noMoves (szN_pos hZ) l)
/-! all sizes 1 -/
abbrev ones (n : Nat) : List Int := List.replicate n 1
theorem ones_ok (hZ : OkZ zs) : OkZ (ones zs.length) := ⟨by rw [List.length_replicate]; exact hZ.pos, by rw [List.length_replicate]; exact hZ.six, fun z hz => by rw [List.eq_of_mem_replicate hz]; decide⟩
theorem ones_row (hL : OkR zs l) : OkR (ones zs.length) l := fun k hk => by rw [List.length_replicate]; exact hL k hk
theorem ones_sz {n k : Nat} (h : 97 ≤ k ∧ k < 97 + n) : szN (ones n) k = 1 := by
  obtain ⟨j, rfl⟩ : ∃ j, k = 97 + j := ⟨k - 97, by omega⟩
  have e : (ones n)[j]? = some 1 := by rw [List.getElem?_replicate, if_pos (by omega)]
  show (szI _ _).toNat = 1
  rw [szI_get e]
  rfl
theorem pks_one : ∀ {l : List Nat}, (∀ k ∈ l, sz k = 1) → pks sz l = l
  | [], _ => rfl
  | k :: r, h => by rw [pks_cons, h k (by simp), pks_one fun y hy => h y (by simp [hy])]; rfl
theorem ones_res {n : Nat} (hO : OkZ (ones n)) (hL : OkR (ones n) l) : res (szN (ones n)) l = [] := by
  have e : ∀ k ∈ l, szN (ones n) k = 1 := fun k hk => ones_sz (by have := hL k hk; rw [List.length_replicate] at this; exact this)
  have h : ∀ ks : List Nat, res (szN (ones n)) (pks (szN (ones n)) ks ++ []) = res (szN (ones n)) [] := by
    intro ks
    induction ks with
    | nil => rfl
    | cons k r ih =>
      rw [pks_cons, List.append_assoc]
      exact (res_eq_of (stk_pack (sz := szN (ones n)) (u := []) (v := pks (szN (ones n)) r ++ []) (k := k) (fun y _ => szN_pos hO y) (szN_pos hO k))).trans ih
  have h1 := h l
  rw [pks_one e, List.append_nil] at h1
  rw [h1]
  rfl
theorem mem_ones {n : Nat} (hO : OkZ (ones n)) (hL : OkR (ones n) l) {m : List Nat} : m ∈ reachL (ones n) l ↔ m.Perm l := by
  rw [mem_reach hO hL]
  constructor
  · rintro ⟨a1, a2, _⟩
    exact (cnt_perm hL a1).mp a2
  · intro h
    have hm := hL.perm h
    exact ⟨hm, (cnt_perm hL hm).mpr h, by rw [ones_res hO hm, ones_res hO hL]⟩
/-! the number of permutations -/
def pF : List Nat → Nat
  | [] => 1
  | c :: r => fac c * pF r
theorem fac_pos : ∀ n, 0 < fac n
  | 0 => Nat.one_pos
  | n + 1 => Nat.mul_pos (Nat.succ_pos n) (fac_pos n)
theorem pF_pos : ∀ cs, 0 < pF cs
  | [] => Nat.one_pos
  | c :: r => Nat.mul_pos (fac_pos c) (pF_pos r)
theorem pF_zero : ∀ {cs : List Nat}, cs.sum = 0 → pF cs = 1
  | [], _ => rfl
  | c :: r, h => by
    rw [List.sum_cons] at h
    have h0 : c = 0 := by omega
    subst h0
    show 1 * pF r = 1
    rw [pF_zero (by omega)]
theorem pF_dec : ∀ {cs : List Nat} {j : Nat}, j < cs.length → 0 < cs.getD j 0 → pF cs = cs.getD j 0 * pF (dec cs j)
  | [], j, h, _ => absurd h (by simp)
  | c :: r, 0, _, h => by
    simp only [List.getD_cons_zero] at h ⊢
    obtain ⟨n, rfl⟩ : ∃ n, c = n + 1 := ⟨c - 1, by omega⟩
    show fac (n + 1) * pF r = (n + 1) * (fac (n + 1 - 1) * pF r)
    rw [Nat.add_sub_cancel, ← Nat.mul_assoc]
    rfl
  | c :: r, j + 1, h, h2 => by
    simp only [List.getD_cons_succ] at h2 ⊢
    have ih := pF_dec (cs := r) (j := j) (by simpa using h) h2
    show fac c * pF r = r.getD j 0 * (fac c * pF (dec r j))
    rw [ih]
    exact Nat.mul_left_comm _ _ _
theorem filt_sum (f : Nat → Nat) : ∀ L : List Nat, ((L.filter fun j => decide (0 < f j)).map f).sum = (L.map f).sum
  | [] => rfl
  | j :: r => by
    rw [List.filter_cons]
    by_cases h : 0 < f j
    · rw [decide_eq_true h, if_pos rfl, List.map_cons, List.sum_cons, List.map_cons, List.sum_cons, filt_sum f r]
    · rw [decide_eq_false h, if_neg (by decide), List.map_cons, List.sum_cons, filt_sum f r]
      omega
theorem lft_sum (cs : List Nat) : ((lft cs).map fun j => cs.getD j 0).sum = cs.sum := by
  unfold lft
  rw [filt_sum]
  congr 1
  refine List.ext_getElem? fun i => ?_
  rw [List.getElem?_map]
  by_cases h : i < cs.length
  · rw [List.getElem?_range h, List.getElem?_eq_getElem h]
    simp [h]
  · rw [List.getElem?_eq_none (by rw [List.length_range]; omega), List.getElem?_eq_none (by omega)]
    rfl
theorem wl_count {n : Nat} (hO : OkZ (ones n)) : ∀ (m : Nat) (cs : List Nat), cs.sum = m → cs.length = n → (wl (szN (ones n)) [] m cs []).length * pF cs = fac m
  | 0, cs, h, _ => by
    rw [pF_zero h]
    rfl
  | m + 1, cs, h, hn => by
    rw [wl_len]
    have step : ∀ L : List Nat, (∀ j ∈ L, j ∈ lft cs) → (L.map fun j => (wl (szN (ones n)) [] m (dec cs j) (res (szN (ones n)) ([] ++ [97 + j]))).length).sum * pF cs = (L.map fun j => cs.getD j 0).sum * fac m := by
      intro L
      induction L with
      | nil => intro _; rw [List.map_nil, List.map_nil, List.sum_nil, Nat.zero_mul, Nat.zero_mul]
      | cons j r ih =>
        intro hj
        have a1 := ih fun y hy => hj y (by simp [hy])
        have hl := hj j (by simp)
        obtain ⟨b1, b2⟩ := mem_lft.mp hl
        have a2 := wl_count hO m (dec cs j) (dec_sum hl h) (by rw [dec_len]; exact hn)
        have er : res (szN (ones n)) ([] ++ [97 + j]) = [] := ones_res hO fun k hk => by
          rw [List.nil_append, List.mem_singleton] at hk
          rw [List.length_replicate, hk]
          omega
        rw [List.map_cons, List.sum_cons, List.map_cons, List.sum_cons, Nat.add_mul, Nat.add_mul, a1, er]
        congr 1
        rw [pF_dec b1 b2, ← a2, ← Nat.mul_assoc, ← Nat.mul_assoc, Nat.mul_comm (wl _ _ _ _ _).length]
    rw [step (lft cs) fun _ z => z, lft_sum, h]
    rfl
/-- binomial numbers -/
def ch : Nat → Nat → Nat
  | _, 0 => 1
  | 0, _ + 1 => 0
  | n + 1, k + 1 => ch n k + ch n (k + 1)
theorem ch_big : ∀ {n k : Nat}, n < k → ch n k = 0
  | 0, _ + 1, _ => rfl
  | n + 1, k + 1, h => by
    show ch n k + ch n (k + 1) = 0
    rw [ch_big (by omega), ch_big (by omega)]
theorem ch_one : ∀ n, ch n 1 = n
  | 0 => rfl
  | n + 1 => by
    show ch n 0 + ch n 1 = n + 1
    rw [ch_one n]
    have : ch n 0 = 1 := by cases n <;> rfl
    omega
theorem ch_zero (n : Nat) : ch n 0 = 1 := by cases n <;> rfl
theorem ch_step : ∀ (n k : Nat), ch n (k + 1) * (k + 1) = ch n k * (n - k)
  | 0, k => by rw [Nat.zero_sub, Nat.mul_zero]; show 0 * _ = 0; rw [Nat.zero_mul]
  | n + 1, 0 => by rw [ch_one, ch_zero]; omega
  | n + 1, k + 1 => by
    have i1 := ch_step n (k + 1)
    have i0 := ch_step n k
    show (ch n (k + 1) + ch n (k + 1 + 1)) * (k + 1 + 1) = (ch n k + ch n (k + 1)) * (n + 1 - (k + 1))
    rw [Nat.add_mul, i1, Nat.add_mul, Nat.add_sub_add_right, ← i0, ← Nat.mul_add, ← Nat.mul_add]
    by_cases h : k + 1 ≤ n
    · congr 1
      omega
    · rw [ch_big (show n < k + 1 by omega), Nat.zero_mul, Nat.zero_mul]
theorem ch_fac : ∀ {n k : Nat}, k ≤ n → ch n k * (fac k * fac (n - k)) = fac n
  | n, 0, _ => by rw [ch_zero]; show 1 * (1 * fac n) = fac n; rw [Nat.one_mul, Nat.one_mul]
  | n, k + 1, h => by
    have ih := ch_fac (n := n) (k := k) (by omega)
    obtain ⟨d, hd⟩ : ∃ d, n - k = d + 1 := ⟨n - k - 1, by omega⟩
    have e1 : n - (k + 1) = d := by omega
    have st := ch_step n k
    rw [hd] at ih st
    rw [e1]
    show ch n (k + 1) * ((k + 1) * fac k * fac d) = fac n
    rw [Nat.mul_assoc, ← Nat.mul_assoc, st, ← ih]
    show ch n k * (d + 1) * (fac k * fac d) = ch n k * (fac k * ((d + 1) * fac d))
    rw [Nat.mul_assoc, Nat.mul_left_comm (fac k)]
theorem ch_int {E f k : Nat} (h : k ≤ f) : (((E * ch f k : Nat) : Int)) * ((f : Int) - (k : Int)) / ((k : Int) + 1) = ((E * ch f (k + 1) : Nat) : Int) := by
  have e : ((E * ch f k : Nat) : Int) * ((f : Int) - (k : Int)) = ((E * ch f (k + 1) : Nat) : Int) * ((k : Int) + 1) := by
    have st := ch_step f k
    have h1 : E * ch f k * (f - k) = E * ch f (k + 1) * (k + 1) := by rw [Nat.mul_assoc, ← st, Nat.mul_assoc]
    have h2 : (((E * ch f k * (f - k) : Nat)) : Int) = ((E * ch f (k + 1) * (k + 1) : Nat) : Int) := by rw [h1]
    rw [Int.natCast_mul, Int.natCast_sub h] at h2
    rw [h2, Int.natCast_mul]
    rfl
  rw [e]
  exact Int.mul_ediv_cancel _ (by omega)
/-! permutations in order -/
theorem min_perm : ∀ {s c : List Nat}, s.Pairwise (· ≤ ·) → c.Perm s → ¬ c < s
  | [], c, _, _ => List.not_lt_nil c
  | a :: s, [], _, h => by have := h.length_eq; simp at this
  | a :: s, k :: c, hp, h => by
    rw [List.pairwise_cons] at hp
    have hk : a ≤ k := by
      have : k ∈ a :: s := h.mem_iff.mp (by simp)
      rcases List.mem_cons.mp this with e | e
      · omega
      · exact hp.1 k e
    intro hlt
    rcases List.cons_lt_cons_iff.mp hlt with e | ⟨e, e2⟩
    · omega
    · subst e
      exact min_perm hp.2 ((List.perm_cons k).mp h) e2
theorem max_perm : ∀ {s c : List Nat}, s.Pairwise (fun a b => b ≤ a) → c.Perm s → ¬ s < c
  | [], c, _, h => by have := h.eq_nil; subst this; exact List.lt_irrefl _
  | a :: s, [], _, h => by have := h.length_eq; simp at this
  | a :: s, k :: c, hp, h => by
    rw [List.pairwise_cons] at hp
    have hk : k ≤ a := by
      have : k ∈ a :: s := h.mem_iff.mp (by simp)
      rcases List.mem_cons.mp this with e | e
      · omega
      · exact hp.1 k e
    intro hlt
    rcases List.cons_lt_cons_iff.mp hlt with e | ⟨e, e2⟩
    · omega
    · subst e
      exact max_perm hp.2 ((List.perm_cons a).mp h) e2
theorem sorted_uniq {s c : List Nat} (h1 : s.Pairwise (· ≤ ·)) (h2 : c.Pairwise (· ≤ ·)) (h : c.Perm s) : c = s :=
  List.le_antisymm (List.not_lt.mp (min_perm h2 h.symm)) (List.not_lt.mp (min_perm h1 h))
theorem first_of {W : List (List Nat)} {a : List Nat} (hp : W.Pairwise (· < ·)) (ha : a ∈ W) (h : ∀ x ∈ W, ¬ x < a) : W[0]? = some a := by
  match W, hp, ha, h with
  | [], _, ha, _ => cases ha
  | x :: r, hp, ha, h =>
    rcases List.mem_cons.mp ha with e | e
    · rw [e]; rfl
    · exact absurd ((List.pairwise_cons.mp hp).1 a e) (h x (by simp))
theorem last_of {W : List (List Nat)} {a : List Nat} (hp : W.Pairwise (· < ·)) (ha : a ∈ W) (h : ∀ x ∈ W, ¬ a < x) : W[W.length - 1]? = some a := by
  obtain ⟨i, hi, e⟩ := List.mem_iff_getElem.mp ha
  rw [List.pairwise_iff_getElem] at hp
  by_cases hj : i = W.length - 1
  · rw [← hj, List.getElem?_eq_getElem hi, e]
  · have h1 := hp i (i + 1) hi (by omega) (by omega)
    rw [e] at h1
    exact absurd h1 (h _ (List.getElem_mem _))
theorem nbr_adj {W : List (List Nat)} {a b : List Nat} {i j : Nat} (hp : W.Pairwise (· < ·)) (hab : a < b) (hno : ∀ c ∈ W, a < c → c < b → False) (hi : W[i]? = some a) (hj : W[j]? = some b) : j = i + 1 := by
  rw [List.pairwise_iff_getElem] at hp
  obtain ⟨li, ei⟩ := List.getElem?_eq_some_iff.mp hi
  obtain ⟨lj, ej⟩ := List.getElem?_eq_some_iff.mp hj
  rcases Nat.lt_trichotomy j (i + 1) with h | h | h
  · exfalso
    rcases Nat.lt_or_ge j i with h2 | h2
    · have := hp j i lj li h2
      rw [ei, ej] at this
      exact List.lt_irrefl _ (List.lt_trans hab this)
    · have : j = i := by omega
      subst this
      rw [ei] at ej
      subst ej
      exact List.lt_irrefl _ hab
  · exact h
  · exfalso
    have h1 := hp i (i + 1) li (by omega) (by omega)
    have h2 := hp (i + 1) j (by omega) lj (by omega)
    rw [ei] at h1
    rw [ej] at h2
    exact hno _ (List.getElem_mem _) h1 h2
theorem between {u v c : List Nat} {y x : Nat} (hs : (u ++ y :: x :: v).Pairwise (· ≤ ·)) (hyx : y < x) (hc : c.Perm (u ++ y :: x :: v)) (h1 : y :: (u ++ x :: v).reverse < c) (h2 : c < x :: (u ++ y :: v)) : False := by
  match c, hc, h1, h2 with
  | [], hc, _, _ => have := hc.length_eq; simp at this
  | k :: c, hc, h1, h2 =>
    have hk : k ∈ u ++ y :: x :: v := hc.mem_iff.mp (by simp)
    have hsu := List.pairwise_append.mp hs
    have hsy := List.pairwise_cons.mp hsu.2.1
    have hsx := List.pairwise_cons.mp hsy.2
    have p1 : (u ++ x :: v).Pairwise (· ≤ ·) := hs.sublist (List.Sublist.append (List.Sublist.refl u) (List.sublist_cons_self y _))
    have p2 : (u ++ y :: v).Pairwise (· ≤ ·) := hs.sublist (List.Sublist.append (List.Sublist.refl u) (List.Sublist.cons_cons y (List.sublist_cons_self x v)))
    rcases List.cons_lt_cons_iff.mp h1 with a | ⟨a, a2⟩
    · rcases List.cons_lt_cons_iff.mp h2 with b | ⟨b, b2⟩
      · rcases List.mem_append.mp hk with e | e
        · have := hsu.2.2 k e y (by simp)
          omega
        · rcases List.mem_cons.mp e with e | e
          · omega
          · rcases List.mem_cons.mp e with e | e
            · omega
            · have := hsx.1 k e
              omega
      · subst b
        have e : (u ++ y :: k :: v).Perm (k :: (u ++ y :: v)) := by
          have := List.perm_middle (a := k) (l₁ := u ++ [y]) (l₂ := v)
          simpa using this
        exact min_perm p2 ((List.perm_cons k).mp (hc.trans e)) b2
    · subst a
      have e : (u ++ y :: x :: v).Perm (y :: (u ++ x :: v)) := List.perm_middle
      exact max_perm (List.pairwise_reverse.mpr p1) (((List.perm_cons y).mp (hc.trans e)).trans (List.reverse_perm _).symm) a2
theorem known_count : ∀ z ∈ [1, 2, 3, 4], ∀ n ∈ [0, 1, 2, 3], (reachL [((z : Nat) : Int), 4] (List.replicate z 97 ++ List.replicate n 98)).length = n + 1 := by
  decide +kernel
theorem pF_snoc : ∀ (a : List Nat) (c : Nat), pF (a ++ [c]) = pF a * fac c
  | [], c => by show fac c * 1 = 1 * fac c; rw [Nat.mul_one, Nat.one_mul]
  | x :: r, c => by show fac x * pF (r ++ [c]) = fac x * pF r * fac c; rw [pF_snoc r c, Nat.mul_assoc]
theorem binom_step {cs : List Nat} {i c E f N : Nat} (hc : cs[i]? = some c) (h1 : f + (cs.take i).sum = N) (hN : cs.sum = N) (h2 : E * (pF (cs.take i) * fac f) = fac N) :
    c ≤ f ∧ (f - c) + (cs.take (i + 1)).sum = N ∧ E * ch f c * (pF (cs.take (i + 1)) * fac (f - c)) = fac N := by
  have et : cs.take (i + 1) = cs.take i ++ [c] := by rw [List.take_add_one, hc]; rfl
  have es : (cs.take (i + 1)).sum = (cs.take i).sum + c := by rw [et, List.sum_append]; simp
  have hle : (cs.take (i + 1)).sum ≤ cs.sum := by
    conv => rhs; rw [← List.take_append_drop (i + 1) cs, List.sum_append]
    omega
  have hcf : c ≤ f := by omega
  refine ⟨hcf, by omega, ?_⟩
  rw [et, pF_snoc, ← h2, ← ch_fac hcf]
  simp only [Nat.mul_assoc, Nat.mul_left_comm, Nat.mul_comm]
theorem binom_end {n : Nat} (hO : OkZ (ones n)) (hL : OkR (ones n) l) {E f : Nat} (h1 : f + ((cntN n l).take n).sum = l.length) (h2 : E * (pF ((cntN n l).take n) * fac f) = fac l.length) : (reachL (ones n) l).length = E := by
  have hL' : ∀ k ∈ l, 97 ≤ k ∧ k < 97 + n := fun k hk => by have := hL k hk; rw [List.length_replicate] at this; exact this
  have hs : (cntN n l).sum = l.length := cntN_sum hL'
  have et : (cntN n l).take n = cntN n l := List.take_of_length_le (by rw [cntN_len]; exact Nat.le_refl _)
  rw [et] at h1 h2
  have hf : f = 0 := by omega
  subst hf
  have hw := wl_count hO _ (cntN n l) hs (cntN_len n l)
  have hr : reachL (ones n) l = wl (szN (ones n)) [] l.length (cntN n l) [] := by
    show wl _ (res (szN (ones n)) l) (cntN (ones n).length l).sum (cntN (ones n).length l) [] = _
    rw [ones_res hO hL, List.length_replicate, hs]
  rw [hr]
  have h3 : fac 0 = 1 := rfl
  rw [h3, Nat.mul_one, ← hw] at h2
  exact Nat.eq_of_mul_eq_mul_right (pF_pos _) h2.symm
/-- the sorted signs of a text -/
theorem signs_sorted {l : List Nat} {us : List (List Nat)} (h1 : us.Perm (l.map fun c => [c])) (h2 : us.Pairwise fun a b => ¬ b < a) : ∃ s : List Nat, us = s.map (fun c => [c]) ∧ s.Perm l ∧ s.Pairwise (· ≤ ·) := by
  have e : us = (us.map fun u => u.headD 0).map fun c => [c] := by
    rw [List.map_map]
    conv => lhs; rw [← List.map_id us]
    refine List.map_congr_left fun u hu => ?_
    obtain ⟨c, _, rfl⟩ := List.mem_map.mp (h1.mem_iff.mp hu)
    rfl
  refine ⟨us.map fun u => u.headD 0, e, ?_, ?_⟩
  · have := h1.map fun u : List Nat => u.headD 0
    rw [List.map_map] at this
    have e2 : l.map ((fun u : List Nat => u.headD 0) ∘ fun c => [c]) = l := by
      conv => rhs; rw [← List.map_id l]
      exact List.map_congr_left fun _ _ => rfl
    rw [e2] at this
    exact this
  · rw [e, List.pairwise_map] at h2
    exact h2.imp fun {a b} h => by
      by_cases hb : b < a
      · exact absurd (List.cons_lt_cons_iff.mpr (.inl hb)) h
      · omega
theorem ones_first {n : Nat} (hO : OkZ (ones n)) (hL : OkR (ones n) l) {s : List Nat} (hp : s.Perm l) (hs : s.Pairwise (· ≤ ·)) : (reachL (ones n) l)[0]? = some s :=
  first_of (wl_sorted _ _ _) ((mem_ones hO hL).mpr hp) fun x hx => min_perm hs (((mem_ones hO hL).mp hx).trans hp.symm)
theorem ones_last {n : Nat} (hO : OkZ (ones n)) (hL : OkR (ones n) l) {s : List Nat} (hp : s.Perm l) (hs : s.Pairwise (· ≤ ·)) : (reachL (ones n) l)[(reachL (ones n) l).length - 1]? = some s.reverse :=
  last_of (wl_sorted _ _ _) ((mem_ones hO hL).mpr ((List.reverse_perm s).trans hp)) fun x hx => max_perm (List.pairwise_reverse.mpr hs) ((((mem_ones hO hL).mp hx).trans hp.symm).trans (List.reverse_perm s).symm)
theorem ones_same {n : Nat} (hO : OkZ (ones n)) (hL : OkR (ones n) l) {m : List Nat} (h : m.Perm l) : reachL (ones n) m = reachL (ones n) l :=
  reach_same ((cnt_perm hL (hL.perm h)).mpr h) (by rw [ones_res hO (hL.perm h), ones_res hO hL])
theorem ones_adj {n : Nat} (hO : OkZ (ones n)) {u v : List Nat} {y x : Nat} (hL : OkR (ones n) (u ++ y :: x :: v)) (hs : (u ++ y :: x :: v).Pairwise (· ≤ ·)) (hyx : y < x) :
    nbr true (reachL (ones n) (x :: (u ++ y :: v))) (oA (ones n) (x :: (u ++ y :: v)) (x :: (u ++ y :: v)).length) = some (y :: (u ++ x :: v).reverse) ∧
    nbr false (reachL (ones n) (y :: (u ++ x :: v).reverse)) (oA (ones n) (y :: (u ++ x :: v).reverse) (y :: (u ++ x :: v).reverse).length) = some (x :: (u ++ y :: v)) := by
  have pb : (y :: (u ++ x :: v).reverse).Perm (u ++ y :: x :: v) := ((List.reverse_perm (u ++ x :: v)).cons y).trans List.perm_middle.symm
  have ps : (x :: (u ++ y :: v)).Perm (u ++ y :: x :: v) := by
    have := (List.perm_middle (a := x) (l₁ := u ++ [y]) (l₂ := v)).symm
    simpa using this
  have ib := oA_at hO (hL.perm pb)
  have is' := oA_at hO (hL.perm ps)
  rw [ones_same hO hL pb] at ib
  rw [ones_same hO hL ps] at is'
  have h := nbr_adj (wl_sorted _ _ _) (List.cons_lt_cons_iff.mpr (.inl hyx)) (fun c hc h1 h2 => between hs hyx ((mem_ones hO hL).mp hc) h1 h2) ib is'
  rw [ones_same hO hL pb, ones_same hO hL ps, h]
  exact ⟨ib, by show (reachL _ _)[_]? = _; rw [← h]; exact is'⟩
theorem split2 {α : Type} {l : List α} {i : Nat} (h : i + 1 < l.length) : l = l.take i ++ l[i] :: l[i + 1] :: l.drop (i + 2) := by
  conv => lhs; rw [← List.take_append_drop i l, List.drop_eq_getElem_cons (show i < l.length by omega), List.drop_eq_getElem_cons h]
theorem atK {α : Type} {xs : List α} {i : Int} {n : Nat} {v : α} (hi : i = (n : Int)) (h : xs[n]? = some v) : atI xs i = some v :=  by
  subst hi
  exact atI_nat h
end

-- NEEDS m_known
/-! all rows with given counts, level by level -/
def lvP (cs : List Nat) : Nat → List (List Nat × List Nat)
  | 0 => [([], cs)]
  | i + 1 => (lvP cs i).flatMap fun e => (lft e.2).map fun j => (e.1 ++ [97 + j], dec e.2 j)
/-- all rows with the counts cs, sorted -/
def RL (cs : List Nat) : List (List Nat) := wl (szN (ones cs.length)) [] cs.sum cs []
structure LvI (cs : List Nat) (i : Nat) (e : List Nat × List Nat) : Prop where
  l2 : e.2.length = cs.length
  l1 : e.1.length = i
  s : e.2.sum + i = cs.sum
  k : ∀ k ∈ e.1, 97 ≤ k ∧ k < 97 + cs.length
  c : ∀ j, j < cs.length → e.1.count (97 + j) + e.2.getD j 0 = cs.getD j 0
theorem dec_sum1 {c : List Nat} {j : Nat} (h : j ∈ lft c) : (dec c j).sum + 1 = c.sum := by
  obtain ⟨h1, h2⟩ := mem_lft.mp h
  have := sum_set c j (c.getD j 0 - 1) h1
  unfold dec
  omega
theorem LvI.next {cs : List Nat} {i : Nat} {e : List Nat × List Nat} (h : LvI cs i e) {j : Nat} (hj : j ∈ lft e.2) : LvI cs (i + 1) (e.1 ++ [97 + j], dec e.2 j) := by
  obtain ⟨h1, h2⟩ := mem_lft.mp hj
  have hl := h.l2
  refine ⟨by rw [dec_len]; exact hl, by rw [List.length_append, h.l1]; rfl, ?_, fun k hk => ?_, fun a ha => ?_⟩
  · have := dec_sum1 hj
    have := h.s
    show (dec e.2 j).sum + (i + 1) = _
    omega
  · rcases List.mem_append.mp hk with hk | hk
    · exact h.k k hk
    · rw [List.mem_singleton.mp hk]
      omega
  · have := h.c a ha
    have hg : (dec e.2 j).getD a 0 = if j = a then e.2.getD j 0 - 1 else e.2.getD a 0 := by unfold dec; exact getD_set h1
    show (e.1 ++ [97 + j]).count (97 + a) + (dec e.2 j).getD a 0 = _
    rw [hg, List.count_append, List.count_singleton]
    by_cases z : j = a
    · subst z
      rw [if_pos rfl, if_pos (by simp)]
      omega
    · rw [if_neg z, if_neg (by simp; omega)]
      omega
theorem lvP_inv {cs : List Nat} : ∀ {i : Nat} {e : List Nat × List Nat}, e ∈ lvP cs i → LvI cs i e
  | 0, e, h => by
    rw [show lvP cs 0 = [([], cs)] from rfl, List.mem_singleton] at h
    subst h
    exact ⟨rfl, rfl, rfl, fun k hk => (by cases hk), fun j hj => by simp⟩
  | i + 1, e, h => by
    obtain ⟨e0, h0, h1⟩ := List.mem_flatMap.mp (show e ∈ (lvP cs i).flatMap _ from h)
    obtain ⟨j, hj, rfl⟩ := List.mem_map.mp h1
    exact (lvP_inv h0).next hj
theorem flat_congr {α β : Type} {f g : α → List β} : ∀ {l : List α}, (∀ x ∈ l, f x = g x) → l.flatMap f = l.flatMap g
  | [], _ => rfl
  | x :: r, h => by rw [List.flatMap_cons, List.flatMap_cons, h x List.mem_cons_self, flat_congr fun y hy => h y (List.mem_cons_of_mem _ hy)]
theorem lvP_rl {cs : List Nat} (hO : OkZ (ones cs.length)) : ∀ i m, i + m = cs.sum → (lvP cs i).flatMap (fun e => (wl (szN (ones cs.length)) [] m e.2 []).map (e.1 ++ ·)) = RL cs
  | 0, m, h => by
    rw [Nat.zero_add] at h
    rw [show lvP cs 0 = [([], cs)] from rfl, List.flatMap_singleton, h]
    show (wl _ [] cs.sum cs []).map (fun x => [] ++ x) = _
    simp [RL]
  | i + 1, m, h => by
    rw [← lvP_rl hO i (m + 1) (by omega)]
    rw [show lvP cs (i + 1) = (lvP cs i).flatMap fun e => (lft e.2).map fun j => (e.1 ++ [97 + j], dec e.2 j) from rfl, List.flatMap_assoc]
    refine flat_congr fun e he => ?_
    have hI := lvP_inv he
    rw [List.flatMap_map, show wl (szN (ones cs.length)) [] (m + 1) e.2 [] = (lft e.2).flatMap fun j => (wl (szN (ones cs.length)) [] m (dec e.2 j) (res (szN (ones cs.length)) ([] ++ [97 + j]))).map fun w => (97 + j) :: w from rfl, List.map_flatMap]
    refine flat_congr fun j hj => ?_
    have h1 := (mem_lft.mp hj).1
    have hr : res (szN (ones cs.length)) ([] ++ [97 + j]) = [] := ones_res hO fun k hk => by
      rw [List.nil_append, List.mem_singleton] at hk
      rw [hk, List.length_replicate]
      have := hI.l2
      omega
    rw [hr, List.map_map]
    refine List.map_congr_left fun w _ => ?_
    simp
theorem lvP_end {cs : List Nat} (hO : OkZ (ones cs.length)) : (lvP cs cs.sum).map (·.1) = RL cs := by
  rw [← lvP_rl hO cs.sum 0 rfl]
  induction lvP cs cs.sum with
  | nil => rfl
  | cons e r ih =>
    rw [List.map_cons, List.flatMap_cons, ih]
    show e.1 :: _ = [e.1 ++ []] ++ _
    rw [List.append_nil]
    rfl
theorem rl_count {cs : List Nat} (hO : OkZ (ones cs.length)) : (RL cs).length * pF cs = fac cs.sum := wl_count hO cs.sum cs rfl rfl
theorem lvP_len {cs : List Nat} (hO : OkZ (ones cs.length)) {i : Nat} (hi : i ≤ cs.sum) : (lvP cs i).length ≤ (RL cs).length := by
  rw [← lvP_rl hO i (cs.sum - i) (by omega)]
  have : ∀ L : List (List Nat × List Nat), (∀ e ∈ L, LvI cs i e) → L.length ≤ (L.flatMap fun e => (wl (szN (ones cs.length)) [] (cs.sum - i) e.2 []).map (e.1 ++ ·)).length := by
    intro L
    induction L with
    | nil => intro _; exact Nat.zero_le _
    | cons e r ih =>
      intro h
      rw [List.flatMap_cons, List.length_append, List.length_cons, List.length_map]
      have h1 := ih fun x hx => h x (List.mem_cons_of_mem _ hx)
      have hI := h e List.mem_cons_self
      have h2 := wl_count hO (cs.sum - i) e.2 (by have := hI.s; omega) hI.l2
      have h3 := fac_pos (cs.sum - i)
      have h4 : 0 < (wl (szN (ones cs.length)) [] (cs.sum - i) e.2 []).length := by
        rcases Nat.eq_zero_or_pos (wl (szN (ones cs.length)) [] (cs.sum - i) e.2 []).length with z | z
        · rw [z, Nat.zero_mul] at h2
          omega
        · exact z
      omega
  exact this _ fun e he => lvP_inv he
theorem RL_sorted (cs : List Nat) : (RL cs).Pairwise (· < ·) := wl_sorted _ _ _
theorem mem_RL {n : Nat} (hO : OkZ (ones n)) {l m : List Nat} (hL : OkR (ones n) l) : m ∈ RL (cntN n l) ↔ m.Perm l := by
  have e : RL (cntN n l) = reachL (ones n) l := by
    unfold RL reachL
    rw [cntN_len, ones_res hO hL, show (ones n).length = n from List.length_replicate]
  rw [e]
  exact mem_ones hO hL
/-! numbers of rows, computed by steps -/
/-- N is the number of rows with the counts cs -/
def NumR (cs : List Nat) (N : Nat) : Prop := N * pF cs = fac cs.sum
theorem NumR.uniq {cs : List Nat} {N M : Nat} (h1 : NumR cs N) (h2 : NumR cs M) : N = M := Nat.eq_of_mul_eq_mul_right (pF_pos cs) (h1.trans h2.symm)
/-- one bead more -/
theorem NumR.step {cs : List Nat} {N j : Nat} (h : NumR cs N) (hj : j < cs.length) (h6 : cs.length ≤ 6) : NumR (cs.set j (cs.getD j 0 + 1)) (N * (cs.sum + 1) / (cs.getD j 0 + 1)) := by
  have hO : OkZ (ones (cs.set j (cs.getD j 0 + 1)).length) := ⟨by rw [List.length_replicate, List.length_set]; omega, by rw [List.length_replicate, List.length_set]; omega, fun z hz => by rw [List.eq_of_mem_replicate hz]; decide⟩
  have hc := rl_count hO
  have hs : (cs.set j (cs.getD j 0 + 1)).sum = cs.sum + 1 := by
    have := sum_set cs j (cs.getD j 0 + 1) hj
    omega
  have hg : (cs.set j (cs.getD j 0 + 1)).getD j 0 = cs.getD j 0 + 1 := by rw [getD_set hj]; simp
  have hp := pF_dec (cs := cs.set j (cs.getD j 0 + 1)) (j := j) (by rw [List.length_set]; exact hj) (by rw [hg]; omega)
  have hd : dec (cs.set j (cs.getD j 0 + 1)) j = cs := by
    unfold dec
    rw [hg, Nat.add_sub_cancel, List.set_set]
    refine List.ext_getElem? fun i => ?_
    rw [List.getElem?_set]
    by_cases z : j = i
    · subst z
      rw [if_pos rfl, if_pos hj, List.getD_eq_getElem?_getD, List.getElem?_eq_getElem hj]
      rfl
    · rw [if_neg z]
  rw [hd, hg] at hp
  unfold NumR at h ⊢
  generalize (RL (cs.set j (cs.getD j 0 + 1))).length = M at hc
  rw [hp, hs] at hc
  have hf : fac (cs.sum + 1) = (cs.sum + 1) * fac cs.sum := rfl
  rw [hf, ← h] at hc
  have e : M * (cs.getD j 0 + 1) = N * (cs.sum + 1) := by
    refine Nat.eq_of_mul_eq_mul_right (pF_pos cs) ?_
    rw [Nat.mul_assoc, hc, Nat.mul_left_comm, Nat.mul_assoc]
  rw [← e, Nat.mul_div_cancel _ (by omega), hp, hs, hf, ← h]
  exact hc

def addT (ts : List (List Nat)) (t : List Nat) : List (List Nat) := if t ∈ ts then ts else t :: ts
theorem addT_mem {ts : List (List Nat)} {t u : List Nat} : u ∈ addT ts t ↔ u ∈ ts ∨ u = t := by
  unfold addT
  split
  · rename_i h
    constructor
    · exact .inl
    · rintro (h' | rfl)
      · exact h'
      · exact h
  · rw [List.mem_cons]
    exact Or.comm
theorem addT_nd {ts : List (List Nat)} {t : List Nat} (h : ts.Nodup) : (addT ts t).Nodup := by
  unfold addT
  split
  · exact h
  · rename_i h'
    exact List.nodup_cons.mpr ⟨h', h⟩
theorem addT_len (ts : List (List Nat)) (t : List Nat) : (addT ts t).length ≤ ts.length + 1 := by
  unfold addT
  split
  · omega
  · exact Nat.le_refl _
theorem txK_mem {ts : List (List Nat)} {t : List Nat} : txK t ∈ ts.map txK ↔ t ∈ ts := by
  rw [List.mem_map]
  constructor
  · rintro ⟨u, hu, e⟩
    rw [← S_inj (Sum.inr.inj e)]
    exact hu
  · intro h
    exact ⟨t, h, rfl⟩
theorem addK_tx (ts : List (List Nat)) (t : List Nat) : addK (ts.map txK) (txK t) = (addT ts t).map txK := by
  unfold addK addT
  by_cases h : t ∈ ts
  · rw [if_pos h, if_pos (txK_mem.mpr h)]
  · rw [if_neg h, if_neg fun z => h (txK_mem.mp z)]
    rfl

-- NEEDS m_conn m_adj m_reach m_wlb m_cnt
/-! the search over all moves, and the rows that it finds -/
section
variable {sz : Nat → Nat} {l : List Nat} {seen que : List (List Nat)} {x : List Nat} {i : Nat}
/-- what the search has seen, and what waits -/
structure Bfs (sz : Nat → Nat) (l : List Nat) (seen que : List (List Nat)) : Prop where
  nd : seen.Nodup
  me : l ∈ seen
  cn : ∀ x ∈ seen, Conn sz l x
  qs : ∀ x ∈ que, x ∈ seen
  ql : que.length ≤ seen.length
  cl : ∀ x ∈ seen, x ∉ que → ∀ m ∈ legals sz x, moved sz x m ∈ seen
/-- while the moves of x are gone through -/
structure BfsI (sz : Nat → Nat) (l : List Nat) (seen que : List (List Nat)) (x : List Nat) (i : Nat) : Prop where
  nd : seen.Nodup
  me : l ∈ seen
  cn : ∀ x ∈ seen, Conn sz l x
  qs : ∀ x ∈ que, x ∈ seen
  ql : que.length ≤ seen.length
  xs : x ∈ seen
  cl : ∀ y ∈ seen, y ∉ que → y ≠ x → ∀ m ∈ legals sz y, moved sz y m ∈ seen
  dn : ∀ j, j < i → ∀ m, (legals sz x)[j]? = some m → moved sz x m ∈ seen
theorem Bfs.start (sz : Nat → Nat) (l : List Nat) : Bfs sz l [l] [l] := ⟨by simp, by simp, fun x hx => by rw [List.mem_singleton.mp hx]; exact .refl _, fun x hx => hx, Nat.le_refl _, fun x hx h => absurd hx h⟩
theorem Bfs.pop (h : Bfs sz l seen (que ++ [x])) : BfsI sz l seen que x 0 := by
  refine ⟨h.nd, h.me, h.cn, fun y hy => h.qs y (by simp [hy]), ?_, h.qs x (by simp), fun y hy h1 h2 => h.cl y hy ?_, fun j hj => absurd hj (Nat.not_lt_zero _)⟩
  · have := h.ql
    rw [List.length_append] at this
    exact Nat.le_trans (Nat.le_add_right _ _) this
  · intro z
    rcases List.mem_append.mp z with z | z
    · exact h1 z
    · exact h2 (List.mem_singleton.mp z)
theorem BfsI.old (h : BfsI sz l seen que x i) {m : Mv} (hm : (legals sz x)[i]? = some m) (hs : moved sz x m ∈ seen) : BfsI sz l seen que x (i + 1) := by
  refine ⟨h.nd, h.me, h.cn, h.qs, h.ql, h.xs, h.cl, fun j hj m' hm' => ?_⟩
  by_cases e : j = i
  · subst e
    rw [hm] at hm'
    cases hm'
    exact hs
  · exact h.dn j (by omega) m' hm'
theorem BfsI.new (h : BfsI sz l seen que x i) {m : Mv} (hm : (legals sz x)[i]? = some m) (hs : moved sz x m ∉ seen) : BfsI sz l (seen ++ [moved sz x m]) (que ++ [moved sz x m]) x (i + 1) := by
  obtain ⟨h1, h2⟩ := legals_mem.mp (List.mem_of_getElem? hm)
  refine ⟨?_, by simp [h.me], fun y hy => ?_, fun y hy => ?_, ?_, by simp [h.xs], fun y hy g1 g2 m' hm' => ?_, fun j hj m' hm' => ?_⟩
  · rw [List.nodup_append]
    refine ⟨h.nd, by simp, fun a ha b hb e => ?_⟩
    rw [List.mem_singleton.mp hb] at e
    rw [e] at ha
    exact hs ha
  · rcases List.mem_append.mp hy with z | z
    · exact h.cn y z
    · rw [List.mem_singleton.mp z]
      exact (h.cn x h.xs).trans (Conn.step h1 h2)
  · rcases List.mem_append.mp hy with z | z
    · exact List.mem_append.mpr (.inl (h.qs y z))
    · exact List.mem_append.mpr (.inr z)
  · have := h.ql
    rw [List.length_append, List.length_append]
    exact Nat.add_le_add_right this _
  · rcases List.mem_append.mp hy with z | z
    · exact List.mem_append.mpr (.inl (h.cl y z (fun w => g1 (List.mem_append.mpr (.inl w))) g2 m' hm'))
    · exact absurd (List.mem_append.mpr (.inr z)) g1
  · by_cases e : j = i
    · subst e
      rw [hm] at hm'
      cases hm'
      simp
    · exact List.mem_append.mpr (.inl (h.dn j (by omega) m' hm'))
theorem BfsI.done (h : BfsI sz l seen que x (legals sz x).length) : Bfs sz l seen que := by
  refine ⟨h.nd, h.me, h.cn, h.qs, h.ql, fun y hy h1 m hm => ?_⟩
  by_cases e : y = x
  · subst e
    obtain ⟨j, hj, e⟩ := List.getElem_of_mem hm
    exact h.dn j hj m (by rw [List.getElem?_eq_getElem hj, e])
  · exact h.cl y hy h1 e m hm
theorem Bfs.way (h : Bfs sz l seen []) : ∀ {y : List Nat} {ms : List Mv} {z : List Nat}, y ∈ seen → Way sz y ms z → z ∈ seen
  | y, [], z, hy, hw => by cases (show y = z from hw); exact hy
  | y, m :: ms, z, hy, hw => h.way (h.cl y hy (by simp) m (legals_mem.mpr ⟨hw.1, hw.2.1⟩)) hw.2.2
theorem Bfs.all (h : Bfs sz l seen []) {z : List Nat} (hz : Conn sz l z) : z ∈ seen := by
  obtain ⟨ms, hw⟩ := hz
  exact h.way h.me hw
end
section
variable {zs : List Int} {l : List Nat}
/-- reachable by moves: in the list -/
theorem reach_conn (hZ : OkZ zs) (hL : OkR zs l) {m : List Nat} : m ∈ reachL zs l ↔ Conn (szN zs) l m := by
  have hs : ∀ k, 1 ≤ szN zs k := fun k => szN_pos hZ k
  rw [mem_reach hZ hL, conn_iff hs]
  constructor
  · rintro ⟨h1, h2, h3⟩
    exact ⟨(cnt_perm hL h1).mp h2, h3⟩
  · rintro ⟨h1, h2⟩
    have hm : OkR zs m := hL.perm h1
    exact ⟨hm, (cnt_perm hL hm).mpr h1, h2⟩
theorem reach_nodup : (reachL zs l).Nodup := by
  have h : (reachL zs l).Pairwise (· < ·) := wl_sorted _ _ _
  exact h.imp fun h e => by rw [e] at h; exact List.lt_irrefl _ h
theorem Bfs.le (hZ : OkZ zs) (hL : OkR zs l) {seen que : List (List Nat)} (h : Bfs (szN zs) l seen que) : seen.length ≤ (reachL zs l).length :=
  List.Nodup.length_le_of_subset h.nd fun x hx => (reach_conn hZ hL).mpr (h.cn x hx)
theorem BfsI.le (hZ : OkZ zs) (hL : OkR zs l) {seen que : List (List Nat)} {x : List Nat} {i : Nat} (h : BfsI (szN zs) l seen que x i) : seen.length ≤ (reachL zs l).length :=
  List.Nodup.length_le_of_subset h.nd fun x hx => (reach_conn hZ hL).mpr (h.cn x hx)
theorem sorted_eq {a b : List (List Nat)} (hp : a.Perm b) (ha : a.Pairwise fun x y => ¬ y < x) (hb : b.Pairwise fun x y => ¬ y < x) : a = b :=
  List.Perm.eq_of_pairwise (fun x y _ _ h1 h2 => List.le_antisymm (List.not_lt.mp h1) (List.not_lt.mp h2)) ha hb hp
theorem Bfs.sorted (hZ : OkZ zs) (hL : OkR zs l) {seen us : List (List Nat)} (h : Bfs (szN zs) l seen []) (hp : us.Perm seen) (hs : us.Pairwise fun x y => ¬ y < x) : us = reachL zs l := by
  have hr : (reachL zs l).Pairwise (· < ·) := wl_sorted _ _ _
  refine sorted_eq (hp.trans ?_) hs (hr.imp fun h z => List.lt_irrefl _ (List.lt_trans h z))
  rw [List.perm_ext_iff_of_nodup h.nd reach_nodup]
  intro y
  constructor
  · intro hy
    exact (reach_conn hZ hL).mpr (h.cn y hy)
  · intro hy
    exact h.all ((reach_conn hZ hL).mp hy)
end

-- NEEDS m_wl
abbrev seenK (seen : List (List Nat)) : List (Key × V) := seen.map fun x => (txK x, V.bl true)
theorem valV_seen {x : List Nat} : ∀ seen : List (List Nat), (valV (seenK seen) (txK x)).isSome = decide (x ∈ seen)
  | [] => by simp [valV_nil]
  | y :: r => by
    show (valV ((txK y, V.bl true) :: seenK r) (txK x)).isSome = _
    by_cases e : y = x
    · subst e
      rw [valV_pos rfl]
      simp
    · rw [valV_neg (fun z => e (S_inj (Sum.inr.inj z))), valV_seen r]
      have e' : ¬ x = y := fun z => e z.symm
      simp [e']

-- NEEDS _law_equal
/-! lists of rows as values -/
theorem txV_eq {x y : List Nat} : eqV (txV x) (txV y) = decide (x = y) := by
  show (S x == S y) = _
  rw [Bool.eq_iff_iff, beq_iff_eq, decide_eq_true_iff]
  exact S_eq_iff
theorem all_flat (W : List (List Nat)) : (W.map txV).all flatV = true := by
  rw [List.all_eq_true]
  intro v hv
  obtain ⟨x, _, rfl⟩ := List.mem_map.mp hv
  rfl
theorem nodup_get {α : Type} {W : List α} (h : W.Nodup) {i j : Nat} {x : α} (h1 : W[i]? = some x) (h2 : W[j]? = some x) : i = j := by
  obtain ⟨a1, a2⟩ := List.getElem?_eq_some_iff.mp h1
  obtain ⟨b1, b2⟩ := List.getElem?_eq_some_iff.mp h2
  rcases Nat.lt_trichotomy i j with z | z | z
  · have := List.pairwise_iff_getElem.mp h i j a1 b1 z
    exact absurd (a2.trans b2.symm) this
  · exact z
  · have := List.pairwise_iff_getElem.mp h j i b1 a1 z
    exact absurd (b2.trans a2.symm) this
theorem idx_no {W : List (List Nat)} {kx : Nat} {x : List Nat} (hx : W[kx]? = some x) (nd : W.Nodup) : ∀ (m : Nat) (z' : V), m < kx → (W.map txV)[m]? = some z' → eqV z' (txV x) = false := fun m z hm hz => by
  rw [List.getElem?_map] at hz
  obtain ⟨y, hy, rfl⟩ := Option.map_eq_some_iff.mp hz
  rw [txV_eq]
  refine decide_eq_false fun z => ?_
  subst z
  have := nodup_get nd hy hx
  omega
theorem idx_at {W : List (List Nat)} {kx : Nat} {x : List Nat} (hx : W[kx]? = some x) : (W.map txV)[kx]? = some (txV x) ∧ eqV (txV x) (txV x) = true := ⟨by rw [List.getElem?_map, hx]; rfl, by rw [txV_eq]; simp⟩
theorem atI_natC {α : Type} {xs : List α} {i : Int} {n : Nat} {v : α} (hi : i = (n : Int)) (h : xs[n]? = some v) : atI xs i = some v := by
  subst hi
  exact atI_nat h
theorem atI_lastN {α : Type} {xs : List α} {v : α} (h1 : 1 ≤ xs.length) (h : xs[xs.length - 1]? = some v) : atI xs (-1) = some v := by
  unfold atI ixN
  rw [if_neg (by decide), if_pos (by omega)]
  show xs[_]? = _
  rw [← h]
  congr 1
  omega
theorem nar2 {n : Nat} {a b : PyData} (ha : Nar n a) (hb : Nar n b) : Nar (n + 1) (.list [a, b]) := ⟨by show 2 ≤ 100000; decide, fun d hd => by
  rcases List.mem_cons.mp hd with rfl | hd
  · exact ha
  · rw [List.mem_singleton.mp hd]; exact hb⟩

-- NEEDS m_lev m_lay
/-! at most 7484400 rows of at most twelve beads can be reached -/
theorem fac_two : ∀ c, 2 ^ c ≤ 2 * fac c
  | 0 => by decide
  | 1 => by decide
  | c + 2 => by
    have ih := fac_two (c + 1)
    show 2 ^ (c + 2) ≤ 2 * ((c + 2) * fac (c + 1))
    rw [Nat.pow_succ]
    have h : 2 * fac (c + 1) * 2 ≤ 2 * ((c + 2) * fac (c + 1)) := by
      rw [Nat.mul_assoc]
      refine Nat.mul_le_mul_left 2 ?_
      rw [Nat.mul_comm]
      exact Nat.mul_le_mul_right _ (by omega)
    exact Nat.le_trans (Nat.mul_le_mul_right 2 ih) h
theorem pF_two : ∀ cs : List Nat, 2 ^ cs.sum ≤ 2 ^ cs.length * pF cs
  | [] => by decide
  | c :: cs => by
    have h1 := fac_two c
    have h2 := pF_two cs
    show 2 ^ (c + cs.sum) ≤ 2 ^ (cs.length + 1) * (fac c * pF cs)
    rw [Nat.pow_add, Nat.pow_succ]
    have h := Nat.mul_le_mul h1 h2
    have e : 2 * fac c * (2 ^ cs.length * pF cs) = 2 ^ cs.length * 2 * (fac c * pF cs) := by
      simp only [Nat.mul_assoc, Nat.mul_comm, Nat.mul_left_comm]
    omega
theorem num_bound {cs : List Nat} {N : Nat} (h6 : cs.length ≤ 6) (h12 : cs.sum ≤ 12) (h : N * pF cs = fac cs.sum) : N ≤ 7484400 := by
  have h1 := pF_two cs
  have h2 : N * 2 ^ cs.sum ≤ 64 * fac cs.sum := by
    have h3 := Nat.mul_le_mul_left N h1
    have h4 : 2 ^ cs.length ≤ 2 ^ 6 := Nat.pow_le_pow_right (by decide) h6
    have h5 : N * (2 ^ cs.length * pF cs) = 2 ^ cs.length * (N * pF cs) := by
      simp only [Nat.mul_comm, Nat.mul_left_comm]
    rw [h5, h] at h3
    exact Nat.le_trans h3 (Nat.mul_le_mul_right _ h4)
  generalize cs.sum = s at *
  have hs : s = 0 ∨ s = 1 ∨ s = 2 ∨ s = 3 ∨ s = 4 ∨ s = 5 ∨ s = 6 ∨ s = 7 ∨ s = 8 ∨ s = 9 ∨ s = 10 ∨ s = 11 ∨ s = 12 := by omega
  rcases hs with rfl | rfl | rfl | rfl | rfl | rfl | rfl | rfl | rfl | rfl | rfl | rfl | rfl <;> simp [fac] at h2 <;> omega
section
variable {zs : List Int} {l : List Nat}
theorem cnt_perm2 (hL : OkR zs l) {m : List Nat} (hM : OkR zs m) (h : cntN zs.length m = cntN zs.length l) : m.Perm l := by
  rw [List.perm_iff_count]
  intro a
  by_cases ha : 97 ≤ a ∧ a < 97 + zs.length
  · have h0 : (cntN zs.length m).getD (a - 97) 0 = (cntN zs.length l).getD (a - 97) 0 := by rw [h]
    rw [cntN_get _ (by omega), cntN_get _ (by omega), show 97 + (a - 97) = a by omega] at h0
    exact h0
  · rw [List.count_eq_zero.mpr fun z => ha (hM a z), List.count_eq_zero.mpr fun z => ha (hL a z)]
theorem reach_bound (hZ : OkZ zs) (hL : OkR zs l) (hl : l.length ≤ 12) : (reachL zs l).length ≤ 7484400 := by
  have hO : OkZ (ones zs.length) := ⟨by rw [List.length_replicate]; exact hZ.pos, by rw [List.length_replicate]; exact hZ.six, fun z hz => by rw [List.eq_of_mem_replicate hz]; decide⟩
  have hLO : OkR (ones zs.length) l := fun k hk => by
    rw [List.length_replicate]
    exact hL k hk
  have hcl : (cntN zs.length l).length = zs.length := cntN_len _ _
  have hle : (reachL zs l).length ≤ (RL (cntN zs.length l)).length := reach_nodup.length_le_of_subset fun w hw => by
    obtain ⟨hW, _, hc, _, _⟩ := reach_facts hZ hL hw
    exact (mem_RL hO hLO).mpr (cnt_perm2 hL hW hc)
  have hn := rl_count (cs := cntN zs.length l) (by rw [hcl]; exact hO)
  exact Nat.le_trans hle (num_bound (by rw [hcl]; exact hZ.six) (by rw [cntN_sum hL]; exact hl) hn)
end

-- NEEDS m_cnt difference m_every
theorem difD_none {zs : List Int} {l g : List Nat} (h : difD zs l g = .none) : cntN zs.length g = cntN zs.length l ∧ res (szN zs) g = res (szN zs) l := by
  unfold difD at h
  cases hf : firstDif zs.length l g with
  | some j => rw [hf] at h; cases h
  | none =>
    rw [hf] at h
    by_cases hr : res (szN zs) l = res (szN zs) g
    · refine ⟨List.map_congr_left fun j hj => ?_, hr.symm⟩
      have h1 := List.find?_eq_none.mp hf j hj
      have h2 : l.count (97 + j) = g.count (97 + j) := by simpa using h1
      exact h2.symm
    · simp [hr] at h

-- NEEDS m_ring m_grp
/-! ### the residue of a ring -/
theorem snoc_ind {α : Type} {P : List α → Prop} (h0 : P []) (h1 : ∀ l x, P l → P (l ++ [x])) (l : List α) : P l := by
  have : ∀ r : List α, P r.reverse := by
    intro r
    induction r with
    | nil => exact h0
    | cons x r ih => rw [List.reverse_cons]; exact h1 _ _ ih
  have h := this l.reverse
  rwa [List.reverse_reverse] at h
def txt (R : Stk) : List Nat := (R.map fun x => List.replicate x.2 x.1).flatten
theorem txt_app (a b : Stk) : txt (a ++ b) = txt a ++ txt b := by unfold txt; rw [List.map_append, List.flatten_append]
theorem txt_one (x : Nat × Nat) : txt [x] = List.replicate x.2 x.1 := by unfold txt; simp
theorem txt_cons (x : Nat × Nat) (a : Stk) : txt (x :: a) = List.replicate x.2 x.1 ++ txt a := by unfold txt; simp
theorem txt_rev (st : Stk) : txt st.reverse = flatS st := (flatS_flat st).symm
theorem txt_nil : txt [] = [] := rfl
/-- what becomes of the first and the last run, of one color -/
def pkT (sz : Nat → Nat) (x y : Nat × Nat) : Stk := if 0 < (x.2 + y.2) % sz x.1 then [(x.1, (x.2 + y.2) % sz x.1)] else []
def cyStep (sz : Nat → Nat) : Stk → Option Stk
  | [] => none
  | x :: t => match t.getLast? with
    | none => none
    | some y => if x.1 = y.1 then some (pkT sz x y ++ t.dropLast) else none
theorem cyStep_two (sz : Nat → Nat) (x y : Nat × Nat) (m : Stk) : cyStep sz (x :: (m ++ [y])) = if x.1 = y.1 then some (pkT sz x y ++ m) else none := by
  simp [cyStep]
theorem cyStep_len {sz : Nat → Nat} {R R' : Stk} (h : cyStep sz R = some R') : R'.length < R.length := by
  cases R with
  | nil => cases h
  | cons x t =>
    rcases List.eq_nil_or_concat t with rfl | ⟨m, y, rfl⟩
    · cases h
    · rw [List.concat_eq_append, cyStep_two] at h
      split at h
      · cases h
        rw [List.length_append]
        have : (pkT sz x y).length ≤ 1 := by unfold pkT; split <;> simp
        simp
        omega
      · cases h
def cyc (sz : Nat → Nat) (R : Stk) : Stk :=
  match h : cyStep sz R with
  | none => R
  | some R' => cyc sz R'
termination_by R.length
decreasing_by exact cyStep_len h
theorem cyc_none {sz : Nat → Nat} {R : Stk} (h : cyStep sz R = none) : cyc sz R = R := by
  rw [cyc]
  split
  · rfl
  · rename_i R' h2
    rw [h] at h2
    cases h2
theorem cyc_some {sz : Nat → Nat} {R R' : Stk} (h : cyStep sz R = some R') : cyc sz R = cyc sz R' := by
  rw [cyc]
  split
  · rename_i h2
    rw [h] at h2
    cases h2
  · rename_i R2 h2
    rw [h] at h2
    cases h2
    rfl
theorem cyc_nil (sz : Nat → Nat) : cyc sz [] = [] := cyc_none rfl
theorem cyc_one (sz : Nat → Nat) (x : Nat × Nat) : cyc sz [x] = [x] := cyc_none rfl
theorem cyc_ne {sz : Nat → Nat} {x y : Nat × Nat} {m : Stk} (h : x.1 ≠ y.1) : cyc sz (x :: (m ++ [y])) = x :: (m ++ [y]) := cyc_none (by rw [cyStep_two, if_neg h])
theorem cyc_eq {sz : Nat → Nat} {x y : Nat × Nat} {m : Stk} (h : x.1 = y.1) : cyc sz (x :: (m ++ [y])) = cyc sz (pkT sz x y ++ m) := cyc_some (by rw [cyStep_two, if_pos h])
section
variable {sz : Nat → Nat}
theorem vld_two {a b : Nat × Nat} {m : Stk} (h : Vld sz (a :: (m ++ [b]))) : (1 ≤ a.2 ∧ a.2 < sz a.1) ∧ (1 ≤ b.2 ∧ b.2 < sz b.1) := by
  have := (vld_iff.mp h).1
  exact ⟨this a (by simp), this b (by simp)⟩
theorem vld_app {a b : Stk} (h : Vld sz (a ++ b)) : Vld sz a ∧ Vld sz b := by
  induction a with
  | nil => exact ⟨trivial, h⟩
  | cons x a ih =>
    obtain ⟨h1, h2⟩ := ih h.tail
    refine ⟨?_, h2⟩
    obtain ⟨k, n⟩ := x
    have hh := h.head
    refine Vld.cons hh.1 hh.2 (fun d m r' e => ?_) h1
    subst e
    exact h.ne
theorem vld_ne {a b : Nat × Nat} {u v : Stk} (h : Vld sz (u ++ a :: b :: v)) : a.1 ≠ b.1 := by
  have := (vld_app h).2
  obtain ⟨k, n⟩ := a
  obtain ⟨d, m⟩ := b
  exact this.ne
/-- the first and the last differ: nothing is to be done -/
theorem cyc_ends {R : Stk} (h : ∀ x y m, R = x :: (m ++ [y]) → x.1 ≠ y.1) : cyc sz R = R := by
  cases R with
  | nil => exact cyc_nil _
  | cons x t =>
    rcases List.eq_nil_or_concat t with rfl | ⟨m, y, rfl⟩
    · exact cyc_one _ _
    · rw [List.concat_eq_append]
      exact cyc_ne (h x y m (by rw [List.concat_eq_append]))
theorem psh_other {st : Stk} {d n x : Nat} {r : Stk} (e : st = (d, n) :: r) (h : d ≠ x) (h1 : sz x ≠ 1) : psh sz st x = (x, 1) :: st := by
  subst e
  rw [psh_cons, if_neg h, if_neg (fun z => h1 z.symm)]
theorem psh_same1 {n x : Nat} {r : Stk} : psh sz ((x, n) :: r) x = if n + 1 = sz x then r else (x, n + 1) :: r := by rw [psh_cons, if_pos rfl]
/-- one bead, behind or ahead of the rest -/
theorem cyc_step (hs : ∀ k, 1 ≤ sz k) {r : Stk} (hv : Vld sz r) (x : Nat) : Rt (txt (cyc sz (psh sz r x))) (txt (cyc sz (psh sz r.reverse x).reverse)) := by
  by_cases h1 : sz x = 1
  · have triv : ∀ {st : Stk}, Vld sz st → psh sz st x = st := fun {st} hv => by
      cases st with
      | nil => rw [psh_nil, if_pos h1.symm]
      | cons y t =>
        obtain ⟨k, n⟩ := y
        have := hv.head
        rw [psh_cons, if_neg (fun z => by subst z; omega), if_pos h1.symm]
    rw [triv hv, triv (vld_rev hv), List.reverse_reverse]
    exact Rt.refl _
  · cases r with
    | nil =>
      rw [List.reverse_nil, psh_nil]
      split <;> exact Rt.refl _
    | cons a t =>
      rcases List.eq_nil_or_concat t with rfl | ⟨m, b, rfl⟩
      · obtain ⟨a, i⟩ := a
        by_cases ha : a = x
        · subst ha
          show Rt (txt (cyc sz (psh sz [(a, i)] a))) (txt (cyc sz (psh sz [(a, i)] a).reverse))
          rw [psh_same1]
          split <;> exact Rt.refl _
        · show Rt (txt (cyc sz (psh sz [(a, i)] x))) (txt (cyc sz (psh sz [(a, i)] x).reverse))
          rw [psh_other rfl ha h1]
          have e1 : cyc sz [(x, 1), (a, i)] = [(x, 1), (a, i)] := cyc_ne (m := []) (fun z => ha z.symm)
          have e2 : cyc sz [(x, 1), (a, i)].reverse = [(a, i), (x, 1)] := cyc_ne (m := []) ha
          rw [e1, e2]
          exact ⟨txt [(x, 1)], txt [(a, i)], txt_app [(x, 1)] [(a, i)], txt_app [(a, i)] [(x, 1)]⟩
      · rw [List.concat_eq_append] at hv ⊢
        obtain ⟨a, i⟩ := a
        obtain ⟨b, j⟩ := b
        obtain ⟨⟨hi0, hi1⟩, hj0, hj1⟩ := vld_two hv
        simp only at hi0 hi1 hj0 hj1
        have er : ((a, i) :: (m ++ [(b, j)])).reverse = (b, j) :: (m.reverse ++ [(a, i)]) := by simp
        rw [er]
        by_cases ha : a = x
        · subst ha
          rw [psh_same1]
          by_cases hb : b = a
          · subst hb
            rw [psh_same1]
            -- both ends are of this color
            have hm : ∃ c m' d, m = c :: m' ∧ c.1 ≠ b ∧ m.getLast? = some d ∧ d.1 ≠ b := by
              cases m with
              | nil => exact absurd rfl (vld_ne (sz := sz) (a := (b, i)) (b := (b, j)) (u := []) (v := []) hv)
              | cons c m' =>
                refine ⟨c, m', ((c :: m').getLast (by simp)), rfl, fun z => vld_ne (u := []) hv z.symm, List.getLast?_eq_some_getLast (by simp), fun z => ?_⟩
                have e := List.dropLast_concat_getLast (l := c :: m') (by simp)
                rw [← e] at hv
                have hv2 : Vld sz (((b, i) :: (c :: m').dropLast) ++ ((c :: m').getLast (by simp)) :: (b, j) :: []) := by simpa using hv
                exact vld_ne hv2 z
            obtain ⟨c, m', d, hm1, hc, hm2, hd⟩ := hm
            obtain ⟨m2, hm3⟩ := List.getLast?_eq_some_iff.mp hm2
            have q1 : ∀ n, cyc sz (m ++ [(b, n)]) = m ++ [(b, n)] := fun n => by
              rw [hm1]
              exact cyc_ne (m := m') hc
            have q2 : ∀ n, cyc sz ((b, n) :: m) = (b, n) :: m := fun n => by
              rw [hm3]
              exact cyc_ne (fun z => hd z.symm)
            have q3 : ∀ n, Rt (txt (m ++ [(b, n)])) (txt ((b, n) :: m)) := fun n => ⟨txt m, txt [(b, n)], txt_app _ _, by rw [txt_cons, txt_one]⟩
            have q4 : ∀ u v, cyc sz ((b, u) :: (m ++ [(b, v)])) = cyc sz (pkT sz (b, u) (b, v) ++ m) := fun u v => cyc_eq rfl
            by_cases e1 : i + 1 = sz b
            · rw [if_pos e1, q1]
              by_cases e2 : j + 1 = sz b
              · rw [if_pos e2]
                have : i = j := by omega
                subst this
                have e3 : (m.reverse ++ [(b, i)]).reverse = (b, i) :: m := by simp
                rw [e3, q2]
                exact q3 _
              · rw [if_neg e2]
                have e3 : ((b, j + 1) :: (m.reverse ++ [(b, i)])).reverse = (b, i) :: (m ++ [(b, j + 1)]) := by simp
                have e4 : pkT sz (b, i) (b, j + 1) = [(b, j)] := by
                  unfold pkT
                  have : (i + (j + 1)) % sz b = j := by rw [show i + (j + 1) = j + sz b by omega, Nat.add_mod_right, Nat.mod_eq_of_lt hj1]
                  simp only [this]
                  rw [if_pos (by omega)]
                rw [e3, q4, e4]
                show Rt _ (txt (cyc sz ((b, j) :: m)))
                rw [q2]
                exact q3 _
            · rw [if_neg e1, q4]
              by_cases e2 : j + 1 = sz b
              · rw [if_pos e2]
                have e3 : (m.reverse ++ [(b, i)]).reverse = (b, i) :: m := by simp
                have e4 : pkT sz (b, i + 1) (b, j) = [(b, i)] := by
                  unfold pkT
                  have : (i + 1 + j) % sz b = i := by rw [show i + 1 + j = i + sz b by omega, Nat.add_mod_right, Nat.mod_eq_of_lt hi1]
                  simp only [this]
                  rw [if_pos (by omega)]
                rw [e3, e4]
                exact Rt.refl _
              · rw [if_neg e2]
                have e3 : ((b, j + 1) :: (m.reverse ++ [(b, i)])).reverse = (b, i) :: (m ++ [(b, j + 1)]) := by simp
                have e4 : pkT sz (b, i) (b, j + 1) = pkT sz (b, i + 1) (b, j) := by
                  unfold pkT
                  simp only [show i + (j + 1) = i + 1 + j by omega]
                rw [e3, q4, e4]
                exact Rt.refl _
          · -- the first run alone
            rw [psh_other rfl hb h1]
            have e3 : ((a, 1) :: (b, j) :: (m.reverse ++ [(a, i)])).reverse = (a, i) :: ((m ++ [(b, j)]) ++ [(a, 1)]) := by simp
            rw [e3, cyc_eq (sz := sz) (x := (a, i)) (y := (a, 1)) (m := m ++ [(b, j)]) rfl]
            by_cases e1 : i + 1 = sz a
            · have e4 : pkT sz (a, i) (a, 1) = [] := by
                unfold pkT
                simp only [e1, Nat.mod_self]
                rw [if_neg (by omega)]
              rw [if_pos e1, e4]
              exact Rt.refl _
            · have e4 : pkT sz (a, i) (a, 1) = [(a, i + 1)] := by
                unfold pkT
                simp only [Nat.mod_eq_of_lt (show i + 1 < sz a by omega)]
                rw [if_pos (by omega)]
              rw [if_neg e1, e4]
              exact Rt.refl _
        · rw [psh_other rfl ha h1]
          by_cases hb : b = x
          · subst hb
            rw [psh_same1]
            have e0 : cyc sz ((b, 1) :: (a, i) :: (m ++ [(b, j)])) = cyc sz (pkT sz (b, 1) (b, j) ++ ((a, i) :: m)) := cyc_eq (sz := sz) (x := (b, 1)) (y := (b, j)) (m := (a, i) :: m) rfl
            rw [e0]
            by_cases e1 : j + 1 = sz b
            · have e4 : pkT sz (b, 1) (b, j) = [] := by
                unfold pkT
                simp only [show 1 + j = sz b by omega, Nat.mod_self]
                rw [if_neg (by omega)]
              have e3 : (m.reverse ++ [(a, i)]).reverse = (a, i) :: m := by simp
              rw [if_pos e1, e4, e3]
              exact Rt.refl _
            · have e4 : pkT sz (b, 1) (b, j) = [(b, j + 1)] := by
                unfold pkT
                simp only [Nat.mod_eq_of_lt (show 1 + j < sz b by omega)]
                rw [if_pos (by omega), Nat.add_comm 1 j]
              have e3 : ((b, j + 1) :: (m.reverse ++ [(a, i)])).reverse = (a, i) :: (m ++ [(b, j + 1)]) := by simp
              rw [if_neg e1, e4, e3, cyc_ne (sz := sz) (x := (a, i)) (y := (b, j + 1)) ha]
              have e5 : cyc sz ([(b, j + 1)] ++ ((a, i) :: m)) = (b, j + 1) :: ((a, i) :: m) := by
                refine cyc_ends fun p q n e => ?_
                have e' : (b, j + 1) :: ((a, i) :: m) = p :: (n ++ [q]) := e
                obtain ⟨rfl, e6⟩ := List.cons.inj e'
                have hv2 : Vld sz (n ++ q :: (b, j) :: []) := by
                  have : ((a, i) :: m) ++ [(b, j)] = (n ++ [q]) ++ [(b, j)] := by rw [e6]
                  have h3 : Vld sz (((a, i) :: m) ++ [(b, j)]) := hv
                  rw [this, List.append_assoc] at h3
                  exact h3
                exact fun z => vld_ne hv2 z.symm
              rw [e5]
              exact ⟨txt [(b, j + 1)], txt ((a, i) :: m), by rw [← txt_app]; rfl, by rw [← txt_app]; rfl⟩
          · rw [psh_other rfl hb h1]
            have e3 : ((x, 1) :: (b, j) :: (m.reverse ++ [(a, i)])).reverse = (a, i) :: ((m ++ [(b, j)]) ++ [(x, 1)]) := by simp
            rw [e3, cyc_ne (sz := sz) (x := (a, i)) (y := (x, 1)) ha]
            have e5 : cyc sz ((x, 1) :: ((a, i) :: (m ++ [(b, j)]))) = (x, 1) :: ((a, i) :: (m ++ [(b, j)])) := cyc_ne (sz := sz) (x := (x, 1)) (y := (b, j)) (m := (a, i) :: m) fun z => hb z.symm
            rw [e5]
            refine ⟨txt [(x, 1)], txt ((a, i) :: (m ++ [(b, j)])), by rw [← txt_app]; rfl, by rw [← txt_app]; rfl⟩
/-- the residue of a ring, at some place of it -/
def cres (sz : Nat → Nat) (l : List Nat) : List Nat := txt (cyc sz (stk sz l).reverse)
theorem cres_one (hs : ∀ k, 1 ≤ sz k) (x : Nat) (a : List Nat) : Rt (cres sz (x :: a)) (cres sz (a ++ [x])) := by
  have e1 : (stk sz (x :: a)).reverse = psh sz (stk sz a).reverse x := by
    rw [← stk_rev hs, List.reverse_cons, stk_snoc, stk_rev hs]
  have e2 : (stk sz (a ++ [x])).reverse = (psh sz (stk sz a).reverse.reverse x).reverse := by rw [stk_snoc, List.reverse_reverse]
  unfold cres
  rw [e1, e2]
  exact cyc_step hs (vld_rev (vld_of hs a)) x
theorem cres_rt (hs : ∀ k, 1 ≤ sz k) {a b : List Nat} (h : Rt a b) : Rt (cres sz a) (cres sz b) := by
  have go : ∀ (u v : List Nat), Rt (cres sz (u ++ v)) (cres sz (v ++ u)) := by
    intro u
    induction u with
    | nil => intro v; rw [List.append_nil]; exact Rt.refl _
    | cons x u ih =>
      intro v
      have h1 := cres_one hs x (u ++ v)
      have h2 := ih (v ++ [x])
      have e1 : u ++ (v ++ [x]) = (u ++ v) ++ [x] := by simp
      have e2 : (v ++ [x]) ++ u = v ++ x :: u := by simp
      rw [e1, e2] at h2
      exact h1.trans h2
  obtain ⟨u, v, rfl, rfl⟩ := h
  exact go u v
theorem cres_stk {a b : List Nat} (h : stk sz a = stk sz b) : cres sz a = cres sz b := by unfold cres; rw [h]
theorem flat_psh (st : Stk) (x : Nat) (hx : 1 ≤ sz x) : flatS (psh sz st x) = flatS st ++ [x] ∨ flatS st = flatS (psh sz st x) ++ List.replicate (sz x - 1) x := by
  have fc : ∀ (k n : Nat) (r : Stk), flatS ((k, n) :: r) = flatS r ++ List.replicate n k := fun k n r => rfl
  cases st with
  | nil =>
    rw [psh_nil]
    split
    · rename_i e; right; rw [← e]; rfl
    · left; rfl
  | cons y r =>
    obtain ⟨d, n⟩ := y
    rw [psh_cons]
    by_cases h : d = x
    · subst h
      rw [if_pos rfl]
      split
      · rename_i e; right; rw [fc, ← e]; rfl
      · left; rw [fc, fc, List.replicate_succ', List.append_assoc]
    · rw [if_neg h]
      split
      · rename_i e; right; rw [← e]; simp
      · left; rfl
theorem res_full (hs : ∀ k, 1 ≤ sz k) {l : List Nat} : (res sz l).length = l.length → res sz l = l := by
  induction l using snoc_ind with
  | h0 => intro _; rfl
  | h1 l x ih =>
    intro h
    have hl := stk_len (sz := sz) l
    have e : res sz (l ++ [x]) = flatS (psh sz (stk sz l) x) := by unfold res; rw [stk_snoc]
    rw [e] at h ⊢
    rw [List.length_append, List.length_singleton] at h
    rcases flat_psh (stk sz l) x (hs x) with h2 | h2
    · rw [h2] at h ⊢
      rw [List.length_append, List.length_singleton] at h
      rw [show flatS (stk sz l) = l from ih (by show (flatS (stk sz l)).length = _; omega)]
    · have := congrArg List.length h2
      rw [List.length_append] at this
      omega
theorem res_pre (hs : ∀ k, 1 ≤ sz k) {p q : List Nat} (h : res sz (p ++ q) = p ++ q) : res sz p = p := by
  refine res_full hs ?_
  have h1 := foldl_flat_len (sz := sz) q (stk sz p)
  have h2 := congrArg List.length h
  have h3 := stk_len (sz := sz) p
  unfold res at h2 ⊢
  rw [stk_app, List.length_append] at h2
  omega
theorem res_suf (hs : ∀ k, 1 ≤ sz k) {p q : List Nat} (h : res sz (p ++ q) = p ++ q) : res sz q = q := by
  have h1 : res sz (q.reverse ++ p.reverse) = q.reverse ++ p.reverse := by rw [← List.reverse_append, res_rev hs, h]
  have h2 := res_pre hs h1
  rw [res_rev hs] at h2
  have := congrArg List.reverse h2
  simpa using this
/-- a row whose residue falls into two parts falls into two parts -/
theorem stk_split (hs : ∀ k, 1 ≤ sz k) : ∀ (w p q : List Nat), res sz w = p ++ q → ∃ u v, w = u ++ v ∧ res sz u = p ∧ res sz v = q := by
  intro w
  induction w using snoc_ind with
  | h0 =>
    intro p q h
    have h' : ([] : List Nat) = p ++ q := h
    have := List.append_eq_nil_iff.mp h'.symm
    exact ⟨[], [], rfl, this.1.symm, this.2.symm⟩
  | h1 w x ih =>
    intro p q h
    have e : res sz (w ++ [x]) = flatS (psh sz (stk sz w) x) := by unfold res; rw [stk_snoc]
    have hq : res sz q = q := res_suf hs (p := p) (by rw [← h, res_res hs])
    have snoc : ∀ v, res sz (v ++ [x]) = res sz (res sz v ++ [x]) := fun v => (res_snoc fun y _ => hs y).symm
    rcases flat_psh (stk sz w) x (hs x) with h2 | h2
    · rw [← e, h] at h2
      rcases List.eq_nil_or_concat q with rfl | ⟨q', y, rfl⟩
      · exact ⟨w ++ [x], [], by simp, by rw [h]; simp, rfl⟩
      · rw [List.concat_eq_append] at h2 hq ⊢
        rw [← List.append_assoc] at h2
        obtain ⟨h3, h4⟩ := List.append_inj' h2 rfl
        have h4 : y = x := by simpa using h4
        subst h4
        obtain ⟨u, v, rfl, hu, hv⟩ := ih p q' h3.symm
        exact ⟨u, v ++ [y], by simp, hu, by rw [snoc, hv]; exact hq⟩
    · rw [← e, h] at h2
      rw [List.append_assoc] at h2
      obtain ⟨u, v, rfl, hu, hv⟩ := ih p (q ++ List.replicate (sz x - 1) x) h2
      refine ⟨u, v ++ [x], by simp, hu, ?_⟩
      rw [snoc, hv, List.append_assoc]
      have e3 : List.replicate (sz x - 1) x ++ [x] = List.replicate (sz x) x := by
        rw [← List.replicate_succ']
        congr 1
        have := hs x
        omega
      have e4 := stk_pack (sz := sz) (u := q) (v := []) (k := x) (fun y _ => hs y) (hs x)
      rw [List.append_nil, List.append_nil] at e4
      rw [e3]
      exact (res_eq_of e4).trans hq
theorem txt_stk {R : Stk} (h : Vld sz R) : stk sz (txt R) = R.reverse := by
  have := stk_flat (vld_rev h)
  rw [← txt_rev, List.reverse_reverse] at this
  exact this
theorem rep_act {m : Stk} {a n : Nat} (hm : NoTop a m) (ha : 1 ≤ sz a) (hn : n < 2 * sz a) : (List.replicate n a).foldl (psh sz) m = (if 0 < n % sz a then [(a, n % sz a)] else []) ++ m := by
  rcases Nat.lt_trichotomy n (sz a) with h | h | h
  · rw [Nat.mod_eq_of_lt h]
    by_cases h0 : 0 < n
    · rw [if_pos h0, psh_run hm h0 h]; rfl
    · rw [if_neg h0, show n = 0 by omega]; rfl
  · rw [h, Nat.mod_self, if_neg (by omega), psh_full hm ha]; rfl
  · have e : n % sz a = n - sz a := by rw [Nat.mod_eq_sub_mod (by omega), Nat.mod_eq_of_lt (by omega)]
    rw [e, if_pos (by omega)]
    have e2 : List.replicate n a = List.replicate (sz a) a ++ List.replicate (n - sz a) a := by rw [List.replicate_append_replicate]; congr 1; omega
    rw [e2, List.foldl_append, psh_full hm ha, psh_run hm (by omega) (by omega)]; rfl
theorem stk_ress (hs : ∀ k, 1 ≤ sz k) (u v : List Nat) : stk sz (u ++ v) = stk sz (res sz u ++ res sz v) := by
  rw [stk_congL hs (stk_res hs u).symm v, stk_congR hs (stk_res hs v).symm (res sz u)]
theorem cyc_rot (hs : ∀ k, 1 ≤ sz k) : ∀ (n : Nat) (w : List Nat), (stk sz w).length ≤ n → ∃ w', Rt w w' ∧ (stk sz w').reverse = cyc sz (stk sz w).reverse := by
  intro n
  induction n with
  | zero =>
    intro w h
    have e : stk sz w = [] := List.length_eq_zero_iff.mp (by omega)
    exact ⟨w, Rt.refl w, by rw [e]; exact (cyc_nil _).symm⟩
  | succ n ih =>
    intro w h
    cases hc : cyStep sz (stk sz w).reverse with
    | none => exact ⟨w, Rt.refl w, (cyc_none hc).symm⟩
    | some R' =>
      have hv := vld_rev (vld_of hs w)
      have hlen := cyStep_len hc
      rw [List.length_reverse] at hlen
      have hR : res sz w = txt (stk sz w).reverse := (txt_rev _).symm
      rw [cyc_some hc]
      generalize (stk sz w).reverse = R at *
      cases R with
      | nil => cases hc
      | cons x t =>
        rcases List.eq_nil_or_concat t with rfl | ⟨m, y, rfl⟩
        · cases hc
        · rw [List.concat_eq_append] at hc hv hR
          rw [cyStep_two] at hc
          by_cases hxy : x.1 = y.1
          · rw [if_pos hxy] at hc
            cases hc
            obtain ⟨a, i⟩ := x
            obtain ⟨b, j⟩ := y
            have hxy : a = b := hxy
            subst hxy
            obtain ⟨⟨hi0, hi1⟩, hj0, hj1⟩ := vld_two hv
            simp only at hi0 hi1 hj0 hj1
            have e0 : (a, i) :: (m ++ [(a, j)]) = ((a, i) :: m) ++ [(a, j)] := rfl
            rw [e0, txt_app, txt_one] at hR
            obtain ⟨u, v, rfl, hu, hv2⟩ := stk_split hs w _ _ hR
            have hvm : Vld sz m := (vld_app (a := m) (b := [(a, j)]) hv.tail).1
            have hnt : NoTop a m := fun d k r e => by
              subst e
              have hv3 : Vld sz ([] ++ (a, i) :: (d, k) :: (r ++ [(a, j)])) := hv
              exact fun z => vld_ne hv3 z.symm
            have key : (stk sz (v ++ u)).reverse = pkT sz (a, i) (a, j) ++ m := by
              rw [stk_ress hs, hu, hv2, txt_cons, ← stk_rev hs]
              have e1 : (List.replicate j a ++ (List.replicate i a ++ txt m)).reverse = (txt m).reverse ++ List.replicate (i + j) a := by
                rw [List.reverse_append, List.reverse_append, List.reverse_replicate, List.reverse_replicate, List.append_assoc, List.replicate_append_replicate]
              rw [e1, stk_app, stk_rev hs, txt_stk hvm, List.reverse_reverse, rep_act hnt (hs a) (by omega)]
              rfl
            have hl2 : (stk sz (v ++ u)).length ≤ n := by
              rw [← List.length_reverse, key]
              omega
            obtain ⟨w', h1, h2⟩ := ih (v ++ u) hl2
            refine ⟨w', Rt.trans ⟨u, v, rfl, rfl⟩ h1, ?_⟩
            rw [h2, key]
          · rw [if_neg hxy] at hc; cases hc
theorem cyc_len : ∀ (n : Nat) (R : Stk), R.length ≤ n → (txt (cyc sz R)).length ≤ (txt R).length ∧ ((txt (cyc sz R)).length = (txt R).length → Rt (txt R) (txt (cyc sz R))) := by
  intro n
  induction n with
  | zero =>
    intro R h
    have e : R = [] := List.length_eq_zero_iff.mp (by omega)
    subst e
    rw [cyc_nil]
    exact ⟨Nat.le_refl _, fun _ => Rt.refl _⟩
  | succ n ih =>
    intro R h
    cases hc : cyStep sz R with
    | none =>
      rw [cyc_none hc]
      exact ⟨Nat.le_refl _, fun _ => Rt.refl _⟩
    | some R' =>
      have hlen := cyStep_len hc
      rw [cyc_some hc]
      obtain ⟨h1, h2⟩ := ih R' (by omega)
      cases R with
      | nil => cases hc
      | cons x t =>
        rcases List.eq_nil_or_concat t with rfl | ⟨m, y, rfl⟩
        · cases hc
        · rw [List.concat_eq_append] at hc ⊢
          rw [cyStep_two] at hc
          by_cases hxy : x.1 = y.1
          · rw [if_pos hxy] at hc
            cases hc
            obtain ⟨a, i⟩ := x
            obtain ⟨b, j⟩ := y
            have hxy : a = b := hxy
            subst hxy
            have e1 : txt (pkT sz (a, i) (a, j) ++ m) = List.replicate ((i + j) % sz a) a ++ txt m := by
              rw [txt_app]
              congr 1
              unfold pkT
              simp only
              split
              · rw [txt_one]
              · rename_i h0
                rw [show (i + j) % sz a = 0 by omega]
                rfl
            have e2 : txt ((a, i) :: (m ++ [(a, j)])) = (List.replicate i a ++ txt m) ++ List.replicate j a := by rw [txt_cons, txt_app, txt_one, List.append_assoc]
            have hmod : (i + j) % sz a ≤ i + j := Nat.mod_le _ _
            have l1 := congrArg List.length e1
            have l2 := congrArg List.length e2
            rw [List.length_append, List.length_replicate] at l1
            rw [List.length_append, List.length_append, List.length_replicate, List.length_replicate] at l2
            refine ⟨by omega, fun e => ?_⟩
            have h3 := h2 (by omega)
            refine Rt.trans ?_ h3
            rw [e1, e2]
            have e3 : (i + j) % sz a = j + i := by omega
            rw [e3, ← List.replicate_append_replicate]
            exact ⟨List.replicate i a ++ txt m, List.replicate j a, rfl, by rw [List.append_assoc]⟩
          · rw [if_neg hxy] at hc; cases hc
/-- of the residues of a ring's readings the shortest -/
theorem cres_least (hs : ∀ k, 1 ≤ sz k) {w : List Nat} (h : ∀ w', Rt w w' → (res sz w).length ≤ (res sz w').length) : Rt (res sz w) (cres sz w) := by
  obtain ⟨w', h1, h2⟩ := cyc_rot hs _ w (Nat.le_refl _)
  have e1 : res sz w' = cres sz w := by
    unfold cres
    rw [← h2, txt_rev]
    rfl
  have e2 : res sz w = txt (stk sz w).reverse := (txt_rev _).symm
  obtain ⟨h3, h4⟩ := cyc_len (sz := sz) _ (stk sz w).reverse (Nat.le_refl _)
  have h5 := h w' h1
  rw [e1] at h5
  rw [e2] at h5 ⊢
  exact h4 (by unfold cres at h5; omega)
/-! ### the least reading -/
def rots (l : List Nat) : List (List Nat) := (List.range (max 1 l.length)).map (rot l)
theorem mem_rots {l y : List Nat} : y ∈ rots l ↔ Rt l y := by
  unfold rots
  rw [List.mem_map]
  constructor
  · rintro ⟨i, _, rfl⟩
    exact rt_rot l i
  · intro h
    obtain ⟨i, hi, rfl⟩ := h.rot
    by_cases e : i = l.length
    · refine ⟨0, by rw [List.mem_range]; omega, ?_⟩
      rw [e, rot_zero, rot_full]
    · exact ⟨i, by rw [List.mem_range]; omega, rfl⟩
def lmin : List (List Nat) → List Nat
  | [] => []
  | [x] => x
  | x :: y :: r => if x < lmin (y :: r) then x else lmin (y :: r)
theorem lmin_mem : ∀ {ts : List (List Nat)}, ts ≠ [] → lmin ts ∈ ts ∧ ∀ y ∈ ts, ¬ y < lmin ts
  | [], h => absurd rfl h
  | [x], _ => ⟨by simp [lmin], fun y hy => by rw [List.mem_singleton.mp hy]; exact ltl_irr _⟩
  | x :: y :: r, _ => by
    obtain ⟨h1, h2⟩ := lmin_mem (ts := y :: r) (by simp)
    unfold lmin
    split
    · rename_i h
      refine ⟨by simp, fun z hz hlt => ?_⟩
      rcases List.mem_cons.mp hz with rfl | hz
      · exact ltl_irr _ hlt
      · exact h2 z hz (ltl_trans hlt h)
    · rename_i h
      refine ⟨List.mem_cons_of_mem _ h1, fun z hz => ?_⟩
      rcases List.mem_cons.mp hz with rfl | hz
      · exact h
      · exact h2 z hz
theorem lmin_uniq {ts us : List (List Nat)} {m : List Nat} (hm : m ∈ ts) (hl : ∀ y ∈ ts, ¬ y < m) (h : ∀ y, y ∈ ts ↔ y ∈ us) : m = lmin us := by
  have hu : us ≠ [] := fun z => by have := (h m).mp hm; rw [z] at this; cases this
  obtain ⟨h1, h2⟩ := lmin_mem hu
  exact List.le_antisymm (List.not_lt.mp (hl _ ((h _).mpr h1))) (List.not_lt.mp (h2 _ ((h _).mp hm)))
/-- the least reading of a ring -/
def can (l : List Nat) : List Nat := lmin (rots l)
theorem can_of {l m : List Nat} (hm : m ∈ rots l) (hl : ∀ y ∈ rots l, ¬ y < m) : m = can l := lmin_uniq hm hl fun _ => Iff.rfl
theorem rots_ne (l : List Nat) : rots l ≠ [] := fun z => by
  have := mem_rots.mpr (Rt.refl l)
  rw [z] at this
  cases this
theorem can_rt {a b : List Nat} (h : Rt a b) : can a = can b := by
  obtain ⟨h1, h2⟩ := lmin_mem (rots_ne a)
  refine lmin_uniq h1 h2 fun y => ?_
  rw [mem_rots, mem_rots]
  exact ⟨fun z => h.symm.trans z, fun z => h.trans z⟩
theorem can_mem (l : List Nat) : Rt l (can l) := mem_rots.mp (lmin_mem (rots_ne l)).1
theorem cres_moved (hs : ∀ k, 1 ≤ sz k) {l : List Nat} {m : Mv} (hi : m.1 < l.length) (h : rlegal sz l m = true) : can (cres sz (rmoved sz l m)) = can (cres sz l) := by
  obtain ⟨_, g1, g2, _, g4⟩ := rlegal_facts hs hi h
  rw [← can_rt (cres_rt hs g4), cres_stk (moved_stk hs g1 g2), ← can_rt (cres_rt hs (rt_rot l _))]
end

-- NEEDS m_cyc m_tps rings split_runs reduce_row
theorem rots_len (l : List Nat) : (rots l).length = max 1 l.length := by unfold rots; rw [List.length_map, List.length_range]
theorem rots_get {l : List Nat} {i : Nat} (h : i < max 1 l.length) : (rots l)[i]? = some (rot l i) := by unfold rots; rw [List.getElem?_map, List.getElem?_range h]; rfl
def sp_rotations (K : PySem.W.Frag) : Sp := fun vs H Q _ => ∃ (l : List Nat), vs = [.str (S l)] ∧ l.length ≤ 1000 ∧ ∀ (H' : Hp) (t : Addr), Same H H' → H t = none → H' t = some (.lst ((rots l).map txV)) → Q (.ref t) H'
theorem max_int (n : Nat) : (if ((n : Nat) : Int) > 1 then ((n : Nat) : Int) else 1) = ((max 1 n : Nat) : Int) := by
  split <;> omega
def sp_canonical_ring (K : PySem.W.Frag) : Sp := fun vs H Q _ => ∃ (a : Addr) (zs : List Int) (l : List Nat), vs = [.ref a, .str (S l)] ∧ SqT K H a (zs.map V.int) ∧ OkZ zs ∧ OkR zs l ∧ l.length ≤ 40 ∧ ∀ H', Same H H' → Q (.str (S (can l))) H'
theorem min_rots {K : PySem.W.Frag} {H : Hp} {p : Addr} {l : List Nat} {Q : VK} (h : SqL K H p ((rots l).map txV)) (q : Q (.str (S (can l))) H) : gMin K [.ref p] H Q :=
  .inr ⟨rots l, h, by rw [rots_len]; omega, fun m hm hl => by rw [can_of hm hl]; exact q⟩
abbrev runV (x : Nat × Nat) : List V := [.str (S [x.1]), iv x.2]
theorem cyStep_facts {sz : Nat → Nat} {R R' : Stk} (h : cyStep sz R = some R') : (∀ x ∈ R', ∃ y ∈ R, x.1 = y.1) ∧ (txt R').length ≤ (txt R).length := by
  cases R with
  | nil => cases h
  | cons x t =>
    rcases List.eq_nil_or_concat t with rfl | ⟨m, y, rfl⟩
    · cases h
    · rw [List.concat_eq_append] at h ⊢
      rw [cyStep_two] at h
      split at h
      · cases h
        constructor
        · intro z hz
          rcases List.mem_append.mp hz with hz | hz
          · unfold pkT at hz
            split at hz
            · rw [List.mem_singleton.mp hz]; exact ⟨x, by simp, rfl⟩
            · cases hz
          · exact ⟨z, by simp [hz], rfl⟩
        · rw [txt_app, txt_cons, txt_app, txt_one]
          have h1 : (txt (pkT sz x y)).length ≤ x.2 + y.2 := by
            unfold pkT
            split
            · rw [txt_one, List.length_replicate]
              exact Nat.mod_le _ _
            · exact Nat.zero_le _
          simp only [List.length_append, List.length_replicate]
          omega
      · cases h
theorem cutL_mid1 {α : Type} (x y : α) (m : List α) : cutL (x :: (m ++ [y])) (some 1) (some (-1)) = m := by
  unfold cutL
  have e1 : HT.sIx (x :: (m ++ [y])).length 0 (some 1) = 1 := by
    rw [sIx_some _ _ (by decide)]
    simp
  have e2 : HT.sIx (x :: (m ++ [y])).length (x :: (m ++ [y])).length (some (-1)) = m.length + 1 := by
    unfold HT.sIx
    show (if (-1 : Int) < 0 then ((-1 : Int) + ((x :: (m ++ [y])).length : Int)).toNat else _) = _
    rw [if_pos (by decide)]
    simp
    omega
  rw [e1, e2]
  simp
def sp_reduce_ring (K : PySem.W.Frag) : Sp := fun vs H Q _ => ∃ (a : Addr) (zs : List Int) (l : List Nat), vs = [.ref a, .str (S l)] ∧ SqT K H a (zs.map V.int) ∧ OkZ zs ∧ OkR zs l ∧ l.length ≤ 1000 ∧ ∀ H', Same H H' → Q (.str (S (can (cres (szN zs) l)))) H'
def sp_cyclic_residue (K : PySem.W.Frag) : Sp := fun vs H Q _ => ∃ (a : Addr) (zs : List Int) (l : List Nat), vs = [.ref a, .str (S l)] ∧ SqT K H a (zs.map V.int) ∧ OkZ zs ∧ OkR zs l ∧ l.length ≤ 40 ∧ ∀ H', Same H H' → Q (.str (S (can (cres (szN zs) l)))) H'

-- NEEDS m_cyc m_conn
section
variable {sz : Nat → Nat}
/-- a rotation whose residue is the canonical cyclic residue -/
theorem rot_can (hs : ∀ k, 1 ≤ sz k) (w : List Nat) : ∃ w', Rt w w' ∧ res sz w' = can (cres sz w) := by
  obtain ⟨w', h1, h2⟩ := cyc_rot hs (stk sz w).length w (Nat.le_refl _)
  have hc : res sz w' = cres sz w := by
    unfold res cres
    rw [← txt_rev, h2]
  obtain ⟨p, q, e1, e2⟩ := can_mem (cres sz w)
  obtain ⟨u, v, ew, hu, hv⟩ := stk_split hs w' p q (hc.trans e1)
  have r1 : Rt w (v ++ u) := h1.trans (by rw [ew]; exact ⟨u, v, rfl, rfl⟩)
  have hres : res sz (v ++ u) = res sz (q ++ p) := by
    have := stk_ress hs v u
    rw [hu, hv] at this
    exact res_eq_of this
  refine ⟨v ++ u, r1, ?_⟩
  rw [e2, hres]
  refine res_full hs ?_
  have l1 : (cres sz (v ++ u)).length = (cres sz w).length := (cres_rt hs r1).len
  have l2 : (cres sz (v ++ u)).length ≤ (res sz (v ++ u)).length := by
    have := (cyc_len (sz := sz) _ (stk sz (v ++ u)).reverse (Nat.le_refl _)).1
    rw [txt_rev] at this
    exact this
  have l3 : (res sz (q ++ p)).length ≤ (q ++ p).length := stk_len (q ++ p)
  have l4 : (q ++ p).length = (cres sz w).length := by rw [e1, List.length_append, List.length_append]; omega
  rw [hres] at l2
  omega
end

-- NEEDS allr cyclic m_cyc2 m_cnt m_addT
/-! reachable_rings -/

-- NEEDS checks list_moves m_way
/-- prices that are valid -/
structure OkP (zs ps : List Int) : Prop where
  len : ps.length = zs.length
  all : ∀ p ∈ ps, 1 ≤ p ∧ p ≤ 99
theorem allTrue : ∀ n : Nat, (List.replicate n true).all id = true
  | 0 => rfl
  | n + 1 => by rw [List.replicate_succ, List.all_cons, allTrue n]; rfl
abbrev s_check_prices : Stmt := topS 27
theorem sc_check_prices : FnScope ["sizes", "prices", "price"] ["sizes", "prices"] (defScope s_check_prices) := ⟨rfl, rfl, rfl, by decide +kernel, rfl, by decide +kernel, by decide +kernel⟩

def sp_check_prices (K : PySem.W.Frag) : Sp := fun vs H Q _ => ∃ (a b : Addr) (zs ps : List Int), vs = [.ref a, .ref b] ∧ SqT K H a (zs.map V.int) ∧ SqT K H b (ps.map V.int) ∧ OkZ zs ∧ OkP zs ps ∧ ∀ H', Same H H' → Q .non H'
theorem ok_check_prices {f : Addr} {fd : FuncData} (F : Fun K "check_prices" "check_prices" s_check_prices f fd) (B : Bi mg) (C_is_int_in : Cal P w K mg base CX0 1 "is_int_in" ["value", "low", "high"] (sp_is_int_in K)) (m_MAX_PRICE : ∃ t, mg "MAX_PRICE" = some (.int 99 t)) : FnOk P w K mg base CX0 2 f fd ["sizes", "prices"] (sp_check_prices K) := by
  refine F.ok sc_check_prices (fun vs H Q E h => ?_) (fun cdv A outer s H vs Q E hr h => ?_)
  · obtain ⟨a, b, zs, ps, rfl, _⟩ := h
    rfl
  · obtain ⟨a, b, zs, ps, rfl, hT, hP, hZ, hO, q⟩ := h
    refine ⟨_, (pss_cons (ps_if (pw_or (pt_not (pt_truG (K := K) (pe_callB (cr_isiG (K := K) .ktuple) (by rfl) B.isinstance bt_isinstance (pa_cons (gv 1) (pa_cons (pe_bltn (v := .ty "tuple") (by rfl) B.tuple bt_tuple rfl) pa_nil))))) (pw_or1 (pt_cmpG (op_neG (K := K) hr.units) (pe_callB (cr_lenG (K := K)) (by rfl) B.len bt_len (pa_cons (gv 1) pa_nil)) (pe_callB (cr_lenG (K := K)) (by rfl) B.len bt_len (pa_cons (gv 0) pa_nil)) (nomark _)))).pt
      (pss_one ps_never)
      pss_nil)
      (pss_one (ps_if (pt_not (pt_truG (K := K) (pe_callB (cr_allG (K := K) rfl) (by rfl) B.all bt_all (pa_cons (pe_lc (own := [("price", 2)]) (by rfl) sc_check_prices.nd (pi_seqG (K := K) (gv 1)) (blkOk_by (N := ["sizes", "prices", "price"]) (sc := defScope s_check_prices) (by decide +kernel)) (fun _ _ _ _ _ => (pg_name (i := 2) sc_check_prices.nd rfl (.inl rfl))) (fun _ _ _ _ _ => pts_nil) (fun _ _ _ _ _ => (pe_cal C_is_int_in (hr.mono (by decide)) pass0 (pa_cons (gv 2) (pa_cons pe_int (pa_cons (g_int m_MAX_PRICE) pa_nil)))))) pa_nil))))
      (pss_one ps_never)
      pss_nil))), ?_⟩
    have h6 := hZ.six
    have hlen := hO.len
    refine ⟨rfl, .inr ⟨⟨_, hP⟩, ?_⟩⟩
    refine ⟨_, .inr hP, _, .inr hT, iteB ⟨fun e => ?_, fun _ => ?_⟩⟩
    · exfalso
      have e' : (!decide ((((ps.map V.int).length : Nat) : Int) = (((zs.map V.int).length : Nat) : Int))) = true := e
      rw [List.length_map, List.length_map, hlen] at e'
      simp at e'
    refine .inr ⟨_, hP, fun D hD => ?_⟩
    refine lc_it (walk_tup (xs := ps.map V.int)) (fun j H' => Same H H' ∧ H' D = some (.lst ((List.replicate j true).map V.bl))) ⟨same_upd hD, upd_same⟩ ?_ ?_ ?_
    · rintro j H1 _ ⟨s1, _⟩
      exact s1.tup hP
    · rintro j x H1 H2 hj ⟨s1, hD1⟩ ⟨rfl, hx⟩
      rw [List.getElem?_map] at hx
      obtain ⟨p, hp, rfl⟩ := Option.map_eq_some_iff.mp hx
      have hp1 := hO.all p (List.mem_of_getElem? hp)
      have hjl : j < ps.length := by rw [List.length_map] at hj; exact hj
      refine ⟨rfl, _, _, _, rfl, .inl ⟨p, rfl, ?_⟩⟩
      rw [decide_eq_true hp1]
      refine ⟨_, hD1, by rw [List.length_map, List.length_replicate]; exact small1000 (by omega), s1.at hD, ?_⟩
      rw [upd_same, List.replicate_succ', List.map_append]
      rfl
    · rintro H1 ⟨s1, hD1⟩
      refine ⟨_, SqL.of hD1, ?_⟩
      rw [allTrue]
      exact q H1 s1
def prI (ps : List Int) (l : List Nat) (m : Mv) : Int := szI ps (l.getD m.1 0)
/-- the price of moves one after another -/
def cost (sz : Nat → Nat) (ps : List Int) : List Nat → List Mv → Int
  | _, [] => 0
  | l, m :: ms => prI ps l m + cost sz ps (moved sz l m) ms
abbrev s_price_of : Stmt := topS 44
theorem sc_price_of : FnScope ["prices", "row", "move"] ["prices", "row", "move"] (defScope s_price_of) := ⟨rfl, rfl, rfl, by decide +kernel, rfl, by decide +kernel, by decide +kernel⟩

def sp_price_of (K : PySem.W.Frag) : Sp := fun vs H Q _ => ∃ (c t : Addr) (zs ps : List Int) (l : List Nat) (m : Mv), vs = [.ref c, .str (S l), .ref t] ∧ SqT K H c (ps.map V.int) ∧ OkZ zs ∧ OkP zs ps ∧ OkR zs l ∧ l.length ≤ 1000 ∧ SqT K H t (mvT m) ∧ m.1 < l.length ∧ Q (.int (prI ps l m)) H
theorem ok_price_of {f : Addr} {fd : FuncData} (F : Fun K "price_of" "price_of" s_price_of f fd) (B : Bi mg) (m_COLORS : ∃ t, mg "COLORS" = some (.str (S abc) t)) : FnOk P w K mg base CX0 1 f fd ["prices", "row", "move"] (sp_price_of K) := by
  refine F.ok sc_price_of (fun vs H Q E h => ?_) (fun cdv A outer s H vs Q E hr h => ?_)
  · obtain ⟨c, t, zs, ps, l, m, rfl, _⟩ := h
    rfl
  · obtain ⟨c, t, zs, ps, l, ⟨i, b⟩, rfl, hP, hZ, hO, hR, hl, hm, hi, q⟩ := h
    refine ⟨_, (pss_one (ps_ret (pe_ix (ixG (K := K)) (gv 0) (pe_bmG (K := K) PySem.F.plainAttrs_str PySem.F.slot_str_index PySem.F.type_str_index mt_indexG (g_str m_COLORS) (pa_cons (pe_ix (ixG (K := K)) (gv 1) (pe_ix (ixG (K := K)) (gv 2) pe_int (fun _ _ => rfl)) (fun _ _ => rfl)) pa_nil)) (fun _ _ => rfl)))), ?_⟩
    have hi' : i < l.length := hi
    have hk := List.getElem?_eq_getElem hi'
    have hk1 := hR _ (List.getElem_mem hi')
    have hkd : l.getD i 0 = l[i] := getD_of hk
    have h6 := hZ.six
    refine ⟨rfl, _, _, .inr hm, atI_nat (j := 0) rfl, l[i], by rw [tl_S]; omega, atI_nat hk, l[i], rfl, rfl, ⟨hk1.1, by omega⟩, _, _, .inr hP, at_szI hk1.1 (by rw [hO.len]; exact hk1.2), ?_⟩
    unfold prI at q
    rw [hkd] at q
    exact q
def sp_run_moves (K : PySem.W.Frag) : Sp := fun vs H Q _ => ∃ (a b c : Addr) (zs ps : List Int) (l r : List Nat) (vs' : List V) (ms : List Mv), vs = [.ref a, .str (S l), .ref b, .ref c] ∧ SqT K H a (zs.map V.int) ∧ OkZ zs ∧ OkR zs l ∧ l.length ≤ 40 ∧ SqL K H b vs' ∧ Mvs K H vs' ms ∧ SqT K H c (ps.map V.int) ∧ OkP zs ps ∧ Way (szN zs) l ms r ∧
  ∀ (H' : Hp) (t : Addr), Same H H' → H t = none → H' t = some (.tup [.str (S r), .int (cost (szN zs) ps l ms)]) → Q (.ref t) H'
def sp_move_cost (K : PySem.W.Frag) : Sp := fun vs H Q _ => ∃ (a b c : Addr) (zs ps : List Int) (l r : List Nat) (vs' : List V) (ms : List Mv), vs = [.ref a, .str (S l), .ref b, .ref c] ∧ SqT K H a (zs.map V.int) ∧ OkZ zs ∧ OkR zs l ∧ l.length ≤ 40 ∧ SqL K H b vs' ∧ Mvs K H vs' ms ∧ SqT K H c (ps.map V.int) ∧ OkP zs ps ∧ Way (szN zs) l ms r ∧
  ∀ (H' : Hp), Same H H' → Q (.int (cost (szN zs) ps l ms)) H'
def sp_judge_moves (K : PySem.W.Frag) : Sp := fun vs H Q _ => ∃ (a b c : Addr) (zs ps : List Int) (l g r : List Nat) (vs' : List V) (ms : List Mv), vs = [.ref a, .str (S l), .str (S g), .ref b, .ref c] ∧ SqT K H a (zs.map V.int) ∧ OkZ zs ∧ OkR zs l ∧ l.length ≤ 40 ∧ OkR zs g ∧ g.length ≤ 40 ∧ SqL K H b vs' ∧ Mvs K H vs' ms ∧ SqT K H c (ps.map V.int) ∧ OkP zs ps ∧ Way (szN zs) l ms r ∧
  ∀ (H' : Hp), Same H H' → Q (if r = g then .int (cost (szN zs) ps l ms) else .non) H'
abbrev s__law_prices : Stmt := topS 61
theorem sc__law_prices : FnScope ["_law_d", "_law_sizes_here", "_law_color"] ["_law_d", "_law_sizes_here"] (defScope s__law_prices) := ⟨rfl, rfl, rfl, by decide +kernel, rfl, by decide +kernel, by decide +kernel⟩

def sp__law_prices (K : PySem.W.Frag) : Sp := fun vs H Q _ => ∃ (d a : Addr) (xs : List V) (zs : List Int), vs = [.ref d, .ref a] ∧ H d = some (.lst xs) ∧ Rnd xs ∧ SqT K H a (zs.map V.int) ∧ OkZ zs ∧
  ∀ (H' : Hp) (t : Addr) (ys : List V) (ps : List Int), SameB d H H' → H' d = some (.lst ys) → Rnd ys → H t = none → H' t = some (.tup (ps.map V.int)) → OkP zs ps → Q (.ref t) H'
theorem ok__law_prices {f : Addr} {fd : FuncData} (F : Fun K "_law_prices" "_law_prices" s__law_prices f fd) (B : Bi mg) (C__law_below : Cal P w K mg base CX0 1 "_law_below" ["_law_d", "_law_limit"] (sp__law_below K)) : FnOk P w K mg base CX0 2 f fd ["_law_d", "_law_sizes_here"] (sp__law_prices K) := by
  refine F.ok sc__law_prices (fun vs H Q E h => ?_) (fun cdv A outer s H vs Q E hr h => ?_)
  · obtain ⟨d, a, xs, zs, rfl, _⟩ := h
    rfl
  · obtain ⟨d, a, xs, zs, rfl, hd, hR, hT, hZ, q⟩ := h
    refine ⟨_, (pss_one (ps_ret (pe_callTy (cr_tupleG (K := K)) (by rfl) B.tuple bt_tuple (pa_cons (pe_lc (own := [("_law_color", 2)]) (by rfl) sc__law_prices.nd (pi_seqG (K := K) (gv 1)) (blkOk_by (N := ["_law_d", "_law_sizes_here", "_law_color"]) (sc := defScope s__law_prices) (by decide +kernel)) (fun _ _ _ _ _ => (pg_name (i := 2) sc__law_prices.nd rfl (.inl rfl))) (fun _ _ _ _ _ => pts_nil) (fun _ _ _ _ _ => (pe_ix (ixG (K := K)) (pe_lst (pa_cons pe_int (pa_cons pe_int (pa_cons (pe_op (op_addG (K := K)) pe_int (pe_cal C__law_below (hr.mono (by decide)) pass0 (pa_cons (gv 0) (pa_cons pe_int pa_nil)))) pa_nil)))) (pe_cal C__law_below (hr.mono (by decide)) pass0 (pa_cons (gv 0) (pa_cons pe_int pa_nil))) (fun _ _ => rfl)))) pa_nil)))), ?_⟩
    have h6 := hZ.six
    refine .inr ⟨_, hT, fun D hD => ?_⟩
    have hDd : D ≠ d := (ne_of_none hd hD).symm
    refine lc_it (walk_tup (xs := zs.map V.int)) (fun j H' => SameB d H H' ∧ (∃ ys, H' d = some (.lst ys) ∧ Rnd ys) ∧ ∃ ps : List Int, H' D = some (.lst (ps.map V.int)) ∧ ps.length = j ∧ ∀ p ∈ ps, 1 ≤ p ∧ p ≤ 99) ⟨SameB.of (same_upd hD), ⟨xs, by rw [upd_ne hDd.symm]; exact hd, hR⟩, [], upd_same, rfl, by simp⟩ ?_ ?_ ?_
    · rintro j H1 _ ⟨s1, _⟩
      exact s1.tup hd hT
    · rintro j x H1 H2 hj ⟨s1, ⟨ys, hd1, hR1⟩, ps, hD1, hpl, hpa⟩ ⟨rfl, hx⟩
      rw [List.length_map] at hj
      refine ⟨rfl, d, 99, ys, rfl, hd1, hR1, by decide, by decide, fun r ys2 h0 h1 hR2 => ⟨by show 3 ≤ sizeLine; decide, fun p hp => ?_⟩⟩
      have hpd : p ≠ d := fun e => by rw [e, upd_same] at hp; cases hp
      have hp0 : H p = none := s1.d.free hp hpd
      have hpD : p ≠ D := fun e => by rw [e, upd_ne hDd, hD1] at hp; cases hp
      refine ⟨d, 3, ys2, rfl, by rw [upd_ne hpd.symm]; exact upd_same, hR2, by decide, by decide, fun r2 ys3 h2 h3 hR3 => ?_⟩
      refine ⟨_, _, .inl (SqL.of (by rw [upd_ne hpd]; exact upd_same)), at_3 h2 h3, ?_⟩
      refine ⟨_, by rw [upd_ne hDd, upd_ne hpD.symm, upd_ne hDd]; exact hD1, small1000 (by rw [List.length_map]; omega), ((s1.d.at hp0).d).at hD, ⟨ys3, by rw [upd_ne hDd.symm]; exact upd_same, hR3⟩, ps ++ [if r2 = 0 then 1 else if r2 = 1 then 99 else 1 + r], by rw [upd_same, List.map_append]; rfl, by simp [hpl], fun z hz => ?_⟩
      rcases List.mem_append.mp hz with hz | hz
      · exact hpa z hz
      · rw [List.mem_singleton.mp hz]
        split
        · omega
        · split <;> omega
    · rintro H1 ⟨s1, ⟨ys, hd1, hR1⟩, ps, hD1, hpl, hpa⟩
      rw [List.length_map] at hpl
      refine ⟨_, SqL.of hD1, fun t ht => ?_⟩
      have htd : t ≠ d := (ne_of_none hd1 ht).symm
      have ht0 := s1.free ht htd
      exact q _ t ys ps (s1.at ht0) (by rw [upd_ne htd.symm]; exact hd1) hR1 ht0 upd_same ⟨hpl, hpa⟩

-- NEEDS prices m_mv m_way
/-! ### pairs of beads in the wrong order -/
/-- s before f -/
def cinv (f s : Nat) (l : List Nat) : Nat := ((List.range l.length).map fun i => if l.getD i 0 = f then (l.take i).count s else 0).sum
theorem cinv_take {f s i k : Nat} {l : List Nat} (h : l[i]? = some k) : cinv f s (l.take (i + 1)) = cinv f s (l.take i) + (if k = f then (l.take i).count s else 0) := by
  have hi : i < l.length := (List.getElem?_eq_some_iff.mp h).1
  unfold cinv
  have e1 : (l.take (i + 1)).length = i + 1 := by rw [List.length_take]; omega
  have e2 : (l.take i).length = i := by rw [List.length_take]; omega
  rw [e1, e2, List.range_succ, List.map_append, List.sum_append, List.map_singleton, List.sum_singleton]
  have e3 : (l.take (i + 1)).getD i 0 = k := by
    rw [List.getD_eq_getElem?_getD, List.getElem?_take_of_lt (by omega), h]
    rfl
  have e4 : (l.take (i + 1)).take i = l.take i := by rw [List.take_take, Nat.min_eq_left (by omega)]
  rw [e3, e4]
  congr 2
  refine List.map_congr_left fun j hj => ?_
  rw [List.mem_range] at hj
  have e5 : (l.take (i + 1)).getD j 0 = (l.take i).getD j 0 := by
    rw [List.getD_eq_getElem?_getD, List.getD_eq_getElem?_getD, List.getElem?_take_of_lt (by omega), List.getElem?_take_of_lt (by omega)]
  have e6 : (l.take (i + 1)).take j = (l.take i).take j := by rw [List.take_take, List.take_take, Nat.min_eq_left (by omega), Nat.min_eq_left (by omega)]
  rw [e5, e6]
theorem cinv_snoc (f s : Nat) (l : List Nat) (x : Nat) : cinv f s (l ++ [x]) = cinv f s l + (if x = f then l.count s else 0) := by
  have h : (l ++ [x])[l.length]? = some x := by simp
  have := cinv_take (f := f) (s := s) h
  rw [List.take_of_length_le (by simp), List.take_left] at this
  exact this
theorem snoc_ind' {α : Type} {P : List α → Prop} (h0 : P []) (h1 : ∀ l x, P l → P (l ++ [x])) (l : List α) : P l := by
  have : ∀ r : List α, P r.reverse := by
    intro r
    induction r with
    | nil => exact h0
    | cons x r ih => rw [List.reverse_cons]; exact h1 _ _ ih
  have h := this l.reverse
  rwa [List.reverse_reverse] at h
theorem cinv_app (f s : Nat) (u v : List Nat) : cinv f s (u ++ v) = cinv f s u + cinv f s v + u.count s * v.count f := by
  induction v using snoc_ind' with
  | h0 => simp [cinv]
  | h1 v x ih =>
    have e1 : (u ++ v).count s = u.count s + v.count s := List.count_append
    have e2 : (v ++ [x]).count f = v.count f + (if x = f then 1 else 0) := by rw [List.count_append]; by_cases h : x = f <;> simp [h]
    rw [← List.append_assoc, cinv_snoc, ih, cinv_snoc, e1, e2]
    by_cases h : x = f
    · rw [if_pos h, if_pos h, if_pos h, Nat.mul_add]
      omega
    · rw [if_neg h, if_neg h, if_neg h, Nat.mul_add]
      omega
theorem cinv_rep {f s : Nat} (hfs : f ≠ s) (k : Nat) : ∀ n, cinv f s (List.replicate n k) = 0
  | 0 => rfl
  | n + 1 => by
    rw [List.replicate_succ', cinv_snoc, cinv_rep hfs k n]
    by_cases h : k = f
    · subst h
      rw [if_pos rfl, List.count_replicate, if_neg (by simp; exact hfs)]
    · rw [if_neg h]
/-- one pack past one bead -/
def near (f s k x : Nat) : Bool := decide ((k = f ∧ x = s) ∨ (k = s ∧ x = f))
theorem cinv_swap {f s : Nat} (hfs : f ≠ s) {k x : Nat} (n : Nat) (u v : List Nat) :
    (cinv f s (u ++ ([x] ++ (List.replicate n k ++ v))) ≤ cinv f s (u ++ (List.replicate n k ++ ([x] ++ v))) + (if near f s k x then n else 0)) ∧
    (cinv f s (u ++ (List.replicate n k ++ ([x] ++ v))) ≤ cinv f s (u ++ ([x] ++ (List.replicate n k ++ v))) + (if near f s k x then n else 0)) := by
  have c1 : ∀ y, (List.replicate n k).count y = if k = y then n else 0 := fun y => by rw [List.count_replicate]; simp
  have c2 : ∀ y, ([x] : List Nat).count y = if x = y then 1 else 0 := fun y => by by_cases h : x = y <;> simp [h]
  have c3 : cinv f s [x] = 0 := by simp [cinv]
  have e1 : cinv f s ([x] ++ (List.replicate n k ++ v)) = cinv f s v + (if k = s then n else 0) * v.count f + (if x = s then 1 else 0) * ((if k = f then n else 0) + v.count f) := by
    rw [cinv_app, cinv_app, c3, cinv_rep hfs, c1, c2, List.count_append, c1]; omega
  have e2 : cinv f s (List.replicate n k ++ ([x] ++ v)) = cinv f s v + (if x = s then 1 else 0) * v.count f + (if k = s then n else 0) * ((if x = f then 1 else 0) + v.count f) := by
    rw [cinv_app, cinv_app, c3, cinv_rep hfs, c1, c2, List.count_append, c2]; omega
  have e3 : ([x] ++ (List.replicate n k ++ v)).count f = (List.replicate n k ++ ([x] ++ v)).count f := by
    simp only [List.count_append]; omega
  rw [cinv_app f s u, cinv_app f s u, e1, e2, e3]
  generalize cinv f s v = a
  generalize cinv f s u = b
  generalize v.count f = c
  generalize u.count s * (List.replicate n k ++ ([x] ++ v)).count f = d
  unfold near
  by_cases h1 : k = f
  · by_cases h2 : x = s
    · have h3 : ¬ k = s := fun z => hfs (h1.symm.trans z)
      have h4 : ¬ x = f := fun z => hfs (z.symm.trans h2)
      simp [h1, h2, hfs]
      omega
    · have h3 : ¬ k = s := fun z => hfs (h1.symm.trans z)
      simp [h1, h2, hfs]
  · by_cases h2 : k = s
    · by_cases h3 : x = f
      · have h4 : ¬ x = s := fun z => hfs (h3.symm.trans z)
        have hsf : ¬ s = f := fun z => hfs z.symm
        simp [h2, h3, hfs, hsf, Nat.mul_add]
        omega
      · have hsf : ¬ s = f := fun z => hfs z.symm
        simp [h2, h3, hsf, Nat.mul_add]
        by_cases h4 : x = s
        · simp [h4, hsf]; omega
        · simp [h4]
    · simp [h1, h2]
/-- the moves' packs and the beads that they pass -/
structure Kx (sz : Nat → Nat) (ps : List Int) (l r : List Nat) (ms : List Mv) (ks : List (Nat × Nat)) : Prop where
  cost : cost sz ps l ms = (ks.map fun y => szI ps y.1).sum
  mem : ∀ y ∈ ks, y.1 ∈ l ∧ y.2 ∈ l ∧ y.1 ≠ y.2
  up : ∀ f s, f ≠ s → cinv f s l ≤ cinv f s r + (ks.map fun y => if near f s y.1 y.2 then sz y.1 else 0).sum
  dn : ∀ f s, f ≠ s → cinv f s r ≤ cinv f s l + (ks.map fun y => if near f s y.1 y.2 then sz y.1 else 0).sum
theorem kx_of {sz : Nat → Nat} {ps : List Int} (hs : ∀ k, 1 ≤ sz k) : ∀ {l r : List Nat} {ms : List Mv}, Way sz l ms r → ∃ ks, Kx sz ps l r ms ks
  | l, r, [], h => by
    cases (show l = r from h)
    exact ⟨[], rfl, fun y hy => (by cases hy), fun f s _ => Nat.le_add_right _ _, fun f s _ => Nat.le_add_right _ _⟩
  | l, r, m :: ms, h => by
    obtain ⟨h1, h2, h3⟩ := h
    obtain ⟨ks, K⟩ := kx_of (ps := ps) hs h3
    have hperm := moved_perm h1 h2
    obtain ⟨i, b⟩ := m
    have main : ∃ k x : Nat, l.getD i 0 = k ∧ k ∈ l ∧ x ∈ l ∧ x ≠ k ∧ ∀ f s, f ≠ s → cinv f s l ≤ cinv f s (moved sz l (i, b)) + (if near f s k x then sz k else 0) ∧ cinv f s (moved sz l (i, b)) ≤ cinv f s l + (if near f s k x then sz k else 0) := by
      cases b with
      | true =>
        obtain ⟨u, x, k, v, e, ei, hx, hk, em⟩ := legal_left h1 h2
        refine ⟨k, x, hk, ?_, by rw [e]; simp, hx, fun f s hfs => ?_⟩
        · rw [e]; have := hs k; simp; omega
        · rw [em]
          have := cinv_swap hfs (k := k) (x := x) (sz k) u v
          rw [← e] at this
          exact this
      | false =>
        obtain ⟨u, x, k, v, e, ei, hx, hk, em⟩ := legal_right h1 h2
        refine ⟨k, x, hk, ?_, by rw [e]; simp, hx, fun f s hfs => ?_⟩
        · rw [e]; have := hs k; simp; omega
        · rw [em]
          have := cinv_swap hfs (k := k) (x := x) (sz k) u v
          rw [← e] at this
          exact this.symm
    obtain ⟨k, x, hk, hkm, hxm, hxk, hc⟩ := main
    refine ⟨(k, x) :: ks, ?_, fun y hy => ?_, fun f s hfs => ?_, fun f s hfs => ?_⟩
    · show prI ps l (i, b) + cost sz ps (moved sz l (i, b)) ms = _
      rw [K.cost, List.map_cons, List.sum_cons]
      unfold prI
      rw [hk]
    · rcases List.mem_cons.mp hy with rfl | hy
      · exact ⟨hkm, hxm, fun z => hxk z.symm⟩
      · obtain ⟨g1, g2, g3⟩ := K.mem y hy
        exact ⟨hperm.mem_iff.mp g1, hperm.mem_iff.mp g2, g3⟩
    · have := (hc f s hfs).1
      have := K.up f s hfs
      rw [List.map_cons, List.sum_cons]
      show _ ≤ _ + ((if near f s k x then sz k else 0) + _)
      omega
    · have := (hc f s hfs).2
      have := K.dn f s hfs
      rw [List.map_cons, List.sum_cons]
      show _ ≤ _ + ((if near f s k x then sz k else 0) + _)
      omega
/-! ### the bound -/
/-- the least price of a change of c pairs -/
def ceilI (c p z : Int) : Int := (c * p + z - 1) / z
def minI (a b : Int) : Int := if b < a then b else a
def chg (l r : List Nat) (f s : Nat) : Int := if ((cinv f s l : Nat) : Int) - (cinv f s r : Nat) < 0 then -(((cinv f s l : Nat) : Int) - (cinv f s r : Nat)) else ((cinv f s l : Nat) : Int) - (cinv f s r : Nat)
def bpr (zs ps : List Int) (l r : List Nat) (i j : Nat) : Int := minI (ceilI (chg l r (97 + i) (97 + j)) (szI ps (97 + i)) (szI zs (97 + i))) (ceilI (chg l r (97 + i) (97 + j)) (szI ps (97 + j)) (szI zs (97 + j)))
/-- the sum over the pairs of the first i colors with what comes behind each -/
def bin (zs ps : List Int) (l r : List Nat) (i m : Nat) : Int := ((List.range m).map fun j => bpr zs ps l r i (i + 1 + j)).sum
def bout (zs ps : List Int) (l r : List Nat) (i : Nat) : Int := ((List.range i).map fun k => bin zs ps l r k (zs.length - (k + 1))).sum
theorem ceil_eq (a : Int) {z : Int} (h1 : 1 ≤ z) (h4 : z ≤ 4) : 0 - (0 - a) / z = (a + z - 1) / z := by
  have e : z = 1 ∨ z = 2 ∨ z = 3 ∨ z = 4 := by omega
  rcases e with rfl | rfl | rfl | rfl <;> omega
theorem ceil_le {a z n : Int} (h1 : 1 ≤ z) (h4 : z ≤ 4) (h : a ≤ n * z) : (a + z - 1) / z ≤ n := by
  have e : z = 1 ∨ z = 2 ∨ z = 3 ∨ z = 4 := by omega
  rcases e with rfl | rfl | rfl | rfl <;> omega
/-- the pairs of n colors -/
def prs (n : Nat) : List (Nat × Nat) := (List.range n).flatMap fun i => (List.range (n - (i + 1))).map fun j => (i, i + 1 + j)
theorem bout_prs (zs ps : List Int) (l r : List Nat) : bout zs ps l r zs.length = ((prs zs.length).map fun y => bpr zs ps l r y.1 y.2).sum := by
  unfold bout prs
  generalize zs.length = n
  have : ∀ (is : List Nat), (is.map fun k => bin zs ps l r k (n - (k + 1))).sum = ((is.flatMap fun i => (List.range (n - (i + 1))).map fun j => (i, i + 1 + j)).map fun y => bpr zs ps l r y.1 y.2).sum := by
    intro is
    induction is with
    | nil => rfl
    | cons k is ih =>
      rw [List.map_cons, List.sum_cons, List.flatMap_cons, List.map_append, List.sum_append, ih, List.map_map]
      rfl
  exact this _
theorem prs_one : ∀ n, n < 7 → ∀ k, k < 6 → ∀ x, x < 6 → ((prs n).filter fun y => near (97 + y.1) (97 + y.2) (97 + k) (97 + x)).length ≤ 1 := by decide +kernel
theorem prs_ok {n : Nat} {y : Nat × Nat} (h : y ∈ prs n) : y.1 < y.2 ∧ y.2 < n := by
  unfold prs at h
  obtain ⟨i, hi, hy⟩ := List.mem_flatMap.mp h
  obtain ⟨j, hj, rfl⟩ := List.mem_map.mp hy
  rw [List.mem_range] at hi hj
  exact ⟨by show i < i + 1 + j; omega, by show i + 1 + j < n; omega⟩
theorem near_sum {f s : Nat} {zs ps : List Int} {p z : Int} : ∀ (ks : List (Nat × Nat)), (∀ q ∈ ks, near f s q.1 q.2 = true → ((szN zs q.1 : Nat) : Int) * p ≤ szI ps q.1 * z) →
    (((ks.map fun q => if near f s q.1 q.2 then szN zs q.1 else 0).sum : Nat) : Int) * p ≤ (ks.map fun q => if near f s q.1 q.2 then szI ps q.1 else 0).sum * z
  | [], _ => by simp
  | q :: ks, h => by
    have ih := near_sum (zs := zs) (ps := ps) ks fun x hx => h x (by simp [hx])
    rw [List.map_cons, List.sum_cons, List.map_cons, List.sum_cons, Int.natCast_add, Int.add_mul, Int.add_mul]
    refine Int.add_le_add ?_ ih
    by_cases e : near f s q.1 q.2 = true
    · rw [if_pos e, if_pos e]
      exact h q (by simp) e
    · rw [if_neg e, if_neg e]
      simp
theorem near_col {f s k x : Nat} (h : near f s k x = true) : k = f ∨ k = s := by
  have : (k = f ∧ x = s) ∨ (k = s ∧ x = f) := of_decide_eq_true h
  rcases this with ⟨h, _⟩ | ⟨h, _⟩
  · exact .inl h
  · exact .inr h
theorem mul_three {a b c d : Int} (h : a ≤ b) (hc : 0 ≤ c) (h2 : b * c ≤ d) : a * c ≤ d := Int.le_trans (Int.mul_le_mul_of_nonneg_right h hc) h2
theorem bpr_le {zs ps : List Int} (hZ : OkZ zs) (hO : OkP zs ps) {l r : List Nat} {ms : List Mv} {ks : List (Nat × Nat)} (K : Kx (szN zs) ps l r ms ks) {i j : Nat} (hij : i < j) (hj : j < zs.length) :
    bpr zs ps l r i j ≤ (ks.map fun q => if near (97 + i) (97 + j) q.1 q.2 then szI ps q.1 else 0).sum := by
  have hne : 97 + i ≠ 97 + j := by omega
  have u1 := K.up _ _ hne
  have u2 := K.dn _ _ hne
  have hzi := szI_ok hZ (k := 97 + i) ⟨by omega, by omega⟩
  have hzj := szI_ok hZ (k := 97 + j) ⟨by omega, by omega⟩
  have hni := szN_int hZ (k := 97 + i) ⟨by omega, by omega⟩
  have hnj := szN_int hZ (k := 97 + j) ⟨by omega, by omega⟩
  have hpp : ∀ m, m < zs.length → 1 ≤ szI ps (97 + m) := fun m hm => by
    unfold szI
    rw [show 97 + m - 97 = m by omega, List.getD_eq_getElem?_getD, List.getElem?_eq_getElem (by rw [hO.len]; exact hm)]
    exact (hO.all _ (List.getElem_mem _)).1
  have hpi := hpp i (by omega)
  have hpj := hpp j hj
  have hch : chg l r (97 + i) (97 + j) ≤ (((ks.map fun q => if near (97 + i) (97 + j) q.1 q.2 then szN zs q.1 else 0).sum : Nat) : Int) := by
    unfold chg
    split <;> omega
  unfold bpr
  by_cases hc : szI ps (97 + i) * szI zs (97 + j) ≤ szI ps (97 + j) * szI zs (97 + i)
  · have hs := near_sum (f := 97 + i) (s := 97 + j) (zs := zs) (ps := ps) (p := szI ps (97 + i)) (z := szI zs (97 + i)) ks fun q hq e => by
      rcases near_col e with h | h
      · rw [h, hni, Int.mul_comm]; exact Int.le_refl _
      · rw [h, hnj, Int.mul_comm]; exact hc
    have := ceil_le hzi.1 hzi.2 (mul_three hch (by omega) hs)
    unfold minI
    split
    · rename_i h
      exact Int.le_trans (Int.le_of_lt h) this
    · exact this
  · have hc' : szI ps (97 + j) * szI zs (97 + i) ≤ szI ps (97 + i) * szI zs (97 + j) := by omega
    have hs := near_sum (f := 97 + i) (s := 97 + j) (zs := zs) (ps := ps) (p := szI ps (97 + j)) (z := szI zs (97 + j)) ks fun q hq e => by
      rcases near_col e with h | h
      · rw [h, hni, Int.mul_comm]; exact hc'
      · rw [h, hnj, Int.mul_comm]; exact Int.le_refl _
    have := ceil_le hzj.1 hzj.2 (mul_three hch (by omega) hs)
    unfold minI
    split
    · exact this
    · rename_i h
      exact Int.le_trans (Int.not_lt.mp h) this
theorem sum_le {α : Type} {f g : α → Int} : ∀ (l : List α), (∀ x ∈ l, f x ≤ g x) → (l.map f).sum ≤ (l.map g).sum
  | [], _ => Int.le_refl _
  | x :: l, h => by
    rw [List.map_cons, List.sum_cons, List.map_cons, List.sum_cons]
    exact Int.add_le_add (h x (by simp)) (sum_le l fun y hy => h y (by simp [hy]))
theorem sum_if {α : Type} (p : α → Bool) (c : Int) : ∀ l : List α, (l.map fun x => if p x then c else 0).sum = ((l.filter p).length : Nat) * c
  | [] => by simp
  | x :: l => by
    rw [List.map_cons, List.sum_cons, sum_if p c l]
    by_cases h : p x = true
    · rw [if_pos h, List.filter_cons_of_pos h, List.length_cons, Int.natCast_add, Int.add_mul]
      simp
      omega
    · rw [if_neg h, List.filter_cons_of_neg h]
      omega
theorem sum_plus {α : Type} {f g : α → Int} : ∀ l : List α, (l.map fun x => f x + g x).sum = (l.map f).sum + (l.map g).sum
  | [] => by simp
  | x :: l => by
    rw [List.map_cons, List.sum_cons, List.map_cons, List.sum_cons, List.map_cons, List.sum_cons, sum_plus l]
    omega
theorem prs_sum {n : Nat} (hn : n ≤ 6) {ps : List Int} : ∀ (ks : List (Nat × Nat)), (∀ q ∈ ks, (97 ≤ q.1 ∧ q.1 < 97 + n) ∧ (97 ≤ q.2 ∧ q.2 < 97 + n) ∧ 0 ≤ szI ps q.1) →
    ((prs n).map fun y => (ks.map fun q => if near (97 + y.1) (97 + y.2) q.1 q.2 then szI ps q.1 else 0).sum).sum ≤ (ks.map fun q => szI ps q.1).sum
  | [], _ => by
    have : ∀ l : List (Nat × Nat), (l.map fun y => ((([] : List (Nat × Nat)).map fun q => if near (97 + y.1) (97 + y.2) q.1 q.2 then szI ps q.1 else 0)).sum).sum = 0 := fun l => by
      induction l with
      | nil => rfl
      | cons y l ih => rw [List.map_cons, List.sum_cons, ih]; rfl
    rw [this]
    exact Int.le_refl _
  | q :: ks, h => by
    have ih := prs_sum hn (ps := ps) ks fun x hx => h x (by simp [hx])
    obtain ⟨h1, h2, h3⟩ := h q (by simp)
    have e : ((prs n).map fun y => ((q :: ks).map fun q => if near (97 + y.1) (97 + y.2) q.1 q.2 then szI ps q.1 else 0).sum) = (prs n).map fun y => (if near (97 + y.1) (97 + y.2) q.1 q.2 then szI ps q.1 else 0) + (ks.map fun q => if near (97 + y.1) (97 + y.2) q.1 q.2 then szI ps q.1 else 0).sum := by
      refine List.map_congr_left fun y _ => ?_
      rw [List.map_cons, List.sum_cons]
    rw [e, sum_plus, List.map_cons, List.sum_cons]
    refine Int.add_le_add ?_ ih
    rw [sum_if (fun y : Nat × Nat => near (97 + y.1) (97 + y.2) q.1 q.2)]
    have h4 := prs_one n (by omega) (q.1 - 97) (by omega) (q.2 - 97) (by omega)
    rw [show 97 + (q.1 - 97) = q.1 by omega, show 97 + (q.2 - 97) = q.2 by omega] at h4
    generalize ((prs n).filter fun y => near (97 + y.1) (97 + y.2) q.1 q.2).length = m at *
    have : m = 0 ∨ m = 1 := by omega
    rcases this with rfl | rfl
    · simp; exact h3
    · simp
theorem bound_cost {zs ps : List Int} (hZ : OkZ zs) (hO : OkP zs ps) {l r : List Nat} (hR : OkR zs l) {ms : List Mv} (h : Way (szN zs) l ms r) : bout zs ps l r zs.length ≤ cost (szN zs) ps l ms := by
  obtain ⟨ks, K⟩ := kx_of (ps := ps) (szN_pos hZ) h
  rw [bout_prs, K.cost]
  refine Int.le_trans (sum_le _ fun y hy => bpr_le hZ hO K (prs_ok hy).1 (prs_ok hy).2) (prs_sum hZ.six ks fun q hq => ?_)
  obtain ⟨g1, g2, _⟩ := K.mem q hq
  refine ⟨hR _ g1, hR _ g2, ?_⟩
  have hlt : q.1 - 97 < ps.length := by rw [hO.len]; have := hR _ g1; omega
  unfold szI
  rw [List.getD_eq_getElem?_getD, List.getElem?_eq_getElem hlt]
  have := (hO.all _ (List.getElem_mem hlt)).1
  show 0 ≤ ps[q.1 - 97]
  omega

-- NEEDS m_inv checks difference prices
def sp_count_inversions (K : PySem.W.Frag) : Sp := fun vs H Q _ => ∃ (l : List Nat) (f s : Nat), vs = [.str (S l), .str (S [f]), .str (S [s])] ∧ f ≠ s ∧ ∀ H', Same H H' → Q (iv (cinv f s l)) H'
theorem eq1 {a b : Nat} : tl (S [a]) = tl (S [b]) ↔ a = b := by rw [tl_S, tl_S]; simp
def sp__law_before (K : PySem.W.Frag) : Sp := fun vs H Q _ => ∃ (l : List Nat) (f s : Nat), vs = [.str (S l), .str (S [f]), .str (S [s])] ∧ f ≠ s ∧ l.length ≤ 1000 ∧ ∀ H', Same H H' → Q (iv (cinv f s l)) H'
/-- the numbers of what stands ahead -/
def bef (f s : Nat) (l : List Nat) : List Int := ((List.range l.length).filter fun i => decide (l.getD i 0 = f)).map fun i => (((l.take i).count s : Nat) : Int)
theorem bef_sum (f s : Nat) (l : List Nat) : (bef f s l).sum = (cinv f s l : Nat) := by
  unfold bef cinv
  have : ∀ is : List Nat, ((is.filter fun i => decide (l.getD i 0 = f)).map fun i => (((l.take i).count s : Nat) : Int)).sum = (((is.map fun i => if l.getD i 0 = f then (l.take i).count s else 0).sum : Nat) : Int) := by
    intro is
    induction is with
    | nil => rfl
    | cons i is ih =>
      rw [List.map_cons, List.sum_cons, Int.natCast_add, ← ih]
      by_cases h : l.getD i 0 = f
      · rw [List.filter_cons, if_pos (show decide (l.getD i 0 = f) = true from decide_eq_true h), List.map_cons, List.sum_cons, if_pos h]
      · rw [List.filter_cons, if_neg (show ¬ decide (l.getD i 0 = f) = true from fun z => h (of_decide_eq_true z)), if_neg h]
        omega
  exact this _
def sp_bound_of (K : PySem.W.Frag) : Sp := fun vs H Q _ => ∃ (a c : Addr) (zs ps : List Int) (l r : List Nat), vs = [.ref a, .str (S l), .str (S r), .ref c] ∧ SqT K H a (zs.map V.int) ∧ OkZ zs ∧ SqT K H c (ps.map V.int) ∧ OkP zs ps ∧ ∀ H', Same H H' → Q (.int (bout zs ps l r zs.length)) H'
theorem min2 {a b m : Int} (hm : m ∈ [a, b]) (hle : ∀ y ∈ [a, b], m ≤ y) : m = minI a b := by
  have h1 := hle a (by simp)
  have h2 := hle b (by simp)
  unfold minI
  have hm' : m = a ∨ m = b := by simpa using hm
  split <;> omega
theorem bin_succ (zs ps : List Int) (l r : List Nat) (i m : Nat) : bin zs ps l r i (m + 1) = bin zs ps l r i m + bpr zs ps l r i (i + 1 + m) := by
  unfold bin
  rw [List.range_succ, List.map_append, List.sum_append, List.map_singleton, List.sum_singleton]
theorem bout_succ (zs ps : List Int) (l r : List Nat) (i : Nat) : bout zs ps l r (i + 1) = bout zs ps l r i + bin zs ps l r i (zs.length - (i + 1)) := by
  unfold bout
  rw [List.range_succ, List.map_append, List.sum_append, List.map_singleton, List.sum_singleton]
def sp_lower_bound (K : PySem.W.Frag) : Sp := fun vs H Q _ => ∃ (a c : Addr) (zs ps : List Int) (l r : List Nat), vs = [.ref a, .str (S l), .str (S r), .ref c] ∧ SqT K H a (zs.map V.int) ∧ OkZ zs ∧ OkR zs l ∧ OkR zs r ∧ l.length ≤ 40 ∧ r.length ≤ 40 ∧ SqT K H c (ps.map V.int) ∧ OkP zs ps ∧ difD zs l r = .none ∧ ∀ H', Same H H' → Q (.int (bout zs ps l r zs.length)) H'

-- NEEDS prices m_conn m_bfs m_reachb
/-! cheapest ways: what the search keeps -/
section
variable {sz : Nat → Nat} {ps : List Int} {l : List Nat}
theorem cost_app : ∀ {x : List Nat} {ms ns : List Mv} {y : List Nat}, Way sz x ms y → cost sz ps x (ms ++ ns) = cost sz ps x ms + cost sz ps y ns
  | x, [], ns, y, h => by cases (show x = y from h); rw [List.nil_append]; show _ = 0 + _; omega
  | x, m :: ms, ns, y, h => by
    show prI ps x m + cost sz ps (moved sz x m) (ms ++ ns) = prI ps x m + cost sz ps (moved sz x m) ms + _
    rw [cost_app h.2.2]
    omega
structure Dij (sz : Nat → Nat) (ps : List Int) (l : List Nat) (fd : List (List Nat × Int)) (Hs : Int → List Nat → Prop) (lo : Int) : Prop where
  nd : (fd.map (·.1)).Nodup
  path : ∀ e ∈ fd, ∃ ms, Way sz l ms e.1 ∧ cost sz ps l ms = e.2
  comp : ∀ e ∈ fd, ∀ m : Mv, m.1 < e.1.length → legal sz e.1 m = true → (∃ c, (moved sz e.1 m, c) ∈ fd ∧ c ≤ e.2 + prI ps e.1 m) ∨ Hs (e.2 + prI ps e.1 m) (moved sz e.1 m)
  start : (∃ c, (l, c) ∈ fd ∧ c ≤ 0) ∨ Hs 0 l
  up : ∀ e ∈ fd, e.2 ≤ lo
  lw : ∀ t y, Hs t y → lo ≤ t
variable {fd : List (List Nat × Int)} {Hs Hs' : Int → List Nat → Prop} {lo : Int}
theorem Dij.done (h : Dij sz ps l fd Hs lo) (he : ∀ t y, ¬ Hs t y) {ms : List Mv} {y : List Nat} (hW : Way sz l ms y) : ∃ c, (y, c) ∈ fd ∧ c ≤ cost sz ps l ms := by
  have gen : ∀ (ms : List Mv) (x : List Nat) (c : Int), (x, c) ∈ fd → Way sz x ms y → ∃ c', (y, c') ∈ fd ∧ c' ≤ c + cost sz ps x ms := by
    intro ms
    induction ms with
    | nil =>
      intro x c hx hw
      cases (show x = y from hw)
      exact ⟨c, hx, by show c ≤ c + 0; omega⟩
    | cons m ms ih =>
      intro x c hx hw
      rcases h.comp _ hx m hw.1 hw.2.1 with ⟨c1, h1, h2⟩ | z
      · obtain ⟨c2, h3, h4⟩ := ih _ c1 h1 hw.2.2
        refine ⟨c2, h3, ?_⟩
        show c2 ≤ c + (prI ps x m + cost sz ps (moved sz x m) ms)
        have h2 : c1 ≤ c + prI ps x m := h2
        have h4 : c2 ≤ c1 + cost sz ps (moved sz x m) ms := h4
        omega
      · exact absurd z (he _ _)
  rcases h.start with ⟨c, h1, h2⟩ | z
  · obtain ⟨c2, h3, h4⟩ := gen ms l c h1 hW
    exact ⟨c2, h3, by omega⟩
  · exact absurd z (he _ _)
/-- the search goes on at a higher price -/
theorem Dij.lift (h : Dij sz ps l fd Hs lo) {lo' : Int} (h1 : lo ≤ lo') (h2 : ∀ t y, Hs t y → lo' ≤ t) : Dij sz ps l fd Hs lo' := ⟨h.nd, h.path, h.comp, h.start, fun e he => Int.le_trans (h.up e he) h1, h2⟩
theorem Dij.iff (h : Dij sz ps l fd Hs lo) (e : ∀ t y, Hs t y ↔ Hs' t y) : Dij sz ps l fd Hs' lo := ⟨h.nd, h.path, fun e' he m h1 h2 => (h.comp e' he m h1 h2).imp id (e _ _).mp, h.start.imp id (e _ _).mp, h.up, fun t y z => h.lw t y ((e t y).mpr z)⟩
/-- a row that is found already -/
theorem Dij.skip (h : Dij sz ps l fd Hs lo) {y : List Nat} {c : Int} (hy : (y, c) ∈ fd) (h1 : ∀ t z, Hs t z → Hs' t z ∨ (t = lo ∧ z = y)) (h2 : ∀ t z, Hs' t z → Hs t z) : Dij sz ps l fd Hs' lo := by
  have hc := h.up _ hy
  refine ⟨h.nd, h.path, fun e he m m1 m2 => ?_, ?_, h.up, fun t z hz => h.lw t z (h2 t z hz)⟩
  · rcases h.comp e he m m1 m2 with g | g
    · exact .inl g
    · rcases h1 _ _ g with g | ⟨g1, g2⟩
      · exact .inr g
      · exact .inl ⟨c, by rw [g2]; exact hy, by rw [g1]; exact hc⟩
  · rcases h.start with g | g
    · exact .inl g
    · rcases h1 _ _ g with g | ⟨g1, g2⟩
      · exact .inr g
      · exact .inl ⟨c, by rw [g2]; exact hy, by rw [g1]; exact hc⟩
/-- a new row, with all its moves -/
theorem Dij.new (h : Dij sz ps l fd Hs lo) {y : List Nat} (hy : ∀ c, (y, c) ∉ fd) (hp : ∃ ms, Way sz l ms y ∧ cost sz ps l ms = lo) (h1 : ∀ t z, Hs t z → Hs' t z ∨ (t = lo ∧ z = y)) (hm : ∀ m : Mv, m.1 < y.length → legal sz y m = true → Hs' (lo + prI ps y m) (moved sz y m)) (hl : ∀ t z, Hs' t z → lo ≤ t) :
    Dij sz ps l (fd ++ [(y, lo)]) Hs' lo := by
  have mem : ∀ {e}, e ∈ fd ++ [(y, lo)] → e ∈ fd ∨ e = (y, lo) := fun he => (List.mem_append.mp he).imp id fun z => List.mem_singleton.mp z
  refine ⟨?_, fun e he => ?_, fun e he m m1 m2 => ?_, ?_, fun e he => ?_, hl⟩
  · rw [List.map_append, List.nodup_append]
    refine ⟨h.nd, by simp, fun a ha b hb => ?_⟩
    rw [List.mem_singleton.mp hb]
    rintro rfl
    obtain ⟨e, he, e2⟩ := List.mem_map.mp ha
    exact hy e.2 (by rw [← e2]; exact he)
  · rcases mem he with he | rfl
    · exact h.path e he
    · exact hp
  · rcases mem he with he | rfl
    · rcases h.comp e he m m1 m2 with ⟨c, g1, g2⟩ | g
      · exact .inl ⟨c, List.mem_append.mpr (.inl g1), g2⟩
      · rcases h1 _ _ g with g | ⟨g1, g2⟩
        · exact .inr g
        · exact .inl ⟨lo, List.mem_append.mpr (.inr (by rw [g2]; exact List.mem_singleton.mpr rfl)), by rw [g1]; exact Int.le_refl _⟩
    · exact .inr (hm m m1 m2)
  · rcases h.start with ⟨c, g1, g2⟩ | g
    · exact .inl ⟨c, List.mem_append.mpr (.inl g1), g2⟩
    · rcases h1 _ _ g with g | ⟨g1, g2⟩
      · exact .inr g
      · exact .inl ⟨lo, List.mem_append.mpr (.inr (by rw [g2]; exact List.mem_singleton.mpr rfl)), by rw [← g1]; exact Int.le_refl _⟩
  · rcases mem he with he | rfl
    · exact h.up e he
    · exact Int.le_refl _
end

-- NEEDS m_dij m_seen counter
/-! cheapest ways: what lies in the heap -/
abbrev Ent := V × List Nat × Option (List Nat × Mv)
abbrev WE := Int × Addr × List Ent
abbrev FE := V × (List Nat × Int) × Option (List Nat × Mv)
def SrcT (K : PySem.W.Frag) (H : Hp) (p m : V) : Option (List Nat × Mv) → Prop
  | none => p = .non ∧ m = .non
  | some s => p = .str (S s.1) ∧ ∃ Tm, m = .ref Tm ∧ SqT K H Tm (mvT s.2)
def EntT (K : PySem.W.Frag) (H : Hp) (u : Ent) : Prop := ∃ t p m, u.1 = .ref t ∧ SqT K H t [.str (S u.2.1), p, m] ∧ SrcT K H p m u.2.2
def FEt (K : PySem.W.Frag) (H : Hp) (u : FE) : Prop := ∃ t p m, u.1 = .ref t ∧ SqT K H t [.int u.2.1.2, p, m] ∧ SrcT K H p m u.2.2
def Kt (K : PySem.W.Frag) (H H' : Hp) : Prop := ∀ b ys, SqT K H b ys → SqT K H' b ys
theorem Kt.refl (H : Hp) : Kt K H H := fun _ _ h => h
theorem Kt.of {H H' : Hp} (s : Same H H') : Kt K H H' := fun _ _ h => s.tup h
theorem Kt.trans {H H1 H2 : Hp} (a : Kt K H H1) (b : Kt K H1 H2) : Kt K H H2 := fun c ys h => b c ys (a c ys h)
theorem Kt.lst {H H' : Hp} {d : Addr} {xs : List V} (s : SameB d H H') (hd : H d = some (.lst xs)) : Kt K H H' := fun _ _ h => sameX s hd (fun _ z => by cases z) (fun _ _ z => by cases z) h
theorem Kt.dk {H H' : Hp} {d : Addr} {kvs : List (Key × V)} (s : SameB d H H') (hd : H d = some (.dK kvs)) : Kt K H H' := fun _ _ h => sameX s hd (fun _ z => by cases z) (fun _ _ z => by cases z) h
theorem SameB.same {H H1 H2 : Hp} {d : Addr} (s : Same H H1) (sB : SameB d H1 H2) (hd : H d = none) : Same H H2 := fun b o h => sB b o (ne_of_none h hd) (s b o h)
theorem SrcT.kt {H H' : Hp} {p m : V} : ∀ {s : Option (List Nat × Mv)}, SrcT K H p m s → Kt K H H' → SrcT K H' p m s
  | none, h, _ => h
  | some _, ⟨h1, Tm, h2, h3⟩, k => ⟨h1, Tm, h2, k _ _ h3⟩
theorem EntT.kt {H H' : Hp} {u : Ent} (h : EntT K H u) (k : Kt K H H') : EntT K H' u := by
  obtain ⟨t, p, m, h1, h2, h3⟩ := h
  exact ⟨t, p, m, h1, k _ _ h2, h3.kt k⟩
theorem FEt.kt {H H' : Hp} {u : FE} (h : FEt K H u) (k : Kt K H H') : FEt K H' u := by
  obtain ⟨t, p, m, h1, h2, h3⟩ := h
  exact ⟨t, p, m, h1, k _ _ h2, h3.kt k⟩
abbrev kvW (W : List WE) : List (Key × V) := W.map fun e => ((.inl e.1 : Key), V.ref e.2.1)
abbrev kvF (F : List FE) : List (Key × V) := F.map fun u => (txK u.2.1.1, u.1)
abbrev fdL (F : List FE) : List (List Nat × Int) := F.map fun u => u.2.1
def SrcOk (sz : Nat → Nat) (ps : List Int) (l : List Nat) (fd : List (List Nat × Int)) (t : Int) (y : List Nat) : Option (List Nat × Mv) → Prop
  | none => y = l ∧ t = 0
  | some s => ∃ c, (s.1, c) ∈ fd ∧ s.2.1 < s.1.length ∧ legal sz s.1 s.2 = true ∧ y = moved sz s.1 s.2 ∧ t = c + prI ps s.1 s.2
theorem SrcOk.more {sz : Nat → Nat} {ps : List Int} {l : List Nat} {fd fd' : List (List Nat × Int)} {t : Int} {y : List Nat} (hs : ∀ e ∈ fd, e ∈ fd') : ∀ {s : Option (List Nat × Mv)}, SrcOk sz ps l fd t y s → SrcOk sz ps l fd' t y s
  | none, h => h
  | some _, ⟨c, h1, h2⟩ => ⟨c, hs _ h1, h2⟩
theorem vv_none {α : Type} {kf : α → Key} {vf : α → V} {k : Key} : ∀ {L : List α}, valV (L.map fun e => (kf e, vf e)) k = none → ∀ e ∈ L, kf e ≠ k
  | [], _, e, he => by simp at he
  | x :: r, h, e, he => by
    rw [List.map_cons] at h
    by_cases c : kf x = k
    · rw [valV_pos (p := (kf x, vf x)) c] at h
      cases h
    · rw [valV_neg (p := (kf x, vf x)) c] at h
      rcases List.mem_cons.mp he with rfl | he
      · exact c
      · exact vv_none h e he
theorem vv_some {α : Type} {kf : α → Key} {vf : α → V} {k : Key} {v : V} : ∀ {L : List α}, valV (L.map fun e => (kf e, vf e)) k = some v → ∃ e ∈ L, kf e = k ∧ v = vf e
  | [], h => by cases h
  | x :: r, h => by
    rw [List.map_cons] at h
    by_cases c : kf x = k
    · rw [valV_pos (p := (kf x, vf x)) c] at h
      exact ⟨x, by simp, c, (Option.some.inj h).symm⟩
    · rw [valV_neg (p := (kf x, vf x)) c] at h
      obtain ⟨e, he, h1, h2⟩ := vv_some h
      exact ⟨e, by simp [he], h1, h2⟩
theorem vv_there {α : Type} {kf : α → Key} {vf : α → V} {k : Key} {L : List α} {e : α} (he : e ∈ L) (hk : kf e = k) : ∃ e' ∈ L, kf e' = k ∧ valV (L.map fun e => (kf e, vf e)) k = some (vf e') := by
  cases h : valV (L.map fun e => (kf e, vf e)) k with
  | none => exact absurd hk (vv_none h e he)
  | some v =>
    obtain ⟨e', h1, h2, h3⟩ := vv_some h
    exact ⟨e', h1, h2, by rw [h3]⟩
theorem kvW_drop (W : List WE) (t : Int) : dropK (kvW W) (.inl t) = kvW (W.filter fun e => decide (e.1 ≠ t)) := by
  unfold dropK
  rw [List.filter_map]
  congr 1
  apply List.filter_congr
  intro e _
  show decide ((.inl e.1 : Key) ≠ .inl t) = decide (e.1 ≠ t)
  apply decide_eq_decide.mpr
  exact ⟨fun h z => h (by rw [z]), fun h z => h (Sum.inl.inj z)⟩
def wgt (W : List WE) : Nat := (W.map fun e => 1 + e.2.2.length).sum
theorem wgt_len : ∀ W : List WE, W.length ≤ wgt W
  | [] => Nat.le_refl _
  | e :: r => by
    have := wgt_len r
    show r.length + 1 ≤ (1 + e.2.2.length) + wgt r
    omega
theorem wgt_mem : ∀ {W : List WE} {e : WE}, e ∈ W → e.2.2.length + 1 ≤ wgt W
  | x :: r, e, h => by
    show _ ≤ (1 + x.2.2.length) + wgt r
    rcases List.mem_cons.mp h with rfl | h
    · omega
    · have := wgt_mem h
      omega
def Pend (W : List WE) (t : Int) (u : Ent) : Prop := ∃ e ∈ W, e.1 = t ∧ u ∈ e.2.2
def HsW (W : List WE) (t : Int) (y : List Nat) : Prop := ∃ u, Pend W t u ∧ u.2.1 = y
structure WOk (K : PySem.W.Frag) (H : Hp) (W : List WE) : Prop where
  nk : (W.map (·.1)).Nodup
  na : (W.map (·.2.1)).Nodup
  lst : ∀ e ∈ W, H e.2.1 = some (.lst (e.2.2.map (·.1)))
  ent : ∀ e ∈ W, ∀ u ∈ e.2.2, EntT K H u
section
variable {H H' : Hp} {W : List WE} {a q z : Addr} {t : Int} {us : List Ent}
theorem WOk.kt (h : WOk K H W) (k : Kt K H H') (hs : ∀ e ∈ W, H' e.2.1 = H e.2.1) : WOk K H' W := ⟨h.nk, h.na, fun e he => by rw [hs e he]; exact h.lst e he, fun e he u hu => (h.ent e he u hu).kt k⟩
theorem WOk.same (h : WOk K H W) (s : Same H H') : WOk K H' W := h.kt (.of s) fun e he => by rw [h.lst e he]; exact s _ _ (h.lst e he)
theorem nodup_inj {α β : Type} {f : α → β} : ∀ {L : List α}, (L.map f).Nodup → ∀ {x y : α}, x ∈ L → y ∈ L → f x = f y → x = y
  | [], _, x, _, hx, _, _ => by simp at hx
  | z :: r, h, x, y, hx, hy, e => by
    rw [List.map_cons, List.nodup_cons] at h
    rcases List.mem_cons.mp hx with g1 | g1 <;> rcases List.mem_cons.mp hy with g2 | g2
    · rw [g1, g2]
    · exact absurd (List.mem_map.mpr ⟨y, g2, by rw [← e, g1]⟩) h.1
    · exact absurd (List.mem_map.mpr ⟨x, g1, by rw [e, g2]⟩) h.1
    · exact nodup_inj h.2 g1 g2 e
theorem wgt_app (W V2 : List WE) : wgt (W ++ V2) = wgt W + wgt V2 := by unfold wgt; rw [List.map_append, List.sum_append]
/-- the list of a price: there, or a new one -/
theorem sdef_use {Q : V → Hp → Prop} (hW : WOk K H W) (ha : H a = some (.dK (kvW W))) (hz : H z = some (.lst [])) (hzW : ∀ e ∈ W, e.2.1 ≠ z)
    (key : ∀ (H' : Hp) (W3 : List WE) (q : Addr) (us : List Ent), WOk K H' W3 → H' a = some (.dK (kvW W3)) → (t, q, us) ∈ W3 → SameB a H H' → (∀ t' u, Pend W3 t' u ↔ Pend W t' u) → wgt W3 ≤ wgt W + 1 → (∀ e ∈ W3, (e.2.1 = z ∧ e.1 = t) ∨ ∃ e' ∈ W, e'.2.1 = e.2.1 ∧ e'.1 = e.1) → Q (.ref q) H') :
    (∀ v, valV (kvW W) (.inl t) = some v → Q v H) ∧ (valV (kvW W) (.inl t) = none → Q (.ref z) (upd H a (.dK (putK (kvW W) (.inl t) (.ref z))))) := by
  refine ⟨fun v hv => ?_, fun hv => ?_⟩
  · obtain ⟨⟨t', q, us⟩, he, h1, h2⟩ := vv_some (kf := fun e : WE => (.inl e.1 : Key)) (vf := fun e : WE => V.ref e.2.1) hv
    cases (show t' = t from Sum.inl.inj h1)
    subst h2
    exact key H W q us hW ha he (.refl _ _) (fun _ _ => Iff.rfl) (by omega) fun e he => .inr ⟨e, he, rfl, rfl⟩
  · have hn := vv_none (kf := fun e : WE => (.inl e.1 : Key)) (vf := fun e : WE => V.ref e.2.1) hv
    have hn' : ∀ e ∈ W, e.1 ≠ t := fun e he z => hn e he (by rw [z])
    have haz : a ≠ z := ne_of ha hz (by intro z; cases z)
    have sB : SameB a H (upd H a (.dK (putK (kvW W) (.inl t) (.ref z)))) := sameB_upd
    have k : Kt K H (upd H a (.dK (putK (kvW W) (.inl t) (.ref z)))) := .dk sB ha
    have ep : putK (kvW W) (.inl t) (.ref z) = kvW (W ++ [(t, z, [])]) := by
      rw [putK_new _ hv]
      show _ = (W ++ [(t, z, [])]).map _
      rw [List.map_append]
      rfl
    refine key _ (W ++ [(t, z, [])]) z [] ⟨?_, ?_, fun e he => ?_, fun e he u hu => ?_⟩ (by rw [upd_same, ep]) (by simp) sB (fun t' u => ?_) (by rw [wgt_app]; exact Nat.le_refl _) fun e he => ?_
    · rw [List.map_append, List.nodup_append]
      refine ⟨hW.nk, by simp, fun x hx y hy => ?_⟩
      obtain ⟨e, he, rfl⟩ := List.mem_map.mp hx
      rw [List.mem_singleton.mp hy]
      exact hn' e he
    · rw [List.map_append, List.nodup_append]
      refine ⟨hW.na, by simp, fun x hx y hy => ?_⟩
      obtain ⟨e, he, rfl⟩ := List.mem_map.mp hx
      rw [List.mem_singleton.mp hy]
      exact hzW e he
    · rcases List.mem_append.mp he with he | he
      · exact sB _ _ (ne_of (hW.lst e he) ha (by intro z; cases z)) (hW.lst e he)
      · rw [List.mem_singleton.mp he]
        exact sB _ _ haz.symm hz
    · rcases List.mem_append.mp he with he | he
      · exact (hW.ent e he u hu).kt k
      · rw [List.mem_singleton.mp he] at hu
        simp at hu
    · constructor
      · rintro ⟨e, he, h1, h2⟩
        rcases List.mem_append.mp he with he | he
        · exact ⟨e, he, h1, h2⟩
        · rw [List.mem_singleton.mp he] at h2
          simp at h2
      · rintro ⟨e, he, h1, h2⟩
        exact ⟨e, List.mem_append.mpr (.inl he), h1, h2⟩
    · rcases List.mem_append.mp he with he | he
      · exact .inr ⟨e, he, rfl, rfl⟩
      · rw [List.mem_singleton.mp he]
        exact .inl ⟨rfl, rfl⟩
def pushW (t : Int) (u : Ent) (W : List WE) : List WE := W.map fun e => if e.1 = t then (e.1, e.2.1, e.2.2 ++ [u]) else e
theorem pushW_mem {u : Ent} {e : WE} (h : e ∈ pushW t u W) : ∃ e' ∈ W, e'.2.1 = e.2.1 ∧ e'.1 = e.1 := by
  obtain ⟨e0, h0, rfl⟩ := List.mem_map.mp h
  refine ⟨e0, h0, ?_, ?_⟩ <;> split <;> rfl
theorem pushW_keep {u : Ent} : ∀ {W : List WE}, (∀ e ∈ W, e.1 ≠ t) → pushW t u W = W
  | [], _ => rfl
  | e :: r, h => by
    show (if e.1 = t then _ else e) :: pushW t u r = _
    rw [if_neg (h e (by simp)), pushW_keep fun y hy => h y (by simp [hy])]
theorem pushW_wgt {u : Ent} : ∀ {W : List WE}, (W.map (·.1)).Nodup → wgt (pushW t u W) ≤ wgt W + 1
  | [], _ => by show 0 ≤ 1; omega
  | e :: r, h => by
    rw [List.map_cons, List.nodup_cons] at h
    show wgt ((if e.1 = t then (e.1, e.2.1, e.2.2 ++ [u]) else e) :: pushW t u r) ≤ _
    by_cases c : e.1 = t
    · rw [if_pos c, pushW_keep fun y hy z => h.1 (List.mem_map.mpr ⟨y, hy, z.trans c.symm⟩)]
      show (1 + (e.2.2 ++ [u]).length) + wgt r ≤ (1 + e.2.2.length) + wgt r + 1
      rw [List.length_append]
      show 1 + (e.2.2.length + 1) + wgt r ≤ _
      omega
    · rw [if_neg c]
      have := pushW_wgt (u := u) h.2
      show (1 + e.2.2.length) + wgt (pushW t u r) ≤ (1 + e.2.2.length) + wgt r + 1
      omega
theorem pushW_pt (u : Ent) (f : WE → α) (hf : ∀ e : WE, f (e.1, e.2.1, e.2.2 ++ [u]) = f e) : (pushW t u W).map f = W.map f := by
  unfold pushW
  rw [List.map_map]
  apply List.map_congr_left
  intro e _
  show f (if e.1 = t then _ else e) = f e
  split
  · exact hf e
  · rfl
theorem WOk.push (hW : WOk K H W) (he : (t, q, us) ∈ W) {u : Ent} (hu : EntT K H u) : WOk K (upd H q (.lst (us.map (·.1) ++ [u.1]))) (pushW t u W) := by
  have hq := hW.lst _ he
  have k : Kt K H (upd H q (.lst (us.map (·.1) ++ [u.1]))) := .lst sameB_upd hq
  have uni : ∀ e ∈ W, e.1 = t → e = (t, q, us) := fun e he' h => nodup_inj hW.nk he' he h
  refine ⟨by rw [pushW_pt u (·.1) fun _ => rfl]; exact hW.nk, by rw [pushW_pt u (·.2.1) fun _ => rfl]; exact hW.na, fun e he' => ?_, fun e he' v hv => ?_⟩
  · obtain ⟨e0, h0, rfl⟩ := List.mem_map.mp he'
    show upd H q _ (if e0.1 = t then (e0.1, e0.2.1, e0.2.2 ++ [u]) else e0).2.1 = some (.lst ((if e0.1 = t then (e0.1, e0.2.1, e0.2.2 ++ [u]) else e0).2.2.map (·.1)))
    by_cases c : e0.1 = t
    · rw [if_pos c]
      cases uni e0 h0 c
      show upd H q _ q = _
      rw [upd_same, List.map_append]
      rfl
    · rw [if_neg c, upd_ne fun z => c (by rw [nodup_inj hW.na h0 he z])]
      exact hW.lst e0 h0
  · obtain ⟨e0, h0, rfl⟩ := List.mem_map.mp he'
    have hv : v ∈ (if e0.1 = t then (e0.1, e0.2.1, e0.2.2 ++ [u]) else e0).2.2 := hv
    by_cases c : e0.1 = t
    · rw [if_pos c] at hv
      rcases List.mem_append.mp hv with hv | hv
      · exact (hW.ent e0 h0 v hv).kt k
      · rw [List.mem_singleton.mp hv]
        exact hu.kt k
    · rw [if_neg c] at hv
      exact (hW.ent e0 h0 v hv).kt k
theorem pushW_pend (hn : (W.map (·.1)).Nodup) (he : (t, q, us) ∈ W) {u : Ent} (t' : Int) (v : Ent) : Pend (pushW t u W) t' v ↔ Pend W t' v ∨ (t' = t ∧ v = u) := by
  constructor
  · rintro ⟨e, he', h1, h2⟩
    obtain ⟨e0, h0, rfl⟩ := List.mem_map.mp he'
    by_cases c : e0.1 = t
    · rw [if_pos c] at h1 h2
      rcases List.mem_append.mp h2 with h2 | h2
      · exact .inl ⟨e0, h0, h1, h2⟩
      · exact .inr ⟨h1.symm.trans c, List.mem_singleton.mp h2⟩
    · rw [if_neg c] at h1 h2
      exact .inl ⟨e0, h0, h1, h2⟩
  · rintro (⟨e, he', h1, h2⟩ | ⟨rfl, rfl⟩)
    · refine ⟨_, List.mem_map.mpr ⟨e, he', rfl⟩, ?_, ?_⟩
      · split
        · exact h1
        · exact h1
      · split
        · exact List.mem_append.mpr (.inl h2)
        · exact h2
    · refine ⟨_, List.mem_map.mpr ⟨_, he, rfl⟩, ?_, ?_⟩
      · split <;> rfl
      · rw [if_pos rfl]
        simp
theorem WOk.pop (hW : WOk K H W) : WOk K H (W.filter fun e => decide (e.1 ≠ t)) :=
  ⟨hW.nk.sublist ((List.filter_sublist).map _), hW.na.sublist ((List.filter_sublist).map _), fun e he => hW.lst e (List.mem_filter.mp he).1, fun e he => hW.ent e (List.mem_filter.mp he).1⟩
theorem pop_pend (hn : (W.map (·.1)).Nodup) (he : (t, q, us) ∈ W) (t' : Int) (v : Ent) : Pend W t' v ↔ Pend (W.filter fun e => decide (e.1 ≠ t)) t' v ∨ (t' = t ∧ v ∈ us) := by
  constructor
  · rintro ⟨e, he', h1, h2⟩
    by_cases c : e.1 = t
    · cases nodup_inj hn he' he c
      exact .inr ⟨h1.symm, h2⟩
    · exact .inl ⟨e, List.mem_filter.mpr ⟨he', by simp [c]⟩, h1, h2⟩
  · rintro (⟨e, he', h1, h2⟩ | ⟨rfl, h2⟩)
    · exact ⟨e, (List.mem_filter.mp he').1, h1, h2⟩
    · exact ⟨_, he, rfl, h2⟩
theorem pop_wgt : ∀ {W : List WE}, (t, q, us) ∈ W → wgt (W.filter fun e => decide (e.1 ≠ t)) + 1 + us.length ≤ wgt W
  | e :: r, h => by
    have hle : ∀ W : List WE, wgt (W.filter fun e => decide (e.1 ≠ t)) ≤ wgt W := by
      intro W
      induction W with
      | nil => exact Nat.le_refl _
      | cons x y ih =>
        rw [List.filter_cons]
        split
        · show (1 + x.2.2.length) + wgt _ ≤ (1 + x.2.2.length) + wgt y
          omega
        · show _ ≤ (1 + x.2.2.length) + wgt y
          omega
    rcases List.mem_cons.mp h with rfl | h
    · rw [List.filter_cons, if_neg (by simp)]
      have := hle r
      show _ ≤ (1 + us.length) + wgt r
      omega
    · have := pop_wgt h
      rw [List.filter_cons]
      split
      · show (1 + e.2.2.length) + wgt _ + 1 + us.length ≤ (1 + e.2.2.length) + wgt r
        omega
      · show _ ≤ (1 + e.2.2.length) + wgt r
        omega
theorem pop_away (hn : (W.map (·.2.1)).Nodup) (he : (t, q, us) ∈ W) : ∀ e ∈ W.filter (fun e => decide (e.1 ≠ t)), e.2.1 ≠ q := fun e h z => by
  obtain ⟨h1, h2⟩ := List.mem_filter.mp h
  cases nodup_inj hn h1 he z
  simp at h2
structure DS (K : PySem.W.Frag) (zs ps : List Int) (l : List Nat) (H : Hp) (fk wk : Addr) (F : List FE) (W : List WE) : Prop where
  f : H fk = some (.dK (kvF F))
  w : H wk = some (.dK (kvW W))
  ok : WOk K H W
  fe : ∀ u ∈ F, FEt K H u
  fs : ∀ u ∈ F, SrcOk (szN zs) ps l (fdL F) u.2.1.2 u.2.1.1 u.2.2
  ws : ∀ t u, Pend W t u → SrcOk (szN zs) ps l (fdL F) t u.2.1 u.2.2
theorem DS.same {zs ps : List Int} {l : List Nat} {fk wk : Addr} {F : List FE} (h : DS K zs ps l H fk wk F W) (s : Same H H') : DS K zs ps l H' fk wk F W :=
  ⟨s _ _ h.f, s _ _ h.w, h.ok.same s, fun u hu => (h.fe u hu).kt (.of s), h.fs, h.ws⟩
end
theorem Dij.le {zs ps : List Int} {l : List Nat} {fd : List (List Nat × Int)} {Hs : Int → List Nat → Prop} {lo : Int} (hZ : OkZ zs) (hL : OkR zs l) (h : Dij (szN zs) ps l fd Hs lo) : fd.length ≤ (reachL zs l).length := by
  rw [← List.length_map (·.1) (as := fd)]
  refine List.Nodup.length_le_of_subset h.nd fun x hx => (reach_conn hZ hL).mpr ?_
  obtain ⟨e, he, rfl⟩ := List.mem_map.mp hx
  obtain ⟨ms, hW, _⟩ := h.path e he
  exact ⟨ms, hW⟩
theorem prI_in {zs ps : List Int} (hP : OkP zs ps) (x : List Nat) (m : Mv) : 1 ≤ prI ps x m ∧ prI ps x m ≤ 99 := by
  unfold prI szI
  rw [List.getD_eq_getElem?_getD]
  cases h : ps[x.getD m.1 0 - 97]? with
  | none => exact ⟨by decide, by decide⟩
  | some p => exact hP.all p (List.mem_of_getElem? h)
theorem cost_snoc {sz : Nat → Nat} {ps : List Int} {x : List Nat} {ms : List Mv} {y : List Nat} {m : Mv} (h : Way sz x ms y) : cost sz ps x (ms ++ [m]) = cost sz ps x ms + prI ps y m := by
  rw [cost_app h]
  show _ + (prI ps y m + 0) = _
  omega
/-- a way to a row that a source gives -/
theorem SrcOk.path {sz : Nat → Nat} {ps : List Int} {l : List Nat} {fd : List (List Nat × Int)} {Hs : Int → List Nat → Prop} {lo : Int} (h : Dij sz ps l fd Hs lo) {t : Int} {y : List Nat} : ∀ {s : Option (List Nat × Mv)}, SrcOk sz ps l fd t y s → ∃ ms, Way sz l ms y ∧ cost sz ps l ms = t
  | none, ⟨h1, h2⟩ => ⟨[], h1.symm, h2.symm⟩
  | some s, ⟨c, h1, h2, h3, h4, h5⟩ => by
    obtain ⟨ms, g1, g2⟩ := h.path _ h1
    refine ⟨ms ++ [s.2], ?_, ?_⟩
    · rw [h4]
      exact g1.snoc h2 h3
    · rw [cost_snoc g1, g2, h5]
theorem cost_pos {zs ps : List Int} (hP : OkP zs ps) {sz : Nat → Nat} : ∀ (x : List Nat) (ms : List Mv), (ms.length : Int) ≤ cost sz ps x ms
  | x, [] => Int.le_refl _
  | x, m :: ms => by
    have h1 := (prI_in hP x m).1
    have h2 := cost_pos hP (sz := sz) (moved sz x m) ms
    show ((ms.length + 1 : Nat) : Int) ≤ prI ps x m + cost sz ps (moved sz x m) ms
    omega
theorem cost_ones {sz : Nat → Nat} {n : Nat} : ∀ (x : List Nat) (ms : List Mv), cost sz (List.replicate n 1) x ms = ms.length
  | x, [] => rfl
  | x, m :: ms => by
    show prI (List.replicate n 1) x m + cost sz (List.replicate n 1) (moved sz x m) ms = ((ms.length + 1 : Nat) : Int)
    rw [cost_ones (sz := sz) (n := n) (moved sz x m) ms]
    have h : prI (List.replicate n 1) x m = 1 := by
      unfold prI szI
      rw [List.getD_eq_getElem?_getD, List.getElem?_replicate]
      split <;> rfl
    rw [h]
    omega
theorem okp_ones {zs : List Int} : OkP zs (List.replicate zs.length 1) := ⟨List.length_replicate, fun p hp => by rw [(List.mem_replicate.mp hp).2]; decide⟩
theorem Dij.uni {sz : Nat → Nat} {ps : List Int} {l : List Nat} {fd : List (List Nat × Int)} {Hs : Int → List Nat → Prop} {lo : Int} (h : Dij sz ps l fd Hs lo) {y : List Nat} {c d : Int} (h1 : (y, c) ∈ fd) (h2 : (y, d) ∈ fd) : c = d :=
  congrArg Prod.snd (nodup_inj h.nd h1 h2 rfl)
theorem Dij.pos {zs ps : List Int} (hP : OkP zs ps) {sz : Nat → Nat} {l : List Nat} {fd : List (List Nat × Int)} {Hs : Int → List Nat → Prop} {lo : Int} (h : Dij sz ps l fd Hs lo) {y : List Nat} {c : Int} (h1 : (y, c) ∈ fd) : 0 ≤ c := by
  obtain ⟨ms, _, e⟩ := h.path _ h1
  rw [← (show cost sz ps l ms = c from e)]
  have := cost_pos hP (sz := sz) l ms
  omega

-- NEEDS m_dist prices list_moves
abbrev s_distances_from : Stmt := topS 45
theorem sc_distances_from : FnScope ["sizes", "row", "prices", "found", "waiting", "price", "here", "previous", "move", "step", "total"] ["sizes", "row", "prices"] (defScope s_distances_from) := ⟨rfl, rfl, rfl, by decide +kernel, rfl, by decide +kernel, by decide +kernel⟩

def sp_distances_from (K : PySem.W.Frag) : Sp := fun vs H Q _ => ∃ (a c : Addr) (zs ps : List Int) (l : List Nat), vs = [.ref a, .str (S l), .ref c] ∧ SqT K H a (zs.map V.int) ∧ OkZ zs ∧ OkR zs l ∧ l.length ≤ 12 ∧ SqT K H c (ps.map V.int) ∧ OkP zs ps ∧ (reachL zs l).length ≤ 2000 ∧
  ∀ (H' : Hp) (p : Addr) (F : List FE) (lo : Int), Same H H' → H p = none → H' p = some (.dK (kvF F)) → (∀ u ∈ F, FEt K H' u) → (∀ u ∈ F, SrcOk (szN zs) ps l (fdL F) u.2.1.2 u.2.1.1 u.2.2) → Dij (szN zs) ps l (fdL F) (fun _ _ => False) lo → Q (.ref p) H'
theorem ok_distances_from {f : Addr} {fd : FuncData} (F : Fun K "distances_from" "distances_from" s_distances_from f fd) (B : Bi mg) (C_list_moves : Cal P w K mg base CX0 4 "list_moves" ["sizes", "row"] (sp_list_moves K)) (C_price_of : Cal P w K mg base CX0 1 "price_of" ["prices", "row", "move"] (sp_price_of K)) (C_apply_move : Cal P w K mg base CX0 2 "apply_move" ["sizes", "row", "move"] (sp_apply_move K)) : FnOk P w K mg base CX0 5 f fd ["sizes", "row", "prices"] (sp_distances_from K) := by
  refine F.ok sc_distances_from (fun vs H Q E h => ?_) (fun cdv A outer s H vs Q E hr h => ?_)
  · obtain ⟨a, c, zs, ps, l, rfl, _⟩ := h
    rfl
  obtain ⟨a, c, zs, ps, l, rfl, hT, hZ, hL, hl, hC, hP, hN, q⟩ := h
  refine ⟨_, (pss_cons (ps_par (i := 3) (j := 4) rfl sc_distances_from.nd rfl rfl (by decide) rfl rfl (pa_cons pe_dnewK (pa_cons (pe_disp1 pe_int (pe_lst (pa_cons (pe_tup (pa_cons (gv 1) (pa_cons pe_non (pa_cons pe_non pa_nil)))) pa_nil))) pa_nil)) rfl)
      (pss_cons (ps_while PassesOwn.never (pt_cmpG (op_neK hr.units) (gv 4) pe_dnewK (nomark _))
      (pss_cons (ps_set (i := 5) sc_distances_from.nd rfl (.inl rfl) (pe_callB (cr_minK0 rfl) (by rfl) B.min bt_min (pa_cons (gv 4) pa_nil)))
      (pss_one (ps_for PassesOwn.never rfl (pi_seqG (K := K) (pe_dpop1 (gv 4) (gv 5) ⟨rfl, rfl, rfl, rfl⟩)) (pg_nm (K := K) (is := [6, 7, 8]) (pgs_cons (pg_name (i := 6) sc_distances_from.nd rfl (.inl rfl)) (pgs_cons (pg_name (i := 7) sc_distances_from.nd rfl (.inl rfl)) (pgs_cons (pg_name (i := 8) sc_distances_from.nd rfl (.inl rfl)) pgs_nil))) nm3)
      (pss_one (ps_if (pt_cmpG (op_notInK hr.units) (gv 6) (gv 3) rfl)
      (pss_cons (ps_asg (pe_tup (pa_cons (gv 5) (pa_cons (gv 7) (pa_cons (gv 8) pa_nil)))) (pg_sub (gv 3) (gv 6) (set_K hr.units)))
      (pss_one (ps_for PassesOwn.never rfl (pi_seqG (K := K) (pe_cal C_list_moves (hr.mono (by decide)) pass0 (pa_cons (gv 0) (pa_cons (gv 6) pa_nil)))) (pg_name (i := 9) sc_distances_from.nd rfl (.inl rfl))
      (pss_cons (ps_set (i := 10) sc_distances_from.nd rfl (.inl rfl) (pe_op (op_addG (K := K)) (gv 5) (pe_cal C_price_of (hr.mono (by decide)) pass0 (pa_cons (gv 2) (pa_cons (gv 6) (pa_cons (gv 9) pa_nil))))))
      (pss_one (ps_expr (pe_bmG (K := K) PySem.F.plainAttrs_list PySem.F.slot_list_append PySem.F.type_list_append mt_appendG (pe_sdef (gv 4) (gv 10) (pe_lst pa_nil) ⟨rfl, rfl, rfl, rfl⟩) (pa_cons (pe_tup (pa_cons (pe_cal C_apply_move (hr.mono (by decide)) pass0 (pa_cons (gv 0) (pa_cons (gv 6) (pa_cons (gv 9) pa_nil)))) (pa_cons (gv 6) (pa_cons (gv 9) pa_nil)))) pa_nil))))))))
      pss_nil))))))
      (pss_one (ps_ret (gv 3))))), ?_⟩
  have hs : ∀ k, 1 ≤ szN zs k := fun k => szN_pos hZ k
  refine fun fk hfk wk hwk => ⟨by show 3 ≤ sizeLine; decide, fun tk htk => ⟨by show 1 ≤ sizeLine; decide, fun lk hlk => ⟨?_, [(.inl 0, .ref lk)], rfl, by show 1 ≤ 15; decide, _, _, rfl, ?_⟩⟩⟩
  · have h1 : upd (upd H fk (.dK [])) wk (.dK []) wk = some (.dK []) := upd_same
    exact (same_upd hlk) _ _ ((same_upd htk) _ _ h1)
  have s1 : Same H (upd H fk (.dK [])) := same_upd hfk
  have hfk0 : H fk = none := hfk
  have hwk0 : H wk = none := s1.free hwk
  have nfw : fk ≠ wk := ne_of_none (H := upd H fk (.dK [])) upd_same hwk
  have s2 := s1.trans (same_upd (o := .dK []) hwk)
  have f2 : upd (upd H fk (.dK [])) wk (.dK []) fk = some (.dK []) := same_upd hwk _ _ upd_same
  have w2 : upd (upd H fk (.dK [])) wk (.dK []) wk = some (.dK []) := upd_same
  generalize upd (upd H fk (.dK [])) wk (.dK []) = H2 at *
  have s3 := s2.trans (same_upd (o := .tup [.str (S l), .non, .non]) htk)
  have f3 := same_upd (o := .tup [.str (S l), .non, .non]) htk _ _ f2
  have w3 := same_upd (o := .tup [.str (S l), .non, .non]) htk _ _ w2
  have t3 : upd H2 tk (.tup [.str (S l), .non, .non]) tk = some (.tup [.str (S l), .non, .non]) := upd_same
  generalize upd H2 tk (.tup [.str (S l), .non, .non]) = H3 at *
  have s4 := s3.trans (same_upd (o := .lst [.ref tk]) hlk)
  have f4 := same_upd (o := .lst [.ref tk]) hlk _ _ f3
  have w4 := same_upd (o := .lst [.ref tk]) hlk _ _ w3
  have t4 := same_upd (o := .lst [.ref tk]) hlk _ _ t3
  have l4 : upd H3 lk (.lst [.ref tk]) lk = some (.lst [.ref tk]) := upd_same
  generalize upd H3 lk (.lst [.ref tk]) = H4 at *
  have s5 : Same H (upd H4 wk (.dK (mergeK [] [(.inl 0, .ref lk)]))) := s4.at hwk0
  have f5 : upd H4 wk (.dK (mergeK [] [(.inl 0, .ref lk)])) fk = some (.dK (kvF [])) := by rw [upd_ne nfw]; exact f4
  have w5 : upd H4 wk (.dK (mergeK [] [(.inl 0, .ref lk)])) wk = some (.dK (kvW [(0, lk, [(.ref tk, l, none)])])) := upd_same
  have t5 : upd H4 wk (.dK (mergeK [] [(.inl 0, .ref lk)])) tk = some (.tup [.str (S l), .non, .non]) := by rw [upd_ne (ne_of t4 w4 (by intro z; cases z))]; exact t4
  have l5 : upd H4 wk (.dK (mergeK [] [(.inl 0, .ref lk)])) lk = some (.lst [.ref tk]) := by rw [upd_ne (ne_of l4 w4 (by intro z; cases z))]; exact l4
  generalize upd H4 wk (.dK (mergeK [] [(.inl 0, .ref lk)])) = H5 at *
  have hD0 : DS K zs ps l H5 fk wk [] [(0, lk, [(.ref tk, l, none)])] := by
    refine ⟨f5, w5, ⟨by simp, by simp, fun e he => ?_, fun e he u hu => ?_⟩, fun u hu => by simp at hu, fun u hu => by simp at hu, fun t u hp => ?_⟩
    · rw [List.mem_singleton.mp he]
      exact l5
    · rw [List.mem_singleton.mp he] at hu
      rw [List.mem_singleton.mp hu]
      exact ⟨tk, .non, .non, rfl, SqT.of t5, rfl, rfl⟩
    · obtain ⟨e, he, h1, h2⟩ := hp
      rw [List.mem_singleton.mp he] at h1 h2
      rw [List.mem_singleton.mp h2]
      exact ⟨rfl, h1.symm⟩
  have hJ0 : Dij (szN zs) ps l (fdL []) (HsW [(0, lk, [(.ref tk, l, none)])]) 0 := by
    refine ⟨by simp, fun e he => by simp at he, fun e he => by simp at he, .inr ⟨(.ref tk, l, none), ⟨_, List.mem_singleton.mpr rfl, rfl, List.mem_singleton.mpr rfl⟩, rfl⟩, fun e he => by simp at he, fun t y hy => ?_⟩
    obtain ⟨u, ⟨e, he, h1, h2⟩, h3⟩ := hy
    rw [List.mem_singleton.mp he] at h1
    rw [← h1]
    exact Int.le_refl _
  refine ⟨fun m σ H' => ∃ F W lo y5 y6 y7 y8 y9 y10, σ = [some (.ref a), some (.str (S l)), some (.ref c), some (.ref fk), some (.ref wk), y5, y6, y7, y8, y9, y10] ∧ Same H H' ∧ DS K zs ps l H' fk wk F W ∧ Dij (szN zs) ps l (fdL F) (HsW W) lo ∧ (∀ e ∈ W, lo ≤ e.1 ∧ H e.2.1 = none) ∧ wgt W ≤ 2 + 48 * F.length ∧ m = 50 * ((reachL zs l).length - F.length) + wgt W,
    ⟨_, [], [(0, lk, [(.ref tk, l, none)])], 0, _, _, _, _, _, _, rfl, s5, hD0, hJ0, fun e he => by rw [List.mem_singleton.mp he]; exact ⟨Int.le_refl _, s3.free hlk⟩, Nat.le_refl _, rfl⟩, ?_⟩
  rintro m σ H6 ⟨F, W, lo, y5, y6, y7, y8, y9, y10, rfl, s6, hD, hJ, hlo, hw, rfl⟩
  refine fun ed hed => ?_
  have hle : F.length ≤ 2000 := Nat.le_trans (by have := hJ.le hZ hL; rw [List.length_map] at this; exact this) hN
  refine ⟨wk, ed, kvW W, rfl, rfl, same_upd hed _ _ hD.w, upd_same, ?_⟩
  have s7 := s6.trans (same_upd (o := .dK []) hed)
  have hD7 := hD.same (same_upd (o := .dK []) hed)
  generalize upd H6 ed (.dK []) = H7 at *
  refine iteB ⟨fun ee => ?_, fun ee => ?_⟩
  · refine ⟨fun σ' H' => ∃ m', m' < 50 * ((reachL zs l).length - F.length) + wgt W ∧ ∃ F W lo y5 y6 y7 y8 y9 y10, σ' = [some (.ref a), some (.str (S l)), some (.ref c), some (.ref fk), some (.ref wk), y5, y6, y7, y8, y9, y10] ∧ Same H H' ∧ DS K zs ps l H' fk wk F W ∧ Dij (szN zs) ps l (fdL F) (HsW W) lo ∧ (∀ e ∈ W, lo ≤ e.1 ∧ H e.2.1 = none) ∧ wgt W ≤ 2 + 48 * F.length ∧ m' = 50 * ((reachL zs l).length - F.length) + wgt W, fun _ _ h => h, ?_⟩
    have hWne : W ≠ [] := fun z => by rw [z] at ee; exact absurd ee (by decide)
    refine ⟨kvW W, W.map (·.1), hD7.w, by rw [List.map_map, List.map_map]; rfl, by rw [List.length_map]; exact List.length_pos_iff.mpr hWne, fun t ht hmin => ?_⟩
    obtain ⟨⟨t', qa, us⟩, he, rfl⟩ := List.mem_map.mp ht
    have hmin' : ∀ t2 y2, HsW W t2 y2 → t' ≤ t2 := fun t2 y2 ⟨u, ⟨e, he2, h1, _⟩, _⟩ => by rw [← h1]; exact hmin _ (List.mem_map.mpr ⟨e, he2, rfl⟩)
    have hval : valV (kvW W) (.inl t') = some (.ref qa) := by
      obtain ⟨e', h1, h2, h3⟩ := vv_there (kf := fun e : WE => (.inl e.1 : Key)) (vf := fun e : WE => V.ref e.2.1) he rfl
      rw [h3, nodup_inj hD7.ok.nk h1 he (Sum.inl.inj h2)]
    refine ⟨wk, rfl, .inl ⟨_, .inl hD7.w⟩, kvW W, .inl t', .ref qa, hD7.w, rfl, hval, ?_⟩
    rw [kvW_drop]
    have hq7 := hD7.ok.lst _ he
    have hqw : qa ≠ wk := ne_of hq7 hD7.w (by intro z; cases z)
    have sB8 : SameB wk H7 (upd H7 wk (.dK (kvW (W.filter fun e => decide (e.1 ≠ t'))))) := sameB_upd
    have k8 : Kt K H7 (upd H7 wk (.dK (kvW (W.filter fun e => decide (e.1 ≠ t'))))) := .dk sB8 hD7.w
    have s8 : Same H (upd H7 wk (.dK (kvW (W.filter fun e => decide (e.1 ≠ t'))))) := s7.at hwk0
    have q8 : upd H7 wk (.dK (kvW (W.filter fun e => decide (e.1 ≠ t')))) qa = some (.lst (us.map (·.1))) := by rw [upd_ne hqw]; exact hq7
    have u8 : ∀ u ∈ us, EntT K (upd H7 wk (.dK (kvW (W.filter fun e => decide (e.1 ≠ t'))))) u := fun u hu => (hD7.ok.ent _ he u hu).kt k8
    have hD8 : DS K zs ps l (upd H7 wk (.dK (kvW (W.filter fun e => decide (e.1 ≠ t'))))) fk wk F (W.filter fun e => decide (e.1 ≠ t')) :=
      ⟨by rw [upd_ne nfw]; exact hD7.f, upd_same, hD7.ok.pop.kt k8 fun e h => upd_ne (ne_of (hD7.ok.lst e (List.mem_filter.mp h).1) hD7.w (by intro z; cases z)), fun u hu => (hD7.fe u hu).kt k8, hD7.fs, fun t u hp => hD7.ws t u ((pop_pend hD7.ok.nk he t u).mpr (.inl hp))⟩
    have haw := pop_away hD7.ok.na he
    have hpw := pop_wgt he
    have hus : ∀ u ∈ us, SrcOk (szN zs) ps l (fdL F) t' u.2.1 u.2.2 := fun u hu => hD7.ws t' u ⟨_, he, rfl, hu⟩
    have hJ8 : Dij (szN zs) ps l (fdL F) (fun t2 y => HsW (W.filter fun e => decide (e.1 ≠ t')) t2 y ∨ (t2 = t' ∧ y ∈ (us.drop 0).map (·.2.1))) t' := by
      have hJ1 : Dij (szN zs) ps l (fdL F) (fun t2 y => HsW (W.filter fun e => decide (e.1 ≠ t')) t2 y ∨ (t2 = t' ∧ y ∈ (us.drop 0).map (·.2.1))) lo := by
        refine hJ.iff fun t2 y => ?_
        constructor
        · rintro ⟨u, hp, h3⟩
          rcases (pop_pend hD7.ok.nk he t2 u).mp hp with h | ⟨h1, h2⟩
          · exact .inl ⟨u, h, h3⟩
          · exact .inr ⟨h1, List.mem_map.mpr ⟨u, h2, h3⟩⟩
        · rintro (⟨u, hp, h3⟩ | ⟨h1, h2⟩)
          · exact ⟨u, (pop_pend hD7.ok.nk he t2 u).mpr (.inl hp), h3⟩
          · obtain ⟨u, h4, h5⟩ := List.mem_map.mp h2
            exact ⟨u, (pop_pend hD7.ok.nk he t2 u).mpr (.inr ⟨h1, h4⟩), h5⟩
      refine hJ1.lift (hlo _ he).1 fun t2 y => ?_
      · rintro (⟨u, ⟨e, he2, h1, h2⟩, h3⟩ | ⟨h1, _⟩)
        · exact hmin' t2 y ⟨u, ⟨e, (List.mem_filter.mp he2).1, h1, h2⟩, h3⟩
        · rw [h1]
          exact Int.le_refl _
    have hlo8 : ∀ e ∈ W.filter (fun e => decide (e.1 ≠ t')), t' ≤ e.1 := fun e h => hmin _ (List.mem_map.mpr ⟨e, (List.mem_filter.mp h).1, rfl⟩)
    have hno8 : ∀ e ∈ W.filter (fun e => decide (e.1 ≠ t')), H e.2.1 = none := fun e h => (hlo e (List.mem_filter.mp h).1).2
    generalize upd H7 wk (.dK (kvW (W.filter fun e => decide (e.1 ≠ t')))) = H8 at *
    generalize hW8 : W.filter (fun e => decide (e.1 ≠ t')) = W8 at *
    refine .inl ⟨_, SqL.of q8, ?_⟩
    refine for_it (walk_list (xs := us.map (·.1))) (fun i σ H' => ∃ F' W' y6 y7 y8 y9 y10, σ = [some (.ref a), some (.str (S l)), some (.ref c), some (.ref fk), some (.ref wk), some (.int t'), y6, y7, y8, y9, y10] ∧ Same H H' ∧ H' qa = some (.lst (us.map (·.1))) ∧ (∀ u ∈ us, EntT K H' u) ∧ (∀ e ∈ W', e.2.1 ≠ qa ∧ t' ≤ e.1 ∧ H e.2.1 = none) ∧ DS K zs ps l H' fk wk F' W' ∧ (∀ u ∈ us, SrcOk (szN zs) ps l (fdL F') t' u.2.1 u.2.2) ∧
      Dij (szN zs) ps l (fdL F') (fun t2 y => HsW W' t2 y ∨ (t2 = t' ∧ y ∈ (us.drop i).map (·.2.1))) t' ∧ wgt W' ≤ 2 + 48 * F'.length ∧ 50 * ((reachL zs l).length - F'.length) + wgt W' + 1 ≤ 50 * ((reachL zs l).length - F.length) + wgt W)
      ⟨F, W8, _, _, _, _, _, rfl, s8, q8, u8, fun e h => ⟨haw e h, hlo8 e h, hno8 e h⟩, hD8, hus, hJ8, by omega, by omega⟩ ?_ ?_ ?_
    · rintro i σ H' hi ⟨_, _, _, _, _, _, _, _, _, hq, _⟩
      exact SqL.of hq
    · rintro i v σ H9 H10 hi ⟨F1, W1, y6, y7, y8, y9, y10, rfl, s9, q9, u9, aw9, hD9, hus9, hJ9, hw9, hm9⟩ ⟨rfl, hv⟩
      rw [List.getElem?_map] at hv
      obtain ⟨u, hu, hv⟩ := Option.map_eq_some_iff.mp hv
      have hum := List.mem_of_getElem? hu
      obtain ⟨tt, pv, mv, e1, hSq, hSrc⟩ := u9 u hum
      obtain ⟨uv, y, src⟩ := u
      subst hv
      cases (show uv = .ref tt from e1)
      refine ⟨_, hSq, ?_⟩
      have hy0 : ∃ ms, Way (szN zs) l ms y ∧ cost (szN zs) ps l ms = t' := (hus9 _ hum).path hJ9
      obtain ⟨hy, hy8⟩ : OkR zs y ∧ y.length = l.length := by
        obtain ⟨ms, h1, _⟩ := hy0
        exact h1.okr hL
      have hdr : us.drop i = (.ref tt, y, src) :: us.drop (i + 1) := by
        obtain ⟨hlt, e⟩ := List.getElem?_eq_some_iff.mp hu
        rw [List.drop_eq_getElem_cons hlt, e]
      refine ⟨fk, kvF F1, txK y, rfl, hD9.f, rfl, ?_⟩
      refine iteB ⟨fun en => ?_, fun en => ?_⟩
      · have en' : (!(valV (kvF F1) (txK y)).isSome) = true := en
        have hnone : valV (kvF F1) (txK y) = none := by
          cases ev : valV (kvF F1) (txK y) with
          | none => rfl
          | some w => rw [ev] at en'; cases en'
        have hno : ∀ cc, (y, cc) ∉ fdL F1 := fun cc z => by
          obtain ⟨e, he1, he2⟩ := List.mem_map.mp z
          exact vv_none (kf := fun u : FE => txK u.2.1.1) (vf := fun u : FE => u.1) hnone e he1 (by rw [he2])
        have hle9 : F1.length ≤ (reachL zs l).length := by have := hJ9.le hZ hL; rw [List.length_map] at this; exact this
        refine ⟨by show 3 ≤ sizeLine; decide, fun t1 ht1 => ?_⟩
        refine ⟨fk, kvF F1, txK y, rfl, same_upd ht1 _ _ hD9.f, rfl, by rw [List.length_map]; omega, ?_⟩
        have ep : putK (kvF F1) (txK y) (.ref t1) = kvF (F1 ++ [(.ref t1, (y, t'), src)]) := by
          rw [putK_new _ hnone]
          show _ = (F1 ++ [(V.ref t1, (y, t'), src)]).map _
          rw [List.map_append]
          rfl
        rw [ep]
        have k10 : Kt K H10 (upd H10 t1 (.tup [.int t', pv, mv])) := .of (same_upd ht1)
        have s10 := s9.trans (same_upd (o := .tup [.int t', pv, mv]) ht1)
        have q10 := same_upd (o := .tup [.int t', pv, mv]) ht1 _ _ q9
        have hD10 := hD9.same (same_upd (o := .tup [.int t', pv, mv]) ht1)
        have u10 : ∀ u ∈ us, EntT K (upd H10 t1 (.tup [.int t', pv, mv])) u := fun u hu => (u9 u hu).kt k10
        have t10 : SqT K (upd H10 t1 (.tup [.int t', pv, mv])) t1 [.int t', pv, mv] := SqT.of upd_same
        have r10 := hSrc.kt k10
        generalize upd H10 t1 (.tup [.int t', pv, mv]) = Ha at *
        have hqf : qa ≠ fk := ne_of q10 hD10.f (by intro z; cases z)
        have kB : Kt K Ha (upd Ha fk (.dK (kvF (F1 ++ [(.ref t1, (y, t'), src)])))) := .dk sameB_upd hD10.f
        have sB : Same H (upd Ha fk (.dK (kvF (F1 ++ [(.ref t1, (y, t'), src)])))) := s10.at hfk0
        have qB : upd Ha fk (.dK (kvF (F1 ++ [(.ref t1, (y, t'), src)]))) qa = some (.lst (us.map (·.1))) := by rw [upd_ne hqf]; exact q10
        have uB : ∀ u ∈ us, EntT K (upd Ha fk (.dK (kvF (F1 ++ [(.ref t1, (y, t'), src)])))) u := fun u hu => (u10 u hu).kt kB
        have hfd : fdL (F1 ++ [(.ref t1, (y, t'), src)]) = fdL F1 ++ [(y, t')] := List.map_append
        have hsub : ∀ e ∈ fdL F1, e ∈ fdL (F1 ++ [(.ref t1, (y, t'), src)]) := fun e h => by rw [hfd]; exact List.mem_append.mpr (.inl h)
        have hDB : DS K zs ps l (upd Ha fk (.dK (kvF (F1 ++ [(.ref t1, (y, t'), src)])))) fk wk (F1 ++ [(.ref t1, (y, t'), src)]) W1 := by
          refine ⟨upd_same, by rw [upd_ne nfw.symm]; exact hD10.w, hD10.ok.kt kB fun e h => upd_ne (ne_of (hD10.ok.lst e h) hD10.f (by intro z; cases z)), fun u hu => ?_, fun u hu => ?_, fun t2 u hp => (hD10.ws t2 u hp).more hsub⟩
          · rcases List.mem_append.mp hu with hu | hu
            · exact (hD10.fe u hu).kt kB
            · rw [List.mem_singleton.mp hu]
              exact ⟨t1, pv, mv, rfl, kB _ _ t10, r10.kt kB⟩
          · rcases List.mem_append.mp hu with hu | hu
            · exact (hD10.fs u hu).more hsub
            · rw [List.mem_singleton.mp hu]
              exact (hus9 _ hum).more hsub
        generalize upd Ha fk (.dK (kvF (F1 ++ [(.ref t1, (y, t'), src)]))) = Hb at *
        refine ⟨a, zs, y, rfl, sB.tup hT, hZ, hy, by omega, fun Hc ex vs2 sc nex hex hM => .inl ⟨_, SqL.of hex, ?_⟩⟩
        have hlen := hM.len
        have hll := legals_len (szN zs) y
        have sC := sB.trans sc
        have qC := sc _ _ qB
        have uC : ∀ u ∈ us, EntT K Hc u := fun u hu => (uB u hu).kt (.of sc)
        have hDC := hDB.same sc
        have awC : ∀ e ∈ W1, e.2.1 ≠ qa ∧ e.2.1 ≠ ex ∧ t' ≤ e.1 ∧ H e.2.1 = none := fun e h => ⟨(aw9 e h).1, ne_of_none (hDB.ok.lst e h) nex, (aw9 e h).2.1, (aw9 e h).2.2⟩
        have nqx : qa ≠ ex := ne_of_none qB nex
        refine for_it (walk_list (xs := vs2)) (fun j σ H' => ∃ W2 y9 y10, σ = [some (.ref a), some (.str (S l)), some (.ref c), some (.ref fk), some (.ref wk), some (.int t'), some (.str (S y)), some pv, some mv, y9, y10] ∧ Same H H' ∧ Kt K Hc H' ∧ H' ex = some (.lst vs2) ∧ H' qa = some (.lst (us.map (·.1))) ∧ (∀ u ∈ us, EntT K H' u) ∧ (∀ e ∈ W2, e.2.1 ≠ qa ∧ e.2.1 ≠ ex ∧ t' ≤ e.1 ∧ H e.2.1 = none) ∧ DS K zs ps l H' fk wk (F1 ++ [(.ref t1, (y, t'), src)]) W2 ∧
          (∀ t2 z, HsW W1 t2 z → HsW W2 t2 z) ∧ (∀ (j' : Nat) (m : Mv), j' < j → (legals (szN zs) y)[j']? = some m → HsW W2 (t' + prI ps y m) (moved (szN zs) y m)) ∧ wgt W2 ≤ wgt W1 + 2 * j)
          ⟨W1, _, _, rfl, sC, .refl _, hex, qC, uC, awC, hDC, fun _ _ h => h, fun j' m h => absurd h (Nat.not_lt_zero _), Nat.le_refl _⟩ ?_ ?_ ?_
        · rintro j σ H' hj ⟨_, _, _, _, _, _, hx, _⟩
          exact SqL.of hx
        · rintro j v σ Hd He hj ⟨W2, y9, y10, rfl, sD, kD, xD, qD, uD, awD, hDD, oldD, newD, wD⟩ ⟨rfl, hv⟩
          obtain ⟨Tm, m, rfl, hm, hTm⟩ := hM.get hv
          obtain ⟨hmi, hmg⟩ := legals_mem.mp (List.mem_of_getElem? hm)
          refine ⟨c, Tm, zs, ps, y, m, rfl, sD.tup hC, hZ, hP, hy, by omega, kD _ _ hTm, hmi, ?_⟩
          refine ⟨wk, rfl, .inl ⟨_, .inl hDD.w⟩, Nat.zero_le _, fun z hz => ⟨kvW W2, .inl (t' + prI ps y m), same_upd hz _ _ hDD.w, rfl, by rw [List.length_map]; have := wgt_len W2; omega, ?_⟩⟩
          have s1z := same_upd (o := .lst []) hz
          have wz := s1z _ _ hDD.w
          have zz : upd He z (.lst []) z = some (.lst []) := upd_same
          have okz := hDD.ok.same s1z
          have nz : ∀ e ∈ W2, e.2.1 ≠ z := fun e he => ne_of_none (hDD.ok.lst e he) hz
          generalize upd He z (.lst []) = Hz at *
          apply sdef_use (t := t' + prI ps y m) okz wz zz nz
          intro Hf W3 q3 us3 hW3 wF hmem sF hP3 hw3 hm3
          have kF : Kt K He Hf := (Kt.of s1z).trans (.dk sF wz)
          have sF' : Same H Hf := SameB.same (sD.trans s1z) sF hwk0
          have qF : Hf qa = some (.lst (us.map (·.1))) := sF _ _ (ne_of qD hDD.w (by intro z; cases z)) (s1z _ _ qD)
          have xF : Hf ex = some (.lst vs2) := sF _ _ (ne_of xD hDD.w (by intro z; cases z)) (s1z _ _ xD)
          have fF := sF _ _ nfw (s1z _ _ hDD.f)
          have uF : ∀ u ∈ us, EntT K Hf u := fun u hu => (uD u hu).kt kF
          have awF : ∀ e ∈ W3, e.2.1 ≠ qa ∧ e.2.1 ≠ ex ∧ t' ≤ e.1 ∧ H e.2.1 = none := fun e h => by
            rcases hm3 e h with ⟨g1, g2⟩ | ⟨e', g0, g1, g2⟩
            · rw [g1, g2]
              have := (prI_in hP y m).1
              exact ⟨(ne_of_none qD hz).symm, (ne_of_none xD hz).symm, by omega, sD.free hz⟩
            · rw [← g1, ← g2]
              exact awD e' g0
          have hDF : DS K zs ps l Hf fk wk (F1 ++ [(.ref t1, (y, t'), src)]) W3 := ⟨fF, wF, hW3, fun u hu => (hDD.fe u hu).kt kF, hDD.fs, fun t2 u hp => hDD.ws t2 u ((hP3 t2 u).mp hp)⟩
          have kDF := kD.trans kF
          refine ⟨.inl ⟨rfl, _, SqL.of (hW3.lst _ hmem)⟩, a, Tm, zs, y, m, rfl, sF'.tup hT, hZ, hy, by omega, kDF _ _ hTm, hmi, hmg, fun Hg sg => ⟨by show 3 ≤ sizeLine; decide, fun t2 ht2 => ?_⟩⟩
          have s2 := sg.trans (same_upd (o := .tup [.str (S (moved (szN zs) y m)), .str (S y), .ref Tm]) ht2)
          have t2h : SqT K (upd Hg t2 (.tup [.str (S (moved (szN zs) y m)), .str (S y), .ref Tm])) t2 [.str (S (moved (szN zs) y m)), .str (S y), .ref Tm] := SqT.of upd_same
          generalize upd Hg t2 (.tup [.str (S (moved (szN zs) y m)), .str (S y), .ref Tm]) = Hh at *
          have hDH := hDF.same s2
          have hEnt : EntT K Hh (.ref t2, moved (szN zs) y m, some (y, m)) := ⟨t2, _, _, rfl, t2h, rfl, Tm, rfl, s2.tup (kDF _ _ hTm)⟩
          have hql := hDH.ok.lst _ hmem
          have hwm := wgt_mem hmem
          refine ⟨us3.map (·.1), hql, by rw [List.length_map]; show us3.length < _; have : us3.length + 1 ≤ wgt W3 := hwm; omega, ?_⟩
          have hp := hDH.ok.push hmem hEnt
          have hpe := fun t3 v => pushW_pend hDH.ok.nk hmem (u := (.ref t2, moved (szN zs) y m, some (y, m))) t3 v
          have kI : Kt K Hh (upd Hh q3 (.lst (us3.map (·.1) ++ [.ref t2]))) := .lst sameB_upd hql
          obtain ⟨n1, n2, n3, n4⟩ := awF _ hmem
          have hgx := s2 _ _ xF
          have hgq := s2 _ _ qF
          refine ⟨pushW (t' + prI ps y m) (.ref t2, moved (szN zs) y m, some (y, m)) W3, _, _, rfl, (sF'.trans s2).at n4, (kDF.trans (.of s2)).trans kI, by rw [upd_ne n2.symm]; exact hgx, by rw [upd_ne n1.symm]; exact hgq, fun u hu => ((uF u hu).kt (.of s2)).kt kI, fun e h => ?_, ?_, fun t3 z h => ?_, fun j' m' hj' hm' => ?_, ?_⟩
          · obtain ⟨e', g0, g1, g2⟩ := pushW_mem h
            rw [← g1, ← g2]
            exact awF e' g0
          · have nqf : q3 ≠ fk := ne_of hql hDH.f (by intro z; cases z)
            have nqw : q3 ≠ wk := ne_of hql hDH.w (by intro z; cases z)
            refine ⟨by rw [upd_ne nqf.symm]; exact hDH.f, ?_, hp, fun u hu => (hDH.fe u hu).kt kI, hDH.fs, fun t3 v hv => ?_⟩
            · rw [upd_ne nqw.symm, hDH.w, show kvW (pushW (t' + prI ps y m) (.ref t2, moved (szN zs) y m, some (y, m)) W3) = kvW W3 from pushW_pt _ _ fun _ => rfl]
            · rcases (hpe t3 v).mp hv with hv | ⟨rfl, rfl⟩
              · exact hDH.ws t3 v hv
              · exact ⟨t', by rw [hfd]; exact List.mem_append.mpr (.inr (List.mem_singleton.mpr rfl)), hmi, hmg, rfl, rfl⟩
          · obtain ⟨u, h1, h2⟩ := oldD t3 z h
            exact ⟨u, (hpe t3 u).mpr (.inl ((hP3 t3 u).mpr h1)), h2⟩
          · by_cases e : j' = j
            · subst e
              cases (hm.symm.trans hm')
              exact ⟨_, (hpe _ _).mpr (.inr ⟨rfl, rfl⟩), rfl⟩
            · obtain ⟨u, h1, h2⟩ := newD j' m' (by omega) hm'
              exact ⟨u, (hpe _ u).mpr (.inl ((hP3 _ u).mpr h1)), h2⟩
          · have := pushW_wgt (t := t' + prI ps y m) (u := (.ref t2, moved (szN zs) y m, some (y, m))) hW3.nk
            omega
        · rintro σ Hd ⟨W2, y9, y10, rfl, sD, kD, xD, qD, uD, awD, hDD, oldD, newD, wD⟩
          rw [hlen] at wD newD
          have hJn : Dij (szN zs) ps l (fdL F1 ++ [(y, t')]) (fun t2 z => HsW W2 t2 z ∨ (t2 = t' ∧ z ∈ (us.drop (i + 1)).map (·.2.1))) t' := by
            refine hJ9.new hno hy0 (fun t2 z hz => ?_) (fun m h1 h2 => ?_) (fun t2 z hz => ?_)
            · rcases hz with hz | ⟨h1, h2⟩
              · exact .inl (.inl (oldD t2 z hz))
              · rw [hdr] at h2
                rcases List.mem_cons.mp h2 with h2 | h2
                · exact .inr ⟨h1, h2⟩
                · exact .inl (.inr ⟨h1, h2⟩)
            · obtain ⟨j', hj1, hj2⟩ := List.mem_iff_getElem.mp (legals_mem.mpr ⟨h1, h2⟩)
              exact .inl (newD j' m hj1 (by rw [List.getElem?_eq_getElem hj1, hj2]))
            · rcases hz with ⟨u, ⟨e, g1, g2, _⟩, _⟩ | ⟨h1, _⟩
              · rw [← g2]
                exact (awD e g1).2.2.1
              · rw [h1]
                exact Int.le_refl _
          have hle2 := hJn.le hZ hL
          rw [List.length_append, List.length_map] at hle2
          have hle3 : F1.length + 1 ≤ (reachL zs l).length := hle2
          have hF1 : (F1 ++ [((.ref t1 : V), (y, t'), src)]).length = F1.length + 1 := List.length_append
          refine ⟨F1 ++ [(.ref t1, (y, t'), src)], W2, _, _, _, _, _, rfl, sD, qD, uD, fun e h => ⟨(awD e h).1, (awD e h).2.2⟩, hDD, fun u hu => (hus9 u hu).more hsub, by rw [hfd]; exact hJn, by rw [hF1]; omega, by rw [hF1]; omega⟩
      · have en' : ¬ (!(valV (kvF F1) (txK y)).isSome) = true := en
        have hyes : ∃ cc, (y, cc) ∈ fdL F1 := by
          cases ev : valV (kvF F1) (txK y) with
          | none => rw [ev] at en'; exact absurd rfl en'
          | some w =>
            obtain ⟨e, he1, he2, _⟩ := vv_some (kf := fun u : FE => txK u.2.1.1) (vf := fun u : FE => u.1) ev
            have he3 : e.2.1.1 = y := by
              exact S_inj (Sum.inr.inj he2)
            exact ⟨e.2.1.2, List.mem_map.mpr ⟨e, he1, by rw [← he3]⟩⟩
        obtain ⟨cc, hcc⟩ := hyes
        refine ⟨F1, W1, _, _, _, _, _, rfl, s9, q9, u9, aw9, hD9, hus9, hJ9.skip hcc (fun t2 z hz => ?_) (fun t2 z hz => ?_), hw9, hm9⟩
        · rcases hz with hz | ⟨h1, h2⟩
          · exact .inl (.inl hz)
          · rw [hdr] at h2
            rcases List.mem_cons.mp h2 with h2 | h2
            · exact .inr ⟨h1, h2⟩
            · exact .inl (.inr ⟨h1, h2⟩)
        · rcases hz with hz | ⟨h1, h2⟩
          · exact .inl hz
          · exact .inr ⟨h1, by rw [hdr]; exact List.mem_cons_of_mem _ h2⟩
    · rintro σ H9 ⟨F1, W1, y6, y7, y8, y9, y10, rfl, s9, q9, u9, aw9, hD9, hus9, hJ9, hw9, hm9⟩
      have hend : us.drop (us.map (·.1)).length = [] := by rw [List.length_map, List.drop_length]
      refine ⟨_, by omega, F1, W1, t', _, _, _, _, _, _, rfl, s9, hD9, ?_, fun e he => (aw9 e he).2, hw9, rfl⟩
      refine hJ9.iff fun t2 z => ?_
      rw [hend]
      exact ⟨fun h => h.elim id fun h => by simp at h, .inl⟩
  · have hW0 : W = [] := by
      cases W with
      | nil => rfl
      | cons x r => exact absurd rfl ee
    subst hW0
    have hempty : ∀ t y, ¬ HsW [] t y := fun t y ⟨u, ⟨e, he, _⟩, _⟩ => by simp at he
    exact q H7 fk F lo s7 hfk0 hD7.f hD7.fe hD7.fs (hJ.iff fun t y => ⟨fun h => hempty t y h, fun h => h.elim⟩)

-- NEEDS dist1 allr m_difs2 difference
abbrev s_best_moves : Stmt := topS 46
theorem sc_best_moves : FnScope ["sizes", "one", "other", "prices", "found", "moves", "here", "price", "move"] ["sizes", "one", "other", "prices"] (defScope s_best_moves) := ⟨rfl, rfl, rfl, by decide +kernel, rfl, by decide +kernel, by decide +kernel⟩

/-- moves at the least price -/
structure Best (sz : Nat → Nat) (ps : List Int) (l g : List Nat) (ms : List Mv) : Prop where
  way : Way sz l ms g
  low : ∀ ns, Way sz l ns g → cost sz ps l ms ≤ cost sz ps l ns
def sp_best_moves (K : PySem.W.Frag) : Sp := fun vs H Q _ => ∃ (a c : Addr) (zs ps : List Int) (l g : List Nat), vs = [.ref a, .str (S l), .str (S g), .ref c] ∧ SqT K H a (zs.map V.int) ∧ OkZ zs ∧ OkR zs l ∧ OkR zs g ∧ l.length ≤ 12 ∧ g.length ≤ 12 ∧ difD zs l g = .none ∧ SqT K H c (ps.map V.int) ∧ OkP zs ps ∧ (reachL zs l).length ≤ 2000 ∧
  ∀ (H' : Hp) (t b : Addr) (vs' : List V) (ms : List Mv), Same H H' → H t = none → H b = none → H' t = some (.tup [.int (cost (szN zs) ps l ms), .ref b]) → H' b = some (.lst vs') → Mvs K H' vs' ms → Best (szN zs) ps l g ms → ms.length ≤ 2000 → Q (.ref t) H'
theorem ok_best_moves {f : Addr} {fd : FuncData} (F : Fun K "best_moves" "best_moves" s_best_moves f fd) (B : Bi mg) (C_difference : Cal P w K mg base CX0 4 "difference" ["sizes", "first", "second"] (sp_difference K)) (C_check_enumerable : Cal P w K mg base CX0 21 "check_enumerable" ["sizes", "row"] (sp_check_enumerable K)) (C_distances_from : Cal P w K mg base CX0 5 "distances_from" ["sizes", "row", "prices"] (sp_distances_from K)) : FnOk P w K mg base CX0 22 f fd ["sizes", "one", "other", "prices"] (sp_best_moves K) := by
  refine F.ok sc_best_moves (fun vs H Q E h => ?_) (fun cdv A outer s H vs Q E hr h => ?_)
  · obtain ⟨a, c, zs, ps, l, g, rfl, _⟩ := h
    rfl
  obtain ⟨a, c, zs, ps, l, g, rfl, hT, hZ, hL, hG, hl, hg, hd, hC, hP, hN, q⟩ := h
  refine ⟨_, (pss_cons (ps_if (pt_cmpG op_isNotG (pe_cal C_difference (hr.mono (by decide)) pass0 (pa_cons (gv 0) (pa_cons (gv 1) (pa_cons (gv 2) pa_nil)))) pe_non (nomark _))
      (pss_one ps_never)
      pss_nil)
      (pss_cons (ps_expr (pe_cal C_check_enumerable (hr.mono (by decide)) pass0 (pa_cons (gv 0) (pa_cons (gv 1) pa_nil))))
      (pss_cons (ps_set (i := 4) sc_best_moves.nd rfl (.inl rfl) (pe_cal C_distances_from (hr.mono (by decide)) pass0 (pa_cons (gv 0) (pa_cons (gv 1) (pa_cons (gv 3) pa_nil)))))
      (pss_cons (ps_par (i := 5) (j := 6) rfl sc_best_moves.nd rfl rfl (by decide) rfl rfl (pa_cons (pe_lst pa_nil) (pa_cons (gv 2) pa_nil)) rfl)
      (pss_cons (ps_while PassesOwn.never (pt_cmpG (op_neG (K := K) hr.units) (gv 6) (gv 1) (nomark _))
      (pss_cons (ps_asg (pe_ix (ixK hr.units) (gv 4) (gv 6) (fun _ _ => rfl)) (pg_nm (K := K) (is := [7, 6, 8]) (pgs_cons (pg_name (i := 7) sc_best_moves.nd rfl (.inl rfl)) (pgs_cons (pg_name (i := 6) sc_best_moves.nd rfl (.inl rfl)) (pgs_cons (pg_name (i := 8) sc_best_moves.nd rfl (.inl rfl)) pgs_nil))) nm3))
      (pss_one (ps_expr (pe_bmG (K := K) PySem.F.plainAttrs_list PySem.F.slot_list_append PySem.F.type_list_append mt_appendG (gv 5) (pa_cons (gv 8) pa_nil))))))
      (pss_one (ps_ret (pe_tup (pa_cons (pe_ix (ixG (K := K)) (pe_ix (ixK hr.units) (gv 4) (gv 2) (fun _ _ => rfl)) pe_int (fun _ _ => rfl)) (pa_cons (pe_revG (K := K) (gv 5)) pa_nil)))))))))), ?_⟩
  have hs : ∀ k, 1 ≤ szN zs k := fun k => szN_pos hZ k
  refine ⟨a, zs, l, g, rfl, hT, hZ, hL, hG, by omega, by omega, fun H1 v s1 hv => ?_⟩
  rw [hd] at hv
  cases hv
  refine ⟨a, zs, l, rfl, s1.tup hT, hZ, hL, hl, hN, fun H2 s2 => ?_⟩
  have sH2 := s1.trans s2
  refine ⟨a, c, zs, ps, l, rfl, sH2.tup hT, hZ, hL, hl, sH2.tup hC, hP, hN, fun H3 fk F lo s3 nf hF hFe hFs hJ => ?_⟩
  have sH3 := sH2.trans s3
  obtain ⟨hcn, hres⟩ := difD_none hd
  have hcn' : g.Perm l := (cnt_perm hL hG).mp hcn
  obtain ⟨wms, hWg⟩ := conn_of hs hcn' hres
  obtain ⟨cg, hcg, _⟩ := hJ.done (fun _ _ h => h) hWg
  refine ⟨Nat.zero_le _, fun mk hmk => ⟨_, _, rfl, ?_⟩⟩
  have s4 := same_upd (o := .lst []) hmk
  have sH4 := sH3.trans s4
  have hmk0 : H mk = none := sH3.free hmk
  have f4 := s4 _ _ hF
  have m4 : upd H3 mk (.lst []) mk = some (.lst []) := upd_same
  have fe4 : ∀ u ∈ F, FEt K (upd H3 mk (.lst [])) u := fun u hu => (hFe u hu).kt (.of s4)
  generalize upd H3 mk (.lst []) = H4 at *
  refine ⟨fun m σ H' => ∃ y cy vs ms, ∃ vis : List (List Nat), ∃ y7 y8, σ = [some (.ref a), some (.str (S l)), some (.str (S g)), some (.ref c), some (.ref fk), some (.ref mk), some (.str (S y)), y7, y8] ∧ Same H H' ∧ H' fk = some (.dK (kvF F)) ∧ (∀ u ∈ F, FEt K H' u) ∧ H' mk = some (.lst vs) ∧ Mvs K H' vs.reverse ms ∧ Way (szN zs) y ms g ∧ (y, cy) ∈ fdL F ∧ cy + cost (szN zs) ps y ms = cg ∧
      vis.length = vs.length ∧ vis.Nodup ∧ (∀ x ∈ vis, ∃ cx, (x, cx) ∈ fdL F ∧ cy < cx) ∧ m = cy.toNat,
    ⟨_, g, cg, [], [], [], _, _, rfl, sH4, f4, fe4, m4, .nil, rfl, hcg, by show cg + 0 = cg; omega, rfl, by simp, fun x hx => by simp at hx, rfl⟩, ?_⟩
  rintro m σ H5 ⟨y, cy, vs, ms, vis, y7, y8, rfl, s5, f5, fe5, m5, hM5, hW5, hy5, hc5, hv1, hv2, hv3, rfl⟩
  have hvis : vis.length ≤ 2000 := by
    refine Nat.le_trans (List.Nodup.length_le_of_subset hv2 fun x hx => (reach_conn hZ hL).mpr ?_) hN
    obtain ⟨cx, h1, _⟩ := hv3 x hx
    obtain ⟨ns, h2, _⟩ := hJ.path _ h1
    exact ⟨ns, h2⟩
  refine iteB ⟨fun ee => ?_, fun ee => ?_⟩
  · have hne : y ≠ l := fun z => by rw [z] at ee; exact absurd ee (by simp)
    refine ⟨fun σ' H' => ∃ m', m' < cy.toNat ∧ ∃ y cy vs ms, ∃ vis : List (List Nat), ∃ y7 y8, σ' = [some (.ref a), some (.str (S l)), some (.str (S g)), some (.ref c), some (.ref fk), some (.ref mk), some (.str (S y)), y7, y8] ∧ Same H H' ∧ H' fk = some (.dK (kvF F)) ∧ (∀ u ∈ F, FEt K H' u) ∧ H' mk = some (.lst vs) ∧ Mvs K H' vs.reverse ms ∧ Way (szN zs) y ms g ∧ (y, cy) ∈ fdL F ∧ cy + cost (szN zs) ps y ms = cg ∧
      vis.length = vs.length ∧ vis.Nodup ∧ (∀ x ∈ vis, ∃ cx, (x, cx) ∈ fdL F ∧ cy < cx) ∧ m' = cy.toNat, fun _ _ h => h, ?_⟩
    obtain ⟨u0, hu0, eu0⟩ := List.mem_map.mp hy5
    obtain ⟨u, hu, hku, hval⟩ := vv_there (kf := fun u : FE => txK u.2.1.1) (vf := fun u : FE => u.1) hu0 (k := txK y) (by rw [eu0])
    have hyu : u.2.1.1 = y := S_inj (Sum.inr.inj hku)
    have hcu : u.2.1.2 = cy := hJ.uni (y := y) (List.mem_map.mpr ⟨u, hu, by rw [← hyu]⟩) hy5
    obtain ⟨t, pv, mv, e1, hSq, hSrc⟩ := fe5 u hu
    have hso := hFs u hu
    obtain ⟨uv, ⟨yu, cu⟩, src⟩ := u
    cases (show yu = y from hyu)
    cases (show cu = cy from hcu)
    cases (show uv = .ref t from e1)
    refine ⟨fk, kvF F, txK y, .ref t, rfl, f5, rfl, hval, _, hSq, ?_⟩
    cases src with
    | none => exact absurd hso.1 hne
    | some sm =>
      obtain ⟨x, mo⟩ := sm
      obtain ⟨rfl, Tm, rfl, hTm⟩ := hSrc
      obtain ⟨cx, hx1, hx2, hx3, hx4, hx5⟩ := hso
      have hpos := hJ.pos hP hx1
      have hpr := (prI_in hP x mo).1
      have hx5 : cy = cx + prI ps x mo := hx5
      have hx4 : y = moved (szN zs) x mo := hx4
      refine ⟨.inl ⟨rfl, _, SqL.of m5⟩, _, m5, by omega, ?_⟩
      have k6 : Kt K H5 (upd H5 mk (.lst (vs ++ [.ref Tm]))) := .lst sameB_upd m5
      refine ⟨cx.toNat, by omega, x, cx, vs ++ [.ref Tm], mo :: ms, y :: vis, _, _, rfl, s5.at hmk0, by rw [upd_ne (ne_of f5 m5 (by intro z; cases z))]; exact f5, fun u hu => (fe5 u hu).kt k6, upd_same, ?_, ⟨hx2, hx3, by rw [← hx4]; exact hW5⟩, hx1, ?_, ?_, ?_, ?_, rfl⟩
      · rw [List.reverse_append]
        exact .cons (k6 _ _ hTm) (hM5.upd m5)
      · show cx + (prI ps x mo + cost (szN zs) ps (moved (szN zs) x mo) ms) = cg
        rw [← hx4]
        omega
      · rw [List.length_append]
        show vis.length + 1 = vs.length + 1
        omega
      · rw [List.nodup_cons]
        refine ⟨fun z => ?_, hv2⟩
        obtain ⟨cz, g1, g2⟩ := hv3 y z
        have := hJ.uni g1 hy5
        omega
      · intro z hz
        rcases List.mem_cons.mp hz with rfl | hz
        · exact ⟨cy, hy5, by omega⟩
        · obtain ⟨cz, g1, g2⟩ := hv3 z hz
          exact ⟨cz, g1, by omega⟩
  · have heq : y = l := by
      by_cases z : y = l
      · exact z
      · exact absurd (by simp [tl_S, z]) ee
    subst heq
    have hc0 : cy = 0 := by
      rcases hJ.start with ⟨c0, h1, h2⟩ | z
      · have := hJ.uni h1 hy5
        have := hJ.pos hP hy5
        omega
      · exact absurd z id
    obtain ⟨u0, hu0, eu0⟩ := List.mem_map.mp hcg
    obtain ⟨u, hu, hku, hval⟩ := vv_there (kf := fun u : FE => txK u.2.1.1) (vf := fun u : FE => u.1) hu0 (k := txK g) (by rw [eu0])
    have hyu : u.2.1.1 = g := S_inj (Sum.inr.inj hku)
    have hcu : u.2.1.2 = cg := hJ.uni (y := g) (List.mem_map.mpr ⟨u, hu, by rw [← hyu]⟩) hcg
    obtain ⟨t, pv, mv, e1, hSq, hSrc⟩ := fe5 u hu
    rw [hcu] at hSq
    have hcost : cost (szN zs) ps y ms = cg := by omega
    refine ⟨fk, kvF F, txK g, u.1, rfl, f5, rfl, hval, ?_⟩
    rw [e1]
    refine ⟨_, .int cg, .inr hSq, rfl, _, SqL.of m5, fun b hb => ⟨by show 2 ≤ sizeLine; decide, fun tp htp => ?_⟩⟩
    have s6 := same_upd (o := .lst vs.reverse) hb
    have s7 := same_upd (o := .tup [.int cg, .ref b]) htp
    refine q _ tp b vs.reverse ms ((s5.trans s6).trans s7) ((s5.trans s6).free htp) (s5.free hb) (by rw [hcost]; exact upd_same) (s7 _ _ upd_same) ((hM5.same s6).same s7) ⟨hW5, fun ns hn => ?_⟩ ?_
    · obtain ⟨c1, h1, h2⟩ := hJ.done (fun _ _ h => h) hn
      rw [hcost, hJ.uni hcg h1]
      exact h2
    · have := hM5.len
      rw [List.length_reverse] at this
      omega
abbrev s_cheapest_moves : Stmt := topS 47
theorem sc_cheapest_moves : FnScope ["sizes", "one", "other", "prices"] ["sizes", "one", "other", "prices"] (defScope s_cheapest_moves) := ⟨rfl, rfl, rfl, by decide +kernel, rfl, by decide +kernel, by decide +kernel⟩

def sp_cheapest_moves (K : PySem.W.Frag) : Sp := fun vs H Q _ => ∃ (a c : Addr) (zs ps : List Int) (l g : List Nat), vs = [.ref a, .str (S l), .str (S g), .ref c] ∧ SqT K H a (zs.map V.int) ∧ OkZ zs ∧ OkR zs l ∧ OkR zs g ∧ l.length ≤ 12 ∧ g.length ≤ 12 ∧ difD zs l g = .none ∧ SqT K H c (ps.map V.int) ∧ OkP zs ps ∧ (reachL zs l).length ≤ 2000 ∧
  ∀ (H' : Hp) (t b : Addr) (vs' : List V) (ms : List Mv), Same H H' → H t = none → H b = none → H' t = some (.tup [.int (cost (szN zs) ps l ms), .ref b]) → H' b = some (.lst vs') → Mvs K H' vs' ms → Best (szN zs) ps l g ms → ms.length ≤ 2000 → Q (.ref t) H'
theorem ok_cheapest_moves {f : Addr} {fd : FuncData} (F : Fun K "cheapest_moves" "cheapest_moves" s_cheapest_moves f fd) (B : Bi mg) (C_check_rows : Cal P w K mg base CX0 3 "check_rows" ["sizes", "first", "second"] (sp_check_rows K)) (C_check_prices : Cal P w K mg base CX0 2 "check_prices" ["sizes", "prices"] (sp_check_prices K)) (C_best_moves : Cal P w K mg base CX0 22 "best_moves" ["sizes", "one", "other", "prices"] (sp_best_moves K)) : FnOk P w K mg base CX0 23 f fd ["sizes", "one", "other", "prices"] (sp_cheapest_moves K) := by
  refine F.ok sc_cheapest_moves (fun vs H Q E h => ?_) (fun cdv A outer s H vs Q E hr h => ?_)
  · obtain ⟨a, c, zs, ps, l, g, rfl, _⟩ := h
    rfl
  obtain ⟨a, c, zs, ps, l, g, rfl, hT, hZ, hL, hG, hl, hg, hd, hC, hP, hN, q⟩ := h
  refine ⟨_, (pss_cons (ps_expr (pe_cal C_check_rows (hr.mono (by decide)) pass0 (pa_cons (gv 0) (pa_cons (gv 1) (pa_cons (gv 2) pa_nil)))))
      (pss_cons (ps_expr (pe_cal C_check_prices (hr.mono (by decide)) pass0 (pa_cons (gv 0) (pa_cons (gv 3) pa_nil))))
      (pss_one (ps_ret (pe_cal C_best_moves (hr.mono (by decide)) pass0 (pa_cons (gv 0) (pa_cons (gv 1) (pa_cons (gv 2) (pa_cons (gv 3) pa_nil))))))))), ?_⟩
  refine ⟨a, zs, l, g, rfl, hT, hZ, hL, by omega, hG, by omega, fun H1 s1 => ⟨a, c, zs, ps, rfl, s1.tup hT, s1.tup hC, hZ, hP, fun H2 s2 => ?_⟩⟩
  have s12 := s1.trans s2
  exact ⟨a, c, zs, ps, l, g, rfl, s12.tup hT, hZ, hL, hG, hl, hg, hd, s12.tup hC, hP, hN, fun H3 t b vs' ms s3 nt nb => q H3 t b vs' ms (s12.trans s3) (s12.free nt) (s12.free nb)⟩
abbrev s_min_moves : Stmt := topS 48
theorem sc_min_moves : FnScope ["sizes", "one", "other"] ["sizes", "one", "other"] (defScope s_min_moves) := ⟨rfl, rfl, rfl, by decide +kernel, rfl, by decide +kernel, by decide +kernel⟩

def sp_min_moves (K : PySem.W.Frag) : Sp := fun vs H Q _ => ∃ (a : Addr) (zs : List Int) (l g : List Nat), vs = [.ref a, .str (S l), .str (S g)] ∧ SqT K H a (zs.map V.int) ∧ OkZ zs ∧ OkR zs l ∧ OkR zs g ∧ l.length ≤ 12 ∧ g.length ≤ 12 ∧ difD zs l g = .none ∧ (reachL zs l).length ≤ 2000 ∧
  ∀ (H' : Hp) (ms : List Mv), Same H H' → Way (szN zs) l ms g → (∀ ns, Way (szN zs) l ns g → ms.length ≤ ns.length) → Q (.int ms.length) H'
theorem ok_min_moves {f : Addr} {fd : FuncData} (F : Fun K "min_moves" "min_moves" s_min_moves f fd) (B : Bi mg) (C_check_rows : Cal P w K mg base CX0 3 "check_rows" ["sizes", "first", "second"] (sp_check_rows K)) (C_best_moves : Cal P w K mg base CX0 22 "best_moves" ["sizes", "one", "other", "prices"] (sp_best_moves K)) : FnOk P w K mg base CX0 23 f fd ["sizes", "one", "other"] (sp_min_moves K) := by
  refine F.ok sc_min_moves (fun vs H Q E h => ?_) (fun cdv A outer s H vs Q E hr h => ?_)
  · obtain ⟨a, zs, l, g, rfl, _⟩ := h
    rfl
  obtain ⟨a, zs, l, g, rfl, hT, hZ, hL, hG, hl, hg, hd, hN, q⟩ := h
  refine ⟨_, (pss_cons (ps_expr (pe_cal C_check_rows (hr.mono (by decide)) pass0 (pa_cons (gv 0) (pa_cons (gv 1) (pa_cons (gv 2) pa_nil)))))
      (pss_one (ps_ret (pe_ix (ixG (K := K)) (pe_cal C_best_moves (hr.mono (by decide)) pass0 (pa_cons (gv 0) (pa_cons (gv 1) (pa_cons (gv 2) (pa_cons (pe_op (op_mulT (K := K)) (pe_tup (pa_cons pe_int pa_nil)) (pe_callB (cr_lenG (K := K)) (by rfl) B.len bt_len (pa_cons (gv 0) pa_nil))) pa_nil))))) pe_int (fun _ _ => rfl))))), ?_⟩
  refine ⟨a, zs, l, g, rfl, hT, hZ, hL, by omega, hG, by omega, fun H1 s1 => ?_⟩
  have key : ∀ (pc : Addr) (Hc : Hp), Same H Hc → SqT K Hc pc ((List.replicate zs.length (1 : Int)).map V.int) → sp_best_moves K [.ref a, .str (S l), .str (S g), .ref pc] Hc (fun x H2 => gIx K x (.int 0) H2 Q) E := fun pc Hc sc hpc =>
    ⟨a, pc, zs, _, l, g, rfl, sc.tup hT, hZ, hL, hG, hl, hg, hd, hpc, okp_ones, hN, fun H3 t b vs' ms s3 nt nb ht hb hM hB hlen => by
      refine ⟨_, _, .inr (SqT.of ht), rfl, ?_⟩
      rw [cost_ones]
      refine q H3 ms (sc.trans s3) hB.way fun ns hn => ?_
      have := hB.low ns hn
      rw [cost_ones, cost_ones] at this
      omega⟩
  have hz := hZ.pos
  have hz6 := hZ.six
  refine ⟨by show 1 ≤ sizeLine; decide, fun p1 hp1 => ?_⟩
  have s2 := s1.trans (same_upd (o := .tup [.int 1]) hp1)
  have t2 : SqT K (upd H1 p1 (.tup [.int 1])) p1 [.int 1] := SqT.of upd_same
  generalize upd H1 p1 (.tup [.int 1]) = H2 at *
  refine ⟨_, .inr (s2.tup hT), _, t2, by simp, by rw [List.length_map]; omega, by show 1 ≤ 1000; decide, fun h1 => ?_, fun h2 p hp => ?_⟩
  · refine key p1 H2 s2 ?_
    rw [List.length_map] at h1
    rw [show zs.length = 1 by omega]
    exact t2
  · refine key p _ (s2.trans (same_upd hp)) ?_
    refine SqT.of ?_
    rw [upd_same, List.length_map, repL_one, List.map_replicate]
    rfl

-- NEEDS m_dist m_bnd m_reachb
/-! the law's own search for the least prices -/
abbrev kvL (fd : List (List Nat × Int)) : List (Key × V) := fd.map fun e => (txK e.1, V.int e.2)
def setL (fd : List (List Nat × Int)) (y : List Nat) (t : Int) : List (List Nat × Int) := if y ∈ fd.map (·.1) then fd.map (fun e => if e.1 = y then (e.1, t) else e) else fd ++ [(y, t)]
theorem kvL_any (fd : List (List Nat × Int)) (y : List Nat) : ((kvL fd).any fun kv => decide (kv.1 = txK y)) = decide (y ∈ fd.map (·.1)) := by
  induction fd with
  | nil => rfl
  | cons e r ih =>
    show (decide (txK e.1 = txK y) || (kvL r).any fun kv => decide (kv.1 = txK y)) = _
    rw [ih]
    by_cases c : e.1 = y
    · simp [c]
    · have c' : ¬ txK e.1 = txK y := fun z => c (S_inj (Sum.inr.inj z))
      have c2 : ¬ y = e.1 := fun z => c z.symm
      simp [c', c2]
theorem kvL_put (fd : List (List Nat × Int)) (y : List Nat) (t : Int) : putK (kvL fd) (txK y) (.int t) = kvL (setL fd y t) := by
  unfold putK setL
  rw [kvL_any]
  by_cases c : y ∈ fd.map (·.1)
  · rw [decide_eq_true c, if_pos rfl, if_pos c]
    show (fd.map _).map _ = (fd.map _).map _
    rw [List.map_map, List.map_map]
    apply List.map_congr_left
    intro e _
    show (if txK e.1 = txK y then (txK e.1, V.int t) else (txK e.1, V.int e.2)) = (txK (if e.1 = y then (e.1, t) else e).1, V.int (if e.1 = y then (e.1, t) else e).2)
    by_cases d : e.1 = y
    · rw [if_pos (by rw [d]), if_pos d]
    · rw [if_neg (fun z => d (S_inj (Sum.inr.inj z))), if_neg d]
  · rw [decide_eq_false c, if_neg (by decide), if_neg c]
    show _ = (fd ++ [(y, t)]).map _
    rw [List.map_append]
    rfl
theorem setL_mem {fd : List (List Nat × Int)} {y : List Nat} {t : Int} {e : List Nat × Int} : e ∈ setL fd y t ↔ e = (y, t) ∨ (e ∈ fd ∧ e.1 ≠ y) := by
  unfold setL
  by_cases c : y ∈ fd.map (·.1)
  · rw [if_pos c, List.mem_map]
    constructor
    · rintro ⟨e0, h0, rfl⟩
      by_cases d : e0.1 = y
      · rw [if_pos d]
        exact .inl (by rw [d])
      · rw [if_neg d]
        exact .inr ⟨h0, d⟩
    · rintro (rfl | ⟨h1, h2⟩)
      · obtain ⟨e0, h0, h3⟩ := List.mem_map.mp c
        exact ⟨e0, h0, by rw [if_pos h3, h3]⟩
      · exact ⟨e, h1, by rw [if_neg h2]⟩
  · rw [if_neg c, List.mem_append, List.mem_singleton]
    constructor
    · rintro (h | h)
      · exact .inr ⟨h, fun z => c (by rw [← z]; exact List.mem_map.mpr ⟨e, h, rfl⟩)⟩
      · exact .inl h
    · rintro (h | h)
      · exact .inr h
      · exact .inl h.1
theorem setL_nd {fd : List (List Nat × Int)} {y : List Nat} {t : Int} (h : (fd.map (·.1)).Nodup) : ((setL fd y t).map (·.1)).Nodup := by
  unfold setL
  by_cases c : y ∈ fd.map (·.1)
  · rw [if_pos c, List.map_map]
    have e : ((fun x : List Nat × Int => x.1) ∘ fun e : List Nat × Int => if e.1 = y then (e.1, t) else e) = fun x => x.1 := by
      funext e
      show (if e.1 = y then (e.1, t) else e).1 = e.1
      split <;> rfl
    rw [e]
    exact h
  · rw [if_neg c, List.map_append, List.nodup_append]
    refine ⟨h, by simp, fun a ha b hb => ?_⟩
    rw [List.mem_singleton.mp hb]
    intro z
    have z : a = y := z
    exact c (by rw [← z]; exact ha)
theorem setL_len {fd : List (List Nat × Int)} {y : List Nat} {t : Int} : (setL fd y t).length = if y ∈ fd.map (·.1) then fd.length else fd.length + 1 := by
  unfold setL
  split
  · rw [List.length_map]
  · rw [List.length_append]; rfl
def sumL (fd : List (List Nat × Int)) : Int := (fd.map (·.2)).sum
theorem sumL_new {fd : List (List Nat × Int)} {y : List Nat} {t : Int} (c : y ∉ fd.map (·.1)) : sumL (setL fd y t) = sumL fd + t := by
  unfold sumL setL
  rw [if_neg c, List.map_append, List.sum_append]
  show _ + (t + 0) = _
  omega
theorem sumL_rep {y : List Nat} {t : Int} : ∀ {fd : List (List Nat × Int)}, y ∉ fd.map (·.1) → fd.map (fun e => if e.1 = y then (e.1, t) else e) = fd
  | [], _ => rfl
  | e :: r, h => by
    rw [List.map_cons, List.mem_cons] at h
    rw [List.map_cons, sumL_rep fun z => h (.inr z), if_neg fun z => h (.inl z.symm)]
theorem sumL_old {y : List Nat} {t d : Int} : ∀ {fd : List (List Nat × Int)}, (fd.map (·.1)).Nodup → (y, d) ∈ fd → sumL (fd.map (fun e => if e.1 = y then (e.1, t) else e)) = sumL fd + t - d
  | e :: r, h, he => by
    rw [List.map_cons, List.nodup_cons] at h
    rcases List.mem_cons.mp he with z | z
    · subst z
      rw [List.map_cons, sumL_rep h.1, if_pos rfl]
      show t + sumL r = d + sumL r + t - d
      omega
    · have hne : e.1 ≠ y := fun z2 => h.1 (List.mem_map.mpr ⟨_, z, z2.symm⟩)
      rw [List.map_cons, if_neg hne]
      have := sumL_old (t := t) h.2 z
      show e.2 + sumL (r.map _) = e.2 + sumL r + t - d
      omega
theorem sumL_pos : ∀ {fd : List (List Nat × Int)}, (∀ e ∈ fd, 0 ≤ e.2) → 0 ≤ sumL fd
  | [], _ => Int.le_refl _
  | e :: r, h => by
    have h1 := h e (by simp)
    have h2 := sumL_pos fun e he => h e (List.mem_cons_of_mem _ he)
    show 0 ≤ e.2 + sumL r
    omega
def pot (N : Nat) (fd : List (List Nat × Int)) : Int := sumL fd + (N : Int) * (99 * N + 1) - (fd.length : Int) * (99 * N + 1)
theorem pot_pos {N : Nat} {fd : List (List Nat × Int)} (h1 : ∀ e ∈ fd, 0 ≤ e.2) (h2 : fd.length ≤ N) : 0 ≤ pot N fd := by
  have h3 := sumL_pos h1
  have h4 : (fd.length : Int) * (99 * N + 1) ≤ (N : Int) * (99 * N + 1) := Int.mul_le_mul_of_nonneg_right (by omega) (by omega)
  unfold pot
  omega
theorem pot_new {N : Nat} {fd : List (List Nat × Int)} {y : List Nat} {t : Int} (c : y ∉ fd.map (·.1)) (ht : t ≤ 99 * N) : pot N (setL fd y t) + 1 ≤ pot N fd := by
  unfold pot
  rw [sumL_new c, setL_len, if_neg c]
  have e : ((fd.length + 1 : Nat) : Int) * (99 * N + 1) = (fd.length : Int) * (99 * N + 1) + (99 * N + 1) := by
    rw [Int.natCast_add, Int.add_mul]
    show _ + 1 * _ = _
    rw [Int.one_mul]
  rw [e]
  omega
theorem pot_old {N : Nat} {fd : List (List Nat × Int)} {y : List Nat} {t d : Int} (hn : (fd.map (·.1)).Nodup) (c : (y, d) ∈ fd) (ht : t < d) : pot N (setL fd y t) + 1 ≤ pot N fd := by
  have hm : y ∈ fd.map (·.1) := List.mem_map.mpr ⟨_, c, rfl⟩
  unfold pot
  rw [setL_len, if_pos hm]
  unfold setL
  rw [if_pos hm, sumL_old hn c]
  omega
section
variable {sz : Nat → Nat} {ps : List Int} {l : List Nat} {fd : List (List Nat × Int)} {que : List (List Nat)} {x y : List Nat} {cx t : Int} {j : Nat}
structure Lst (sz : Nat → Nat) (ps : List Int) (l : List Nat) (fd : List (List Nat × Int)) (que : List (List Nat)) : Prop where
  nd : (fd.map (·.1)).Nodup
  path : ∀ e ∈ fd, ∃ ms, Way sz l ms e.1 ∧ cost sz ps l ms = e.2
  st : ∃ c, (l, c) ∈ fd ∧ c ≤ 0
  qs : ∀ x ∈ que, x ∈ fd.map (·.1)
  cl : ∀ e ∈ fd, e.1 ∈ que ∨ ∀ m : Mv, m.1 < e.1.length → legal sz e.1 m = true → ∃ c, (moved sz e.1 m, c) ∈ fd ∧ c ≤ e.2 + prI ps e.1 m
  hi : ∀ e ∈ fd, e.2 ≤ 99 * fd.length
structure LstI (sz : Nat → Nat) (ps : List Int) (l : List Nat) (fd : List (List Nat × Int)) (que : List (List Nat)) (x : List Nat) (cx : Int) (j : Nat) : Prop where
  nd : (fd.map (·.1)).Nodup
  path : ∀ e ∈ fd, ∃ ms, Way sz l ms e.1 ∧ cost sz ps l ms = e.2
  st : ∃ c, (l, c) ∈ fd ∧ c ≤ 0
  qs : ∀ x ∈ que, x ∈ fd.map (·.1)
  cl : ∀ e ∈ fd, e.1 ∈ que ∨ e.1 = x ∨ ∀ m : Mv, m.1 < e.1.length → legal sz e.1 m = true → ∃ c, (moved sz e.1 m, c) ∈ fd ∧ c ≤ e.2 + prI ps e.1 m
  hi : ∀ e ∈ fd, e.2 ≤ 99 * fd.length
  at_ : (x, cx) ∈ fd
  dn : ∀ (j' : Nat) (m : Mv), j' < j → (legals sz x)[j']? = some m → ∃ c, (moved sz x m, c) ∈ fd ∧ c ≤ cx + prI ps x m
theorem Lst.pop (h : Lst sz ps l fd (x :: que)) : ∃ cx, LstI sz ps l fd que x cx 0 := by
  obtain ⟨e, he, ee⟩ := List.mem_map.mp (h.qs x (by simp))
  refine ⟨e.2, h.nd, h.path, h.st, fun y hy => h.qs y (by simp [hy]), fun e he => ?_, h.hi, by rw [← ee]; exact he, fun j' m hj => absurd hj (Nat.not_lt_zero _)⟩
  rcases h.cl e he with z | z
  · rcases List.mem_cons.mp z with z | z
    · exact .inr (.inl z)
    · exact .inl z
  · exact .inr (.inr z)
theorem LstI.done (h : LstI sz ps l fd que x cx (legals sz x).length) : Lst sz ps l fd que := by
  refine ⟨h.nd, h.path, h.st, h.qs, fun e he => ?_, h.hi⟩
  rcases h.cl e he with z | z | z
  · exact .inl z
  · refine .inr fun m h1 h2 => ?_
    have e2 : e = (x, cx) := nodup_inj h.nd he h.at_ z
    subst e2
    obtain ⟨j', hj1, hj2⟩ := List.mem_iff_getElem.mp (legals_mem.mpr ⟨h1, h2⟩)
    exact h.dn j' m hj1 (by rw [List.getElem?_eq_getElem hj1, hj2])
  · exact .inr z
theorem LstI.skip (h : LstI sz ps l fd que x cx j) {m : Mv} (hm : (legals sz x)[j]? = some m) {c : Int} (hc : (moved sz x m, c) ∈ fd) (hle : c ≤ cx + prI ps x m) : LstI sz ps l fd que x cx (j + 1) :=
  ⟨h.nd, h.path, h.st, h.qs, h.cl, h.hi, h.at_, fun j' m' hj hm' => by
    by_cases e : j' = j
    · subst e
      cases hm.symm.trans hm'
      exact ⟨c, hc, hle⟩
    · exact h.dn j' m' (by omega) hm'⟩
theorem LstI.set (h : LstI sz ps l fd que x cx j) (hP : ∀ (x : List Nat) (m : Mv), 1 ≤ prI ps x m ∧ prI ps x m ≤ 99) (hs : ∀ k, 1 ≤ sz k) {m : Mv} (hm : (legals sz x)[j]? = some m) (hlt : ∀ c, (moved sz x m, c) ∈ fd → cx + prI ps x m < c) :
    LstI sz ps l (setL fd (moved sz x m) (cx + prI ps x m)) (que ++ [moved sz x m]) x cx (j + 1) := by
  obtain ⟨hmi, hmg⟩ := legals_mem.mp (List.mem_of_getElem? hm)
  have hne : x ≠ moved sz x m := fun z => (back_ok hs hmi hmg).2.2.2.2 z.symm
  have low : ∀ {y c}, (y, c) ∈ fd → ∃ c', (y, c') ∈ setL fd (moved sz x m) (cx + prI ps x m) ∧ c' ≤ c := fun {y c} hy => by
    by_cases e : y = moved sz x m
    · subst e
      exact ⟨_, setL_mem.mpr (.inl rfl), Int.le_of_lt (hlt c hy)⟩
    · exact ⟨c, setL_mem.mpr (.inr ⟨hy, e⟩), Int.le_refl _⟩
  obtain ⟨pms, hp1, hp2⟩ := h.path _ h.at_
  have hp2 : cost sz ps l pms = cx := hp2
  refine ⟨setL_nd h.nd, fun e he => ?_, ?_, fun z hz => ?_, fun e he => ?_, fun e he => ?_, setL_mem.mpr (.inr ⟨h.at_, hne⟩), fun j' m' hj hm' => ?_⟩
  · rcases setL_mem.mp he with rfl | ⟨h1, _⟩
    · exact ⟨pms ++ [m], hp1.snoc hmi hmg, by rw [cost_snoc hp1, hp2]⟩
    · exact h.path e h1
  · obtain ⟨c, h1, h2⟩ := h.st
    obtain ⟨c', h3, h4⟩ := low h1
    exact ⟨c', h3, by omega⟩
  · have : z ∈ fd.map (·.1) ∨ z = moved sz x m := by
      rcases List.mem_append.mp hz with hz | hz
      · exact .inl (h.qs z hz)
      · exact .inr (List.mem_singleton.mp hz)
    rcases this with hz | rfl
    · obtain ⟨e, he, rfl⟩ := List.mem_map.mp hz
      obtain ⟨c', h3, _⟩ := low (y := e.1) (c := e.2) he
      exact List.mem_map.mpr ⟨_, h3, rfl⟩
    · exact List.mem_map.mpr ⟨_, setL_mem.mpr (.inl rfl), rfl⟩
  · rcases setL_mem.mp he with rfl | ⟨h1, _⟩
    · exact .inl (by simp)
    · rcases h.cl e h1 with z | z | z
      · exact .inl (List.mem_append.mpr (.inl z))
      · exact .inr (.inl z)
      · refine .inr (.inr fun m2 g1 g2 => ?_)
        obtain ⟨c, g3, g4⟩ := z m2 g1 g2
        obtain ⟨c', h3, h4⟩ := low g3
        exact ⟨c', h3, by omega⟩
  · have hle : (fd.length : Int) ≤ ((setL fd (moved sz x m) (cx + prI ps x m)).length : Int) := by
      rw [setL_len]
      split <;> omega
    rcases setL_mem.mp he with rfl | ⟨h1, _⟩
    · show cx + prI ps x m ≤ _
      have hcx : cx ≤ 99 * fd.length := h.hi _ h.at_
      by_cases c : moved sz x m ∈ fd.map (·.1)
      · obtain ⟨e, he, ee⟩ := List.mem_map.mp c
        have h5 := hlt e.2 (by rw [← ee]; exact he)
        have h6 := h.hi e he
        omega
      · rw [setL_len, if_neg c]
        have := (hP x m).2
        omega
    · have := h.hi e h1
      omega
  · by_cases e : j' = j
    · subst e
      cases hm.symm.trans hm'
      exact ⟨_, setL_mem.mpr (.inl rfl), Int.le_refl _⟩
    · obtain ⟨c, g1, g2⟩ := h.dn j' m' (by omega) hm'
      obtain ⟨c', h3, h4⟩ := low g1
      exact ⟨c', h3, by omega⟩
/-- the least prices of all rows -/
structure Least (sz : Nat → Nat) (ps : List Int) (l : List Nat) (fd : List (List Nat × Int)) : Prop where
  nd : (fd.map (·.1)).Nodup
  path : ∀ e ∈ fd, ∃ ms, Way sz l ms e.1 ∧ cost sz ps l ms = e.2
  low : ∀ (ms : List Mv) (y : List Nat), Way sz l ms y → ∃ c, (y, c) ∈ fd ∧ c ≤ cost sz ps l ms
theorem Lst.least (h : Lst sz ps l fd []) : Least sz ps l fd := by
  refine ⟨h.nd, h.path, fun ms y hW => ?_⟩
  have gen : ∀ (ms : List Mv) (x : List Nat) (c : Int), (x, c) ∈ fd → Way sz x ms y → ∃ c', (y, c') ∈ fd ∧ c' ≤ c + cost sz ps x ms := by
    intro ms
    induction ms with
    | nil =>
      intro x c hx hw
      cases (show x = y from hw)
      exact ⟨c, hx, by show c ≤ c + 0; omega⟩
    | cons m ms ih =>
      intro x c hx hw
      rcases h.cl _ hx with z | z
      · simp at z
      · obtain ⟨c1, h1, h2⟩ := z m hw.1 hw.2.1
        obtain ⟨c2, h3, h4⟩ := ih _ c1 h1 hw.2.2
        refine ⟨c2, h3, ?_⟩
        show c2 ≤ c + (prI ps x m + cost sz ps (moved sz x m) ms)
        have h2 : c1 ≤ c + prI ps x m := h2
        have h4 : c2 ≤ c1 + cost sz ps (moved sz x m) ms := h4
        omega
  obtain ⟨c, h1, h2⟩ := h.st
  obtain ⟨c2, h3, h4⟩ := gen ms l c h1 hW
  exact ⟨c2, h3, by omega⟩
theorem Least.uni (h : Least sz ps l fd) {c d : Int} (h1 : (y, c) ∈ fd) (h2 : (y, d) ∈ fd) : c = d := congrArg Prod.snd (nodup_inj h.nd h1 h2 rfl)
theorem Lst.le {zs : List Int} (hZ : OkZ zs) (hL : OkR zs l) (hn : (fd.map (·.1)).Nodup) (hp : ∀ e ∈ fd, ∃ ms, Way (szN zs) l ms e.1 ∧ cost (szN zs) ps l ms = e.2) : fd.length ≤ (reachL zs l).length := by
  rw [← List.length_map (·.1) (as := fd)]
  refine List.Nodup.length_le_of_subset hn fun x hx => (reach_conn hZ hL).mpr ?_
  obtain ⟨e, he, rfl⟩ := List.mem_map.mp hx
  obtain ⟨ms, hW, _⟩ := hp e he
  exact ⟨ms, hW⟩
end
theorem num7 : ∀ a < 8, ∀ b < 8, ∀ c < 8, a + b + c ≤ 7 → fac (a + b + c) ≤ 210 * pF [a, b, c] := by decide +kernel
theorem num_bound7 {cs : List Nat} {N : Nat} (h3 : cs.length ≤ 3) (h7 : cs.sum ≤ 7) (h : N * pF cs = fac cs.sum) : N ≤ 210 := by
  have main : ∃ a b c : Nat, a + b + c = cs.sum ∧ pF [a, b, c] = pF cs := by
    match cs, h3 with
    | [], _ => exact ⟨0, 0, 0, rfl, rfl⟩
    | [a], _ => exact ⟨a, 0, 0, by simp, rfl⟩
    | [a, b], _ => exact ⟨a, b, 0, by simp, rfl⟩
    | [a, b, c], _ => exact ⟨a, b, c, by simp; omega, rfl⟩
    | a :: b :: c :: d :: r, h => simp at h
  obtain ⟨a, b, c, e1, e2⟩ := main
  have h1 := num7 a (by omega) b (by omega) c (by omega) (by omega)
  rw [e1, e2, ← h] at h1
  refine Nat.le_of_mul_le_mul_right h1 ?_
  cases z : pF cs with
  | zero =>
    rw [z, Nat.mul_zero] at h
    have : ∀ n, 0 < fac n := fun n => by
      induction n with
      | zero => decide
      | succ n ih => exact Nat.mul_pos (Nat.succ_pos n) ih
    have := this cs.sum
    omega
  | succ n => omega
theorem reach_le210 {zs : List Int} {l : List Nat} (hZ : OkZ zs) (hz3 : zs.length ≤ 3) (hL : OkR zs l) (hl : l.length ≤ 7) : (reachL zs l).length ≤ 210 := by
  have hO : OkZ (ones zs.length) := ⟨by rw [List.length_replicate]; exact hZ.pos, by rw [List.length_replicate]; exact hZ.six, fun z hz => by rw [List.eq_of_mem_replicate hz]; decide⟩
  have hLO : OkR (ones zs.length) l := fun k hk => by
    rw [List.length_replicate]
    exact hL k hk
  have hcl : (cntN zs.length l).length = zs.length := cntN_len _ _
  have hle : (reachL zs l).length ≤ (RL (cntN zs.length l)).length := reach_nodup.length_le_of_subset fun w hw => by
    obtain ⟨hW, _, hc, _, _⟩ := reach_facts hZ hL hw
    exact (mem_RL hO hLO).mpr (cnt_perm2 hL hW hc)
  have hn := rl_count (cs := cntN zs.length l) (by rw [hcl]; exact hO)
  exact Nat.le_trans hle (num_bound7 (by rw [hcl]; exact hz3) (by rw [cntN_sum hL]; exact hl) hn)

-- NEEDS m_least _law_moves
abbrev s__law_least : Stmt := topS 62
theorem sc__law_least : FnScope ["_law_sizes_here", "_law_row_here", "_law_prices_here", "_law_found", "_law_queue", "_law_here", "_law_move", "_law_other", "_law_total"] ["_law_sizes_here", "_law_row_here", "_law_prices_here"] (defScope s__law_least) := ⟨rfl, rfl, rfl, by decide +kernel, rfl, by decide +kernel, by decide +kernel⟩

def sp__law_least (K : PySem.W.Frag) : Sp := fun vs H Q _ => ∃ (a c : Addr) (zs ps : List Int) (l : List Nat), vs = [.ref a, .str (S l), .ref c] ∧ SqT K H a (zs.map V.int) ∧ OkZ zs ∧ OkR zs l ∧ l.length ≤ 12 ∧ SqT K H c (ps.map V.int) ∧ OkP zs ps ∧ (reachL zs l).length ≤ 210 ∧
  ∀ (H' : Hp) (p : Addr) (fd : List (List Nat × Int)), Same H H' → H p = none → H' p = some (.dK (kvL fd)) → Least (szN zs) ps l fd → Q (.ref p) H'
theorem ok__law_least {f : Addr} {fd : FuncData} (F : Fun K "_law_least" "_law_least" s__law_least f fd) (B : Bi mg) (C__law_moves : Cal P w K mg base CX0 4 "_law_moves" ["_law_sizes_here", "_law_row_here"] (sp__law_moves K)) (C__law_moved : Cal P w K mg base CX0 2 "_law_moved" ["_law_sizes_here", "_law_row_here", "_law_move"] (sp__law_moved K)) : FnOk P w K mg base CX0 5 f fd ["_law_sizes_here", "_law_row_here", "_law_prices_here"] (sp__law_least K) := by
  refine F.ok sc__law_least (fun vs H Q E h => ?_) (fun cdv A outer s H vs Q E hr h => ?_)
  · obtain ⟨a, c, zs, ps, l, rfl, _⟩ := h
    rfl
  obtain ⟨a, c, zs, ps, l, rfl, hT, hZ, hL, hl, hC, hP, hN, q⟩ := h
  refine ⟨_, (pss_cons (ps_par (i := 3) (j := 4) rfl sc__law_least.nd rfl rfl (by decide) rfl rfl (pa_cons (pe_disp1 (gv 1) pe_int) (pa_cons (pe_lst (pa_cons (gv 1) pa_nil)) pa_nil)) rfl)
      (pss_cons (ps_while PassesOwn.never (pt_cmpG (op_neG (K := K) hr.units) (gv 4) (pe_lst pa_nil) (nomark _))
      (pss_cons (ps_set (i := 5) sc__law_least.nd rfl (.inl rfl) (pe_bmG (K := K) PySem.F.plainAttrs_list PySem.F.slot_list_pop PySem.F.type_list_pop mt_popG (gv 4) (pa_cons pe_int pa_nil)))
      (pss_one (ps_for PassesOwn.never rfl (pi_seqG (K := K) (pe_cal C__law_moves (hr.mono (by decide)) pass0 (pa_cons (gv 0) (pa_cons (gv 5) pa_nil)))) (pg_name (i := 6) sc__law_least.nd rfl (.inl rfl))
      (pss_cons (ps_set (i := 7) sc__law_least.nd rfl (.inl rfl) (pe_cal C__law_moved (hr.mono (by decide)) pass0 (pa_cons (gv 0) (pa_cons (gv 5) (pa_cons (gv 6) pa_nil)))))
      (pss_cons (ps_set (i := 8) sc__law_least.nd rfl (.inl rfl) (pe_op (op_addG (K := K)) (pe_ix (ixK hr.units) (gv 3) (gv 5) (fun _ _ => rfl)) (pe_ix (ixG (K := K)) (gv 2) (pe_bmG (K := K) PySem.F.plainAttrs_str PySem.F.slot_str_index PySem.F.type_str_index mt_indexG (pe_strC [97, 98, 99, 100, 101, 102] (by decide +kernel)) (pa_cons (pe_ix (ixG (K := K)) (gv 5) (pe_ix (ixG (K := K)) (gv 6) pe_int (fun _ _ => rfl)) (fun _ _ => rfl)) pa_nil)) (fun _ _ => rfl))))
      (pss_one (ps_if (pw_or (pt_cmpG (op_notInK hr.units) (gv 7) (gv 3) rfl) (pw_or1 (pt_cmpG op_ltG (gv 8) (pe_ix (ixK hr.units) (gv 3) (gv 7) (fun _ _ => rfl)) (nomark _)))).pt
      (pss_cons (ps_asg (gv 8) (pg_sub (gv 3) (gv 7) (set_K hr.units)))
      (pss_one (ps_expr (pe_bmG (K := K) PySem.F.plainAttrs_list PySem.F.slot_list_append PySem.F.type_list_append mt_appendL (gv 4) (pa_cons (gv 7) pa_nil)))))
      pss_nil))))))))
      (pss_one (ps_ret (gv 3))))), ?_⟩
  have hs : ∀ k, 1 ≤ szN zs k := fun k => szN_pos hZ k
  refine fun sd hsd => ⟨upd_same, [(txK l, .int 0)], rfl, by show 1 ≤ 15; decide, by show 1 ≤ sizeLine; decide, fun qd hqd => ⟨_, _, rfl, ?_⟩⟩
  have s1 : Same H (upd (upd H sd (.dK [])) sd (.dK (mergeK [] [(txK l, .int 0)]))) := (same_upd hsd).at hsd
  have s2 := same_upd (o := .lst [.str (S l)]) hqd
  have e1 : upd (upd (upd H sd (.dK [])) sd (.dK (mergeK [] [(txK l, .int 0)]))) qd (.lst [.str (S l)]) sd = some (.dK (kvL [(l, 0)])) := s2 _ _ upd_same
  have e2 : upd (upd (upd H sd (.dK [])) sd (.dK (mergeK [] [(txK l, .int 0)]))) qd (.lst [.str (S l)]) qd = some (.lst ([l].map txV)) := upd_same
  have hqd0 : H qd = none := s1.free hqd
  have s12 := s1.trans s2
  generalize upd (upd (upd H sd (.dK [])) sd (.dK (mergeK [] [(txK l, .int 0)]))) qd (.lst [.str (S l)]) = H0 at *
  have hL0 : Lst (szN zs) ps l [(l, 0)] [l] := ⟨by simp, fun e he => by rw [List.mem_singleton.mp he]; exact ⟨[], rfl, rfl⟩, ⟨0, by simp, Int.le_refl _⟩, fun x hx => by rw [List.mem_singleton.mp hx]; simp, fun e he => by rw [List.mem_singleton.mp he]; exact .inl (by simp), fun e he => by rw [List.mem_singleton.mp he]; show (0 : Int) ≤ 99 * 1; decide⟩
  have pos : ∀ fd : List (List Nat × Int), (∀ e ∈ fd, ∃ ms, Way (szN zs) l ms e.1 ∧ cost (szN zs) ps l ms = e.2) → ∀ e ∈ fd, 0 ≤ e.2 := fun fd h e he => by
    obtain ⟨ms, _, h2⟩ := h e he
    rw [← h2]
    have := cost_pos hP (sz := szN zs) l ms
    omega
  have hpot0 : pot (reachL zs l).length [(l, 0)] + 1 ≤ ((reachL zs l).length : Int) * (99 * (reachL zs l).length + 1) + 1 := by
    unfold pot
    show (0 + 0 : Int) + _ - ((1 : Nat) : Int) * _ + 1 ≤ _
    have : (0 : Int) ≤ ((1 : Nat) : Int) * (99 * (reachL zs l).length + 1) := by omega
    omega
  have hB : ((reachL zs l).length : Int) * (99 * (reachL zs l).length + 1) ≤ 210 * (99 * 210 + 1) := by
    have h1 : ((reachL zs l).length : Int) ≤ 210 := by omega
    exact Int.mul_le_mul h1 (by omega) (by omega) (by omega)
  generalize hNN : (reachL zs l).length = N at *
  refine ⟨fun m σ H' => ∃ fd que y5 y6 y7 y8, σ = [some (.ref a), some (.str (S l)), some (.ref c), some (.ref sd), some (.ref qd), y5, y6, y7, y8] ∧ Same H H' ∧ H' sd = some (.dK (kvL fd)) ∧ H' qd = some (.lst (que.map txV)) ∧ Lst (szN zs) ps l fd que ∧ pot N fd + que.length ≤ (N : Int) * (99 * N + 1) + 1 ∧ m = (2 * pot N fd).toNat + que.length,
    ⟨_, [(l, 0)], [l], _, _, _, _, rfl, s12, e1, e2, hL0, hpot0, rfl⟩, ?_⟩
  rintro m σ H1 ⟨fd, que, y5, y6, y7, y8, rfl, sH1, hs1, hq1, hI, hpq, rfl⟩
  refine ⟨Nat.zero_le _, fun e he => .inl ⟨_, _, rfl, rfl, que.map txV, .inl ⟨SqL.of (same_upd he _ _ hq1), SqL.of upd_same⟩, ?_⟩⟩
  have s3 := same_upd (o := .lst []) he
  have sH2 := sH1.trans s3
  have hs2 := s3 _ _ hs1
  have hq2 := s3 _ _ hq1
  generalize upd H1 e (.lst []) = H2 at *
  refine iteB ⟨fun ee => ?_, fun ee => ?_⟩
  · cases que with
    | nil => exact absurd ee (by decide)
    | cons x que =>
    refine ⟨fun σ' H' => ∃ m', m' < (2 * pot N fd).toNat + (x :: que).length ∧ ∃ fd que y5 y6 y7 y8, σ' = [some (.ref a), some (.str (S l)), some (.ref c), some (.ref sd), some (.ref qd), y5, y6, y7, y8] ∧ Same H H' ∧ H' sd = some (.dK (kvL fd)) ∧ H' qd = some (.lst (que.map txV)) ∧ Lst (szN zs) ps l fd que ∧ pot N fd + que.length ≤ (N : Int) * (99 * N + 1) + 1 ∧ m' = (2 * pot N fd).toNat + que.length, fun _ _ h => h, ?_⟩
    refine ⟨.inl ⟨rfl, _, SqL.of hq2⟩, _, 0, txV x, hq2, rfl, by decide, rfl, ?_⟩
    rw [show (List.map txV (x :: que)).eraseIdx 0 = que.map txV from rfl]
    have sH3 : Same H (upd H2 qd (.lst (que.map txV))) := sH2.at hqd0
    have hsq : sd ≠ qd := ne_of hs2 hq2 (by intro z; cases z)
    have hs3 : upd H2 qd (.lst (que.map txV)) sd = some (.dK (kvL fd)) := by rw [upd_ne hsq]; exact hs2
    have hq3 : upd H2 qd (.lst (que.map txV)) qd = some (.lst (que.map txV)) := upd_same
    generalize upd H2 qd (.lst (que.map txV)) = H3 at *
    obtain ⟨cx, hIx⟩ := hI.pop
    obtain ⟨xms, hxW, _⟩ := hIx.path _ hIx.at_
    obtain ⟨hx, hxl⟩ := hxW.okr hL
    have hx : OkR zs x := hx
    have hxl : x.length = l.length := hxl
    have hpp0 := pot_pos (N := N) (pos _ hI.path) (by have := Lst.le hZ hL hI.nd hI.path; omega)
    refine ⟨a, zs, x, rfl, sH3.tup hT, hZ, hx, by omega, fun H4 ex vs2 s4 nex hex hM => .inl ⟨_, SqL.of hex, ?_⟩⟩
    have hlen := hM.len
    have hs4 := s4 _ _ hs3
    have hq4 := s4 _ _ hq3
    have sH4 := sH3.trans s4
    have nes : ex ≠ sd := (ne_of_none hs3 nex).symm
    have neq : ex ≠ qd := (ne_of_none hq3 nex).symm
    refine for_it (walk_list (xs := vs2)) (fun i σ H' => ∃ fd' que' y6 y7 y8, σ = [some (.ref a), some (.str (S l)), some (.ref c), some (.ref sd), some (.ref qd), some (.str (S x)), y6, y7, y8] ∧ Same H H' ∧ (∀ b ys, SqT K H4 b ys → SqT K H' b ys) ∧ H' ex = some (.lst vs2) ∧ H' sd = some (.dK (kvL fd')) ∧ H' qd = some (.lst (que'.map txV)) ∧ LstI (szN zs) ps l fd' que' x cx i ∧
        pot N fd' + que'.length ≤ (N : Int) * (99 * N + 1) + 1 ∧ (2 * pot N fd').toNat + que'.length + 1 ≤ (2 * pot N fd).toNat + (x :: que).length)
      ⟨fd, que, _, _, _, rfl, sH4, fun _ _ h => h, hex, hs4, hq4, hIx, by have : (x :: que).length = que.length + 1 := rfl; omega, Nat.le_refl _⟩ ?_ ?_ ?_
    · rintro i σ H' hi ⟨_, _, _, _, _, _, _, _, he, _⟩
      exact SqL.of he
    · rintro i v σ H5 H6 hi ⟨fd', que', y6, y7, y8, rfl, sH5, kt, he5, hs5, hq5, hI5, hq5', hm5⟩ ⟨rfl, hv⟩
      obtain ⟨Tm, mv, rfl, hmv, hTm⟩ := hM.get hv
      obtain ⟨hmi, hmg⟩ := legals_mem.mp (List.mem_of_getElem? hmv)
      refine ⟨a, Tm, zs, x, mv, rfl, sH5.tup hT, hZ, hx, by omega, kt _ _ hTm, hmi, hmg, fun H6 s6 => ?_⟩
      have hs6 := s6 _ _ hs5
      have hq6 := s6 _ _ hq5
      have he6 := s6 _ _ he5
      have sH6 := sH5.trans s6
      have kt6 : ∀ b ys, SqT K H4 b ys → SqT K H6 b ys := fun b ys h => s6.tup (kt b ys h)
      have hval : valV (kvL fd') (txK x) = some (.int cx) := by
        obtain ⟨e', h1, h2, h3⟩ := vv_there (kf := fun e : List Nat × Int => txK e.1) (vf := fun e : List Nat × Int => V.int e.2) hI5.at_ rfl
        rw [h3, nodup_inj hI5.nd h1 hI5.at_ (S_inj (Sum.inr.inj h2))]
      have hk := List.getElem?_eq_getElem hmi
      have hk1 := hx _ (List.getElem_mem hmi)
      have hkd : x.getD mv.1 0 = x[mv.1] := getD_of hk
      have h6 := hZ.six
      refine ⟨sd, kvL fd', txK x, .int cx, rfl, hs6, rfl, hval, ?_⟩
      refine ⟨rfl, _, _, .inr (kt6 _ _ hTm), atI_nat (j := 0) rfl, x[mv.1], by rw [tl_S]; omega, atI_nat hk, x[mv.1], rfl, rfl, ⟨hk1.1, by omega⟩, _, _, .inr (sH6.tup hC), at_szI hk1.1 (by rw [hP.len]; exact hk1.2), ?_⟩
      rw [show szI ps x[mv.1] = prI ps x mv by unfold prI; rw [hkd]]
      have hle5 := Lst.le hZ hL hI5.nd hI5.path
      refine ⟨sd, kvL fd', txK (moved (szN zs) x mv), rfl, hs6, rfl, ?_⟩
      refine iteB ⟨fun en => ?_, fun en => ?_⟩
      · have en' : (!(valV (kvL fd') (txK (moved (szN zs) x mv))).isSome) = true := en
        have hnone : valV (kvL fd') (txK (moved (szN zs) x mv)) = none := by
          cases ev : valV (kvL fd') (txK (moved (szN zs) x mv)) with
          | none => rfl
          | some w => rw [ev] at en'; cases en'
        have hno : moved (szN zs) x mv ∉ fd'.map (·.1) := fun z => by
          obtain ⟨e, he1, he2⟩ := List.mem_map.mp z
          exact vv_none (kf := fun e : List Nat × Int => txK e.1) (vf := fun e : List Nat × Int => V.int e.2) hnone e he1 (by rw [he2])
        have hlt : ∀ c, (moved (szN zs) x mv, c) ∈ fd' → cx + prI ps x mv < c := fun c z => absurd (List.mem_map.mpr ⟨_, z, rfl⟩) hno
        have hpd : pot N (setL fd' (moved (szN zs) x mv) (cx + prI ps x mv)) + 1 ≤ pot N fd' := by
          have hN2 := hI5.set (prI_in hP) hs hmv hlt
          have h1 := hN2.hi _ (setL_mem.mpr (.inl rfl))
          have h2 := Lst.le hZ hL hN2.nd hN2.path
          have h1 : cx + prI ps x mv ≤ 99 * ((setL fd' (moved (szN zs) x mv) (cx + prI ps x mv)).length : Nat) := h1
          exact pot_new hno (by omega)
        refine ⟨sd, kvL fd', txK (moved (szN zs) x mv), rfl, hs6, rfl, by rw [List.length_map]; omega, ?_⟩
        rw [kvL_put]
        have hN' := hI5.set (prI_in hP) hs hmv hlt
        have hp' := pos _ hN'.path
        have hl' := Lst.le hZ hL hN'.nd hN'.path
        have hpp' := pot_pos (N := N) hp' (by omega)
        have hpp5 := pot_pos (N := N) (pos _ hI5.path) (by omega)
        have sH7 : Same H (upd H6 sd (.dK (kvL (setL fd' (moved (szN zs) x mv) (cx + prI ps x mv))))) := sH6.at hsd
        have hs7 : upd H6 sd (.dK (kvL (setL fd' (moved (szN zs) x mv) (cx + prI ps x mv)))) sd = some (.dK (kvL (setL fd' (moved (szN zs) x mv) (cx + prI ps x mv)))) := upd_same
        have hq7 : upd H6 sd (.dK (kvL (setL fd' (moved (szN zs) x mv) (cx + prI ps x mv)))) qd = some (.lst (que'.map txV)) := by rw [upd_ne hsq.symm]; exact hq6
        have he7 : upd H6 sd (.dK (kvL (setL fd' (moved (szN zs) x mv) (cx + prI ps x mv)))) ex = some (.lst vs2) := by rw [upd_ne nes]; exact he6
        have kt7 : ∀ b ys, SqT K H4 b ys → SqT K (upd H6 sd (.dK (kvL (setL fd' (moved (szN zs) x mv) (cx + prI ps x mv))))) b ys := fun b ys h => sameX sameB_upd hs6 (fun _ z => by cases z) (fun _ _ z => by cases z) (kt6 b ys h)
        generalize upd H6 sd (.dK (kvL (setL fd' (moved (szN zs) x mv) (cx + prI ps x mv)))) = H7 at *
        refine ⟨.inl ⟨rfl, _, SqL.of hq7⟩, _, hq7, by rw [List.length_map]; omega, ?_⟩
        refine ⟨setL fd' (moved (szN zs) x mv) (cx + prI ps x mv), que' ++ [moved (szN zs) x mv], _, _, _, rfl, sH7.at hqd0, fun b ys h => sameX sameB_upd hq7 (fun _ z => by cases z) (fun _ _ z => by cases z) (kt7 b ys h), by rw [upd_ne neq]; exact he7, by rw [upd_ne hsq]; exact hs7, by rw [upd_same, List.map_append]; rfl, hN', ?_, ?_⟩
        · rw [List.length_append (as := que')]
          show _ + ((que'.length + 1 : Nat) : Int) ≤ _
          omega
        · rw [List.length_append (as := que')]
          show _ + (que'.length + 1) + 1 ≤ _
          omega
      · have en' : ¬ (!(valV (kvL fd') (txK (moved (szN zs) x mv))).isSome) = true := en
        cases ev : valV (kvL fd') (txK (moved (szN zs) x mv)) with
        | none => rw [ev] at en'; exact absurd rfl en'
        | some w =>
        obtain ⟨e, he1, he2, he3⟩ := vv_some (kf := fun e : List Nat × Int => txK e.1) (vf := fun e : List Nat × Int => V.int e.2) ev
        have he4 : e.1 = moved (szN zs) x mv := S_inj (Sum.inr.inj he2)
        have hmem : (moved (szN zs) x mv, e.2) ∈ fd' := by rw [← he4]; exact he1
        refine ⟨sd, kvL fd', txK (moved (szN zs) x mv), .int e.2, rfl, hs6, rfl, by rw [ev, he3], ?_⟩
        refine iteB ⟨fun e2 => ?_, fun e2 => ?_⟩
        · have hl2 : cx + prI ps x mv < e.2 := of_decide_eq_true e2
          have hlt : ∀ c, (moved (szN zs) x mv, c) ∈ fd' → cx + prI ps x mv < c := fun c z => by
            rw [show c = e.2 from congrArg Prod.snd (nodup_inj hI5.nd z hmem rfl)]
            exact hl2
          have hpd : pot N (setL fd' (moved (szN zs) x mv) (cx + prI ps x mv)) + 1 ≤ pot N fd' := pot_old hI5.nd hmem hl2
          refine ⟨sd, kvL fd', txK (moved (szN zs) x mv), rfl, hs6, rfl, by rw [List.length_map]; omega, ?_⟩
          rw [kvL_put]
          have hN' := hI5.set (prI_in hP) hs hmv hlt
          have hp' := pos _ hN'.path
          have hl' := Lst.le hZ hL hN'.nd hN'.path
          have hpp' := pot_pos (N := N) hp' (by omega)
          have hpp5 := pot_pos (N := N) (pos _ hI5.path) (by omega)
          have sH7 : Same H (upd H6 sd (.dK (kvL (setL fd' (moved (szN zs) x mv) (cx + prI ps x mv))))) := sH6.at hsd
          have hs7 : upd H6 sd (.dK (kvL (setL fd' (moved (szN zs) x mv) (cx + prI ps x mv)))) sd = some (.dK (kvL (setL fd' (moved (szN zs) x mv) (cx + prI ps x mv)))) := upd_same
          have hq7 : upd H6 sd (.dK (kvL (setL fd' (moved (szN zs) x mv) (cx + prI ps x mv)))) qd = some (.lst (que'.map txV)) := by rw [upd_ne hsq.symm]; exact hq6
          have he7 : upd H6 sd (.dK (kvL (setL fd' (moved (szN zs) x mv) (cx + prI ps x mv)))) ex = some (.lst vs2) := by rw [upd_ne nes]; exact he6
          have kt7 : ∀ b ys, SqT K H4 b ys → SqT K (upd H6 sd (.dK (kvL (setL fd' (moved (szN zs) x mv) (cx + prI ps x mv))))) b ys := fun b ys h => sameX sameB_upd hs6 (fun _ z => by cases z) (fun _ _ z => by cases z) (kt6 b ys h)
          generalize upd H6 sd (.dK (kvL (setL fd' (moved (szN zs) x mv) (cx + prI ps x mv)))) = H7 at *
          refine ⟨.inl ⟨rfl, _, SqL.of hq7⟩, _, hq7, by rw [List.length_map]; omega, ?_⟩
          refine ⟨setL fd' (moved (szN zs) x mv) (cx + prI ps x mv), que' ++ [moved (szN zs) x mv], _, _, _, rfl, sH7.at hqd0, fun b ys h => sameX sameB_upd hq7 (fun _ z => by cases z) (fun _ _ z => by cases z) (kt7 b ys h), by rw [upd_ne neq]; exact he7, by rw [upd_ne hsq]; exact hs7, by rw [upd_same, List.map_append]; rfl, hN', ?_, ?_⟩
          · rw [List.length_append (as := que')]
            show _ + ((que'.length + 1 : Nat) : Int) ≤ _
            omega
          · rw [List.length_append (as := que')]
            show _ + (que'.length + 1) + 1 ≤ _
            omega
        · have hl2 : ¬ cx + prI ps x mv < e.2 := fun z => e2 (decide_eq_true z)
          exact ⟨fd', que', _, _, _, rfl, sH6, kt6, he6, hs6, hq6, hI5.skip hmv hmem (by omega), hq5', hm5⟩
    · rintro σ H5 ⟨fd', que', y6, y7, y8, rfl, sH5, kt, he5, hs5, hq5, hI5, hq5', hm5⟩
      rw [hlen] at hI5
      exact ⟨_, by omega, fd', que', _, _, _, _, rfl, sH5, hs5, hq5, hI5.done, hq5', rfl⟩
  · have hq0 : que = [] := by
      cases que with
      | nil => rfl
      | cons x r => exact absurd rfl ee
    subst hq0
    exact q H2 sd fd sH2 hsd hs2 hI.least

-- NEEDS dist2 least _law_small prices _law_moves _law_equal m_difs
-- G G26 G27 G28 G29 G30 G31 G32 G34 G35 G36 G47 G48 G49 G50 G51 G52
abbrev s_law : Stmt := topS 63
theorem sc_law : FnScope ["_law_script", "_law_d", "_law_sizes_here", "_law_row_here", "_law_prices_here", "_law_found", "_law_steps", "_law_every", "_law_turn", "_law_other", "_law_price", "_law_moves_here", "_law_here", "_law_total", "_law_move"] ["_law_script"] (defScope s_law) := ⟨rfl, rfl, rfl, by decide +kernel, rfl, by decide +kernel, by decide +kernel⟩

def sp_law (K : PySem.W.Frag) : Sp := fun vs H Q _ => ∃ (a : Addr) (ns : List Int), vs = [.ref a] ∧ SqL K H a (ns.map V.int) ∧ ns.length ≤ 63 ∧ ∀ H', Q (.bl true) H'
theorem mulT_use {Q : V → Hp → Prop} {H : Hp} {a : Addr} {v : V} {n : Nat} {k : Int} (h : SqT K H a [v]) (hk : k = ((n : Nat) : Int)) (h1 : 1 ≤ n) (h2 : n ≤ 1000) (key : ∀ (H' : Hp) (p : Addr), Same H H' → SqT K H' p (List.replicate n v) → Q (.ref p) H') : gMulT K (.ref a) (.int k) H Q := by
  subst hk
  refine ⟨_, h, by simp, by omega, by show 1 ≤ 1000; decide, fun e => key H a (.refl _) ?_, fun _ p hp => key _ p (same_upd hp) ?_⟩
  · rw [show n = 1 by omega]
    exact h
  · refine SqT.of ?_
    rw [upd_same, Int.toNat_natCast, repL_one]
theorem ok_law {f : Addr} {fd : FuncData} (F : Fun K "law" "law" s_law f fd) (B : Bi mg) (C__law_random : Cal P w K mg base CX0 1 "_law_random" ["_law_script", "_law_salt"] (sp__law_random K)) (C__law_small : Cal P w K mg base CX0 3 "_law_small" ["_law_d"] (sp__law_small K)) (C__law_prices : Cal P w K mg base CX0 2 "_law_prices" ["_law_d", "_law_sizes_here"] (sp__law_prices K)) (C__law_least : Cal P w K mg base CX0 5 "_law_least" ["_law_sizes_here", "_law_row_here", "_law_prices_here"] (sp__law_least K)) (C__law_below : Cal P w K mg base CX0 1 "_law_below" ["_law_d", "_law_limit"] (sp__law_below K)) (C_cheapest_moves : Cal P w K mg base CX0 23 "cheapest_moves" ["sizes", "one", "other", "prices"] (sp_cheapest_moves K)) (C_min_moves : Cal P w K mg base CX0 23 "min_moves" ["sizes", "one", "other"] (sp_min_moves K)) (C__law_equal : Cal P w K mg base CX0 5 "_law_equal" ["_law_actual", "_law_expected"] (sp__law_equal K)) (C__law_reason : Cal P w K mg base CX0 3 "_law_reason" ["_law_sizes_here", "_law_row_here", "_law_move"] (sp__law_reason K)) (C__law_moved : Cal P w K mg base CX0 2 "_law_moved" ["_law_sizes_here", "_law_row_here", "_law_move"] (sp__law_moved K)) : FnOk P w K mg base CX0 24 f fd ["_law_script"] (sp_law K) := by
  refine F.ok sc_law (fun vs H Q E h => ?_) (fun cdv A outer s H vs Q E hr h => ?_)
  · obtain ⟨a, ns, rfl, _⟩ := h
    rfl
  obtain ⟨a, ns, rfl, hS, hl, q⟩ := h
  refine ⟨_, (pss_cons (ps_set (i := 1) sc_law.nd rfl (.inl rfl) (pe_cal C__law_random (hr.mono (by decide)) pass0 (pa_cons (gv 0) (pa_cons pe_int pa_nil))))
      (pss_cons (ps_asg (pe_cal C__law_small (hr.mono (by decide)) pass0 (pa_cons (gv 1) pa_nil)) (pg_nm (K := K) (is := [2, 3]) (pgs_cons (pg_name (i := 2) sc_law.nd rfl (.inl rfl)) (pgs_cons (pg_name (i := 3) sc_law.nd rfl (.inl rfl)) pgs_nil)) nm2))
      (pss_cons (ps_set (i := 4) sc_law.nd rfl (.inl rfl) (pe_cal C__law_prices (hr.mono (by decide)) pass0 (pa_cons (gv 1) (pa_cons (gv 2) pa_nil))))
      (pss_cons (ps_set (i := 5) sc_law.nd rfl (.inl rfl) (pe_cal C__law_least (hr.mono (by decide)) pass0 (pa_cons (gv 2) (pa_cons (gv 3) (pa_cons (gv 4) pa_nil)))))
      (pss_cons (ps_set (i := 6) sc_law.nd rfl (.inl rfl) (pe_cal C__law_least (hr.mono (by decide)) pass0 (pa_cons (gv 2) (pa_cons (gv 3) (pa_cons (pe_op (op_mulT (K := K)) (pe_tup (pa_cons pe_int pa_nil)) (pe_callB (cr_lenG (K := K)) (by rfl) B.len bt_len (pa_cons (gv 2) pa_nil))) pa_nil)))))
      (pss_cons (ps_set (i := 7) sc_law.nd rfl (.inl rfl) (pe_callB (cr_sortedD rfl) (by rfl) B.sorted bt_sorted (pa_cons (gv 5) pa_nil)))
      (pss_cons (ps_for PassesOwn.never rfl (pi_range1 (by rfl) B.range (pa_cons pe_int pa_nil)) (pg_name (i := 8) sc_law.nd rfl (.inl rfl))
      (pss_cons (ps_set (i := 9) sc_law.nd rfl (.inl rfl) (pe_ix (ixG (K := K)) (gv 7) (pe_cal C__law_below (hr.mono (by decide)) pass0 (pa_cons (gv 1) (pa_cons (pe_callB (cr_lenG (K := K)) (by rfl) B.len bt_len (pa_cons (gv 7) pa_nil)) pa_nil))) (fun _ _ => rfl)))
      (pss_cons (ps_asg (pe_cal C_cheapest_moves (hr.mono (by decide)) pass0 (pa_cons (gv 2) (pa_cons (gv 3) (pa_cons (gv 9) (pa_cons (gv 4) pa_nil))))) (pg_nm (K := K) (is := [10, 11]) (pgs_cons (pg_name (i := 10) sc_law.nd rfl (.inl rfl)) (pgs_cons (pg_name (i := 11) sc_law.nd rfl (.inl rfl)) pgs_nil)) nm2))
      (pss_cons (ps_if (pt_not (pt_truG (K := K) (pe_cal C__law_equal (hr.mono (by decide)) pass0 (pa_cons (pe_lst (pa_cons (gv 10) (pa_cons (pe_cal C_min_moves (hr.mono (by decide)) pass0 (pa_cons (gv 2) (pa_cons (gv 3) (pa_cons (gv 9) pa_nil)))) pa_nil))) (pa_cons (pe_lst (pa_cons (pe_ix (ixK hr.units) (gv 5) (gv 9) (fun _ _ => rfl)) (pa_cons (pe_ix (ixK hr.units) (gv 6) (gv 9) (fun _ _ => rfl)) pa_nil))) pa_nil)))))
      (pss_one (ps_ret pe_bl))
      pss_nil)
      (pss_cons (ps_par (i := 12) (j := 13) rfl sc_law.nd rfl rfl (by decide) rfl rfl (pa_cons (gv 3) (pa_cons pe_int pa_nil)) rfl)
      (pss_cons (ps_for PassesOwn.never rfl (pi_seqG (K := K) (gv 11)) (pg_name (i := 14) sc_law.nd rfl (.inl rfl))
      (pss_cons (ps_if (pt_cmpG (op_neG (K := K) hr.units) (pe_cal C__law_reason (hr.mono (by decide)) pass0 (pa_cons (gv 2) (pa_cons (gv 12) (pa_cons (gv 14) pa_nil)))) (pe_strC [] (by decide +kernel)) (nomark _))
      (pss_one (ps_ret pe_bl))
      pss_nil)
      (pss_cons (ps_set (i := 13) sc_law.nd rfl (.inl rfl) (pe_op (op_addG (K := K)) (gv 13) (pe_ix (ixG (K := K)) (gv 4) (pe_bmG (K := K) PySem.F.plainAttrs_str PySem.F.slot_str_index PySem.F.type_str_index mt_indexG (pe_strC [97, 98, 99, 100, 101, 102] (by decide +kernel)) (pa_cons (pe_ix (ixG (K := K)) (gv 12) (pe_ix (ixG (K := K)) (gv 14) pe_int (fun _ _ => rfl)) (fun _ _ => rfl)) pa_nil)) (fun _ _ => rfl))))
      (pss_one (ps_set (i := 12) sc_law.nd rfl (.inl rfl) (pe_cal C__law_moved (hr.mono (by decide)) pass0 (pa_cons (gv 2) (pa_cons (gv 12) (pa_cons (gv 14) pa_nil)))))))))
      (pss_one (ps_if (pw_or (pt_cmpG (op_neG (K := K) hr.units) (gv 12) (gv 9) (nomark _)) (pw_or1 (pt_cmpG (op_neG (K := K) hr.units) (gv 13) (gv 10) (nomark _)))).pt
      (pss_one (ps_ret pe_bl))
      pss_nil))))))))
      (pss_one (ps_ret pe_bl))))))))), ?_⟩
  refine ⟨a, 56, ns, rfl, hS, hl, by decide, by decide, fun H1 d ys s1 hd0 hd hR => ?_⟩
  refine ⟨d, ys, rfl, hd, hR, fun H2 T t ys2 zs l s2 hd2 hR2 hT2 ht2 hZ hz3 hL hl7 => ?_⟩
  refine ⟨_, SqT.of hT2, ?_⟩
  refine ⟨d, t, ys2, zs, rfl, hd2, hR2, SqT.of ht2, hZ, fun H3 pt ys3 ps s3 hd3 hR3 hpt0 hpt hP => ?_⟩
  have ht3 := s3.tup hd2 (SqT.of (K := K) ht2)
  have hpt3 : SqT K H3 pt (ps.map V.int) := SqT.of hpt
  clear s1 hd0 hd hR s2 hd2 hR2 ht2 hT2 s3 hS hpt0 hpt
  have hs : ∀ k, 1 ≤ szN zs k := fun k => szN_pos hZ k
  have hN := reach_le210 hZ hz3 hL hl7
  refine ⟨t, pt, zs, ps, l, rfl, ht3, hZ, hL, by omega, hpt3, hP, hN, fun H4 fk fd s4 nf hf4 hLe => ?_⟩
  have hd4 := s4 _ _ hd3
  have ht4 := s4.tup ht3
  have hpt4 := s4.tup hpt3
  refine ⟨by show 1 ≤ sizeLine; decide, fun p1 hp1 => ?_⟩
  have s5 := same_upd (o := .tup [.int 1]) hp1
  have t5 : SqT K (upd H4 p1 (.tup [.int 1])) p1 [.int 1] := SqT.of upd_same
  have hd5 := s5 _ _ hd4
  have ht5 := s5.tup ht4
  have hpt5 := s5.tup hpt4
  have hf5 := s5 _ _ hf4
  generalize upd H4 p1 (.tup [.int 1]) = H5 at *
  have hz := hZ.pos
  have hz6 := hZ.six
  refine ⟨_, .inr ht5, ?_⟩
  apply mulT_use t5 (n := zs.length) (by rw [List.length_map]) (by omega) (by omega)
  intro H6 pc s6 hpc6
  have hd6 := s6 _ _ hd5
  have ht6 := s6.tup ht5
  have hpt6 := s6.tup hpt5
  have hf6 := s6 _ _ hf5
  have hpc6' : SqT K H6 pc ((List.replicate zs.length (1 : Int)).map V.int) := by rw [List.map_replicate]; exact hpc6
  refine ⟨t, pc, zs, _, l, rfl, ht6, hZ, hL, by omega, hpc6', okp_ones, hN, fun H7 sk fd2 s7 nsk hk7 hLe2 => ?_⟩
  have hd7 := s7 _ _ hd6
  have ht7 := s7.tup ht6
  have hpt7 := s7.tup hpt6
  have hf7 := s7 _ _ hf6
  have hle1 := Lst.le hZ hL hLe.nd hLe.path
  refine ⟨kvL fd, fd.map (·.1), hf7, by rw [List.map_map, List.map_map]; rfl, by rw [List.length_map]; omega, fun us e hperm _ he => ?_⟩
  have s8 := same_upd (o := .lst (us.map txV)) he
  have hed : e ≠ d := (ne_of_none hd7 he).symm
  have hd8 := s8 _ _ hd7
  have ht8 := s8.tup ht7
  have hpt8 := s8.tup hpt7
  have hf8 := s8 _ _ hf7
  have hk8 := s8 _ _ hk7
  have he8 : upd H7 e (.lst (us.map txV)) e = some (.lst (us.map txV)) := upd_same
  generalize upd H7 e (.lst (us.map txV)) = H8 at *
  clear s4 nf hd4 ht4 hpt4 hf4 s5 t5 hd5 ht5 hpt5 hf5 s6 hd6 ht6 hpt6 hf6 hpc6 hpc6' s7 nsk hk7 hd7 ht7 hpt7 hf7 s8 he hd3 ht3 hpt3
  have hul : us.length = fd.length := by rw [hperm.length_eq, List.length_map]
  have hl0 : 0 < fd.length := by
    obtain ⟨c0, h0, _⟩ := hLe.low [] l rfl
    exact List.length_pos_of_mem h0
  refine ⟨_, rfl, by decide, by decide, for_range (fun i σ H' => ∃ ys y8 y9 y10 y11 y12 y13 y14, σ = [some (.ref a), some (.ref d), some (.ref t), some (.str (S l)), some (.ref pt), some (.ref fk), some (.ref sk), some (.ref e), y8, y9, y10, y11, y12, y13, y14] ∧ H' d = some (.lst ys) ∧ Rnd ys ∧ SqT K H' t (zs.map V.int) ∧ SqT K H' pt (ps.map V.int) ∧ H' fk = some (.dK (kvL fd)) ∧ H' sk = some (.dK (kvL fd2)) ∧ H' e = some (.lst (us.map txV)))
    ⟨ys3, _, _, _, _, _, _, _, rfl, hd8, hR3, ht8, hpt8, hf8, hk8, he8⟩ ?_ (fun _ H' _ => q H')⟩
  rintro i σ H9 hi ⟨ys, y8, y9, y10, y11, y12, y13, y14, rfl, hd9, hR9, ht9, hpt9, hf9, hk9, he9⟩
  refine ⟨_, .inl (SqL.of he9), d, _, ys, rfl, hd9, hR9, by rw [List.length_map, hul]; omega, by rw [List.length_map, hul]; omega, fun b ysA hb0 hb1 hRA => ?_⟩
  have hfd : fk ≠ d := ne_of hf9 hd9 (by intro z; cases z)
  have hkd : sk ≠ d := ne_of hk9 hd9 (by intro z; cases z)
  have htA : SqT K (upd H9 d (.lst ysA)) t (zs.map V.int) := sameB_upd.tup hd9 ht9
  have hptA : SqT K (upd H9 d (.lst ysA)) pt (ps.map V.int) := sameB_upd.tup hd9 hpt9
  have hfA : upd H9 d (.lst ysA) fk = some (.dK (kvL fd)) := by rw [upd_ne hfd]; exact hf9
  have hkA : upd H9 d (.lst ysA) sk = some (.dK (kvL fd2)) := by rw [upd_ne hkd]; exact hk9
  have heA : upd H9 d (.lst ysA) e = some (.lst (us.map txV)) := by rw [upd_ne hed]; exact he9
  have hdA : upd H9 d (.lst ysA) d = some (.lst ysA) := upd_same
  generalize upd H9 d (.lst ysA) = HA at *
  obtain ⟨bn, rfl⟩ := Int.eq_ofNat_of_zero_le hb0
  rw [List.length_map] at hb1
  have hbn : bn < us.length := by omega
  obtain ⟨x, hx⟩ : ∃ x, us[bn]? = some x := ⟨_, List.getElem?_eq_getElem hbn⟩
  refine ⟨_, txV x, .inl (SqL.of heA), atI_nat (by rw [List.getElem?_map, hx]; rfl), ?_⟩
  have hxm := hperm.mem_iff.mp (List.mem_of_getElem? hx)
  obtain ⟨e1, he1, ee1⟩ := List.mem_map.mp hxm
  obtain ⟨⟨xw, hxW, hxc⟩, hmem⟩ : (∃ ms, Way (szN zs) l ms x ∧ cost (szN zs) ps l ms = e1.2) ∧ (x, e1.2) ∈ fd := by
    refine ⟨?_, by rw [← ee1]; exact he1⟩
    rw [← ee1]
    exact hLe.path e1 he1
  obtain ⟨hxR, hxl⟩ := hxW.okr hL
  obtain ⟨h3, h4⟩ := hxW.keeps hs
  have hdif := difD_same ((cnt_perm hL hxR).mpr h3) h4
  refine ⟨t, pt, zs, ps, l, x, rfl, htA, hZ, hL, hxR, by omega, by omega, hdif, hptA, hP, by omega, fun HB T2 b2 vs2 ms sB nT nb hTB hbB hMB hBest hml => ?_⟩
  refine ⟨_, SqT.of hTB, ?_⟩
  have htB := sB.tup htA
  have hptB := sB.tup hptA
  have hfB := sB _ _ hfA
  have hkB := sB _ _ hkA
  have heB := sB _ _ heA
  have hdB := sB _ _ hdA
  have hcost : cost (szN zs) ps l ms = e1.2 := by
    obtain ⟨c1, g1, g2⟩ := hLe.low _ _ hBest.way
    have g3 := hLe.uni g1 hmem
    have g4 := hBest.low _ hxW
    omega
  have hval1 : valV (kvL fd) (txK x) = some (.int (cost (szN zs) ps l ms)) := by
    obtain ⟨e', h1, h2, h3⟩ := vv_there (kf := fun e : List Nat × Int => txK e.1) (vf := fun e : List Nat × Int => V.int e.2) hmem rfl
    rw [h3, nodup_inj hLe.nd h1 hmem (S_inj (Sum.inr.inj h2)), hcost]
  refine ⟨t, zs, l, x, rfl, htB, hZ, hL, hxR, by omega, by omega, hdif, by omega, fun HC ns2 sC hW2 hmin2 => ?_⟩
  have hval2 : valV (kvL fd2) (txK x) = some (.int (ns2.length : Nat)) := by
    obtain ⟨c2, g1, g2⟩ := hLe2.low _ _ hW2
    obtain ⟨ws, g3, g4⟩ := hLe2.path _ g1
    rw [cost_ones] at g2 g4
    have g5 := hmin2 ws g3
    have g4 : ((ws.length : Nat) : Int) = c2 := g4
    have : c2 = ((ns2.length : Nat) : Int) := by omega
    subst this
    obtain ⟨e', h1, h2, h3⟩ := vv_there (kf := fun e : List Nat × Int => txK e.1) (vf := fun e : List Nat × Int => V.int e.2) g1 rfl
    rw [h3, nodup_inj hLe2.nd h1 g1 (S_inj (Sum.inr.inj h2))]
  refine ⟨by show 2 ≤ sizeLine; decide, fun q1 hq1 => ?_⟩
  have sD := sC.trans (same_upd (o := .lst [.int (cost (szN zs) ps l ms), .int (ns2.length : Nat)]) hq1)
  have hq1D : upd HC q1 (.lst [.int (cost (szN zs) ps l ms), .int (ns2.length : Nat)]) q1 = some (.lst [.int (cost (szN zs) ps l ms), .int (ns2.length : Nat)]) := upd_same
  generalize upd HC q1 (.lst [.int (cost (szN zs) ps l ms), .int (ns2.length : Nat)]) = HD at *
  refine ⟨fk, kvL fd, txK x, _, rfl, sD _ _ hfB, rfl, hval1, sk, kvL fd2, txK x, _, rfl, sD _ _ hkB, rfl, hval2, by show 2 ≤ sizeLine; decide, fun q2 hq2 => ?_⟩
  have sE := same_upd (o := .lst [.int (cost (szN zs) ps l ms), .int (ns2.length : Nat)]) hq2
  refine ⟨.ref q1, .ref q2, .list [.int (cost (szN zs) ps l ms), .int (ns2.length : Nat)], rfl, .lst (SqL.of (sE _ _ hq1D)) (.cons (.int _) (.cons (.int _) .nil)), .lst (SqL.of upd_same) (.cons (.int _) (.cons (.int _) .nil)), ⟨by show 2 ≤ 100000; decide, fun z hz => ?_⟩, fun HF sF => ?_⟩
  · rcases List.mem_cons.mp hz with rfl | hz
    · exact True.intro
    · rw [List.mem_singleton.mp hz]
      exact True.intro
  have sBF := (sD.trans sE).trans sF
  have htF := sBF.tup htB
  have hptF := sBF.tup hptB
  have hfF := sBF _ _ hfB
  have hkF := sBF _ _ hkB
  have heF := sBF _ _ heB
  have hdF := sBF _ _ hdB
  have hbF := sBF _ _ hbB
  have hMF := hMB.same sBF
  refine ⟨_, _, rfl, ?_⟩
  refine .inl ⟨_, SqL.of hbF, ?_⟩
  have hlenF := hMF.len
  refine for_it (walk_list (xs := vs2)) (fun j σ H' => ∃ y tot y14, σ = [some (.ref a), some (.ref d), some (.ref t), some (.str (S l)), some (.ref pt), some (.ref fk), some (.ref sk), some (.ref e), some (.int (0 + (i : Nat))), some (.str (S x)), some (.int (cost (szN zs) ps l ms)), some (.ref b2), some (.str (S y)), some (.int tot), y14] ∧ Same HF H' ∧ Way (szN zs) y (ms.drop j) x ∧ OkR zs y ∧ y.length = l.length ∧ tot + cost (szN zs) ps y (ms.drop j) = cost (szN zs) ps l ms)
    ⟨l, 0, _, rfl, .refl _, hBest.way, hL, rfl, by rw [List.drop_zero]; omega⟩ ?_ ?_ ?_
  · rintro j σ H' hj ⟨_, _, _, _, hs', _⟩
    exact SqL.of (hs' _ _ hbF)
  · rintro j v σ HG HG' hj ⟨y, tot, y14, rfl, sG, hWy, hy, hyl, htot⟩ ⟨rfl, hv⟩
    obtain ⟨Tm, m, rfl, hm, hTm⟩ := hMF.get hv
    have hdr : ms.drop j = m :: ms.drop (j + 1) := by
      obtain ⟨hlt, e⟩ := List.getElem?_eq_some_iff.mp hm
      rw [List.drop_eq_getElem_cons hlt, e]
    rw [hdr] at hWy htot
    obtain ⟨hmi, hmg, hWn⟩ := hWy
    have htot : tot + (prI ps y m + cost (szN zs) ps (moved (szN zs) y m) (ms.drop (j + 1))) = cost (szN zs) ps l ms := htot
    refine ⟨t, Tm, zs, y, m, rfl, sG.tup htF, hZ, hy, by omega, sG.tup hTm, hmi, fun HI sI => ?_⟩
    have hrs : rsn (szN zs) y m = [] := of_decide_eq_true hmg
    rw [hrs]
    have sGI := sG.trans sI
    have hk := List.getElem?_eq_getElem hmi
    have hk1 := hy _ (List.getElem_mem hmi)
    have hkd : y.getD m.1 0 = y[m.1] := getD_of hk
    refine ⟨rfl, _, _, .inr (sGI.tup hTm), atI_nat (j := 0) rfl, y[m.1], by rw [tl_S]; omega, atI_nat hk, y[m.1], rfl, rfl, ⟨hk1.1, by omega⟩, _, _, .inr (sGI.tup hptF), at_szI hk1.1 (by rw [hP.len]; exact hk1.2), ?_⟩
    rw [show szI ps y[m.1] = prI ps y m by unfold prI; rw [hkd]]
    refine ⟨t, Tm, zs, y, m, rfl, sGI.tup htF, hZ, hy, by omega, sGI.tup hTm, hmi, hmg, fun HJ sJ => ?_⟩
    obtain ⟨o1, o2⟩ := (show Way (szN zs) y [m] (moved (szN zs) y m) from ⟨hmi, hmg, rfl⟩).okr hy
    exact ⟨_, _, _, rfl, sGI.trans sJ, hWn, o1, by omega, by omega⟩
  · rintro σ HG ⟨y, tot, y14, rfl, sG, hWy, hy, hyl, htot⟩
    rw [hlenF, List.drop_length] at hWy htot
    cases (show y = x from hWy)
    have htot : tot + 0 = cost (szN zs) ps l ms := htot
    have et : tot = cost (szN zs) ps l ms := by omega
    subst et
    refine iteB ⟨fun e => ?_, fun _ => iteB ⟨fun e => ?_, fun _ => ?_⟩⟩
    · have e' : (!decide (tl (S x) = tl (S x))) = true := e
      simp at e'
    · have e' : (!decide (cost (szN zs) ps l ms = cost (szN zs) ps l ms)) = true := e
      simp at e'
    · exact ⟨ysA, _, _, _, _, _, _, _, rfl, sG _ _ hdF, hRA, sG.tup htF, sG.tup hptF, sG _ _ hfF, sG _ _ hkF, sG _ _ heF⟩

end
theorem all_mk {l : PySem.W.OpenLaw} {w : World} {K : PySem.W.Frag} {h : Heap} {mg : Str → Option Value} {fa : Addr} (X : K.In h) (G : h.Ns mainGlobals mg) (hfa : mg "law" = some (.ref fa))
    {CC : Addr} (q0_RowCounter : PySem.W.nsIn K mainGlobals "RowCounter" = some (some (.ref CC))) (q1_RowCounter : PySem.W.plainGet K CC Str.empty = true) (q2_RowCounter : PySem.W.hasDictIn K CC = true) (q3_RowCounter : PySem.W.plainOver K CC = true) (q4_RowCounter : PySem.W.findIn K (.ref CC) "__setattr__" = some (some (.builtin "object.__setattr__"))) (q5_RowCounter : PySem.W.makesIn K CC = true) (q6_RowCounter : PySem.W.keepIn K (.ref CC) = true)
    (na0_RowCounter : PySem.W.findIn K (.ref CC) "sizes" = some none)
    (na1_RowCounter : PySem.W.findIn K (.ref CC) "target" = some none)
    (na2_RowCounter : PySem.W.findIn K (.ref CC) "start" = some none)
    (na3_RowCounter : PySem.W.findIn K (.ref CC) "cache" = some none)
    {f0 : Addr} {od0 an0 : Option Addr} {sl0 : Array (Option Value)} {oc0 kV0 dc0 pm0 cd0 ct0 : Value}
    (a0 : PySem.W.nsIn K mainGlobals "_law_random" = some (some (.ref f0))) (l0 : K.lookup f0 = some ⟨oc0, od0, .func (PySem.W.fnOf "_law_random" "_law_random" (defArgs s__law_random) (defBody s__law_random) (defScope s__law_random) .none kV0 dc0 pm0 an0 cd0 ct0), sl0⟩) (c0 : PySem.W.codeIn K cd0 "_law_random" = true) (k0 : PySem.W.keepIn K (.ref f0) = true)
    {f1 : Addr} {od1 an1 : Option Addr} {sl1 : Array (Option Value)} {oc1 kV1 dc1 pm1 cd1 ct1 : Value}
    (a1 : PySem.W.nsIn K mainGlobals "_law_below" = some (some (.ref f1))) (l1 : K.lookup f1 = some ⟨oc1, od1, .func (PySem.W.fnOf "_law_below" "_law_below" (defArgs s__law_below) (defBody s__law_below) (defScope s__law_below) .none kV1 dc1 pm1 an1 cd1 ct1), sl1⟩) (c1 : PySem.W.codeIn K cd1 "_law_below" = true) (k1 : PySem.W.keepIn K (.ref f1) = true)
    {f2 : Addr} {od2 an2 : Option Addr} {sl2 : Array (Option Value)} {oc2 kV2 dc2 pm2 cd2 ct2 : Value}
    (a2 : PySem.W.nsIn K mainGlobals "_law_sizes" = some (some (.ref f2))) (l2 : K.lookup f2 = some ⟨oc2, od2, .func (PySem.W.fnOf "_law_sizes" "_law_sizes" (defArgs s__law_sizes) (defBody s__law_sizes) (defScope s__law_sizes) .none kV2 dc2 pm2 an2 cd2 ct2), sl2⟩) (c2 : PySem.W.codeIn K cd2 "_law_sizes" = true) (k2 : PySem.W.keepIn K (.ref f2) = true)
    {f3 : Addr} {od3 an3 : Option Addr} {sl3 : Array (Option Value)} {oc3 kV3 dc3 pm3 cd3 ct3 : Value}
    (a3 : PySem.W.nsIn K mainGlobals "_law_row" = some (some (.ref f3))) (l3 : K.lookup f3 = some ⟨oc3, od3, .func (PySem.W.fnOf "_law_row" "_law_row" (defArgs s__law_row) (defBody s__law_row) (defScope s__law_row) .none kV3 dc3 pm3 an3 cd3 ct3), sl3⟩) (c3 : PySem.W.codeIn K cd3 "_law_row" = true) (k3 : PySem.W.keepIn K (.ref f3) = true)
    {f4 : Addr} {od4 an4 : Option Addr} {sl4 : Array (Option Value)} {oc4 kV4 dc4 pm4 cd4 ct4 : Value}
    (a4 : PySem.W.nsIn K mainGlobals "_law_small" = some (some (.ref f4))) (l4 : K.lookup f4 = some ⟨oc4, od4, .func (PySem.W.fnOf "_law_small" "_law_small" (defArgs s__law_small) (defBody s__law_small) (defScope s__law_small) .none kV4 dc4 pm4 an4 cd4 ct4), sl4⟩) (c4 : PySem.W.codeIn K cd4 "_law_small" = true) (k4 : PySem.W.keepIn K (.ref f4) = true)
    {f5 : Addr} {od5 an5 : Option Addr} {sl5 : Array (Option Value)} {oc5 kV5 dc5 pm5 cd5 ct5 : Value}
    (a5 : PySem.W.nsIn K mainGlobals "_law_prices" = some (some (.ref f5))) (l5 : K.lookup f5 = some ⟨oc5, od5, .func (PySem.W.fnOf "_law_prices" "_law_prices" (defArgs s__law_prices) (defBody s__law_prices) (defScope s__law_prices) .none kV5 dc5 pm5 an5 cd5 ct5), sl5⟩) (c5 : PySem.W.codeIn K cd5 "_law_prices" = true) (k5 : PySem.W.keepIn K (.ref f5) = true)
    {f6 : Addr} {od6 an6 : Option Addr} {sl6 : Array (Option Value)} {oc6 kV6 dc6 pm6 cd6 ct6 : Value}
    (a6 : PySem.W.nsIn K mainGlobals "_law_size" = some (some (.ref f6))) (l6 : K.lookup f6 = some ⟨oc6, od6, .func (PySem.W.fnOf "_law_size" "_law_size" (defArgs s__law_size) (defBody s__law_size) (defScope s__law_size) .none kV6 dc6 pm6 an6 cd6 ct6), sl6⟩) (c6 : PySem.W.codeIn K cd6 "_law_size" = true) (k6 : PySem.W.keepIn K (.ref f6) = true)
    {f7 : Addr} {od7 an7 : Option Addr} {sl7 : Array (Option Value)} {oc7 kV7 dc7 pm7 cd7 ct7 : Value}
    (a7 : PySem.W.nsIn K mainGlobals "_law_pack" = some (some (.ref f7))) (l7 : K.lookup f7 = some ⟨oc7, od7, .func (PySem.W.fnOf "_law_pack" "_law_pack" (defArgs s__law_pack) (defBody s__law_pack) (defScope s__law_pack) .none kV7 dc7 pm7 an7 cd7 ct7), sl7⟩) (c7 : PySem.W.codeIn K cd7 "_law_pack" = true) (k7 : PySem.W.keepIn K (.ref f7) = true)
    {f8 : Addr} {od8 an8 : Option Addr} {sl8 : Array (Option Value)} {oc8 kV8 dc8 pm8 cd8 ct8 : Value}
    (a8 : PySem.W.nsIn K mainGlobals "_law_reason" = some (some (.ref f8))) (l8 : K.lookup f8 = some ⟨oc8, od8, .func (PySem.W.fnOf "_law_reason" "_law_reason" (defArgs s__law_reason) (defBody s__law_reason) (defScope s__law_reason) .none kV8 dc8 pm8 an8 cd8 ct8), sl8⟩) (c8 : PySem.W.codeIn K cd8 "_law_reason" = true) (k8 : PySem.W.keepIn K (.ref f8) = true)
    {f9 : Addr} {od9 an9 : Option Addr} {sl9 : Array (Option Value)} {oc9 kV9 dc9 pm9 cd9 ct9 : Value}
    (a9 : PySem.W.nsIn K mainGlobals "_law_moves" = some (some (.ref f9))) (l9 : K.lookup f9 = some ⟨oc9, od9, .func (PySem.W.fnOf "_law_moves" "_law_moves" (defArgs s__law_moves) (defBody s__law_moves) (defScope s__law_moves) .none kV9 dc9 pm9 an9 cd9 ct9), sl9⟩) (c9 : PySem.W.codeIn K cd9 "_law_moves" = true) (k9 : PySem.W.keepIn K (.ref f9) = true)
    {f10 : Addr} {od10 an10 : Option Addr} {sl10 : Array (Option Value)} {oc10 kV10 dc10 pm10 cd10 ct10 : Value}
    (a10 : PySem.W.nsIn K mainGlobals "_law_moved" = some (some (.ref f10))) (l10 : K.lookup f10 = some ⟨oc10, od10, .func (PySem.W.fnOf "_law_moved" "_law_moved" (defArgs s__law_moved) (defBody s__law_moved) (defScope s__law_moved) .none kV10 dc10 pm10 an10 cd10 ct10), sl10⟩) (c10 : PySem.W.codeIn K cd10 "_law_moved" = true) (k10 : PySem.W.keepIn K (.ref f10) = true)
    {f11 : Addr} {od11 an11 : Option Addr} {sl11 : Array (Option Value)} {oc11 kV11 dc11 pm11 cd11 ct11 : Value}
    (a11 : PySem.W.nsIn K mainGlobals "_law_least" = some (some (.ref f11))) (l11 : K.lookup f11 = some ⟨oc11, od11, .func (PySem.W.fnOf "_law_least" "_law_least" (defArgs s__law_least) (defBody s__law_least) (defScope s__law_least) .none kV11 dc11 pm11 an11 cd11 ct11), sl11⟩) (c11 : PySem.W.codeIn K cd11 "_law_least" = true) (k11 : PySem.W.keepIn K (.ref f11) = true)
    {f12 : Addr} {od12 an12 : Option Addr} {sl12 : Array (Option Value)} {oc12 kV12 dc12 pm12 cd12 ct12 : Value}
    (a12 : PySem.W.nsIn K mainGlobals "is_int_in" = some (some (.ref f12))) (l12 : K.lookup f12 = some ⟨oc12, od12, .func (PySem.W.fnOf "is_int_in" "is_int_in" (defArgs s_is_int_in) (defBody s_is_int_in) (defScope s_is_int_in) .none kV12 dc12 pm12 an12 cd12 ct12), sl12⟩) (c12 : PySem.W.codeIn K cd12 "is_int_in" = true) (k12 : PySem.W.keepIn K (.ref f12) = true)
    {f13 : Addr} {od13 an13 : Option Addr} {sl13 : Array (Option Value)} {oc13 kV13 dc13 pm13 cd13 ct13 : Value}
    (a13 : PySem.W.nsIn K mainGlobals "check_sizes" = some (some (.ref f13))) (l13 : K.lookup f13 = some ⟨oc13, od13, .func (PySem.W.fnOf "check_sizes" "check_sizes" (defArgs s_check_sizes) (defBody s_check_sizes) (defScope s_check_sizes) .none kV13 dc13 pm13 an13 cd13 ct13), sl13⟩) (c13 : PySem.W.codeIn K cd13 "check_sizes" = true) (k13 : PySem.W.keepIn K (.ref f13) = true)
    {f14 : Addr} {od14 an14 : Option Addr} {sl14 : Array (Option Value)} {oc14 kV14 dc14 pm14 cd14 ct14 : Value}
    (a14 : PySem.W.nsIn K mainGlobals "colors_of" = some (some (.ref f14))) (l14 : K.lookup f14 = some ⟨oc14, od14, .func (PySem.W.fnOf "colors_of" "colors_of" (defArgs s_colors_of) (defBody s_colors_of) (defScope s_colors_of) .none kV14 dc14 pm14 an14 cd14 ct14), sl14⟩) (c14 : PySem.W.codeIn K cd14 "colors_of" = true) (k14 : PySem.W.keepIn K (.ref f14) = true)
    {f15 : Addr} {od15 an15 : Option Addr} {sl15 : Array (Option Value)} {oc15 kV15 dc15 pm15 cd15 ct15 : Value}
    (a15 : PySem.W.nsIn K mainGlobals "check_row" = some (some (.ref f15))) (l15 : K.lookup f15 = some ⟨oc15, od15, .func (PySem.W.fnOf "check_row" "check_row" (defArgs s_check_row) (defBody s_check_row) (defScope s_check_row) .none kV15 dc15 pm15 an15 cd15 ct15), sl15⟩) (c15 : PySem.W.codeIn K cd15 "check_row" = true) (k15 : PySem.W.keepIn K (.ref f15) = true)
    {f16 : Addr} {od16 an16 : Option Addr} {sl16 : Array (Option Value)} {oc16 kV16 dc16 pm16 cd16 ct16 : Value}
    (a16 : PySem.W.nsIn K mainGlobals "check_rows" = some (some (.ref f16))) (l16 : K.lookup f16 = some ⟨oc16, od16, .func (PySem.W.fnOf "check_rows" "check_rows" (defArgs s_check_rows) (defBody s_check_rows) (defScope s_check_rows) .none kV16 dc16 pm16 an16 cd16 ct16), sl16⟩) (c16 : PySem.W.codeIn K cd16 "check_rows" = true) (k16 : PySem.W.keepIn K (.ref f16) = true)
    {f17 : Addr} {od17 an17 : Option Addr} {sl17 : Array (Option Value)} {oc17 kV17 dc17 pm17 cd17 ct17 : Value}
    (a17 : PySem.W.nsIn K mainGlobals "check_prices" = some (some (.ref f17))) (l17 : K.lookup f17 = some ⟨oc17, od17, .func (PySem.W.fnOf "check_prices" "check_prices" (defArgs s_check_prices) (defBody s_check_prices) (defScope s_check_prices) .none kV17 dc17 pm17 an17 cd17 ct17), sl17⟩) (c17 : PySem.W.codeIn K cd17 "check_prices" = true) (k17 : PySem.W.keepIn K (.ref f17) = true)
    {f18 : Addr} {od18 an18 : Option Addr} {sl18 : Array (Option Value)} {oc18 kV18 dc18 pm18 cd18 ct18 : Value}
    (a18 : PySem.W.nsIn K mainGlobals "tally" = some (some (.ref f18))) (l18 : K.lookup f18 = some ⟨oc18, od18, .func (PySem.W.fnOf "tally" "tally" (defArgs s_tally) (defBody s_tally) (defScope s_tally) .none kV18 dc18 pm18 an18 cd18 ct18), sl18⟩) (c18 : PySem.W.codeIn K cd18 "tally" = true) (k18 : PySem.W.keepIn K (.ref f18) = true)
    {f19 : Addr} {od19 an19 : Option Addr} {sl19 : Array (Option Value)} {oc19 kV19 dc19 pm19 cd19 ct19 : Value}
    (a19 : PySem.W.nsIn K mainGlobals "size_of" = some (some (.ref f19))) (l19 : K.lookup f19 = some ⟨oc19, od19, .func (PySem.W.fnOf "size_of" "size_of" (defArgs s_size_of) (defBody s_size_of) (defScope s_size_of) .none kV19 dc19 pm19 an19 cd19 ct19), sl19⟩) (c19 : PySem.W.codeIn K cd19 "size_of" = true) (k19 : PySem.W.keepIn K (.ref f19) = true)
    {f20 : Addr} {od20 an20 : Option Addr} {sl20 : Array (Option Value)} {oc20 kV20 dc20 pm20 cd20 ct20 : Value}
    (a20 : PySem.W.nsIn K mainGlobals "split_runs" = some (some (.ref f20))) (l20 : K.lookup f20 = some ⟨oc20, od20, .func (PySem.W.fnOf "split_runs" "split_runs" (defArgs s_split_runs) (defBody s_split_runs) (defScope s_split_runs) .none kV20 dc20 pm20 an20 cd20 ct20), sl20⟩) (c20 : PySem.W.codeIn K cd20 "split_runs" = true) (k20 : PySem.W.keepIn K (.ref f20) = true)
    {f21 : Addr} {od21 an21 : Option Addr} {sl21 : Array (Option Value)} {oc21 kV21 dc21 pm21 cd21 ct21 : Value}
    (a21 : PySem.W.nsIn K mainGlobals "reduce_row" = some (some (.ref f21))) (l21 : K.lookup f21 = some ⟨oc21, od21, .func (PySem.W.fnOf "reduce_row" "reduce_row" (defArgs s_reduce_row) (defBody s_reduce_row) (defScope s_reduce_row) .none kV21 dc21 pm21 an21 cd21 ct21), sl21⟩) (c21 : PySem.W.codeIn K cd21 "reduce_row" = true) (k21 : PySem.W.keepIn K (.ref f21) = true)
    {f22 : Addr} {od22 an22 : Option Addr} {sl22 : Array (Option Value)} {oc22 kV22 dc22 pm22 cd22 ct22 : Value}
    (a22 : PySem.W.nsIn K mainGlobals "difference" = some (some (.ref f22))) (l22 : K.lookup f22 = some ⟨oc22, od22, .func (PySem.W.fnOf "difference" "difference" (defArgs s_difference) (defBody s_difference) (defScope s_difference) .none kV22 dc22 pm22 an22 cd22 ct22), sl22⟩) (c22 : PySem.W.codeIn K cd22 "difference" = true) (k22 : PySem.W.keepIn K (.ref f22) = true)
    {f23 : Addr} {od23 an23 : Option Addr} {sl23 : Array (Option Value)} {oc23 kV23 dc23 pm23 ct23 : Value} {cd23 : Value}
    (a23 : PySem.W.findIn K (.ref CC) "__init__" = some (some (.ref f23))) (i23 : PySem.W.isFn K (.ref f23) = true) (l23 : K.lookup f23 = some ⟨oc23, od23, .func (PySem.W.fnOf "__init__" "RowCounter.__init__" (defArgs s_RowCounter____init__) (defBody s_RowCounter____init__) (defScope s_RowCounter____init__) .none kV23 dc23 pm23 an23 cd23 ct23), sl23⟩) (c23 : PySem.W.codeIn K cd23 "RowCounter.__init__" = true) (k23 : PySem.W.keepIn K (.ref f23) = true)
    {f24 : Addr} {od24 an24 : Option Addr} {sl24 : Array (Option Value)} {oc24 kV24 dc24 pm24 cd24 ct24 : Value}
    (a24 : PySem.W.nsIn K mainGlobals "invert_row" = some (some (.ref f24))) (l24 : K.lookup f24 = some ⟨oc24, od24, .func (PySem.W.fnOf "invert_row" "invert_row" (defArgs s_invert_row) (defBody s_invert_row) (defScope s_invert_row) .none kV24 dc24 pm24 an24 cd24 ct24), sl24⟩) (c24 : PySem.W.codeIn K cd24 "invert_row" = true) (k24 : PySem.W.keepIn K (.ref f24) = true)
    {f25 : Addr} {od25 an25 : Option Addr} {sl25 : Array (Option Value)} {oc25 kV25 dc25 pm25 ct25 : Value} {cd25 : Value}
    (a25 : PySem.W.findIn K (.ref CC) "is_feasible" = some (some (.ref f25))) (i25 : PySem.W.isFn K (.ref f25) = true) (l25 : K.lookup f25 = some ⟨oc25, od25, .func (PySem.W.fnOf "is_feasible" "RowCounter.is_feasible" (defArgs s_RowCounter__is_feasible) (defBody s_RowCounter__is_feasible) (defScope s_RowCounter__is_feasible) .none kV25 dc25 pm25 an25 cd25 ct25), sl25⟩) (c25 : PySem.W.codeIn K cd25 "RowCounter.is_feasible" = true) (k25 : PySem.W.keepIn K (.ref f25) = true)
    {f26 : Addr} {od26 an26 : Option Addr} {sl26 : Array (Option Value)} {oc26 kV26 dc26 pm26 ct26 : Value} {cd26 : Value}
    (a26 : PySem.W.findIn K (.ref CC) "successors" = some (some (.ref f26))) (i26 : PySem.W.isFn K (.ref f26) = true) (l26 : K.lookup f26 = some ⟨oc26, od26, .func (PySem.W.fnOf "successors" "RowCounter.successors" (defArgs s_RowCounter__successors) (defBody s_RowCounter__successors) (defScope s_RowCounter__successors) .none kV26 dc26 pm26 an26 cd26 ct26), sl26⟩) (c26 : PySem.W.codeIn K cd26 "RowCounter.successors" = true) (k26 : PySem.W.keepIn K (.ref f26) = true)
    {f27 : Addr} {od27 an27 : Option Addr} {sl27 : Array (Option Value)} {oc27 kV27 dc27 pm27 ct27 : Value} {cd27 : Value}
    (a27 : PySem.W.findIn K (.ref CC) "ways" = some (some (.ref f27))) (i27 : PySem.W.isFn K (.ref f27) = true) (l27 : K.lookup f27 = some ⟨oc27, od27, .func (PySem.W.fnOf "ways" "RowCounter.ways" (defArgs s_RowCounter__ways) (defBody s_RowCounter__ways) (defScope s_RowCounter__ways) .none kV27 dc27 pm27 an27 cd27 ct27), sl27⟩) (c27 : PySem.W.codeIn K cd27 "RowCounter.ways" = true) (k27 : PySem.W.keepIn K (.ref f27) = true)
    {f28 : Addr} {od28 an28 : Option Addr} {sl28 : Array (Option Value)} {oc28 kV28 dc28 pm28 cd28 ct28 : Value}
    (a28 : PySem.W.nsIn K mainGlobals "check_enumerable" = some (some (.ref f28))) (l28 : K.lookup f28 = some ⟨oc28, od28, .func (PySem.W.fnOf "check_enumerable" "check_enumerable" (defArgs s_check_enumerable) (defBody s_check_enumerable) (defScope s_check_enumerable) .none kV28 dc28 pm28 an28 cd28 ct28), sl28⟩) (c28 : PySem.W.codeIn K cd28 "check_enumerable" = true) (k28 : PySem.W.keepIn K (.ref f28) = true)
    {f29 : Addr} {od29 an29 : Option Addr} {sl29 : Array (Option Value)} {oc29 kV29 dc29 pm29 cd29 ct29 : Value}
    (a29 : PySem.W.nsIn K mainGlobals "is_pack" = some (some (.ref f29))) (l29 : K.lookup f29 = some ⟨oc29, od29, .func (PySem.W.fnOf "is_pack" "is_pack" (defArgs s_is_pack) (defBody s_is_pack) (defScope s_is_pack) .none kV29 dc29 pm29 an29 cd29 ct29), sl29⟩) (c29 : PySem.W.codeIn K cd29 "is_pack" = true) (k29 : PySem.W.keepIn K (.ref f29) = true)
    {f30 : Addr} {od30 an30 : Option Addr} {sl30 : Array (Option Value)} {oc30 kV30 dc30 pm30 cd30 ct30 : Value}
    (a30 : PySem.W.nsIn K mainGlobals "reject_reason" = some (some (.ref f30))) (l30 : K.lookup f30 = some ⟨oc30, od30, .func (PySem.W.fnOf "reject_reason" "reject_reason" (defArgs s_reject_reason) (defBody s_reject_reason) (defScope s_reject_reason) .none kV30 dc30 pm30 an30 cd30 ct30), sl30⟩) (c30 : PySem.W.codeIn K cd30 "reject_reason" = true) (k30 : PySem.W.keepIn K (.ref f30) = true)
    {f31 : Addr} {od31 an31 : Option Addr} {sl31 : Array (Option Value)} {oc31 kV31 dc31 pm31 cd31 ct31 : Value}
    (a31 : PySem.W.nsIn K mainGlobals "list_moves" = some (some (.ref f31))) (l31 : K.lookup f31 = some ⟨oc31, od31, .func (PySem.W.fnOf "list_moves" "list_moves" (defArgs s_list_moves) (defBody s_list_moves) (defScope s_list_moves) .none kV31 dc31 pm31 an31 cd31 ct31), sl31⟩) (c31 : PySem.W.codeIn K cd31 "list_moves" = true) (k31 : PySem.W.keepIn K (.ref f31) = true)
    {f32 : Addr} {od32 an32 : Option Addr} {sl32 : Array (Option Value)} {oc32 kV32 dc32 pm32 cd32 ct32 : Value}
    (a32 : PySem.W.nsIn K mainGlobals "price_of" = some (some (.ref f32))) (l32 : K.lookup f32 = some ⟨oc32, od32, .func (PySem.W.fnOf "price_of" "price_of" (defArgs s_price_of) (defBody s_price_of) (defScope s_price_of) .none kV32 dc32 pm32 an32 cd32 ct32), sl32⟩) (c32 : PySem.W.codeIn K cd32 "price_of" = true) (k32 : PySem.W.keepIn K (.ref f32) = true)
    {f33 : Addr} {od33 an33 : Option Addr} {sl33 : Array (Option Value)} {oc33 kV33 dc33 pm33 cd33 ct33 : Value}
    (a33 : PySem.W.nsIn K mainGlobals "apply_move" = some (some (.ref f33))) (l33 : K.lookup f33 = some ⟨oc33, od33, .func (PySem.W.fnOf "apply_move" "apply_move" (defArgs s_apply_move) (defBody s_apply_move) (defScope s_apply_move) .none kV33 dc33 pm33 an33 cd33 ct33), sl33⟩) (c33 : PySem.W.codeIn K cd33 "apply_move" = true) (k33 : PySem.W.keepIn K (.ref f33) = true)
    {f34 : Addr} {od34 an34 : Option Addr} {sl34 : Array (Option Value)} {oc34 kV34 dc34 pm34 cd34 ct34 : Value}
    (a34 : PySem.W.nsIn K mainGlobals "distances_from" = some (some (.ref f34))) (l34 : K.lookup f34 = some ⟨oc34, od34, .func (PySem.W.fnOf "distances_from" "distances_from" (defArgs s_distances_from) (defBody s_distances_from) (defScope s_distances_from) .none kV34 dc34 pm34 an34 cd34 ct34), sl34⟩) (c34 : PySem.W.codeIn K cd34 "distances_from" = true) (k34 : PySem.W.keepIn K (.ref f34) = true)
    {f35 : Addr} {od35 an35 : Option Addr} {sl35 : Array (Option Value)} {oc35 kV35 dc35 pm35 cd35 ct35 : Value}
    (a35 : PySem.W.nsIn K mainGlobals "best_moves" = some (some (.ref f35))) (l35 : K.lookup f35 = some ⟨oc35, od35, .func (PySem.W.fnOf "best_moves" "best_moves" (defArgs s_best_moves) (defBody s_best_moves) (defScope s_best_moves) .none kV35 dc35 pm35 an35 cd35 ct35), sl35⟩) (c35 : PySem.W.codeIn K cd35 "best_moves" = true) (k35 : PySem.W.keepIn K (.ref f35) = true)
    {f36 : Addr} {od36 an36 : Option Addr} {sl36 : Array (Option Value)} {oc36 kV36 dc36 pm36 cd36 ct36 : Value}
    (a36 : PySem.W.nsIn K mainGlobals "cheapest_moves" = some (some (.ref f36))) (l36 : K.lookup f36 = some ⟨oc36, od36, .func (PySem.W.fnOf "cheapest_moves" "cheapest_moves" (defArgs s_cheapest_moves) (defBody s_cheapest_moves) (defScope s_cheapest_moves) .none kV36 dc36 pm36 an36 cd36 ct36), sl36⟩) (c36 : PySem.W.codeIn K cd36 "cheapest_moves" = true) (k36 : PySem.W.keepIn K (.ref f36) = true)
    {f37 : Addr} {od37 an37 : Option Addr} {sl37 : Array (Option Value)} {oc37 kV37 dc37 pm37 cd37 ct37 : Value}
    (a37 : PySem.W.nsIn K mainGlobals "min_moves" = some (some (.ref f37))) (l37 : K.lookup f37 = some ⟨oc37, od37, .func (PySem.W.fnOf "min_moves" "min_moves" (defArgs s_min_moves) (defBody s_min_moves) (defScope s_min_moves) .none kV37 dc37 pm37 an37 cd37 ct37), sl37⟩) (c37 : PySem.W.codeIn K cd37 "min_moves" = true) (k37 : PySem.W.keepIn K (.ref f37) = true)
    {f38 : Addr} {od38 an38 : Option Addr} {sl38 : Array (Option Value)} {oc38 kV38 dc38 pm38 cd38 ct38 : Value}
    (a38 : PySem.W.nsIn K mainGlobals "_law_equal" = some (some (.ref f38))) (l38 : K.lookup f38 = some ⟨oc38, od38, .func (PySem.W.fnOf "_law_equal" "_law_equal" (defArgs s__law_equal) (defBody s__law_equal) (defScope s__law_equal) .none kV38 dc38 pm38 an38 cd38 ct38), sl38⟩) (c38 : PySem.W.codeIn K cd38 "_law_equal" = true) (k38 : PySem.W.keepIn K (.ref f38) = true)
    {f39 : Addr} {od39 an39 : Option Addr} {sl39 : Array (Option Value)} {oc39 kV39 dc39 pm39 cd39 ct39 : Value}
    (a39 : PySem.W.nsIn K mainGlobals "law" = some (some (.ref f39))) (l39 : K.lookup f39 = some ⟨oc39, od39, .func (PySem.W.fnOf "law" "law" (defArgs s_law) (defBody s_law) (defScope s_law) .none kV39 dc39 pm39 an39 cd39 ct39), sl39⟩) (c39 : PySem.W.codeIn K cd39 "law" = true) (k39 : PySem.W.keepIn K (.ref f39) = true)
    {v_COLORS : Str} {t_COLORS : Tok} (n_COLORS : PySem.W.nsIn K mainGlobals "COLORS" = some (some (.str v_COLORS t_COLORS))) (e_COLORS : v_COLORS = S [97, 98, 99, 100, 101, 102])
    {v_MAX_SIZE : Int} {t_MAX_SIZE : Tok} (n_MAX_SIZE : PySem.W.nsIn K mainGlobals "MAX_SIZE" = some (some (.int v_MAX_SIZE t_MAX_SIZE))) (e_MAX_SIZE : v_MAX_SIZE = 4)
    {v_MAX_BEADS : Int} {t_MAX_BEADS : Tok} (n_MAX_BEADS : PySem.W.nsIn K mainGlobals "MAX_BEADS" = some (some (.int v_MAX_BEADS t_MAX_BEADS))) (e_MAX_BEADS : v_MAX_BEADS = 40)
    {v_MAX_PRICE : Int} {t_MAX_PRICE : Tok} (n_MAX_PRICE : PySem.W.nsIn K mainGlobals "MAX_PRICE" = some (some (.int v_MAX_PRICE t_MAX_PRICE))) (e_MAX_PRICE : v_MAX_PRICE = 99)
    {v_MAX_SHORT : Int} {t_MAX_SHORT : Tok} (n_MAX_SHORT : PySem.W.nsIn K mainGlobals "MAX_SHORT" = some (some (.int v_MAX_SHORT t_MAX_SHORT))) (e_MAX_SHORT : v_MAX_SHORT = 12)
    {v_MAX_REACHABLE : Int} {t_MAX_REACHABLE : Tok} (n_MAX_REACHABLE : PySem.W.nsIn K mainGlobals "MAX_REACHABLE" = some (some (.int v_MAX_REACHABLE t_MAX_REACHABLE))) (e_MAX_REACHABLE : v_MAX_REACHABLE = 2000)
    {v_LEFT : Str} {t_LEFT : Tok} (n_LEFT : PySem.W.nsIn K mainGlobals "LEFT" = some (some (.str v_LEFT t_LEFT))) (e_LEFT : v_LEFT = S [108, 101, 102, 116])
    {p_SIDES : Addr} {od_SIDES : Option Addr} {sl_SIDES : Array (Option Value)} {nn_SIDES : Nat} {v0_SIDES : Str} {t0_SIDES : Tok} {v1_SIDES : Str} {t1_SIDES : Tok} (n_SIDES : PySem.W.nsIn K mainGlobals "SIDES" = some (some (.ref p_SIDES))) (q_SIDES : K.lookup p_SIDES = some ⟨.type "tuple", od_SIDES, .seq #[.str v0_SIDES t0_SIDES, .str v1_SIDES t1_SIDES] nn_SIDES, sl_SIDES⟩) (e0_SIDES : v0_SIDES = S [108, 101, 102, 116]) (e1_SIDES : v1_SIDES = S [114, 105, 103, 104, 116])
    (z_len : PySem.W.nsIn K mainGlobals "len" = some none)
    (z_range : PySem.W.nsIn K mainGlobals "range" = some none)
    (z_enumerate : PySem.W.nsIn K mainGlobals "enumerate" = some none)
    (z_isinstance : PySem.W.nsIn K mainGlobals "isinstance" = some none)
    (z_tuple : PySem.W.nsIn K mainGlobals "tuple" = some none)
    (z_list : PySem.W.nsIn K mainGlobals "list" = some none)
    (z_abs : PySem.W.nsIn K mainGlobals "abs" = some none)
    (z_all : PySem.W.nsIn K mainGlobals "all" = some none)
    (z_zip : PySem.W.nsIn K mainGlobals "zip" = some none)
    (z_sum : PySem.W.nsIn K mainGlobals "sum" = some none)
    (z_int : PySem.W.nsIn K mainGlobals "int" = some none)
    (z_min : PySem.W.nsIn K mainGlobals "min" = some none)
    (z_max : PySem.W.nsIn K mainGlobals "max" = some none)
    (z_sorted : PySem.W.nsIn K mainGlobals "sorted" = some none)
    (z_set : PySem.W.nsIn K mainGlobals "set" = some none)
    (z_dict : PySem.W.nsIn K mainGlobals "dict" = some none)
    (z_str : PySem.W.nsIn K mainGlobals "str" = some none)
    (z_any : PySem.W.nsIn K mainGlobals "any" = some none)
    (z_bool : PySem.W.nsIn K mainGlobals "bool" = some none) :
    ∃ fd : FuncData, (∀ (s : Shared) (v : Value), BindsTo s fd ⟨[v], []⟩ [("_law_script", v)]) ∧ ∀ base : Heap, K.In base → base.Ns mainGlobals mg → FnOk l.prog w K mg base CX0 24 fa fd ["_law_script"] (sp_law K) := by
  have e := hfa.symm.trans (PySem.W.mg_of X G a39)
  cases e
  have B : Bi mg := ⟨PySem.W.mg_none_of X G z_len, PySem.W.mg_none_of X G z_range, PySem.W.mg_none_of X G z_enumerate, PySem.W.mg_none_of X G z_isinstance, PySem.W.mg_none_of X G z_tuple, PySem.W.mg_none_of X G z_list, PySem.W.mg_none_of X G z_abs, PySem.W.mg_none_of X G z_all, PySem.W.mg_none_of X G z_zip, PySem.W.mg_none_of X G z_sum, PySem.W.mg_none_of X G z_int, PySem.W.mg_none_of X G z_min, PySem.W.mg_none_of X G z_max, PySem.W.mg_none_of X G z_sorted, PySem.W.mg_none_of X G z_set, PySem.W.mg_none_of X G z_dict, PySem.W.mg_none_of X G z_str, PySem.W.mg_none_of X G z_any, PySem.W.mg_none_of X G z_bool⟩
  have m_COLORS : ∃ t, mg "COLORS" = some (.str (S [97, 98, 99, 100, 101, 102]) t) := ⟨t_COLORS, by rw [← e_COLORS]; exact PySem.W.mg_of X G n_COLORS⟩
  have m_MAX_SIZE : ∃ t, mg "MAX_SIZE" = some (.int 4 t) := ⟨t_MAX_SIZE, by rw [← e_MAX_SIZE]; exact PySem.W.mg_of X G n_MAX_SIZE⟩
  have m_MAX_BEADS : ∃ t, mg "MAX_BEADS" = some (.int 40 t) := ⟨t_MAX_BEADS, by rw [← e_MAX_BEADS]; exact PySem.W.mg_of X G n_MAX_BEADS⟩
  have m_MAX_PRICE : ∃ t, mg "MAX_PRICE" = some (.int 99 t) := ⟨t_MAX_PRICE, by rw [← e_MAX_PRICE]; exact PySem.W.mg_of X G n_MAX_PRICE⟩
  have m_MAX_SHORT : ∃ t, mg "MAX_SHORT" = some (.int 12 t) := ⟨t_MAX_SHORT, by rw [← e_MAX_SHORT]; exact PySem.W.mg_of X G n_MAX_SHORT⟩
  have m_MAX_REACHABLE : ∃ t, mg "MAX_REACHABLE" = some (.int 2000 t) := ⟨t_MAX_REACHABLE, by rw [← e_MAX_REACHABLE]; exact PySem.W.mg_of X G n_MAX_REACHABLE⟩
  have m_LEFT : ∃ t, mg "LEFT" = some (.str (S [108, 101, 102, 116]) t) := ⟨t_LEFT, by rw [← e_LEFT]; exact PySem.W.mg_of X G n_LEFT⟩
  have m_SIDES : mg "SIDES" = some (.ref p_SIDES) := PySem.W.mg_of X G n_SIDES
  have k_SIDES : ∀ H, SqT K H p_SIDES [.str (S [108, 101, 102, 116]), .str (S [114, 105, 103, 104, 116])] := fun H => .inr ⟨_, _, _, q_SIDES, rfl, rfl, by show 2 ≤ sizeLine; decide, .cons ⟨t0_SIDES, by rw [← e0_SIDES]⟩ (.cons ⟨t1_SIDES, by rw [← e1_SIDES]⟩ (.nil))⟩
  have T : CtrT K CC := ⟨⟨q1_RowCounter, q2_RowCounter, q3_RowCounter, q4_RowCounter⟩, na0_RowCounter, na1_RowCounter, na2_RowCounter, na3_RowCounter⟩
  have F0 := fun_mk (st := s__law_random) l0 c0 k0
  have b0 := F0.binds (ps := ["_law_script", "_law_salt"]) fun _ _ _ _ _ _ us hl => match us, hl with | [_, _], _ => rfl
  have F1 := fun_mk (st := s__law_below) l1 c1 k1
  have b1 := F1.binds (ps := ["_law_d", "_law_limit"]) fun _ _ _ _ _ _ us hl => match us, hl with | [_, _], _ => rfl
  have F2 := fun_mk (st := s__law_sizes) l2 c2 k2
  have b2 := F2.binds (ps := ["_law_d", "_law_limit"]) fun _ _ _ _ _ _ us hl => match us, hl with | [_, _], _ => rfl
  have F3 := fun_mk (st := s__law_row) l3 c3 k3
  have b3 := F3.binds (ps := ["_law_d", "_law_sizes_here", "_law_limit"]) fun _ _ _ _ _ _ us hl => match us, hl with | [_, _, _], _ => rfl
  have F4 := fun_mk (st := s__law_small) l4 c4 k4
  have b4 := F4.binds (ps := ["_law_d"]) fun _ _ _ _ _ _ us hl => match us, hl with | [_], _ => rfl
  have F5 := fun_mk (st := s__law_prices) l5 c5 k5
  have b5 := F5.binds (ps := ["_law_d", "_law_sizes_here"]) fun _ _ _ _ _ _ us hl => match us, hl with | [_, _], _ => rfl
  have F6 := fun_mk (st := s__law_size) l6 c6 k6
  have b6 := F6.binds (ps := ["_law_sizes_here", "_law_bead"]) fun _ _ _ _ _ _ us hl => match us, hl with | [_, _], _ => rfl
  have F7 := fun_mk (st := s__law_pack) l7 c7 k7
  have b7 := F7.binds (ps := ["_law_sizes_here", "_law_row_here", "_law_at"]) fun _ _ _ _ _ _ us hl => match us, hl with | [_, _, _], _ => rfl
  have F8 := fun_mk (st := s__law_reason) l8 c8 k8
  have b8 := F8.binds (ps := ["_law_sizes_here", "_law_row_here", "_law_move"]) fun _ _ _ _ _ _ us hl => match us, hl with | [_, _, _], _ => rfl
  have F9 := fun_mk (st := s__law_moves) l9 c9 k9
  have b9 := F9.binds (ps := ["_law_sizes_here", "_law_row_here"]) fun _ _ _ _ _ _ us hl => match us, hl with | [_, _], _ => rfl
  have F10 := fun_mk (st := s__law_moved) l10 c10 k10
  have b10 := F10.binds (ps := ["_law_sizes_here", "_law_row_here", "_law_move"]) fun _ _ _ _ _ _ us hl => match us, hl with | [_, _, _], _ => rfl
  have F11 := fun_mk (st := s__law_least) l11 c11 k11
  have b11 := F11.binds (ps := ["_law_sizes_here", "_law_row_here", "_law_prices_here"]) fun _ _ _ _ _ _ us hl => match us, hl with | [_, _, _], _ => rfl
  have F12 := fun_mk (st := s_is_int_in) l12 c12 k12
  have b12 := F12.binds (ps := ["value", "low", "high"]) fun _ _ _ _ _ _ us hl => match us, hl with | [_, _, _], _ => rfl
  have F13 := fun_mk (st := s_check_sizes) l13 c13 k13
  have b13 := F13.binds (ps := ["sizes"]) fun _ _ _ _ _ _ us hl => match us, hl with | [_], _ => rfl
  have F14 := fun_mk (st := s_colors_of) l14 c14 k14
  have b14 := F14.binds (ps := ["sizes"]) fun _ _ _ _ _ _ us hl => match us, hl with | [_], _ => rfl
  have F15 := fun_mk (st := s_check_row) l15 c15 k15
  have b15 := F15.binds (ps := ["sizes", "row"]) fun _ _ _ _ _ _ us hl => match us, hl with | [_, _], _ => rfl
  have F16 := fun_mk (st := s_check_rows) l16 c16 k16
  have b16 := F16.binds (ps := ["sizes", "first", "second"]) fun _ _ _ _ _ _ us hl => match us, hl with | [_, _, _], _ => rfl
  have F17 := fun_mk (st := s_check_prices) l17 c17 k17
  have b17 := F17.binds (ps := ["sizes", "prices"]) fun _ _ _ _ _ _ us hl => match us, hl with | [_, _], _ => rfl
  have F18 := fun_mk (st := s_tally) l18 c18 k18
  have b18 := F18.binds (ps := ["sizes", "row"]) fun _ _ _ _ _ _ us hl => match us, hl with | [_, _], _ => rfl
  have F19 := fun_mk (st := s_size_of) l19 c19 k19
  have b19 := F19.binds (ps := ["sizes", "color"]) fun _ _ _ _ _ _ us hl => match us, hl with | [_, _], _ => rfl
  have F20 := fun_mk (st := s_split_runs) l20 c20 k20
  have b20 := F20.binds (ps := ["sizes", "row"]) fun _ _ _ _ _ _ us hl => match us, hl with | [_, _], _ => rfl
  have F21 := fun_mk (st := s_reduce_row) l21 c21 k21
  have b21 := F21.binds (ps := ["sizes", "row"]) fun _ _ _ _ _ _ us hl => match us, hl with | [_, _], _ => rfl
  have F22 := fun_mk (st := s_difference) l22 c22 k22
  have b22 := F22.binds (ps := ["sizes", "first", "second"]) fun _ _ _ _ _ _ us hl => match us, hl with | [_, _, _], _ => rfl
  have F23 := fun_mk (st := s_RowCounter____init__) l23 c23 k23
  have b23 := F23.binds (ps := ["self", "sizes", "row"]) fun _ _ _ _ _ _ us hl => match us, hl with | [_, _, _], _ => rfl
  have F24 := fun_mk (st := s_invert_row) l24 c24 k24
  have b24 := F24.binds (ps := ["sizes", "row"]) fun _ _ _ _ _ _ us hl => match us, hl with | [_, _], _ => rfl
  have F25 := fun_mk (st := s_RowCounter__is_feasible) l25 c25 k25
  have b25 := F25.binds (ps := ["self", "state"]) fun _ _ _ _ _ _ us hl => match us, hl with | [_, _], _ => rfl
  have F26 := fun_mk (st := s_RowCounter__successors) l26 c26 k26
  have b26 := F26.binds (ps := ["self", "state"]) fun _ _ _ _ _ _ us hl => match us, hl with | [_, _], _ => rfl
  have F27 := fun_mk (st := s_RowCounter__ways) l27 c27 k27
  have b27 := F27.binds (ps := ["self", "state"]) fun _ _ _ _ _ _ us hl => match us, hl with | [_, _], _ => rfl
  have F28 := fun_mk (st := s_check_enumerable) l28 c28 k28
  have b28 := F28.binds (ps := ["sizes", "row"]) fun _ _ _ _ _ _ us hl => match us, hl with | [_, _], _ => rfl
  have F29 := fun_mk (st := s_is_pack) l29 c29 k29
  have b29 := F29.binds (ps := ["sizes", "row", "start"]) fun _ _ _ _ _ _ us hl => match us, hl with | [_, _, _], _ => rfl
  have F30 := fun_mk (st := s_reject_reason) l30 c30 k30
  have b30 := F30.binds (ps := ["sizes", "row", "move"]) fun _ _ _ _ _ _ us hl => match us, hl with | [_, _, _], _ => rfl
  have F31 := fun_mk (st := s_list_moves) l31 c31 k31
  have b31 := F31.binds (ps := ["sizes", "row"]) fun _ _ _ _ _ _ us hl => match us, hl with | [_, _], _ => rfl
  have F32 := fun_mk (st := s_price_of) l32 c32 k32
  have b32 := F32.binds (ps := ["prices", "row", "move"]) fun _ _ _ _ _ _ us hl => match us, hl with | [_, _, _], _ => rfl
  have F33 := fun_mk (st := s_apply_move) l33 c33 k33
  have b33 := F33.binds (ps := ["sizes", "row", "move"]) fun _ _ _ _ _ _ us hl => match us, hl with | [_, _, _], _ => rfl
  have F34 := fun_mk (st := s_distances_from) l34 c34 k34
  have b34 := F34.binds (ps := ["sizes", "row", "prices"]) fun _ _ _ _ _ _ us hl => match us, hl with | [_, _, _], _ => rfl
  have F35 := fun_mk (st := s_best_moves) l35 c35 k35
  have b35 := F35.binds (ps := ["sizes", "one", "other", "prices"]) fun _ _ _ _ _ _ us hl => match us, hl with | [_, _, _, _], _ => rfl
  have F36 := fun_mk (st := s_cheapest_moves) l36 c36 k36
  have b36 := F36.binds (ps := ["sizes", "one", "other", "prices"]) fun _ _ _ _ _ _ us hl => match us, hl with | [_, _, _, _], _ => rfl
  have F37 := fun_mk (st := s_min_moves) l37 c37 k37
  have b37 := F37.binds (ps := ["sizes", "one", "other"]) fun _ _ _ _ _ _ us hl => match us, hl with | [_, _, _], _ => rfl
  have F38 := fun_mk (st := s__law_equal) l38 c38 k38
  have b38 := F38.binds (ps := ["_law_actual", "_law_expected"]) fun _ _ _ _ _ _ us hl => match us, hl with | [_, _], _ => rfl
  have F39 := fun_mk (st := s_law) l39 c39 k39
  have b39 := F39.binds (ps := ["_law_script"]) fun _ _ _ _ _ _ us hl => match us, hl with | [_], _ => rfl
  refine ⟨PySem.W.fnOf "law" "law" (defArgs s_law) (defBody s_law) (defScope s_law) .none kV39 dc39 pm39 an39 cd39 ct39, fun s v => .of_eq rfl, fun base _ _ => ?_⟩
  have C__law_random : Cal l.prog w K mg base CX0 1 "_law_random" ["_law_script", "_law_salt"] (sp__law_random K) := Cal.mk' F0 (PySem.W.mg_of X G a0) b0 (ok__law_random (P := l.prog) (w := w) (K := K) (mg := mg) (base := base) (F := F0) (B := B))
  have C__law_below : Cal l.prog w K mg base CX0 1 "_law_below" ["_law_d", "_law_limit"] (sp__law_below K) := Cal.mk' F1 (PySem.W.mg_of X G a1) b1 (ok__law_below (P := l.prog) (w := w) (K := K) (mg := mg) (base := base) (F := F1) (B := B))
  have C__law_sizes : Cal l.prog w K mg base CX0 2 "_law_sizes" ["_law_d", "_law_limit"] (sp__law_sizes K) := Cal.mk' F2 (PySem.W.mg_of X G a2) b2 (ok__law_sizes (P := l.prog) (w := w) (K := K) (mg := mg) (base := base) (F := F2) (B := B) (C__law_below := C__law_below))
  have C__law_row : Cal l.prog w K mg base CX0 2 "_law_row" ["_law_d", "_law_sizes_here", "_law_limit"] (sp__law_row K) := Cal.mk' F3 (PySem.W.mg_of X G a3) b3 (ok__law_row (P := l.prog) (w := w) (K := K) (mg := mg) (base := base) (F := F3) (B := B) (C__law_below := C__law_below))
  have C__law_small : Cal l.prog w K mg base CX0 3 "_law_small" ["_law_d"] (sp__law_small K) := Cal.mk' F4 (PySem.W.mg_of X G a4) b4 (ok__law_small (P := l.prog) (w := w) (K := K) (mg := mg) (base := base) (F := F4) (B := B) (C__law_sizes := C__law_sizes) (C__law_row := C__law_row))
  have C__law_prices : Cal l.prog w K mg base CX0 2 "_law_prices" ["_law_d", "_law_sizes_here"] (sp__law_prices K) := Cal.mk' F5 (PySem.W.mg_of X G a5) b5 (ok__law_prices (P := l.prog) (w := w) (K := K) (mg := mg) (base := base) (F := F5) (B := B) (C__law_below := C__law_below))
  have C__law_size : Cal l.prog w K mg base CX0 1 "_law_size" ["_law_sizes_here", "_law_bead"] (sp__law_size K) := Cal.mk' F6 (PySem.W.mg_of X G a6) b6 (ok__law_size (P := l.prog) (w := w) (K := K) (mg := mg) (base := base) (F := F6) (B := B))
  have C__law_pack : Cal l.prog w K mg base CX0 2 "_law_pack" ["_law_sizes_here", "_law_row_here", "_law_at"] (sp__law_pack K) := Cal.mk' F7 (PySem.W.mg_of X G a7) b7 (ok__law_pack (P := l.prog) (w := w) (K := K) (mg := mg) (base := base) (F := F7) (B := B) (C__law_size := C__law_size))
  have C__law_reason : Cal l.prog w K mg base CX0 3 "_law_reason" ["_law_sizes_here", "_law_row_here", "_law_move"] (sp__law_reason K) := Cal.mk' F8 (PySem.W.mg_of X G a8) b8 (ok__law_reason (P := l.prog) (w := w) (K := K) (mg := mg) (base := base) (F := F8) (B := B) (C__law_pack := C__law_pack) (C__law_size := C__law_size))
  have C__law_moves : Cal l.prog w K mg base CX0 4 "_law_moves" ["_law_sizes_here", "_law_row_here"] (sp__law_moves K) := Cal.mk' F9 (PySem.W.mg_of X G a9) b9 (ok__law_moves (P := l.prog) (w := w) (K := K) (mg := mg) (base := base) (F := F9) (B := B) (C__law_reason := C__law_reason))
  have C__law_moved : Cal l.prog w K mg base CX0 2 "_law_moved" ["_law_sizes_here", "_law_row_here", "_law_move"] (sp__law_moved K) := Cal.mk' F10 (PySem.W.mg_of X G a10) b10 (ok__law_moved (P := l.prog) (w := w) (K := K) (mg := mg) (base := base) (F := F10) (B := B) (C__law_size := C__law_size))
  have C__law_least : Cal l.prog w K mg base CX0 5 "_law_least" ["_law_sizes_here", "_law_row_here", "_law_prices_here"] (sp__law_least K) := Cal.mk' F11 (PySem.W.mg_of X G a11) b11 (ok__law_least (P := l.prog) (w := w) (K := K) (mg := mg) (base := base) (F := F11) (B := B) (C__law_moves := C__law_moves) (C__law_moved := C__law_moved))
  have C_is_int_in : Cal l.prog w K mg base CX0 1 "is_int_in" ["value", "low", "high"] (sp_is_int_in K) := Cal.mk' F12 (PySem.W.mg_of X G a12) b12 (ok_is_int_in (P := l.prog) (w := w) (K := K) (mg := mg) (base := base) (F := F12) (B := B))
  have C_check_sizes : Cal l.prog w K mg base CX0 2 "check_sizes" ["sizes"] (sp_check_sizes K) := Cal.mk' F13 (PySem.W.mg_of X G a13) b13 (ok_check_sizes (P := l.prog) (w := w) (K := K) (mg := mg) (base := base) (F := F13) (B := B) (C_is_int_in := C_is_int_in) (m_COLORS := m_COLORS) (m_MAX_SIZE := m_MAX_SIZE))
  have C_colors_of : Cal l.prog w K mg base CX0 1 "colors_of" ["sizes"] (sp_colors_of K) := Cal.mk' F14 (PySem.W.mg_of X G a14) b14 (ok_colors_of (P := l.prog) (w := w) (K := K) (mg := mg) (base := base) (F := F14) (B := B) (m_COLORS := m_COLORS))
  have C_check_row : Cal l.prog w K mg base CX0 2 "check_row" ["sizes", "row"] (sp_check_row K) := Cal.mk' F15 (PySem.W.mg_of X G a15) b15 (ok_check_row (P := l.prog) (w := w) (K := K) (mg := mg) (base := base) (F := F15) (B := B) (C_colors_of := C_colors_of) (m_MAX_BEADS := m_MAX_BEADS))
  have C_check_rows : Cal l.prog w K mg base CX0 3 "check_rows" ["sizes", "first", "second"] (sp_check_rows K) := Cal.mk' F16 (PySem.W.mg_of X G a16) b16 (ok_check_rows (P := l.prog) (w := w) (K := K) (mg := mg) (base := base) (F := F16) (B := B) (C_check_sizes := C_check_sizes) (C_check_row := C_check_row))
  have C_check_prices : Cal l.prog w K mg base CX0 2 "check_prices" ["sizes", "prices"] (sp_check_prices K) := Cal.mk' F17 (PySem.W.mg_of X G a17) b17 (ok_check_prices (P := l.prog) (w := w) (K := K) (mg := mg) (base := base) (F := F17) (B := B) (C_is_int_in := C_is_int_in) (m_MAX_PRICE := m_MAX_PRICE))
  have C_tally : Cal l.prog w K mg base CX0 2 "tally" ["sizes", "row"] (sp_tally K) := Cal.mk' F18 (PySem.W.mg_of X G a18) b18 (ok_tally (P := l.prog) (w := w) (K := K) (mg := mg) (base := base) (F := F18) (B := B) (C_colors_of := C_colors_of))
  have C_size_of : Cal l.prog w K mg base CX0 1 "size_of" ["sizes", "color"] (sp_size_of K) := Cal.mk' F19 (PySem.W.mg_of X G a19) b19 (ok_size_of (P := l.prog) (w := w) (K := K) (mg := mg) (base := base) (F := F19) (B := B) (m_COLORS := m_COLORS))
  have C_split_runs : Cal l.prog w K mg base CX0 2 "split_runs" ["sizes", "row"] (sp_split_runs K) := Cal.mk' F20 (PySem.W.mg_of X G a20) b20 (ok_split_runs (P := l.prog) (w := w) (K := K) (mg := mg) (base := base) (F := F20) (B := B) (C_size_of := C_size_of))
  have C_reduce_row : Cal l.prog w K mg base CX0 3 "reduce_row" ["sizes", "row"] (sp_reduce_row K) := Cal.mk' F21 (PySem.W.mg_of X G a21) b21 (ok_reduce_row (P := l.prog) (w := w) (K := K) (mg := mg) (base := base) (F := F21) (B := B) (C_split_runs := C_split_runs))
  have C_difference : Cal l.prog w K mg base CX0 4 "difference" ["sizes", "first", "second"] (sp_difference K) := Cal.mk' F22 (PySem.W.mg_of X G a22) b22 (ok_difference (P := l.prog) (w := w) (K := K) (mg := mg) (base := base) (F := F22) (B := B) (C_tally := C_tally) (C_reduce_row := C_reduce_row) (m_COLORS := m_COLORS))
  have C_RowCounter____init__ : KCal l.prog w K mg base CX0 4 "RowCounter" CC ["self", "sizes", "row"] (sp_RowCounter____init__ l.prog w CC K) := ⟨f23, _, ⟨q5_RowCounter, a23, i23, q6_RowCounter⟩, PySem.W.mg_of X G q0_RowCounter, b23, ok_RowCounter____init__ (P := l.prog) (w := w) (K := K) (mg := mg) (base := base) (F := F23) (B := B) (C_reduce_row := C_reduce_row) (C_tally := C_tally) (T := T)⟩
  have C_invert_row : Cal l.prog w K mg base CX0 3 "invert_row" ["sizes", "row"] (sp_invert_row K) := Cal.mk' F24 (PySem.W.mg_of X G a24) b24 (ok_invert_row (P := l.prog) (w := w) (K := K) (mg := mg) (base := base) (F := F24) (B := B) (C_split_runs := C_split_runs) (C_size_of := C_size_of))
  have C_RowCounter__is_feasible : MCal l.prog w K mg base CX0 4 CC "is_feasible" ["self", "state"] (sp_RowCounter__is_feasible l.prog w CC K) := ⟨T.cl, f25, _, ⟨a25, i25, k25⟩, b25, ok_RowCounter__is_feasible (P := l.prog) (w := w) (K := K) (mg := mg) (base := base) (F := F25) (B := B) (C_tally := C_tally) (C_reduce_row := C_reduce_row) (C_invert_row := C_invert_row) (T := T)⟩
  have C_RowCounter__successors : MCal l.prog w K mg base CX0 4 CC "successors" ["self", "state"] (sp_RowCounter__successors l.prog w CC K) := ⟨T.cl, f26, _, ⟨a26, i26, k26⟩, b26, ok_RowCounter__successors (P := l.prog) (w := w) (K := K) (mg := mg) (base := base) (F := F26) (B := B) (C_colors_of := C_colors_of) (C_reduce_row := C_reduce_row) (T := T)⟩
  have C_RowCounter__ways : MCal l.prog w K mg base CX0 20 CC "ways" ["self", "state"] (sp_RowCounter__ways l.prog w CC K) := ⟨T.cl, f27, _, ⟨a27, i27, k27⟩, b27, ok_RowCounter__ways (P := l.prog) (w := w) (K := K) (mg := mg) (base := base) (F := F27) (B := B) (C_RowCounter__is_feasible := C_RowCounter__is_feasible) (C_RowCounter__successors := C_RowCounter__successors) (T := T) (MT := ⟨a27, i27, k27⟩) (Bd := b27)⟩
  have C_check_enumerable : Cal l.prog w K mg base CX0 21 "check_enumerable" ["sizes", "row"] (sp_check_enumerable K) := Cal.mk' F28 (PySem.W.mg_of X G a28) b28 (ok_check_enumerable (P := l.prog) (w := w) (K := K) (mg := mg) (base := base) (F := F28) (B := B) (C_RowCounter____init__ := C_RowCounter____init__) (C_RowCounter__ways := C_RowCounter__ways) (m_MAX_SHORT := m_MAX_SHORT) (m_MAX_REACHABLE := m_MAX_REACHABLE) (T := T))
  have C_is_pack : Cal l.prog w K mg base CX0 2 "is_pack" ["sizes", "row", "start"] (sp_is_pack K) := Cal.mk' F29 (PySem.W.mg_of X G a29) b29 (ok_is_pack (P := l.prog) (w := w) (K := K) (mg := mg) (base := base) (F := F29) (B := B) (C_size_of := C_size_of))
  have C_reject_reason : Cal l.prog w K mg base CX0 3 "reject_reason" ["sizes", "row", "move"] (sp_reject_reason K) := Cal.mk' F30 (PySem.W.mg_of X G a30) b30 (ok_reject_reason (P := l.prog) (w := w) (K := K) (mg := mg) (base := base) (F := F30) (B := B) (C_is_int_in := C_is_int_in) (C_is_pack := C_is_pack) (C_size_of := C_size_of) (m_LEFT := m_LEFT) (m_SIDES := m_SIDES) (k_SIDES := k_SIDES))
  have C_list_moves : Cal l.prog w K mg base CX0 4 "list_moves" ["sizes", "row"] (sp_list_moves K) := Cal.mk' F31 (PySem.W.mg_of X G a31) b31 (ok_list_moves (P := l.prog) (w := w) (K := K) (mg := mg) (base := base) (F := F31) (B := B) (C_reject_reason := C_reject_reason) (m_SIDES := m_SIDES) (k_SIDES := k_SIDES))
  have C_price_of : Cal l.prog w K mg base CX0 1 "price_of" ["prices", "row", "move"] (sp_price_of K) := Cal.mk' F32 (PySem.W.mg_of X G a32) b32 (ok_price_of (P := l.prog) (w := w) (K := K) (mg := mg) (base := base) (F := F32) (B := B) (m_COLORS := m_COLORS))
  have C_apply_move : Cal l.prog w K mg base CX0 2 "apply_move" ["sizes", "row", "move"] (sp_apply_move K) := Cal.mk' F33 (PySem.W.mg_of X G a33) b33 (ok_apply_move (P := l.prog) (w := w) (K := K) (mg := mg) (base := base) (F := F33) (B := B) (C_size_of := C_size_of) (m_LEFT := m_LEFT))
  have C_distances_from : Cal l.prog w K mg base CX0 5 "distances_from" ["sizes", "row", "prices"] (sp_distances_from K) := Cal.mk' F34 (PySem.W.mg_of X G a34) b34 (ok_distances_from (P := l.prog) (w := w) (K := K) (mg := mg) (base := base) (F := F34) (B := B) (C_list_moves := C_list_moves) (C_price_of := C_price_of) (C_apply_move := C_apply_move))
  have C_best_moves : Cal l.prog w K mg base CX0 22 "best_moves" ["sizes", "one", "other", "prices"] (sp_best_moves K) := Cal.mk' F35 (PySem.W.mg_of X G a35) b35 (ok_best_moves (P := l.prog) (w := w) (K := K) (mg := mg) (base := base) (F := F35) (B := B) (C_difference := C_difference) (C_check_enumerable := C_check_enumerable) (C_distances_from := C_distances_from))
  have C_cheapest_moves : Cal l.prog w K mg base CX0 23 "cheapest_moves" ["sizes", "one", "other", "prices"] (sp_cheapest_moves K) := Cal.mk' F36 (PySem.W.mg_of X G a36) b36 (ok_cheapest_moves (P := l.prog) (w := w) (K := K) (mg := mg) (base := base) (F := F36) (B := B) (C_check_rows := C_check_rows) (C_check_prices := C_check_prices) (C_best_moves := C_best_moves))
  have C_min_moves : Cal l.prog w K mg base CX0 23 "min_moves" ["sizes", "one", "other"] (sp_min_moves K) := Cal.mk' F37 (PySem.W.mg_of X G a37) b37 (ok_min_moves (P := l.prog) (w := w) (K := K) (mg := mg) (base := base) (F := F37) (B := B) (C_check_rows := C_check_rows) (C_best_moves := C_best_moves))
  have C__law_equal : Cal l.prog w K mg base CX0 5 "_law_equal" ["_law_actual", "_law_expected"] (sp__law_equal K) := Cal.mk' F38 (PySem.W.mg_of X G a38) b38 (ok__law_equal (P := l.prog) (w := w) (K := K) (mg := mg) (base := base) (F := F38) (B := B) (hm := PySem.W.mg_of X G a38) (hb := b38))
  exact ok_law (P := l.prog) (w := w) (K := K) (mg := mg) (base := base) (F := F39) (B := B) (C__law_random := C__law_random) (C__law_small := C__law_small) (C__law_prices := C__law_prices) (C__law_least := C__law_least) (C__law_below := C__law_below) (C_cheapest_moves := C_cheapest_moves) (C_min_moves := C_min_moves) (C__law_equal := C__law_equal) (C__law_reason := C__law_reason) (C__law_moved := C__law_moved)
end Pk
open PySem PySem.W PyProof.Rows
set_option maxRecDepth 100000 in
set_option maxHeartbeats 0 in
theorem PySem.Challenge.cw_packrow_k56_cheapest_by_search_holds : PySem.Challenge.rw_packrow_k56_cheapest_by_search.Holds := by
  w_on; o_law; k_head; (case hw => w_witness2)
  k_fill
  refine L2.walk_of (l := PySem.Challenge.rw_packrow_k56_cheapest_by_search) (n := 63) (k := 24) (x := "_law_script") (CX := fun _ => L2.CX0) (sp := fun w => Pk.sp_law _) rfl (by decide) rfl ⟨rfl, by decide, by decide⟩ (fun w h Y => PySem.W.kIn_of Y) ?F (fun _ _ a ns hl _ hS => ⟨a, ns, rfl, hS, hl, fun _ => rfl⟩) (fun _ _ _ _ _ h => h)
  case F =>
    intro w mg fa h KX G hmg
    refine' Pk.all_mk KX G hmg ?q0_RowCounter ?q1_RowCounter ?q2_RowCounter ?q3_RowCounter ?q4_RowCounter ?q5_RowCounter ?q6_RowCounter ?na0_RowCounter ?na1_RowCounter ?na2_RowCounter ?na3_RowCounter ?a0 ?l0 ?c0 ?k0 ?a1 ?l1 ?c1 ?k1 ?a2 ?l2 ?c2 ?k2 ?a3 ?l3 ?c3 ?k3 ?a4 ?l4 ?c4 ?k4 ?a5 ?l5 ?c5 ?k5 ?a6 ?l6 ?c6 ?k6 ?a7 ?l7 ?c7 ?k7 ?a8 ?l8 ?c8 ?k8 ?a9 ?l9 ?c9 ?k9 ?a10 ?l10 ?c10 ?k10 ?a11 ?l11 ?c11 ?k11 ?a12 ?l12 ?c12 ?k12 ?a13 ?l13 ?c13 ?k13 ?a14 ?l14 ?c14 ?k14 ?a15 ?l15 ?c15 ?k15 ?a16 ?l16 ?c16 ?k16 ?a17 ?l17 ?c17 ?k17 ?a18 ?l18 ?c18 ?k18 ?a19 ?l19 ?c19 ?k19 ?a20 ?l20 ?c20 ?k20 ?a21 ?l21 ?c21 ?k21 ?a22 ?l22 ?c22 ?k22 ?a23 ?i23 ?l23 ?c23 ?k23 ?a24 ?l24 ?c24 ?k24 ?a25 ?i25 ?l25 ?c25 ?k25 ?a26 ?i26 ?l26 ?c26 ?k26 ?a27 ?i27 ?l27 ?c27 ?k27 ?a28 ?l28 ?c28 ?k28 ?a29 ?l29 ?c29 ?k29 ?a30 ?l30 ?c30 ?k30 ?a31 ?l31 ?c31 ?k31 ?a32 ?l32 ?c32 ?k32 ?a33 ?l33 ?c33 ?k33 ?a34 ?l34 ?c34 ?k34 ?a35 ?l35 ?c35 ?k35 ?a36 ?l36 ?c36 ?k36 ?a37 ?l37 ?c37 ?k37 ?a38 ?l38 ?c38 ?k38 ?a39 ?l39 ?c39 ?k39 ?n_COLORS ?e_COLORS ?n_MAX_SIZE ?e_MAX_SIZE ?n_MAX_BEADS ?e_MAX_BEADS ?n_MAX_PRICE ?e_MAX_PRICE ?n_MAX_SHORT ?e_MAX_SHORT ?n_MAX_REACHABLE ?e_MAX_REACHABLE ?n_LEFT ?e_LEFT ?n_SIDES ?q_SIDES ?e0_SIDES ?e1_SIDES ?z_len ?z_range ?z_enumerate ?z_isinstance ?z_tuple ?z_list ?z_abs ?z_all ?z_zip ?z_sum ?z_int ?z_min ?z_max ?z_sorted ?z_set ?z_dict ?z_str ?z_any ?z_bool
    (case q0_RowCounter => k_is); (case q1_RowCounter => k_is); (case q2_RowCounter => k_is); (case q3_RowCounter => k_is); (case q4_RowCounter => k_is); (case q5_RowCounter => k_is); (case q6_RowCounter => k_is); (case na0_RowCounter => k_is); (case na1_RowCounter => k_is); (case na2_RowCounter => k_is); (case na3_RowCounter => k_is); (case a0 => k_is); (case l0 => k_is); (case c0 => k_is); (case k0 => k_is); (case a1 => k_is); (case l1 => k_is); (case c1 => k_is); (case k1 => k_is); (case a2 => k_is); (case l2 => k_is); (case c2 => k_is); (case k2 => k_is); (case a3 => k_is); (case l3 => k_is); (case c3 => k_is); (case k3 => k_is); (case a4 => k_is); (case l4 => k_is); (case c4 => k_is); (case k4 => k_is); (case a5 => k_is); (case l5 => k_is); (case c5 => k_is); (case k5 => k_is); (case a6 => k_is); (case l6 => k_is); (case c6 => k_is); (case k6 => k_is); (case a7 => k_is); (case l7 => k_is); (case c7 => k_is); (case k7 => k_is); (case a8 => k_is); (case l8 => k_is); (case c8 => k_is); (case k8 => k_is); (case a9 => k_is); (case l9 => k_is); (case c9 => k_is); (case k9 => k_is); (case a10 => k_is); (case l10 => k_is); (case c10 => k_is); (case k10 => k_is); (case a11 => k_is); (case l11 => k_is); (case c11 => k_is); (case k11 => k_is); (case a12 => k_is); (case l12 => k_is); (case c12 => k_is); (case k12 => k_is); (case a13 => k_is); (case l13 => k_is); (case c13 => k_is); (case k13 => k_is); (case a14 => k_is); (case l14 => k_is); (case c14 => k_is); (case k14 => k_is); (case a15 => k_is); (case l15 => k_is); (case c15 => k_is); (case k15 => k_is); (case a16 => k_is); (case l16 => k_is); (case c16 => k_is); (case k16 => k_is); (case a17 => k_is); (case l17 => k_is); (case c17 => k_is); (case k17 => k_is); (case a18 => k_is); (case l18 => k_is); (case c18 => k_is); (case k18 => k_is); (case a19 => k_is); (case l19 => k_is); (case c19 => k_is); (case k19 => k_is); (case a20 => k_is); (case l20 => k_is); (case c20 => k_is); (case k20 => k_is); (case a21 => k_is); (case l21 => k_is); (case c21 => k_is); (case k21 => k_is); (case a22 => k_is); (case l22 => k_is); (case c22 => k_is); (case k22 => k_is); (case a23 => k_is); (case i23 => k_is); (case l23 => k_is); (case c23 => k_is); (case k23 => k_is); (case a24 => k_is); (case l24 => k_is); (case c24 => k_is); (case k24 => k_is); (case a25 => k_is); (case i25 => k_is); (case l25 => k_is); (case c25 => k_is); (case k25 => k_is); (case a26 => k_is); (case i26 => k_is); (case l26 => k_is); (case c26 => k_is); (case k26 => k_is); (case a27 => k_is); (case i27 => k_is); (case l27 => k_is); (case c27 => k_is); (case k27 => k_is); (case a28 => k_is); (case l28 => k_is); (case c28 => k_is); (case k28 => k_is); (case a29 => k_is); (case l29 => k_is); (case c29 => k_is); (case k29 => k_is); (case a30 => k_is); (case l30 => k_is); (case c30 => k_is); (case k30 => k_is); (case a31 => k_is); (case l31 => k_is); (case c31 => k_is); (case k31 => k_is); (case a32 => k_is); (case l32 => k_is); (case c32 => k_is); (case k32 => k_is); (case a33 => k_is); (case l33 => k_is); (case c33 => k_is); (case k33 => k_is); (case a34 => k_is); (case l34 => k_is); (case c34 => k_is); (case k34 => k_is); (case a35 => k_is); (case l35 => k_is); (case c35 => k_is); (case k35 => k_is); (case a36 => k_is); (case l36 => k_is); (case c36 => k_is); (case k36 => k_is); (case a37 => k_is); (case l37 => k_is); (case c37 => k_is); (case k37 => k_is); (case a38 => k_is); (case l38 => k_is); (case c38 => k_is); (case k38 => k_is); (case a39 => k_is); (case l39 => k_is); (case c39 => k_is); (case k39 => k_is); (case n_COLORS => k_is); (case n_MAX_SIZE => k_is); (case n_MAX_BEADS => k_is); (case n_MAX_PRICE => k_is); (case n_MAX_SHORT => k_is); (case n_MAX_REACHABLE => k_is); (case n_LEFT => k_is); (case n_SIDES => k_is); (case q_SIDES => k_is); (case z_len => k_is); (case z_range => k_is); (case z_enumerate => k_is); (case z_isinstance => k_is); (case z_tuple => k_is); (case z_list => k_is); (case z_abs => k_is); (case z_all => k_is); (case z_zip => k_is); (case z_sum => k_is); (case z_int => k_is); (case z_min => k_is); (case z_max => k_is); (case z_sorted => k_is); (case z_set => k_is); (case z_dict => k_is); (case z_str => k_is); (case z_any => k_is); (case z_bool => k_is)
    (case e_COLORS => decide +kernel); (case e_MAX_SIZE => decide +kernel); (case e_MAX_BEADS => decide +kernel); (case e_MAX_PRICE => decide +kernel); (case e_MAX_SHORT => decide +kernel); (case e_MAX_REACHABLE => decide +kernel); (case e_LEFT => decide +kernel); (case e0_SIDES => decide +kernel); (case e1_SIDES => decide +kernel)
