import PyProof.Rows.All
import Wide.All
import OpenK.AllK
import Wide.FinOn
import HandS.ForMost
import HandS.ForExc
import HandS.Walk
import HandS.IsInst
import HandS.Replace
import KE.GoesEnum
import PyProof.NeKinds
import HandS.Style
import HandS.StrMore
import KE.GoesZip
import KE.GoesMore
import KE.KItemsList
import HandS.Deep
import PyProof.ListStr
import PyProof.StrOps
import HandS.Set
import HandS.SetKeys
import HandS.SetFor
import HandS.SetTxtIn
import PyProof.Rows.SortShellAny
import PyProof.Rows.SortKeyStr
import HandS.SortInts
import HandS.TupMul
import PyProof.ListRange
import HandS.Text
import HandS.Exc
import HandS.ExcOwn
import HandS.ExcInit
import HandS.ExcIs
import HandS.ExcField
import HandS.FStr
import HandS.ClsMeth
import HandS.WordsExc
import HandS.Small
import HandS.Lambda
import HandS.EndTab
import KE.KNest
import HandS.TupAny
import KE.KDictKeyed
import HandS.Dict
import HandS.More
import HandS.SetBool
import PyProof.CollectStr
import KE.KDictZip
import KE.KDictPairs
import HandS.MakeKwOnly
import KE.DataMinMax
import KE.LtData
import PySem.Challenge.RW_packrow_k20_whole_completion
set_option Elab.async false
set_option linter.all false
set_option maxRecDepth 100000
set_option maxHeartbeats 4000000
namespace Pk
open PySem PySem.Spec PyProof.Rows L2

/-! ### texts as lists of code points -/
abbrev S (l : List Nat) : Str := ⟨l.toArray⟩
abbrev tl (x : Str) : List Nat := x.cps.toList
theorem S_tl (x : Str) : S (tl x) = x := by cases x; rfl
theorem tl_S (l : List Nat) : tl (S l) = l := rfl
theorem S_inj {a b : List Nat} (h : S a = S b) : a = b := by
  have h' := congrArg tl h
  exact h'
theorem S_eq_iff {a b : List Nat} : S a = S b ↔ a = b := ⟨S_inj, fun h => by rw [h]⟩
theorem len_S (x : Str) : x.length = (tl x).length := by simp [tl, Str.length]
theorem app_S (x y : Str) : x ++ y = S (tl x ++ tl y) := by
  rw [← S_tl (x ++ y)]
  congr 1
  show (x ++ y).cps.toList = x.cps.toList ++ y.cps.toList
  rw [← Array.toList_append]
  rfl
/-- what stands between lo and hi -/
def cutL {α : Type} (l : List α) (lo hi : Option Int) : List α := (l.drop (HT.sIx l.length 0 lo)).take (HT.sIx l.length l.length hi - HT.sIx l.length 0 lo)
theorem cutS_S (z : Str) (lo hi : Option Int) : cutS z lo hi = S (cutL (tl z) lo hi) := by
  have e : (tl z).length = z.length := (len_S z).symm
  unfold cutS cutL
  rw [e]
theorem sIx_some (n d : Nat) {k : Int} (h : 0 ≤ k) : HT.sIx n d (some k) = min k.toNat n := by
  obtain ⟨m, rfl⟩ := Int.eq_ofNat_of_zero_le h
  exact HT.sIx_nat n d m
theorem cutL_to {α : Type} (l : List α) {k : Int} (h : 0 ≤ k) : cutL l none (some k) = l.take k.toNat := by
  unfold cutL
  rw [HT.sIx_none, sIx_some _ _ h, List.drop_zero, Nat.sub_zero]
  by_cases e : k.toNat ≤ l.length
  · rw [Nat.min_eq_left e]
  · rw [Nat.min_eq_right (by omega), List.take_of_length_le (Nat.le_refl _), List.take_of_length_le (by omega)]
theorem cutL_from {α : Type} (l : List α) {k : Int} (h : 0 ≤ k) : cutL l (some k) none = l.drop k.toNat := by
  unfold cutL
  rw [HT.sIx_none, sIx_some _ _ h]
  by_cases e : k.toNat ≤ l.length
  · rw [Nat.min_eq_left e, List.take_of_length_le (by rw [List.length_drop]; exact Nat.le_refl _)]
  · rw [Nat.min_eq_right (by omega), List.drop_of_length_le (Nat.le_refl _), List.drop_of_length_le (by omega), List.take_nil]
theorem cutL_mid {α : Type} (l : List α) {j k : Int} (h : 0 ≤ j) (h' : j ≤ k) : cutL l (some j) (some k) = (l.drop j.toNat).take (k.toNat - j.toNat) := by
  unfold cutL
  rw [sIx_some _ _ h, sIx_some _ _ (by omega)]
  by_cases e : j.toNat ≤ l.length
  · rw [Nat.min_eq_left e]
    by_cases e2 : k.toNat ≤ l.length
    · rw [Nat.min_eq_left e2]
    · rw [Nat.min_eq_right (by omega), List.take_of_length_le (by rw [List.length_drop]; exact Nat.le_refl _), List.take_of_length_le (by rw [List.length_drop]; omega)]
  · rw [Nat.min_eq_right (show l.length ≤ k.toNat by omega), Nat.min_eq_right (show l.length ≤ j.toNat by omega), List.drop_of_length_le (Nat.le_refl _), List.drop_of_length_le (by omega), List.take_nil, List.take_nil]
theorem cutL_len {α : Type} (l : List α) (lo hi : Option Int) : (cutL l lo hi).length ≤ l.length := by
  unfold cutL
  rw [List.length_take, List.length_drop]
  omega

/-! ### judgements weakened -/
section
variable {X : Cx}
theorem pe_imp {e : Expr} {t t' : TE} (h : PE X e t) (f : ∀ σ H Q, t' σ H Q → t σ H Q) : PE X e t' := ⟨fun pins s σ H Q I q => h.run pins s σ H Q I (f σ H Q q)⟩
theorem pt_imp {e : Expr} {t t' : TT} (h : PT X e t) (f : ∀ σ H Q, t' σ H Q → t σ H Q) : PT X e t' := ⟨fun pins s σ H Q I q => h.run pins s σ H Q I (f σ H Q q)⟩
theorem ps_imp {e : Stmt} {t t' : TS} (h : PS X e t) (f : ∀ D σ H, t' D σ H → t D σ H) : PS X e t' := ⟨fun pins s σ H D I q => h.run pins s σ H D I (f D σ H q)⟩
theorem pi_imp {tg e : Expr} {t t' : TI} (h : PI X tg e t) (f : ∀ σ H R, t' σ H R → t σ H R) : PI X tg e t' := ⟨fun pins s σ H R I q => h.run pins s σ H R I (f σ H R q)⟩
theorem opr_imp {f : Value → Value → Sem Value} {r r' : R2} (h : OpR X f r) (g : ∀ x y H Q, r' x y H Q → r x y H Q) : OpR X f r' := fun pins s σ H x y v u Q I rx ry q => h pins s σ H x y v u Q I rx ry (g _ _ _ _ q)

/-! ### names -/
def gV (i : Nat) : TE := fun σ H Q => match σ[i]? with
  | some (some v) => Q v H
  | _ => False
theorem gv (i : Nat) {x : Str} {pos : Pos} (hN : X.N[i]? = some x := by rfl) (hv : Vis X.env.scope x := by first | exact Or.inl rfl | exact Or.inr (Or.inl rfl) | exact Or.inr (Or.inr rfl)) (hd : (x == ("__debug__" : Str)) = false := by decide)
    (hcd : (x == ("__classdict__" : Str)) = false := by decide) : PE X (.Name x pos) (gV i) := pe_imp (pe_var hN hv hd hcd) fun σ H Q h => by
  unfold gV at h
  unfold tVar
  split at h
  · rename_i v e
    exact ⟨v, e, h⟩
  · exact h.elim
/-- a module's constant: a text, a number -/
theorem g_str {x : Str} {z : Str} {pos : Pos} (hm : ∃ t, X.mg x = some (.str z t)) (hg : Gl X x := by rfl) (hd : (x == ("__debug__" : Str)) = false := by decide) : PE X (.Name x pos) (tC (.str z)) := by
  obtain ⟨t, hm⟩ := hm
  exact pe_glob hg hm ⟨t, rfl⟩ hd
theorem g_int {x : Str} {z : Int} {pos : Pos} (hm : ∃ t, X.mg x = some (.int z t)) (hg : Gl X x := by rfl) (hd : (x == ("__debug__" : Str)) = false := by decide) : PE X (.Name x pos) (tC (.int z)) := by
  obtain ⟨t, hm⟩ := hm
  exact pe_glob hg hm ⟨t, rfl⟩ hd

/-! ### operators by the kinds of their values -/
def gAdd (K : PySem.W.Frag) : R2 := fun x y H Q => match x, y with
  | .int i, .int j => Q (.int (i + j)) H
  | .str a, .str b => (tl a).length + (tl b).length ≤ 1000000 ∧ Q (.str (S (tl a ++ tl b))) H
  | .ref a, .ref b => (∃ xs zs, H a = some (.lst xs) ∧ H b = some (.lst zs) ∧ xs.length + zs.length ≤ 1000000 ∧ ∀ p, H p = none → Q (.ref p) (upd H p (.lst (xs ++ zs)))) ∨
      (∃ xs ys, SqT K H a xs ∧ SqT K H b ys ∧ xs ≠ [] ∧ xs.length + ys.length ≤ 1000000 ∧ (ys = [] → Q (.ref a) H) ∧ (ys ≠ [] → ∀ p, H p = none → Q (.ref p) (upd H p (.tup (xs ++ ys)))))
  | _, _ => False
theorem line6 : 1000000 ≤ sizeLine := by rw [sizeLine_eq]; decide
theorem op_addG0 : OpR X (binaryOp .Add) (gAdd X.K) := by
  intro pins s σ H x y v u Q I rx ry h
  unfold gAdd at h
  split at h
  · exact op_add pins s σ H _ _ v u Q I rx ry ⟨_, _, rfl, rfl, h⟩
  · refine op_add_str pins s σ H _ _ v u Q I rx ry ⟨_, _, rfl, rfl, ?_, ?_⟩
    · rw [len_S, len_S]; exact Nat.le_trans h.1 line6
    · rw [app_S]; exact h.2
  · rcases h with ⟨xs, zs, h1, h2, h3, h4⟩ | ⟨xs, ys, h1, h2, h3, h4, h5⟩
    · exact op_cat pins s σ H _ _ v u Q I rx ry ⟨_, _, _, _, rfl, rfl, h1, h2, Nat.le_trans h3 line6, h4⟩
    · exact op_catT pins s σ H _ _ v u Q I rx ry ⟨_, _, _, _, rfl, rfl, h1, h2, h3, Nat.le_trans h4 line6, h5⟩
  · exact h.elim
def gSub : R2 := fun x y H Q => match x, y with
  | .int i, .int j => Q (.int (i - j)) H
  | _, _ => False
theorem op_subG : OpR X (binaryOp .Sub) gSub := by
  intro pins s σ H x y v u Q I rx ry h
  unfold gSub at h
  split at h
  · exact op_sub pins s σ H _ _ v u Q I rx ry ⟨_, _, rfl, rfl, h⟩
  · exact h.elim
/-- a text n times -/
def repL {α : Type} (n : Nat) (l : List α) : List α := (List.replicate n l).flatten
theorem repL_one {α : Type} (n : Nat) (c : α) : repL n [c] = List.replicate n c := by
  induction n with
  | zero => rfl
  | succ n ih =>
    show [c] ++ repL n [c] = _
    rw [ih]; rfl
theorem repL_len {α : Type} (n : Nat) (l : List α) : (repL n l).length = n * l.length := by
  induction n with
  | zero => simp [repL]
  | succ n ih =>
    show (l ++ repL n l).length = _
    rw [List.length_append, ih, Nat.succ_mul]; omega
theorem foldl_arr (z : Array Nat) : ∀ (n : Nat) (acc : Array Nat), ((List.replicate n z).foldl (· ++ ·) acc).toList = acc.toList ++ repL n z.toList
  | 0, acc => by simp [repL]
  | n + 1, acc => by
    show ((List.replicate n z).foldl (· ++ ·) (acc ++ z)).toList = _
    rw [foldl_arr z n (acc ++ z)]
    show (acc ++ z).toList ++ repL n z.toList = acc.toList ++ (z.toList ++ repL n z.toList)
    rw [Array.toList_append, List.append_assoc]
theorem op_mul_str : OpR X (binaryOp .Mult) (fun x y H Q => ∃ a k, x = .str a ∧ y = .int k ∧ -1000000 ≤ k ∧ k ≤ 1000000 ∧ (tl a).length * k.toNat ≤ 1000000 ∧ Q (.str (S (repL k.toNat (tl a)))) H) := by
  intro pins s σ H x y v u Q I rx ry h
  obtain ⟨a, k, rfl, rfl, h0, h1, h2, q⟩ := h
  obtain ⟨t, rfl⟩ := rx
  obtain ⟨t', rfl⟩ := ry
  refine PySem.P.mul_str ?_ (fun _ _ => ?_) (fun _ _ => ?_) ?_
  · rw [decide_eq_false (show ¬ k < -(2 ^ 63 : Int) by omega), decide_eq_false (show ¬ k ≥ 2 ^ 63 by omega)]; rfl
  · intro hh
    rw [len_S] at hh
    by_cases hk : k < 1
    · omega
    · have hk1 : 1 ≤ k := by omega
      have e1 : ((tl a).length : Int) * k ≤ 1000000 := by
        have : ((tl a).length : Int) * (k.toNat : Int) ≤ 1000000 := by have := Int.ofNat_le.mpr h2; rwa [Int.natCast_mul] at this
        rwa [Int.toNat_of_nonneg (by omega)] at this
      have e2 : (((2 : Int) ^ 63 - 1) / k) * k ≤ (2 : Int) ^ 63 - 1 := Int.ediv_mul_le _ (by omega)
      have e3 : (((2 : Int) ^ 63 - 1) / k + 1) * k ≤ ((tl a).length : Int) * k := Int.mul_le_mul_of_nonneg_right (by omega) (by omega)
      have e4 : (2 : Int) ^ 63 - 1 < (((2 : Int) ^ 63 - 1) / k + 1) * k := Int.lt_ediv_add_one_mul_self _ (by omega)
      omega
  · rw [len_S]
    unfold PySem.Builtin.Str.tooLong
    exact decide_eq_false (by have := line6; omega)
  · have fin : ∀ (r : Str) (t2 : Tok) (tk : Nat), r = S (repL k.toNat (tl a)) → EP X pins σ Q (.str r t2) { s with toks := tk } := fun r t2 tk e => ⟨.str r, H, I.tok _, ⟨_, rfl⟩, by rw [e]; exact q⟩
    by_cases hk : k < 1
    · rw [if_pos hk]
      have e : k.toNat = 0 := by omega
      exact ⟨by decide, fin _ _ _ (by rw [e]; rfl)⟩
    · rw [if_neg hk]
      by_cases hc : (k == 1 || a.length == 0) = true
      · rw [if_pos hc]
        refine fin _ _ _ ?_
        rw [Bool.or_eq_true] at hc
        rcases hc with hc | hc
        · have e : k = 1 := by simpa using hc
          subst e
          show a = S (tl a ++ [])
          rw [List.append_nil, S_tl]
        · have e : (tl a).length = 0 := by rw [← len_S]; simpa using hc
          have e2 : tl a = [] := List.length_eq_zero_iff.mp e
          have e3 : repL k.toNat (tl a) = [] := List.length_eq_zero_iff.mp (by rw [repL_len, e, Nat.mul_zero])
          rw [e3, ← e2, S_tl]
      · rw [if_neg hc]
        have er : (⟨(List.replicate k.toNat a.cps).foldl (· ++ ·) #[]⟩ : Str) = S (repL k.toNat (tl a)) := by
          rw [← S_tl ⟨(List.replicate k.toNat a.cps).foldl (· ++ ·) #[]⟩]
          show S ((List.replicate k.toNat a.cps).foldl (· ++ ·) #[]).toList = _
          rw [foldl_arr]
          rfl
        refine ⟨?_, fin _ _ _ er⟩
        rw [er, len_S]
        show (repL k.toNat (tl a)).length ≤ sizeLine
        rw [repL_len]
        have := line6
        have e5 : k.toNat * (tl a).length ≤ 1000000 := by rw [Nat.mul_comm]; exact h2
        omega
def gMul (K : PySem.W.Frag) : R2 := fun x y H Q => match x, y with
  | .int i, .int j => CMul i j ∧ Q (.int (i * j)) H
  | .str a, .int k => (-1000000 ≤ k ∧ k ≤ 1000000 ∧ (tl a).length * k.toNat ≤ 1000000) ∧ Q (.str (S (repL k.toNat (tl a)))) H
  | .ref a, .int k => ∃ xs, H a = some (.lst xs) ∧ (0 ≤ k ∧ k ≤ 1000000 ∧ xs.length * k.toNat ≤ 1000000) ∧ ∀ p, H p = none → Q (.ref p) (upd H p (.lst (repL k.toNat xs)))
  | _, _ => False
theorem op_mulG0 : OpR X (binaryOp .Mult) (gMul X.K) := by
  intro pins s σ H x y v u Q I rx ry h
  unfold gMul at h
  split at h
  · exact op_mul pins s σ H _ _ v u Q I rx ry ⟨_, _, rfl, rfl, h.1, h.2⟩
  · exact op_mul_str pins s σ H _ _ v u Q I rx ry ⟨_, _, rfl, rfl, h.1.1, h.1.2.1, h.1.2.2, h.2⟩
  · obtain ⟨xs, h1, ⟨h2, h3, h4⟩, h5⟩ := h
    exact op_rep pins s σ H _ _ v u Q I rx ry ⟨_, _, _, rfl, rfl, h1, by omega, by omega, Nat.le_trans h4 line6, h5⟩
  · exact h.elim
def gDiv : R2 := fun x y H Q => match x, y with
  | .int i, .int j => (0 < j ∧ j < 1073741824) ∧ Q (.int (i / j)) H
  | _, _ => False
theorem op_divG : OpR X (binaryOp .FloorDiv) gDiv := by
  intro pins s σ H x y v u Q I rx ry h
  unfold gDiv at h
  split at h
  · exact op_fdiv pins s σ H _ _ v u Q I rx ry ⟨_, _, rfl, rfl, h.1, h.2⟩
  · exact h.elim
def gMod : R2 := fun x y H Q => match x, y with
  | .int i, .int j => 0 < j ∧ Q (.int (i % j)) H
  | _, _ => False
theorem op_modG : OpR X (binaryOp .Mod) gMod := by
  intro pins s σ H x y v u Q I rx ry h
  unfold gMod at h
  split at h
  · exact op_mod pins s σ H _ _ v u Q I rx ry ⟨_, _, rfl, rfl, h.1, h.2⟩
  · exact h.elim
def gPow : R2 := fun x y H Q => match x, y with
  | .int i, .int j => CPow i j ∧ Q (.int (i ^ j.toNat)) H
  | _, _ => False
theorem op_powG : OpR X (binaryOp .Pow) gPow := by
  intro pins s σ H x y v u Q I rx ry h
  unfold gPow at h
  split at h
  · exact op_pow pins s σ H _ _ v u Q I rx ry ⟨_, _, rfl, rfl, h.1, h.2⟩
  · exact h.elim
def gNeg : V → Hp → VK → Prop := fun x H Q => match x with
  | .int i => Q (.int (-i)) H
  | _ => False
theorem un_negG : UnR X (unaryOp .USub) gNeg := by
  intro pins s σ H x v Q I rx h
  unfold gNeg at h
  split at h
  · exact un_neg pins s σ H _ v Q I rx ⟨_, rfl, h⟩
  · exact h.elim

/-! ### comparisons -/
def gEqW (K : PySem.W.Frag) (ng : Bool → Bool) : R2 := fun x y H Q => match x, y with
  | .int i, .int j => Q (.bl (ng (decide (i = j)))) H
  | .str a, .str b => Q (.bl (ng (decide (tl a = tl b)))) H
  | .bl a, .bl b => Q (.bl (ng (decide (a = b)))) H
  | .non, .non => Q (.bl (ng true)) H
  | .non, .int _ => Q (.bl (ng false)) H
  | .non, .str _ => Q (.bl (ng false)) H
  | .int _, .non => Q (.bl (ng false)) H
  | .str _, .non => Q (.bl (ng false)) H
  | .int _, .str _ => Q (.bl (ng false)) H
  | .str _, .int _ => Q (.bl (ng false)) H
  | x, y => (∃ a b, x = .ref a ∧ y = .ref b ∧ (∃ xs, ((SqL K H a xs ∧ SqL K H b []) ∨ (SqT K H a xs ∧ SqT K H b [])) ∧ Q (.bl (ng xs.isEmpty)) H)) ∨
      ∃ d e, Dp K H x d ∧ Dp K H y e ∧ SeqAt.shaped d = true ∧ SeqAt.shaped e = true ∧ Q (.bl (ng (PyData.eqv d e))) H
theorem dec_tl (a b : Str) : decide (V.str a = V.str b) = decide (tl a = tl b) := by
  rw [Bool.eq_iff_iff, decide_eq_true_iff, decide_eq_true_iff]
  constructor
  · intro h
    rw [V.str.inj h]
  · intro h
    rw [← S_tl a, ← S_tl b]
    show V.str (S (tl a)) = V.str (S (tl b))
    rw [h]
theorem dec_i (a b : Int) : decide (V.int a = V.int b) = decide (a = b) := by
  rw [Bool.eq_iff_iff, decide_eq_true_iff, decide_eq_true_iff]
  exact ⟨V.int.inj, fun h => by rw [h]⟩
theorem dec_b (a b : Bool) : decide (V.bl a = V.bl b) = decide (a = b) := by
  rw [Bool.eq_iff_iff, decide_eq_true_iff, decide_eq_true_iff]
  exact ⟨V.bl.inj, fun h => by rw [h]⟩
theorem arr_nil {its : List Value} (h : Vals [] its) : its = [] := by cases h; rfl
theorem op_eqG0 (hu : X.A.units + 64 < cLine) : OpR X (compareOp .Eq) (gEqW X.K id) := by
  intro pins s σ H x y v u Q I rx ry h
  unfold gEqW at h
  split at h
  · exact op_eq pins s σ H _ _ v u Q I rx ry ⟨rfl, by rw [dec_i]; exact h⟩
  · exact op_eq pins s σ H _ _ v u Q I rx ry ⟨rfl, by rw [dec_tl]; exact h⟩
  · exact op_eq pins s σ H _ _ v u Q I rx ry ⟨rfl, by rw [dec_b]; exact h⟩
  · exact op_eq pins s σ H _ _ v u Q I rx ry ⟨rfl, h⟩
  · exact op_eq pins s σ H _ _ v u Q I rx ry ⟨rfl, h⟩
  · exact op_eq pins s σ H _ _ v u Q I rx ry ⟨rfl, h⟩
  · exact op_eq pins s σ H _ _ v u Q I rx ry ⟨rfl, h⟩
  · exact op_eq pins s σ H _ _ v u Q I rx ry ⟨rfl, h⟩
  · exact op_eq pins s σ H _ _ v u Q I rx ry ⟨rfl, h⟩
  · exact op_eq pins s σ H _ _ v u Q I rx ry ⟨rfl, h⟩
  · rcases h with ⟨a, b, rfl, rfl, xs, hab, h⟩ | h
    · cases rx
      cases ry
      have hu0 : X.A.units < cLine := by omega
      rcases hab with ⟨ha, hb⟩ | ⟨ha, hb⟩
      · obtain ⟨its, rv, pa, _⟩ := I.list ha
        obtain ⟨itb, rb, pb, _⟩ := I.list hb
        have eb := arr_nil rb
        subst eb
        cases rv with
        | nil => exact SeqAt.eq_listAt (e := fun _ => true) pa.isList pb.isList rfl hu0 (fun j h1 => absurd h1 (Nat.not_lt_zero _)) ⟨.bl true, H, I, rfl, h⟩
        | cons r1 r2 => exact SeqAt.eq_list_lengthsAt pa.isList pb.isList (by simp) hu0 ⟨.bl false, H, I, rfl, h⟩
      · obtain ⟨its, rv, pa, _⟩ := I.tuple ha
        obtain ⟨itb, rb, pb, _⟩ := I.tuple hb
        have eb := arr_nil rb
        subst eb
        refine SeqAt.eq_tupleAt (e := fun _ => true) pa pb hu0 (fun j _ h2 => absurd h2 (Nat.not_lt_zero _)) ?_
        cases rv with
        | nil => exact ⟨.bl true, H, I, rfl, h⟩
        | cons r1 r2 => exact ⟨.bl false, H, I, by simp [L2.RelV], h⟩
    · exact op_eqD hu pins s σ H _ _ v u Q I rx ry h
theorem op_neG0 (hu : X.A.units + 64 < cLine) : OpR X (compareOp .NotEq) (gEqW X.K not) := by
  intro pins s σ H x y v u Q I rx ry h
  unfold gEqW at h
  split at h
  · exact op_ne pins s σ H _ _ v u Q I rx ry ⟨rfl, by rw [dec_i]; exact h⟩
  · exact op_ne pins s σ H _ _ v u Q I rx ry ⟨rfl, by rw [dec_tl]; exact h⟩
  · exact op_ne pins s σ H _ _ v u Q I rx ry ⟨rfl, by rw [dec_b]; exact h⟩
  · exact op_ne pins s σ H _ _ v u Q I rx ry ⟨rfl, h⟩
  · exact op_ne pins s σ H _ _ v u Q I rx ry ⟨rfl, h⟩
  · exact op_ne pins s σ H _ _ v u Q I rx ry ⟨rfl, h⟩
  · exact op_ne pins s σ H _ _ v u Q I rx ry ⟨rfl, h⟩
  · exact op_ne pins s σ H _ _ v u Q I rx ry ⟨rfl, h⟩
  · exact op_ne pins s σ H _ _ v u Q I rx ry ⟨rfl, h⟩
  · exact op_ne pins s σ H _ _ v u Q I rx ry ⟨rfl, h⟩
  · rcases h with ⟨a, b, rfl, rfl, xs, hab, h⟩ | h
    · cases rx
      cases ry
      have hu0 : X.A.units < cLine := by omega
      rcases hab with ⟨ha, hb⟩ | ⟨ha, hb⟩
      · obtain ⟨its, rv, pa, _⟩ := I.list ha
        obtain ⟨itb, rb, pb, _⟩ := I.list hb
        have eb := arr_nil rb
        subst eb
        cases rv with
        | nil => exact SeqAt.RcNeAt.lists (e := fun _ => true) pa.isList pb.isList rfl hu0 (fun j h1 => absurd h1 (Nat.not_lt_zero _)) _ _ _ _ ⟨.bl false, H, I, rfl, h⟩
        | cons r1 r2 => exact SeqAt.RcNeAt.lists_lengths pa.isList pb.isList (by simp) hu0 _ _ _ _ ⟨.bl true, H, I, rfl, h⟩
      · obtain ⟨its, rv, pa, _⟩ := I.tuple ha
        obtain ⟨itb, rb, pb, _⟩ := I.tuple hb
        have eb := arr_nil rb
        subst eb
        refine SeqAt.RcNeAt.tuples (e := fun _ => true) pa pb hu0 (fun j _ h2 => absurd h2 (Nat.not_lt_zero _)) _ _ _ _ ?_
        cases rv with
        | nil => exact ⟨.bl false, H, I, rfl, h⟩
        | cons r1 r2 => exact ⟨.bl true, H, I, by simp [L2.RelV], h⟩
    · exact op_neD hu pins s σ H _ _ v u Q I rx ry h
def gCmp (f : Int → Int → Bool) (g : List Nat → List Nat → Bool) : R2 := fun x y H Q => match x, y with
  | .int i, .int j => Q (.bl (f i j)) H
  | .str a, .str b => Q (.bl (g (tl a) (tl b))) H
  | _, _ => False
theorem op_cmpG {op : CmpOp} {f : Int → Int → Bool} {g : List Nat → List Nat → Bool} (h1 : OpR X (compareOp op) (rI0 fun i j => .bl (f i j)))
    (h2 : OpR X (compareOp op) (fun x y H Q => ∃ i j, x = .str i ∧ y = .str j ∧ Q (.bl (g i.cps.toList j.cps.toList)) H)) : OpR X (compareOp op) (gCmp f g) := by
  intro pins s σ H x y v u Q I rx ry h
  unfold gCmp at h
  split at h
  · exact h1 pins s σ H _ _ v u Q I rx ry ⟨_, _, rfl, rfl, h⟩
  · exact h2 pins s σ H _ _ v u Q I rx ry ⟨_, _, rfl, rfl, h⟩
  · exact h.elim
theorem op_ltG : OpR X (compareOp .Lt) (gCmp (fun i j => decide (i < j)) fun a b => decide (a < b)) := op_cmpG op_lt op_lt_str
theorem op_leG : OpR X (compareOp .LtE) (gCmp (fun i j => decide (i ≤ j)) fun a b => !decide (b < a)) := op_cmpG op_le op_le_str
theorem op_gtG : OpR X (compareOp .Gt) (gCmp (fun i j => decide (j < i)) fun a b => decide (b < a)) := op_cmpG op_gt op_gt_str
theorem op_geG : OpR X (compareOp .GtE) (gCmp (fun i j => decide (j ≤ i)) fun a b => !decide (a < b)) := op_cmpG op_ge op_ge_str
/-- x in y: one sign in a text, or among items -/
def gIn (K : PySem.W.Frag) (neg : Bool) : R2 := fun x y H Q => match x, y with
  | .str a, .str z => ∃ c, tl a = [c] ∧ Q (.bl (if neg then !decide (c ∈ tl z) else decide (c ∈ tl z))) H
  | x, .ref p => ∃ xs, (SqL K H p xs ∨ SqT K H p xs) ∧ flatV x = true ∧ xs.all flatV = true ∧ Q (.bl (if neg then !inV x xs else inV x xs)) H
  | _, _ => False
theorem sign_of {a : Str} {c : Nat} (h : tl a = [c]) : a = ⟨#[c]⟩ := by
  rw [← S_tl a, h]
theorem op_inG0 : OpR X (compareOp .In) (gIn X.K false) := by
  intro pins s σ H x y v u Q I rx ry h
  unfold gIn at h
  split at h
  · obtain ⟨c, e, h⟩ := h
    rw [sign_of e] at rx
    exact op_in_sign pins s σ H _ _ v u Q I rx ry ⟨c, _, rfl, rfl, h⟩
  · obtain ⟨xs, h1, h2, h3, h4⟩ := h
    exact op_in_seq pins s σ H _ _ v u Q I rx ry ⟨_, xs, rfl, h1, h2, h3, h4⟩
  · exact h.elim
theorem op_notInG0 : OpR X (compareOp .NotIn) (gIn X.K true) := by
  intro pins s σ H x y v u Q I rx ry h
  unfold gIn at h
  split at h
  · obtain ⟨c, e, h⟩ := h
    rw [sign_of e] at rx
    exact op_notIn_sign pins s σ H _ _ v u Q I rx ry ⟨c, _, rfl, rfl, h⟩
  · obtain ⟨xs, h1, h2, h3, h4⟩ := h
    exact op_notIn_seq pins s σ H _ _ v u Q I rx ry ⟨_, xs, rfl, h1, h2, h3, h4⟩
  · exact h.elim
def gIs (ng : Bool → Bool) : R2 := fun x y H Q => match y with
  | .non => Q (.bl (ng (match x with | .non => true | _ => false))) H
  | _ => False
theorem dec_non (x : V) : decide (x = V.non) = (match x with | .non => true | _ => false) := by cases x <;> rfl
theorem op_isG : OpR X (compareOp .Is) (gIs id) := by
  intro pins s σ H x y v u Q I rx ry h
  unfold gIs at h
  split at h
  · exact op_isN pins s σ H _ _ v u Q I rx ry ⟨rfl, by rw [dec_non]; exact h⟩
  · exact h.elim
theorem op_isNotG : OpR X (compareOp .IsNot) (gIs not) := by
  intro pins s σ H x y v u Q I rx ry h
  unfold gIs at h
  split at h
  · exact op_notN pins s σ H _ _ v u Q I rx ry ⟨rfl, by rw [dec_non]; exact h⟩
  · exact h.elim

/-! ### tests -/
def gTest (t : TE) : TT := fun σ H Q => t σ H fun x H' => match x with
  | .bl k => Q k H'
  | _ => False
variable {a b c : Expr} {ta tb tc : TE} {pos : Pos}
/-- readings that may be weakened behind -/
def Mono (t : TE) : Prop := ∀ σ H Q Q', (∀ v H', Q v H' → Q' v H') → t σ H Q → t σ H Q'
end
end Pk

namespace Pk
open PySem PySem.Spec PyProof.Rows L2
section
variable {X : Cx} {a b c : Expr} {ta tb tc : TE} {pos : Pos}
/-! ### tests: the value is a truth value -/
theorem pt_cmpG {op : CmpOp} {r : R2} (ho : OpR X (compareOp op) r) (ha : PE X a ta) (hb : PE X b tb) (hm : behindInMarks op b = false) : PT X (.Compare a [op] [b] pos) (gTest (tOp r ta tb)) := by
  refine ⟨fun pins s σ H Q I h => ?_⟩
  refine wpAny_isTrue_Compare1 (thn (ha.run pins s σ H _ I h) fun v s1 ⟨x, H1, I1, r1, q1⟩ => thn (hb.run pins s1 σ H1 _ I1 q1) fun u s2 ⟨y, H2, I2, r2, q2⟩ =>
    thn (ho pins s2 σ H2 x y v u _ I2 r1 r2 q2) fun d s3 ⟨z, H3, I3, r3, q3⟩ => ?_) hm
  cases z with
  | bl k => cases r3; exact wpAny_truthy_bool ⟨H3, I3, q3⟩
  | _ => exact q3.elim
/-- low <= value <= high -/
def gChain (r r' : R2) (ta tb tc : TE) : TE := fun σ H Q => ta σ H fun x H1 => tb σ H1 fun y H2 => r x y H2 fun z H3 => match z with
  | .bl k => if k = true then tc σ H3 fun w' H4 => r' y w' H4 Q else Q (.bl false) H3
  | _ => False
theorem pe_chainG {op op' : CmpOp} {r r' : R2} (ho : OpR X (compareOp op) r) (ho' : OpR X (compareOp op') r') (ha : PE X a ta) (hb : PE X b tb) (hc : PE X c tc)
    (hm : lastMarks [op, op'] [b, c] = false := by with_unfolding_all rfl) : PE X (.Compare a [op, op'] [b, c] pos) (gChain r r' ta tb tc) := by
  refine ⟨fun pins s σ H Q I h => ?_⟩
  refine Compare_chain (thn (ha.run pins s σ H _ I h) fun v s1 ⟨x, H1, I1, r1, q1⟩ => chain_link (thn (hb.run pins s1 σ H1 _ I1 q1) fun u s2 ⟨y, H2, I2, r2, q2⟩ =>
    thn (ho pins s2 σ H2 x y v u _ I2 r1 r2 q2) fun d s3 ⟨z, H3, I3, r3, q3⟩ => ?_)) hm
  cases z with
  | bl k =>
    cases r3
    refine wpAny_truthy_bool ?_
    cases k with
    | false => exact ite_ff ⟨.bl false, H3, I3, rfl, q3⟩
    | true => exact ite_tt (chain_last (thn (hc.run pins s3 σ H3 _ I3 q3) fun w' s4 ⟨z', H4, I4, r4, q4⟩ => ho' pins s4 σ H4 y z' u w' Q I4 r2 r4 q4))
  | _ => exact q3.elim
theorem pt_chainG {op op' : CmpOp} {r r' : R2} (ho : OpR X (compareOp op) r) (ho' : OpR X (compareOp op') r') (ha : PE X a ta) (hb : PE X b tb) (hc : PE X c tc)
    (hm : lastMarks [op, op'] [b, c] = false := by with_unfolding_all rfl) : PT X (.Compare a [op, op'] [b, c] pos) (gTest (gChain r r' ta tb tc)) := by
  refine ⟨fun pins s σ H Q I h => ?_⟩
  refine isTrue_chain (thn (ha.run pins s σ H _ I h) fun v s1 ⟨x, H1, I1, r1, q1⟩ => test_link (thn (hb.run pins s1 σ H1 _ I1 q1) fun u s2 ⟨y, H2, I2, r2, q2⟩ =>
    thn (ho pins s2 σ H2 x y v u _ I2 r1 r2 q2) fun d s3 ⟨z, H3, I3, r3, q3⟩ => ?_)) hm
  cases z with
  | bl k =>
    cases r3
    refine wpAny_truthy_bool ?_
    cases k with
    | false => exact ite_ff ⟨H3, I3, q3⟩
    | true =>
      refine ite_tt (test_last (thn (hc.run pins s3 σ H3 _ I3 q3) fun w' s4 ⟨z', H4, I4, r4, q4⟩ => thn (ho' pins s4 σ H4 y z' u w' _ I4 r2 r4 q4) fun d' s5 ⟨z2, H5, I5, r5, q5⟩ => ?_))
      cases z2 with
      | bl k2 => cases r5; exact wpAny_truthy_bool ⟨H5, I5, q5⟩
      | _ => exact q5.elim
  | _ => exact q3.elim
/-- the truth of a value -/
def gTru (K : PySem.W.Frag) (t : TE) : TT := fun σ H Q => t σ H fun x H' => match x with
  | .bl k => Q k H'
  | .non => Q false H'
  | .int i => Q (i != 0) H'
  | .str z => (tl z).length ≤ 1000000 ∧ Q (!(tl z).isEmpty) H'
  | .ref p => ∃ xs, (SqL K H' p xs ∨ SqT K H' p xs) ∧ Q (!xs.isEmpty) H'
  | _ => False
theorem pt_truG0 (ha : PE X a ta) (he : ∀ whole, isTrue a X.env whole = (do let v ← whole; standAt a.pos; holding [v] (truthy v)) := by intro _; rfl) : PT X a (gTru X.K ta) := by
  refine ⟨fun pins s σ H Q I h => ?_⟩
  refine isTrue_plain (thn (ha.run pins s σ H _ I h) fun v s1 ⟨x, H1, I1, r1, q1⟩ => ?_) (he _)
  have go : ∀ k, TruV X.K x H1 k → Q k H1 → wpAny (model X.prog X.w) X.A (truthy v) (TP X pins σ Q) X.xe s1 := fun k h1 h2 => tru_ok pins s1 σ H1 x v Q I1 r1 ⟨k, h1, h2⟩
  cases x with
  | bl k => exact go k rfl q1
  | non => exact go false rfl q1
  | int i => exact go _ rfl q1
  | str z =>
    refine go _ ⟨?_, ?_⟩ q1.2
    · rw [len_S]; exact Nat.le_trans q1.1 line6
    · rw [len_S]; cases tl z with
      | nil => rfl
      | cons x r => simp; omega
  | ref p =>
    obtain ⟨xs, h1, h2⟩ := q1
    rcases h1 with h1 | h1
    · exact go _ (.inl ⟨xs, h1, rfl⟩) h2
    · exact go _ (.inr (.inl ⟨xs, h1, rfl⟩)) h2
  | _ => exact q1.elim
/-! ### places, slices -/
def gIx (K : PySem.W.Frag) : R2 := fun x y H Q => match x, y with
  | .ref p, .int i => ∃ xs v, (SqL K H p xs ∨ SqT K H p xs) ∧ atI xs i = some v ∧ Q v H
  | .str z, .int i => ∃ k, (tl z).length ≤ 1000000 ∧ atI (tl z) i = some k ∧ Q (.str (S [k])) H
  | _, _ => False
theorem ixG0 : IxR X (gIx X.K) := by
  intro vl sl pins s σ H x y v u Q I rx ry h hs
  unfold gIx at h
  split at h
  · obtain ⟨xs, z, h1, h2, h3⟩ := h
    rcases h1 with h1 | h1
    · exact ix_list vl sl pins s σ H _ _ v u Q I rx ry ⟨_, xs, _, z, rfl, rfl, h1, h2, h3⟩ hs
    · exact ix_tup vl sl pins s σ H _ _ v u Q I rx ry ⟨_, xs, _, z, rfl, rfl, h1, h2, h3⟩ hs
  · obtain ⟨k, h1, h2, h3⟩ := h
    exact ix_str vl sl pins s σ H _ _ v u Q I rx ry ⟨_, _, k, rfl, rfl, by rw [len_S]; exact Nat.le_trans h1 line6, h2, h3⟩ hs
  · exact h.elim
def gPart (t : TE) : TO := fun σ H Q => t σ H fun x H1 => match x with
  | .int i => Q (some i) H1
  | _ => False
theorem po_someG (h : PE X a ta) : PO X (some a) (gPart ta) := by
  refine ⟨fun pins s σ H Q I hw => ?_⟩
  rw [evalPart_some]
  refine thn (h.run pins s σ H _ I hw) fun u s1 ⟨x, H1, I1, r1, q1⟩ => ?_
  cases x with
  | int i =>
    obtain ⟨t, rfl⟩ := r1
    exact ⟨some i, H1, I1, .int i t, q1⟩
  | _ => exact q1.elim
theorem cutV_L (xs : List V) (lo hi : Option Int) : cutV xs lo hi = cutL xs lo hi := rfl
def gSl (K : PySem.W.Frag) : V → Option Int → Option Int → Hp → VK → Prop := fun x lo hi H Q => match x with
  | .str z => (tl z).length ≤ 1000000 ∧ Q (.str (S (cutL (tl z) lo hi))) H
  | .ref p => (∃ xs, SqL K H p xs ∧ ∀ q, H q = none → Q (.ref q) (upd H q (.lst (cutL xs lo hi)))) ∨
      (∃ xs, SqT K H p xs ∧ ¬ (HT.sIx xs.length 0 lo = 0 ∧ HT.sIx xs.length xs.length hi = xs.length) ∧ ∀ q, H q = none → Q (.ref q) (upd H q (.tup (cutL xs lo hi))))
  | _ => False
theorem slG0 : SlR X (gSl X.K) := by
  intro pins s σ H x v vl vu lo hi sl Q I rx hs pl pu h
  unfold gSl at h
  split at h
  · exact sl_str pins s σ H _ v vl vu lo hi sl Q I rx hs pl pu ⟨_, rfl, by rw [len_S]; exact Nat.le_trans h.1 line6, by rw [cutS_S]; exact h.2⟩
  · rcases h with ⟨xs, h1, h2⟩ | ⟨xs, h1, h2, h3⟩
    · exact sl_list pins s σ H _ v vl vu lo hi sl Q I rx hs pl pu ⟨_, xs, rfl, h1, h2⟩
    · exact sl_tup pins s σ H _ v vl vu lo hi sl Q I rx hs pl pu ⟨_, xs, rfl, h1, h2, h3⟩
  · exact h.elim
/-! ### built-ins -/
abbrev RC := List V → Hp → VK → Prop
def gLen (K : PySem.W.Frag) : RC := fun vs H Q => match vs with
  | [.str z] => (tl z).length ≤ 1000000 ∧ Q (.int (tl z).length) H
  | [.ref p] => ∃ xs, (SqL K H p xs ∨ SqT K H p xs) ∧ Q (.int xs.length) H
  | _ => False
theorem cr_lenG0 : CallR X (.builtin "len") (gLen X.K) := by
  intro pins s σ H xs us Q I r h
  unfold gLen at h
  split at h
  · refine call_len_str pins s σ H _ us Q I r ⟨_, rfl, by rw [len_S]; exact Nat.le_trans h.1 line6, by rw [len_S]; exact h.2⟩
  · obtain ⟨ys, h1, h2⟩ := h
    exact call_len_seq pins s σ H _ us Q I r ⟨_, ys, rfl, h1, h2⟩
  · exact h.elim
def gAbs : RC := fun vs H Q => match vs with
  | [.int i] => Q (.int (if i < 0 then -i else i)) H
  | _ => False
theorem cr_absG : CallR X (.builtin "abs") gAbs := by
  intro pins s σ H xs us Q I r h
  unfold gAbs at h
  split at h
  · exact call_abs pins s σ H _ us Q I r ⟨_, rfl, h⟩
  · exact h.elim
/-- tuple(a new list) -/
def gTuple (K : PySem.W.Frag) : RC := fun vs H Q => match vs with
  | [.ref p] => ∃ ys, SqL K H p ys ∧ ∀ l, H l = none → Q (.ref l) (upd H l (.tup ys))
  | _ => False
theorem cr_tupleG0 : CallR X (.type "tuple") (gTuple X.K) := by
  intro pins s σ H xs us Q I r h
  unfold gTuple at h
  split at h
  · obtain ⟨ys, h1, h2⟩ := h
    exact call_tuple_of pins s σ H _ us Q I r ⟨_, ys, rfl, .inl ⟨h1, h2⟩⟩
  · exact h.elim
def gList (K : PySem.W.Frag) : RC := fun vs H Q => match vs with
  | [.ref p] => ∃ ys, (SqL K H p ys ∨ SqT K H p ys) ∧ ∀ l, H l = none → Q (.ref l) (upd H l (.lst ys))
  | _ => False
theorem cr_listG0 : CallR X (.type "list") (gList X.K) := by
  intro pins s σ H xs us Q I r h
  unfold gList at h
  split at h
  · obtain ⟨ys, h1, h2⟩ := h
    exact call_list_of pins s σ H _ us Q I r ⟨_, ys, rfl, h1, h2⟩
  · exact h.elim
def gAll (K : PySem.W.Frag) : RC := fun vs H Q => match vs with
  | [.ref p] => ∃ bs : List Bool, SqL K H p (bs.map V.bl) ∧ Q (.bl (bs.all id)) H
  | _ => False
theorem cr_allG0 (hc : X.calm = true := by rfl) : CallR X (.builtin "all") (gAll X.K) := by
  intro pins s σ H xs us Q I r h
  unfold gAll at h
  split at h
  · obtain ⟨ys, h1, h2⟩ := h
    exact cr_all hc pins s σ H _ us Q I r ⟨_, ys, rfl, h1, h2⟩
  · exact h.elim
def gSum (K : PySem.W.Frag) : RC := fun vs H Q => match vs with
  | [.ref p] => ∃ ns : List Int, SqL K H p (ns.map V.int) ∧ Q (.int ns.sum) H
  | _ => False
theorem cr_sumG0 (hc : X.calm = true := by rfl) : CallR X (.builtin "sum") (gSum X.K) := by
  intro pins s σ H xs us Q I r h
  unfold gSum at h
  split at h
  · obtain ⟨ys, h1, h2⟩ := h
    exact cr_sum hc pins s σ H _ us Q I r ⟨_, ys, rfl, h1, h2⟩
  · exact h.elim
/-! ### isinstance of the built-in kinds -/
inductive Knd where | kint | kbool | kstr | ktuple | klist
def Knd.nm : Knd → String
  | .kint => "int" | .kbool => "bool" | .kstr => "str" | .ktuple => "tuple" | .klist => "list"
def Knd.ofInt : Knd → Bool | .kint => true | _ => false
def Knd.ofBl : Knd → Bool | .kint => true | .kbool => true | _ => false
def Knd.ofStr : Knd → Bool | .kstr => true | _ => false
def Knd.ofTup : Knd → Bool | .ktuple => true | _ => false
def Knd.ofLst : Knd → Bool | .klist => true | _ => false
def gIsi (K : PySem.W.Frag) (k : Knd) : RC := fun vs H Q => match vs with
  | [.int _, .ty _] => Q (.bl k.ofInt) H
  | [.bl _, .ty _] => Q (.bl k.ofBl) H
  | [.str _, .ty _] => Q (.bl k.ofStr) H
  | [.non, .ty _] => Q (.bl false) H
  | [.ref p, .ty _] => ((∃ xs, SqL K H p xs) ∧ Q (.bl k.ofLst) H) ∨ ((∃ xs, SqT K H p xs) ∧ Q (.bl k.ofTup) H)
  | _ => False
theorem tyX_L {K : PySem.W.Frag} {H : Hp} {p : Addr} {xs : List V} (h : SqL K H p xs) : TyX K H (.ref p) (.type "list") := by
  rcases h with (h | ⟨o, h⟩) | ⟨o, its, n, h, hc, _⟩
  · exact .base (.lst h)
  · exact .base (.frz h)
  · exact .kList h hc
theorem tyX_T {K : PySem.W.Frag} {H : Hp} {p : Addr} {xs : List V} (h : SqT K H p xs) : TyX K H (.ref p) (.type "tuple") := by
  rcases h with (h | ⟨o, h⟩) | ⟨o, its, n, h, hc, _⟩
  · exact .base (.tup h)
  · exact .fTuple h
  · exact .kTuple h hc
def tagOf (v : V) : List V → Prop
  | [_, w] => v = w
  | _ => False
theorem cr_isiG0 (k : Knd) : CallR X (.builtin "isinstance") (fun vs H Q => tagOf (.ty k.nm) vs ∧ gIsi X.K k vs H Q) := by
  intro pins s σ H xs us Q I r h
  obtain ⟨ht, h⟩ := h
  unfold gIsi at h
  have go : ∀ (x : V) (t : String) (bb : Bool), xs = [x, .ty k.nm] → TyX X.K H x (.type t) → kitB t k.nm = some bb → Q (.bl bb) H → wpAny (model X.prog X.w) X.A (call (.builtin "isinstance") us) (EP X pins σ Q) X.xe s :=
    fun x t bb e1 e2 e3 e4 => call_isi pins s σ H xs us Q I r ⟨x, .ty k.nm, _, _, bb, e1, .ty _, e2, kit_ty e3, e4⟩
  split at h
  · cases ht
    exact go _ "int" _ rfl (.base (.int _)) (by cases k <;> decide +kernel) h
  · cases ht
    exact go _ "bool" _ rfl (.base (.bl _)) (by cases k <;> decide +kernel) h
  · cases ht
    exact go _ "str" _ rfl (.base (.str _)) (by cases k <;> decide +kernel) h
  · cases ht
    exact go _ "NoneType" _ rfl (.base .non) (by cases k <;> decide +kernel) h
  · cases ht
    rcases h with ⟨⟨ys, hx⟩, h⟩ | ⟨⟨ys, hx⟩, h⟩
    · exact go _ "list" _ rfl (tyX_L hx) (by cases k <;> decide +kernel) h
    · exact go _ "tuple" _ rfl (tyX_T hx) (by cases k <;> decide +kernel) h
  · exact h.elim
/-! ### methods -/
abbrev RM := V → List V → Hp → VK → Prop
def gAppend : RM := fun x vs H Q => match x, vs with
  | .ref l, [y] => ∃ xs, H l = some (.lst xs) ∧ xs.length < 1000000 ∧ Q .non (upd H l (.lst (xs ++ [y])))
  | _, _ => False
theorem mt_appendG : MtM X "list.append" gAppend := by
  intro pins s σ H x xs v us Q I rx r h
  unfold gAppend at h
  split at h
  · obtain ⟨ys, h1, h2, h3⟩ := h
    exact mt_append pins s σ H _ _ v us Q I rx r ⟨_, ys, _, rfl, rfl, h1, Nat.lt_of_lt_of_le h2 line6, h3⟩
  · exact h.elim
def gExtend : RM := fun x vs H Q => match x, vs with
  | .ref l, [.ref b] => ∃ xs zs, H l = some (.lst xs) ∧ H b = some (.lst zs) ∧ xs.length + zs.length ≤ 1000000 ∧ Q .non (upd H l (.lst (xs ++ zs)))
  | _, _ => False
theorem mt_extendG : MtM X "list.extend" gExtend := by
  intro pins s σ H x xs v us Q I rx r h
  unfold gExtend at h
  split at h
  · obtain ⟨ys, zs, h1, h2, h3, h4⟩ := h
    exact mt_extend pins s σ H _ _ v us Q I rx r ⟨_, _, ys, zs, rfl, rfl, h1, h2, Nat.le_trans h3 line6, h4⟩
  · exact h.elim
def gPop : RM := fun x vs H Q => match x, vs with
  | .ref l, [] => ∃ xs y, H l = some (.lst (xs ++ [y])) ∧ Q y (upd H l (.lst xs))
  | .ref l, [.int i] => ∃ xs k y, H l = some (.lst xs) ∧ i = ((k : Nat) : Int) ∧ k < 1000000 ∧ xs[k]? = some y ∧ Q y (upd H l (.lst (xs.eraseIdx k)))
  | _, _ => False
theorem mt_popG : MtM X "list.pop" gPop := by
  intro pins s σ H x xs v us Q I rx r h
  unfold gPop at h
  split at h
  · obtain ⟨ys, y, h1, h2⟩ := h
    refine mt_pop pins s σ H _ _ v us Q I rx r ⟨_, _, y, rfl, rfl, h1, ?_, ?_⟩
    · rw [List.length_append]; simp
    · rw [List.dropLast_concat]; exact h2
  · obtain ⟨ys, k, y, h1, h2, h3, h4, h5⟩ := h
    subst h2
    refine mt_popAt pins s σ H _ _ v us Q I rx r ⟨_, ys, _, k, y, rfl, rfl, h1, by omega, by omega, ?_, h4, h5⟩
    have hk : k < ys.length := (List.getElem?_eq_some_iff.mp h4).1
    have e := (ixN_seq (n := ys.length) (i := (k : Int)) (j := k) (by unfold ixN; rw [if_pos (by omega), if_pos (by omega)]; simp)).1
    exact e
  · exact h.elim
end
end Pk

namespace Pk
open PySem PySem.Spec PyProof.Rows L2
/-! ### iterators that hand out tuples, by the library's walks -/
def Jt (n : Nat) (G : Hp → Prop) (Y : Nat → List V → Prop) : It :=
  ⟨fun i H => i < n ∧ G H, fun i H v H' => ∃ T xs, v = .ref T ∧ H T = none ∧ H' = upd H T (.tup xs) ∧ Y i xs, fun i H => n ≤ i ∧ G H⟩
theorem turn_wt {P : Program} {w : World} {K : PySem.W.Frag} {elts : List Expr} {kk : Nat} {tpos : Pos} (e : Addr) (fp : List Addr) (n : Nat) (own : Nat → Heap → Prop) (G : Hp → Prop) (Y : Nat → List V → Prop)
    (mem : e ∈ fp) (obj : ∀ i h, own i h → ∀ b ∈ fp, ∃ o, h.get? b = some o ∧ ∀ v, o.data ≠ .cell v)
    (keep : ∀ i h h', own i h → (∀ b ∈ fp, ∀ o, h.get? b = some o → h'.get? b = some o) → own i h')
    (small : ∀ i h, own i h → i ≤ n)
    (hW : ∀ (X : Cx) (pins : List (Addr × Obj)) (s : Shared) (σ : L2.St) (H : Hp) (i : Nat), X.prog = P → X.w = w → X.K = K → X.calm = true → Inv X pins σ H s → G H → own i s.heap →
      ∃ FP WR Pt St Mid, WalksT X.prog X.w X.A e FP WR n Pt St Mid ∧ (∀ b ∈ WR, b ∈ fp) ∧ St i s.heap ∧ (∀ j h, j ≤ n → St j h → own j h) ∧
        ∀ j vals, Pt j vals → ∃ xs, Vals xs vals.toList ∧ Y j xs ∧ xs.length ≤ 1000)
    (slf : ∀ (A : Around) (i : Nat) (s : Shared) (Q : Value → Shared → Prop) (E : Value → Shared → Prop), own i s.heap → Q (.ref e) s → wpAny (model P w) A (pyIter (.ref e)) Q E s) :
    Turn P w K (.Tuple elts kk tpos) (Jt n G Y) fp e own where
  mem := mem
  obj := obj
  keep := keep
  item := by
    intro X hP hw hK hc i pins s σ H E I hf st hg
    obtain ⟨FP, WR, Pt, St, Mid, W, hsub, hst, hown, hv⟩ := hW X pins s σ H i hP hw hK hc I hg.2 st
    subst hP hw hK
    refine W.item i s _ _ hg.1 hst fun T vals h' tk hPt hT hTup hMid hk => ⟨_, rfl, W.go elts kk tpos i T { s with heap := h', toks := tk } _ _ hMid fun h2 hSt hk2 => ?_⟩
    obtain ⟨xs, rv, hY, hz⟩ := hv i vals hPt
    have hTn : H T = none := I.hok.fresh hT
    have hT2 : h2.IsTuple T vals := hTup.at fun o q => hk2 T o (W.apart i T h' hMid) q
    have new : ObjOk X.prog X.w (upd H T (.tup xs)) h2 T (.tup xs) := ⟨Nat.le_of_lt (small1000 hz), vals.toList, rv, by show h2.IsTuple T vals.toList.toArray; rw [Array.toArray_toList]; exact hT2⟩
    have I1 : Inv X pins σ (upd H T (.tup xs)) { s with heap := h2, toks := tk } :=
      I.turnedNew (ch := WR) (fun b o hb q => hk2 b o hb (hk b o hb q)) (fun b hb => hf b (hsub b hb)) hT new
    refine ⟨.ref T, _, I1, rfl, ⟨T, xs, rfl, hTn, rfl, hY⟩, hown (i + 1) h2 hg.1 hSt, fun b hb => ?_⟩
    have hb' : b ≠ T := fun z => by
      obtain ⟨o, ho, _⟩ := obj i s.heap st b hb
      exact absurd (Nat.lt_of_lt_of_le (Heap.lt_size ho) (by rw [z]; exact hT)) (Nat.lt_irrefl _)
    rw [upd_ne hb']
    exact (hf b hb).1
  done := by
    intro X hP hw hK hc i pins s σ H E I hf st hg
    obtain ⟨FP, WR, Pt, St, Mid, W, hsub, hst, hown, hv⟩ := hW X pins s σ H i hP hw hK hc I hg.2 st
    have ei : i = n := Nat.le_antisymm (small i s.heap st) hg.1
    subst hP hw hK ei
    exact W.done s _ _ hst fun h' tk hk => ⟨rfl, I.turnedL (ch := WR) hk fun b hb => hf b (hsub b hb)⟩
  self := fun A i s Q E st h => slf A i s Q E st h

def YEn (xs : List V) : Nat → List V → Prop := fun i ys => ∃ x, xs[i]? = some x ∧ ys = [.int (i : Nat), x]
theorem walk_jt {n : Nat} {G : Hp → Prop} {Y : Nat → List V → Prop} : Walk (Jt n G Y) n G (fun i H v H' => ∃ T xs, v = .ref T ∧ H T = none ∧ H' = upd H T (.tup xs) ∧ Y i xs) :=
  ⟨fun i H hi hg => ⟨hi, hg⟩, fun H hg => ⟨Nat.le_refl _, hg⟩, fun i H x H' hi hg y => y⟩

theorem arrGet (a : Array Value) (i : Nat) : a.toList[i]? = a[i]? := by simp

/-- enumerate(a tuple) -/
theorem turn_enT {P : Program} {w : World} {K : PySem.W.Frag} {elts : List Expr} {kk : Nat} {tpos : Pos} (t e it : Addr) (xs : List V) :
    Turn P w K (.Tuple elts kk tpos) (Jt xs.length (fun H => SqT K H t xs) (YEn xs)) [e, it] e (fun i h => i ≤ xs.length ∧ (∃ old, IsEnum h e it ((i : Nat) : Int) old) ∧ h.IsTupleIter it t i ∧ e ≠ it) := by
  refine turn_wt e [e, it] xs.length _ _ _ (by simp) (fun i h st b hb => ?_) (fun i h h' st k => ?_) (fun i h st => st.1) (fun X pins s σ H i hP hw hK hc I hg st => ?_) (fun A i s Q E st h => ?_)
  · obtain ⟨_, ⟨old, he⟩, ⟨o, ho, hc, hd⟩, _⟩ := st
    have e' : b = e ∨ b = it := by simpa using hb
    rcases e' with z | z
    · rw [z]; exact ⟨_, he, fun v q => nomatch q⟩
    · rw [z]; exact ⟨o, ho, fun v q => by rw [hd] at q; cases q⟩
  · obtain ⟨hi, ⟨old, he⟩, hit, hne⟩ := st
    exact ⟨hi, ⟨old, k e (by simp) _ he⟩, hit.at fun o q => k it (by simp) o q, hne⟩
  · subst hP hw hK
    obtain ⟨its, rv, ht, hz⟩ := I.tuple hg
    obtain ⟨hi, ⟨old, he⟩, hit, hne⟩ := st
    have hti : t ≠ it := fun z => by
      obtain ⟨o1, h1, c1, _⟩ := ht
      obtain ⟨o2, h2, c2, _⟩ := hit
      rw [z, h2] at h1
      cases h1
      rw [c1] at c2
      exact absurd c2 (by decide +kernel)
    have hte : e ≠ t := fun z => by
      obtain ⟨o1, h1, c1, _⟩ := ht
      rw [← z, he] at h1
      cases h1
      exact absurd (show Value.type "enumerate" = Value.type "tuple" from c1) (by decide +kernel)
    have hlen : its.toArray.size = xs.length := by rw [List.size_toArray]; exact rv.length.symm
    have D := Draws.tuple (prog := X.prog) (w := X.w) (A := X.A.in1) (I.ok.hd hc) it t hti its.toArray
    rw [hlen] at D
    refine ⟨_, _, _, _, _, WalksT.enumerateD D e hne (by simp; exact ⟨hne, hte⟩) (by simp), fun b hb => hb, ⟨⟨old, he⟩, hit, ht⟩, fun j h hj hs => ⟨hj, hs.1, hs.2.1, hne⟩, fun j vals hv => ?_⟩
    obtain ⟨tk, x, hx, rfl⟩ := hv
    have hx' : its[j]? = some x := by simpa using hx
    have hj : j < xs.length := by rw [rv.length]; exact (List.getElem?_eq_some_iff.mp hx').1
    obtain ⟨u, hu, ru⟩ := rv.get (List.getElem?_eq_getElem hj)
    rw [hx'] at hu
    cases hu
    exact ⟨[.int (j : Nat), xs[j]], .cons ⟨tk, rfl⟩ (.cons ru .nil), ⟨_, List.getElem?_eq_getElem hj, rfl⟩, by show 2 ≤ 1000; decide⟩
  · obtain ⟨_, ⟨old, he⟩, _⟩ := st
    exact wpAny_pyIter_enum he h
/-- enumerate(a text) -/
def sgs (x : Str) : List V := (tl x).map fun k => V.str (S [k])
theorem turn_enS {P : Program} {w : World} {K : PySem.W.Frag} {elts : List Expr} {kk : Nat} {tpos : Pos} (x : Str) (tk : Tok) (e it : Addr) :
    Turn P w K (.Tuple elts kk tpos) (Jt (tl x).length (fun _ => True) (YEn (sgs x))) [e, it] e (fun i h => i ≤ (tl x).length ∧ (∃ old, IsEnum h e it ((i : Nat) : Int) old) ∧ h.IsStrIter it (strIterType x) x tk i ∧ e ≠ it) := by
  refine turn_wt e [e, it] (tl x).length _ _ _ (by simp) (fun i h st b hb => ?_) (fun i h h' st k => ?_) (fun i h st => st.1) (fun X pins s σ H i hP hw hK hc I hg st => ?_) (fun A i s Q E st h => ?_)
  · obtain ⟨_, ⟨old, he⟩, ⟨o, ho, hc, hd⟩, _⟩ := st
    have e' : b = e ∨ b = it := by simpa using hb
    rcases e' with z | z
    · rw [z]; exact ⟨_, he, fun v q => nomatch q⟩
    · rw [z]; exact ⟨o, ho, fun v q => by rw [hd] at q; cases q⟩
  · obtain ⟨hi, ⟨old, he⟩, ⟨o, ho, r⟩, hne⟩ := st
    exact ⟨hi, ⟨old, k e (by simp) _ he⟩, ⟨o, k it (by simp) o ho, r⟩, hne⟩
  · subst hP hw hK
    obtain ⟨hi, ⟨old, he⟩, hit, hne⟩ := st
    have hlen : x.cps.size = (tl x).length := by simp
    have D := Draws.text (prog := X.prog) (w := X.w) (A := X.A.in1) (I.ok.hd hc) it x tk
    rw [hlen] at D
    refine ⟨_, _, _, _, _, WalksT.enumerateD D e hne (by simp; exact hne) (by simp), fun b hb => hb, ⟨⟨old, he⟩, hit⟩, fun j h hj hs => ⟨hj, hs.1, hs.2, hne⟩, fun j vals hv => ?_⟩
    obtain ⟨t2, v, ⟨cc, u, hx, rfl⟩, rfl⟩ := hv
    have hx' : (tl x)[j]? = some cc := by simpa using hx
    exact ⟨[.int (j : Nat), .str (S [cc])], .cons ⟨t2, rfl⟩ (.cons ⟨u, rfl⟩ .nil), ⟨_, by unfold sgs; rw [List.getElem?_map, hx']; rfl, rfl⟩, by show 2 ≤ 1000; decide⟩
  · obtain ⟨_, ⟨old, he⟩, _⟩ := st
    exact wpAny_pyIter_enum he h

theorem enum_new1 {v : Value} {o : Obj} {G : Heap → Prop} (B : Begins v o G) :
    Meets (Builtin.«enumerate.__new__» ⟨[.type "enumerate", v], []⟩) (fun _ R s => G s.heap ∧
      R (.ok (.ret (.ref (s.heap.push o).objs.size))) { s with heap := (s.heap.push o).push { cls := .type "enumerate", data := .fields #[.none, .bool false, .ref s.heap.objs.size, rawInt 0, .none, .none] } }) :=
  .of_wp fun prog w A R s h => by
    obtain ⟨hp, g, d, tk, os⟩ := s
    obtain ⟨h1, h⟩ := h
    have hsub := sub_enumerate
    have q1 : ∀ {A' : Around} {E : Value → Shared → Prop} {Q : Value → Shared → Prop}, Q (.ref hp.objs.size) ⟨hp.push o, g, d, tk, os⟩ → wpAny (model prog w) A' (pyIter v) Q E ⟨hp, g, d, tk, os⟩ :=
      fun q => B.iter prog w _ _ ⟨hp, g, d, tk, os⟩ _ h1 q
    wp_walk using q1
    refine wpAny_stack_any fun st => wpAny_pure ?_
    split
    · rename_i cl _ _ _ _ _
      cases (cl == Value.type "enumerate")
      · wp_walk using q1
        exact ⟨_, rfl, h⟩
      · wp_walk using q1
        exact ⟨_, rfl, h⟩
    · wp_walk using q1
      exact ⟨_, rfl, h⟩
theorem enum_call1 {prog : Program} {w : World} {A : Around} {E : Value → Shared → Prop} {s : Shared} {v : Value} {o : Obj} {G : Heap → Prop} {Q : Value → Shared → Prop} (B : Begins v o G) (h1 : G s.heap)
    (h : ∀ h', IsEnum h' (s.heap.objs.size + 1) s.heap.objs.size 0 .none → h'.get? s.heap.objs.size = some o → (∀ b o, s.heap.get? b = some o → h'.get? b = some o) → Q (.ref (s.heap.objs.size + 1)) { s with heap := h' }) :
    wpAny (model prog w) A (call (.type "enumerate") [v]) Q E s := by
  refine callType_new F.called_enumerate (by decide) (F.typeCall_enumerate_1 _) (F.newCall_enumerate_1 _) (fun obj => F.args_object_init_2 obj _) F.entry_enumerate_new (enum_new1 B) ⟨h1, ?_⟩
  have hz : (s.heap.push o).objs.size = s.heap.objs.size + 1 := Heap.size_push ..
  show _ ∧ _
  rw [hz]
  have he : IsEnum ((s.heap.push o).push { cls := .type "enumerate", data := .fields #[.none, .bool false, .ref s.heap.objs.size, rawInt 0, .none, .none] }) (s.heap.objs.size + 1) s.heap.objs.size 0 .none := by
    have q := Heap.get?_push_size (s.heap.push o) (o := { cls := .type "enumerate", data := .fields #[.none, .bool false, .ref s.heap.objs.size, rawInt 0, .none, .none] }) rfl
    rw [hz] at q
    exact q
  exact ⟨⟨_, he, rfl⟩, h _ he (Heap.get?_push_of_some _ (Heap.get?_push_size _ B.free)) fun b o x => Heap.get?_push_of_some _ (Heap.get?_push_of_some _ x)⟩
section
variable {X : Cx} {e : Expr} {ta : TA} {p pos tpos : Pos} {elts : List Expr} {kk : Nat}
/-- for i, x in enumerate(a text, a tuple) -/
def gEnum (K : PySem.W.Frag) (ta : TA) : TI := fun σ H R => ta σ H fun vs H1 => match vs with
  | [.str x] => R (Jt (tl x).length (fun _ => True) (YEn (sgs x))) H1
  | [.ref t] => ∃ xs, SqT K H1 t xs ∧ R (Jt xs.length (fun H => SqT K H t xs) (YEn xs)) H1
  | _ => False
theorem pi_enumG0 (hm : X.mg "enumerate" = none) (ha : PA X [e] ta) (hg : Gl X "enumerate" := by rfl) (hs : starEach [e] X.env = [(false, eval e X.env)] := by rfl) (hc : X.calm = true := by rfl) :
    PI X (.Tuple elts kk tpos) (.Call (.Name "enumerate" p) [e] [] pos) (gEnum X.K ta) := by
  refine ⟨fun pins s σ H R I h => ?_⟩
  refine Call_ (ld_blt I hg hm boot_enumerate (PyProof.Rows.callWith_type1 (thn (ha.run pos pins s σ H _ I h) fun us s1 ⟨vs, H1, I1, r1, q1⟩ => ?_) hs rfl))
  have fpo : ∀ b, b ∈ [s1.heap.objs.size + 1, s1.heap.objs.size] → FpOk X pins H1 b := fun b hb => by
    have e' : b = s1.heap.objs.size + 1 ∨ b = s1.heap.objs.size := by simpa using hb
    have hle : s1.heap.objs.size ≤ b := by
      rcases e' with z | z
      · rw [z]; exact Nat.le_add_right _ _
      · rw [z]; exact Nat.le_refl _
    exact I1.fpOk hle (I1.hok.fresh hle)
  dsimp only at q1
  split at q1
  · rename_i x
    obtain ⟨u, rfl, tk, rfl⟩ := vals1 r1
    refine enum_call1 (begins_text x tk) trivial fun h' he ho hk => wpAny_pyIter_enum he ?_
    have I2 : Inv X pins σ H1 { s1 with heap := h' } := I1.kept (t' := s1.toks) hk
    exact ⟨s1.heap.objs.size + 1, _, _, _, H1, rfl, I2, turn_enS x tk (s1.heap.objs.size + 1) s1.heap.objs.size, ⟨Nat.zero_le _, ⟨.none, he⟩, ⟨_, ho, rfl, rfl⟩, Nat.succ_ne_self _⟩, fpo, q1⟩
  · rename_i t
    obtain ⟨u, rfl, r2⟩ := vals1 r1
    cases r2
    obtain ⟨xs, hq, q⟩ := q1
    obtain ⟨its, rv, ht, hz⟩ := I1.tuple hq
    refine enum_call1 (begins_tuple t its.toArray) ht fun h' he ho hk => wpAny_pyIter_enum he ?_
    have I2 : Inv X pins σ H1 { s1 with heap := h' } := I1.kept (t' := s1.toks) hk
    exact ⟨s1.heap.objs.size + 1, _, _, _, H1, rfl, I2, turn_enT t (s1.heap.objs.size + 1) s1.heap.objs.size xs, ⟨Nat.zero_le _, ⟨.none, he⟩, ⟨_, ho, rfl, rfl⟩, Nat.succ_ne_self _⟩, fpo, q⟩
  · exact q1.elim
end
section
variable {X : Cx}
/-! ### methods of texts -/
def abc : List Nat := [97, 98, 99, 100, 101, 102]
/-- "abcdef".index(a letter of it) -/
def gIndex : RM := fun x vs H Q => match x, vs with
  | .str a, [.str b] => ∃ k, tl a = abc ∧ tl b = [k] ∧ (97 ≤ k ∧ k ≤ 102) ∧ Q (.int ((k : Int) - 97)) H
  | _, _ => False
theorem occ_abc {k : Nat} (h : 97 ≤ k ∧ k ≤ 102) : Builtin.Str.occurrences (S abc) (S [k]) 0 (S abc).length 1 = [k - 97] := by
  have e : k = 97 ∨ k = 98 ∨ k = 99 ∨ k = 100 ∨ k = 101 ∨ k = 102 := by omega
  rcases e with rfl | rfl | rfl | rfl | rfl | rfl <;> decide +kernel
theorem mt_indexG : MtR X "str.index" gIndex := by
  intro pins s σ H x xs v us Q I rx r h
  unfold gIndex at h
  split at h
  · obtain ⟨k, h1, h2, h3, h4⟩ := h
    rename_i a b
    have ea : a = S abc := by rw [← S_tl a, h1]
    have eb : b = S [k] := by rw [← S_tl b, h2]
    subst ea eb
    refine mt_sindex pins s σ H _ _ v us Q I rx r ⟨_, _, k - 97, [], rfl, rfl, occ_abc h3, ?_⟩
    rw [show (((k - 97 : Nat) : Nat) : Int) = (k : Int) - 97 by omega]
    exact h4
  · exact h.elim
theorem cnt_count (k : Nat) : ∀ l : List Nat, cnt k l = ((l.count k : Nat) : Int)
  | [] => rfl
  | n :: r => by
    rw [cnt_cons, cnt_count k r, List.count_cons]
    by_cases h : n = k
    · subst h; rw [if_pos rfl, if_pos (by simp)]; omega
    · rw [if_neg h, if_neg (by simpa using h)]; omega
/-- row.count(a letter) -/
def gCount : RM := fun x vs H Q => match x, vs with
  | .str a, [.str b] => ∃ k, tl b = [k] ∧ Q (.int ((tl a).count k : Nat)) H
  | _, _ => False
theorem mt_countG : MtR X "str.count" gCount := by
  intro pins s σ H x xs v us Q I rx r h
  unfold gCount at h
  split at h
  · obtain ⟨k, h2, h4⟩ := h
    rename_i a b
    have eb : b = ⟨#[k]⟩ := sign_of h2
    subst eb
    refine mt_count pins s σ H _ _ v us Q I rx r ⟨_, _, rfl, rfl, ?_⟩
    have e : Txt.count a ⟨#[k]⟩ = (((tl a).count k : Nat) : Int) := by
      rw [count_is, ← cnt_count]
      rfl
    rw [e]
    exact h4
  · exact h.elim
def gJoin (K : PySem.W.Frag) : RM := fun x vs H Q => match x, vs with
  | .str a, [.ref p] => ∃ ys : List (List Nat), SqL K H p (ys.map fun l => V.str (S l)) ∧ (ys.map List.length).sum + ys.length * (tl a).length ≤ 1000000 ∧ Q (.str (S (TL.joinL (tl a) ys))) H
  | _, _ => False
theorem map_len_S : ∀ ys : List (List Nat), (ys.map S).map (·.length) = ys.map List.length
  | [] => rfl
  | y :: r => by
    show (S y).length :: (r.map S).map (·.length) = y.length :: r.map List.length
    rw [map_len_S r, len_S]
theorem map_tl_S : ∀ ys : List (List Nat), (ys.map S).map TL.tl = ys
  | [] => rfl
  | y :: r => by
    show TL.tl (S y) :: (r.map S).map TL.tl = y :: r
    rw [map_tl_S r]
theorem mt_joinG0 : MtR X "str.join" (gJoin X.K) := by
  intro pins s σ H x xs v us Q I rx r h
  unfold gJoin at h
  split at h
  · obtain ⟨ys, h2, h3, h4⟩ := h
    rename_i a b
    refine mt_join pins s σ H _ _ v us Q I rx r ⟨a, b, ys.map S, rfl, rfl, .inl ?_, ?_, ?_⟩
    · rw [List.map_map]; exact h2
    · rw [map_len_S, List.length_map, len_S]
      exact Nat.le_trans h3 (by decide)
    · have e : Txt.join a (ys.map S) = S (TL.joinL (tl a) ys) := by
        rw [TL.join_eq, ← S_tl (Str.join a (ys.map S))]
        have e2 : tl (Str.join a (ys.map S)) = TL.joinL (tl a) ((ys.map S).map TL.tl) := TL.tl_join a (ys.map S)
        rw [e2, map_tl_S]
      rw [e]
      exact h4
  · exact h.elim
theorem joinL_nil : ∀ ys : List (List Nat), TL.joinL [] ys = ys.flatten
  | [] => rfl
  | [p] => by simp [TL.joinL]
  | p :: q :: r => by
    show p ++ ([] ++ TL.joinL [] (q :: r)) = p ++ (q :: r).flatten
    rw [List.nil_append, joinL_nil (q :: r)]
end
/-! ### defs that are called -/
structure Cal (P : Program) (w : World) (K : PySem.W.Frag) (mg : Str → Option Value) (base : Heap) (CX : CXT) (k : Nat) (x : Str) (ps : List Str) (sp : Sp) : Prop where
  ex : ∃ f fd, mg x = some (.ref f) ∧ PySem.W.keepIn K (.ref f) = true ∧ Binds K fd ps [] ∧ FnOk P w K mg base CX k f fd ps sp
def tCal (sp : Sp) (E : XK) (t : TA) : TE := fun σ H Q => t σ H fun vs H1 => sp vs H1 Q E
section
variable {X : Cx} {CX : CXT} {k : Nat} {ps : List Str} {sp : Sp} {E : XK} {x : Str} {p pos : Pos} {e : Expr} {es : List Expr} {t : TA}
theorem pe_cal (C : Cal X.prog X.w X.K X.mg X.base CX k x ps sp) (hr : Room k X.A) (hx : Passes CX X E)
    (ha : PA X (e :: es) t) (hg : Gl X x := by rfl) (hdb : (x == ("__debug__" : Str)) = false := by decide) (he : starEach (e :: es) X.env = (false, eval e X.env) :: starEach es X.env := by rfl) (hpl : (backTo pos (starEach es X.env)).any (·.1) = false := by rfl) :
    PE X (.Call (.Name x p) (e :: es) [] pos) (tCal sp E t) := by
  obtain ⟨f, fd, hm, hk, hb, F⟩ := C.ex
  have h : tCal sp E t = tCall sp [] E t := by
    funext σ H Q
    show t σ H (fun vs H1 => sp vs H1 Q E) = t σ H fun vs H1 => sp (vs ++ []) H1 Q E
    congr
    funext vs H1
    rw [List.append_nil]
  rw [h]
  exact pe_call F hr hg hm hk hb .nil hx ha hdb he hpl
theorem Cal.mk' {P : Program} {w : World} {K : PySem.W.Frag} {mg : Str → Option Value} {base : Heap} {f : Addr} {fd : FuncData} {q : Str} {st : Stmt} (F : Fun K x q st f fd) (hm : mg x = some (.ref f)) (b : Binds K fd ps []) (h : FnOk P w K mg base CX k f fd ps sp) : Cal P w K mg base CX k x ps sp :=
  ⟨f, fd, hm, F.kp, b, h⟩
end
/-! ### heaps -/
theorem same_upd {H : Hp} {p : Addr} {o : HO} (h : H p = none) : Same H (upd H p o) := fun b x e => by
  rw [upd_ne (ne_of_none e h)]
  exact e
theorem _root_.L2.Same.tup {K : PySem.W.Frag} {H H' : Hp} {a : Addr} {xs : List V} (e : Same H H') (h : SqT K H a xs) : SqT K H' a xs := by
  rcases h with (h | ⟨o, h⟩) | h
  · exact .inl (.inl (e _ _ h))
  · exact .inl (.inr ⟨o, e _ _ h⟩)
  · exact .inr h
/-- all but what stands at d -/
def SameB (d : Addr) (H H' : Hp) : Prop := ∀ b o, b ≠ d → H b = some o → H' b = some o
theorem SameB.of {d : Addr} {H H' : Hp} (h : Same H H') : SameB d H H' := fun b o _ e => h b o e
theorem SameB.trans {d : Addr} {H H1 H2 : Hp} (a : SameB d H H1) (b : SameB d H1 H2) : SameB d H H2 := fun c o n h => b c o n (a c o n h)
theorem SameB.refl (d : Addr) (H : Hp) : SameB d H H := fun _ _ _ h => h
theorem sameB_upd {d : Addr} {H : Hp} {o : HO} : SameB d H (upd H d o) := fun b x n e => by rw [upd_ne n]; exact e
theorem SameB.tup {K : PySem.W.Frag} {d : Addr} {H H' : Hp} {a : Addr} {xs ys : List V} (e : SameB d H H') (hd : H d = some (.lst ys)) (h : SqT K H a xs) : SqT K H' a xs := by
  rcases h with (h | ⟨o, h⟩) | h
  · exact .inl (.inl (e _ _ (ne_of h hd (by intro z; cases z)) h))
  · exact .inl (.inr ⟨o, e _ _ (ne_of h hd (by intro z; cases z)) h⟩)
  · exact .inr h
end Pk

namespace Pk
open PySem PySem.Spec PyProof.Rows L2
/-! ### the built-in names stand as they are -/
structure Bi (mg : Str → Option Value) : Prop where
  len : mg "len" = none
  range : mg "range" = none
  enumerate : mg "enumerate" = none
  isinstance : mg "isinstance" = none
  tuple : mg "tuple" = none
  list : mg "list" = none
  abs : mg "abs" = none
  all : mg "all" = none
  zip : mg "zip" = none
  sum : mg "sum" = none
  int : mg "int" = none
  min : mg "min" = none
  max : mg "max" = none
  sorted : mg "sorted" = none
  set : mg "set" = none
  dict : mg "dict" = none
  str : mg "str" = none
  any : mg "any" = none
  bool : mg "bool" = none
theorem bt_len : bootBuiltins "len" = some (.builtin "len") := by decide +kernel
theorem bt_isinstance : bootBuiltins "isinstance" = some (.builtin "isinstance") := by decide +kernel
theorem bt_abs : bootBuiltins "abs" = some (.builtin "abs") := by decide +kernel
theorem bt_all : bootBuiltins "all" = some (.builtin "all") := by decide +kernel
theorem bt_any : bootBuiltins "any" = some (.builtin "any") := by decide +kernel
theorem bt_sum : bootBuiltins "sum" = some (.builtin "sum") := by decide +kernel
theorem bt_min : bootBuiltins "min" = some (.builtin "min") := by decide +kernel
theorem bt_max : bootBuiltins "max" = some (.builtin "max") := by decide +kernel
theorem bt_sorted : bootBuiltins "sorted" = some (.builtin "sorted") := by decide +kernel
theorem bt_tuple : bootBuiltins "tuple" = some (.type "tuple") := by decide +kernel
theorem bt_list : bootBuiltins "list" = some (.type "list") := by decide +kernel
theorem bt_int : bootBuiltins "int" = some (.type "int") := by decide +kernel
theorem bt_str : bootBuiltins "str" = some (.type "str") := by decide +kernel
theorem bt_bool : bootBuiltins "bool" = some (.type "bool") := by decide +kernel
theorem bt_set : bootBuiltins "set" = some (.type "set") := by decide +kernel
theorem bt_dict : bootBuiltins "dict" = some (.type "dict") := by decide +kernel
section
variable {X : Cx} {a b : Expr} {ta tb : TE} {pos : Pos} {rest : List Expr}
/-- a written text -/
theorem pe_strC {x : Str} {j : Nat} (l : List Nat) (h : x = S l) : PE X (.Constant (.str x) j pos) (tC (.str (S l))) := h ▸ pe_str
/-- not, and, or of truth values -/
def gNotV (ta : TE) : TE := fun σ H Q => ta σ H fun x H1 => match x with
  | .bl k => Q (.bl (!k)) H1
  | _ => False
theorem pe_notG (ha : PE X a ta) : PE X (.UnaryOp .Not a pos) (gNotV ta) := by
  refine ⟨fun pins s σ H Q I h => ?_⟩
  refine UnaryOp_ (thn (ha.run pins s σ H _ I h) fun v s1 ⟨x, H1, I1, r1, q1⟩ => ?_)
  cases x with
  | bl k => cases r1; exact not_of (wpAny_truthy_bool ⟨.bl (!k), H1, I1, rfl, q1⟩)
  | _ => exact q1.elim
def gAndV (ta tb : TE) : TE := fun σ H Q => ta σ H fun x H1 => match x with
  | .bl k => if k = true then tb σ H1 Q else Q (.bl false) H1
  | _ => False
def gOrV (ta tb : TE) : TE := fun σ H Q => ta σ H fun x H1 => match x with
  | .bl k => if k = true then Q (.bl true) H1 else tb σ H1 Q
  | _ => False
theorem pe_andG (ha : PE X a ta) (hb : PE X (.BoolOp .And (b :: rest) pos) tb) : PE X (.BoolOp .And (a :: b :: rest) pos) (gAndV ta tb) := by
  refine ⟨fun pins s σ H Q I h => ?_⟩
  refine BoolOp_and (thn (ha.run pins s σ H _ I h) fun v s1 ⟨x, H1, I1, r1, q1⟩ => ?_)
  cases x with
  | bl k =>
    cases r1
    refine wpAny_truthy_bool ?_
    cases k with
    | true => exact hb.run pins s1 σ H1 Q I1 q1
    | false => exact ⟨.bl false, H1, I1, rfl, q1⟩
  | _ => exact q1.elim
theorem pe_orG (ha : PE X a ta) (hb : PE X (.BoolOp .Or (b :: rest) pos) tb) : PE X (.BoolOp .Or (a :: b :: rest) pos) (gOrV ta tb) := by
  refine ⟨fun pins s σ H Q I h => ?_⟩
  refine BoolOp_or (thn (ha.run pins s σ H _ I h) fun v s1 ⟨x, H1, I1, r1, q1⟩ => ?_)
  cases x with
  | bl k =>
    cases r1
    refine wpAny_truthy_bool ?_
    cases k with
    | false => exact hb.run pins s1 σ H1 Q I1 q1
    | true => exact ⟨.bl true, H1, I1, rfl, q1⟩
  | _ => exact q1.elim
/-- what is walked: a text, a list, a tuple -/
def gSeq (K : PySem.W.Frag) (ta : TE) : TI := fun σ H R => ta σ H fun v H1 => match v with
  | .str x => R (Its x) H1
  | .ref p => (∃ xs, SqL K H1 p xs ∧ R (Itl K p) H1) ∨ (∃ xs, SqT K H1 p xs ∧ R (Itt K p) H1)
  | _ => False
theorem pi_seqG0 {tg : Expr} (ha : PE X a ta) : PI X tg a (gSeq X.K ta) := by
  refine ⟨fun pins s σ H R I h => ?_⟩
  refine thn (ha.run pins s σ H _ I h) fun v s1 ⟨y, H1, I1, r1, q1⟩ => ?_
  cases y with
  | str x =>
    obtain ⟨t, rfl⟩ := r1
    cases ha : x.cps.all (· < 128)
    · exact wpAny_pyIter_wide ha (pi_one (tk := s1.toks) I1 _ (turn_str _ x t "str_iterator" (.inr rfl)) ⟨_, Heap.get?_push_size _ rfl, rfl, rfl⟩ q1)
    · exact wpAny_pyIter_ascii ha (pi_one (tk := s1.toks) I1 _ (turn_str _ x t "str_ascii_iterator" (.inl rfl)) ⟨_, Heap.get?_push_size _ rfl, rfl, rfl⟩ q1)
  | ref p =>
    cases r1
    rcases q1 with ⟨xs, hq, q⟩ | ⟨xs, hq, q⟩
    · obtain ⟨its, rv, pl, hz⟩ := I1.list hq
      exact wpAny_pyIter_list pl.isList (pi_one (tk := s1.toks) I1 _ (turn_list p _) ⟨_, Heap.get?_push_size _ rfl, rfl, rfl⟩ q)
    · obtain ⟨its, rv, pl, hz⟩ := I1.tuple hq
      exact wpAny_pyIter_tuple (show s1.heap.IsTuple p its.toArray from pl) (pi_one (tk := s1.toks) I1 _ (turn_tuple p _) ⟨_, Heap.get?_push_size _ rfl, rfl, rfl⟩ q)
  | _ => exact q1.elim
/-- (a, b) = a tuple -/
def gNm (K : PySem.W.Frag) (is : List Nat) : TG := fun v σ H Q => match v with
  | .ref p => ∃ xs, SqT K H p xs ∧ (match is, xs with
    | [i, j], [x, y] => Q ((σ.set i (some x)).set j (some y)) H
    | [i, j, k], [x, y, z] => Q (((σ.set i (some x)).set j (some y)).set k (some z)) H
    | _, _ => False)
  | _ => False
theorem pg_imp {tg : Expr} {t t' : TG} (h : PG X tg t) (f : ∀ v σ H Q, t' v σ H Q → t v σ H Q) : PG X tg t' := ⟨fun pins s σ H v u Q I r q => h.run pins s σ H v u Q I r (f v σ H Q q)⟩
theorem pg_nm0 {es : List Expr} {is : List Nat} {k n : Nat} {t : TGs} (h : PGs X es t) (ht : ∀ xs σ H Q, (match is, xs with
    | [i, j], [x, y] => Q ((σ.set i (some x)).set j (some y)) H
    | [i, j, k], [x, y, z] => Q (((σ.set i (some x)).set j (some y)).set k (some z)) H
    | _, _ => False) → xs.length = n ∧ t xs σ H Q) (hc : X.calm = true := by rfl)
    (hn : (assignEach es X.env).length = n := by rfl) (hst : (assignEach es X.env).findIdx? (·.1) = none := by rfl) : PG X (.Tuple es k pos) (gNm X.K is) := by
  refine pg_imp (pg_tup (n := n) hc h hn hst) fun v σ H Q q => ?_
  unfold gNm at q
  split at q
  · obtain ⟨xs, h1, h2⟩ := q
    obtain ⟨h3, h4⟩ := ht xs σ H Q h2
    exact ⟨_, xs, rfl, h1, h3, h4⟩
  · exact q.elim
theorem nm2 {i j : Nat} : ∀ (xs : List V) (σ : L2.St) (H : Hp) (Q : L2.St → Hp → Prop), (match [i, j], xs with
    | [i, j], [x, y] => Q ((σ.set i (some x)).set j (some y)) H
    | [i, j, k], [x, y, z] => Q (((σ.set i (some x)).set j (some y)).set k (some z)) H
    | _, _ => False) → xs.length = 2 ∧ gCons (gName i) (gCons (gName j) gNil) xs σ H Q
  | [x, y], σ, H, Q, h => ⟨rfl, x, [y], rfl, y, [], rfl, rfl, h⟩
  | [], _, _, _, h => h.elim
  | [_], _, _, _, h => h.elim
  | _ :: _ :: _ :: _, _, _, _, h => h.elim
theorem nm3 {i j l : Nat} : ∀ (xs : List V) (σ : L2.St) (H : Hp) (Q : L2.St → Hp → Prop), (match [i, j, l], xs with
    | [i, j], [x, y] => Q ((σ.set i (some x)).set j (some y)) H
    | [i, j, k], [x, y, z] => Q (((σ.set i (some x)).set j (some y)).set k (some z)) H
    | _, _ => False) → xs.length = 3 ∧ gCons (gName i) (gCons (gName j) (gCons (gName l) gNil)) xs σ H Q
  | [x, y, z], σ, H, Q, h => ⟨rfl, x, [y, z], rfl, y, [z], rfl, z, [], rfl, rfl, h⟩
  | [], _, _, _, h => h.elim
  | [_], _, _, _, h => h.elim
  | [_, _], _, _, _, h => h.elim
  | _ :: _ :: _ :: _ :: _, _, _, _, h => h.elim
/-- name op= e -/
def gAug (i : Nat) (te : TE) (r : R2) : TS := fun D σ H => match σ[i]? with
  | some (some x) => te σ H fun y H1 => r x y H1 fun z H2 => D.nx (σ.set i (some z)) H2
  | _ => False
theorem ps_augG {i : Nat} {x : Str} {e : Expr} {te : TE} {op : Operator} {r : R2} {pos' : Pos} (hN : X.N.Nodup) (hi : X.N[i]? = some x) (hx : Loc X.env.scope x) (he : PE X e te) (ho : OpR X (inplaceOp op) r)
    (hf : X.fn x = true ∨ X.env.scope.names.lookup x = some .local := by first | exact .inl rfl | exact .inr rfl | assumption) :
    PS X (.AugAssign (.Name x pos') op e pos) (gAug i te r) := ps_imp (ps_aug (ti := r) hN hi hx he ho hf) fun D σ H h => by
  unfold gAug at h
  split at h
  · rename_i v e1
    exact ⟨v, e1, h⟩
  · exact h.elim
def gIAdd (K : PySem.W.Frag) : R2 := fun x y H Q => match x, y with
  | .int i, .int j => Q (.int (i + j)) H
  | .str a, .str b => (tl a).length + (tl b).length ≤ 1000000 ∧ Q (.str (S (tl a ++ tl b))) H
  | .ref l, .ref p => ∃ xs zs, H l = some (.lst xs) ∧ H p = some (.lst zs) ∧ xs.length + zs.length ≤ 1000000 ∧ Q (.ref l) (upd H l (.lst (xs ++ zs)))
  | _, _ => False
theorem iop_addG0 : OpR X (inplaceOp .Add) (gIAdd X.K) := by
  intro pins s σ H x y v u Q I rx ry h
  unfold gIAdd at h
  split at h
  · exact iop_add pins s σ H _ _ v u Q I rx ry ⟨_, _, rfl, rfl, h⟩
  · refine iop_add_str pins s σ H _ _ v u Q I rx ry ⟨_, _, rfl, rfl, ?_, ?_⟩
    · rw [len_S, len_S]; exact Nat.le_trans h.1 line6
    · rw [app_S]; exact h.2
  · obtain ⟨xs, zs, h1, h2, h3, h4⟩ := h
    exact iop_ext pins s σ H _ _ v u Q I rx ry ⟨_, _, xs, zs, rfl, rfl, h1, h2, Nat.le_trans h3 line6, h4⟩
  · exact h.elim
theorem iop_subG : OpR X (inplaceOp .Sub) gSub := by
  intro pins s σ H x y v u Q I rx ry h
  unfold gSub at h
  split at h
  · exact iop_sub pins s σ H _ _ v u Q I rx ry ⟨_, _, rfl, rfl, h⟩
  · exact h.elim
end
/-- l[k] = v, a list by place -/
def gSetL : TSet := fun o i v H Q => match o, i with
  | .ref p, .int k => ∃ xs j, H p = some (.lst xs) ∧ ixN xs.length k = some j ∧ Q (upd H p (.lst (xs.set j v)))
  | _, _ => False
theorem set_listG {X : Cx} : PSet X gSetL := by
  intro pins s σ H o i v ov iv u Q I ro ri rv h
  unfold gSetL at h
  split at h
  · obtain ⟨xs, j, h1, h2, h3⟩ := h
    exact set_list pins s σ H _ _ v ov iv u Q I ro ri rv ⟨_, xs, _, j, rfl, rfl, h1, h2, h3⟩
  · exact h.elim
theorem ixN_nat {n k : Nat} (h : k < n) : ixN n ((k : Nat) : Int) = some k := by
  unfold ixN
  rw [if_pos (by omega), if_pos (by omega)]
  simp
theorem SameB.free {d D : Addr} {H H1 : Hp} (h : SameB d H H1) (hD : H1 D = none) (hne : D ≠ d) : H D = none := by
  cases e : H D with
  | none => rfl
  | some o => rw [h D o hne e] at hD; cases hD
theorem SameB.at {d D : Addr} {H H1 : Hp} {o : HO} (h : SameB d H H1) (hD : H D = none) : SameB d H (upd H1 D o) := fun b x n e => by
  rw [upd_ne (ne_of_none e hD)]
  exact h b x n e
theorem SameB.d {d : Addr} {H H1 : Hp} {o : HO} (h : SameB d H H1) : SameB d H (upd H1 d o) := h.trans sameB_upd
theorem _root_.L2.Same.at {D : Addr} {H H1 : Hp} {o : HO} (h : Same H H1) (hD : H D = none) : Same H (upd H1 D o) := fun b x e => by
  rw [upd_ne (ne_of_none e hD)]
  exact h b x e
theorem upd_self {H : Hp} {a : Addr} {o : HO} (h : H a = some o) : upd H a o = H := by
  funext b
  by_cases e : b = a
  · subst e; rw [upd_same, h]
  · rw [upd_ne e]
/-- what stands behind a statement, said once for all its ways -/
def tCut (t u : TS) : TS := fun D σ H => ∃ M : L2.St → Hp → Prop, t { D with nx := M } σ H ∧ ∀ σ' H', M σ' H' → u D σ' H'
theorem pss_cutG {X : Cx} {st : Stmt} {rest : List Stmt} {t u : TS} (h1 : PS X st t) (h2 : PSs X rest u) : PSs X (st :: rest) (tCut t u) := by
  refine ⟨fun pins s σ H D I h => ?_⟩
  obtain ⟨M, h, hM⟩ := h
  refine wpAny_execs_cons (thn (h1.run pins s σ H { D with nx := M } I h) fun f s1 q => ?_)
  cases f with
  | next =>
    obtain ⟨σ1, H1, I1, q1⟩ := q
    exact h2.run pins s1 σ1 H1 D I1 (hM σ1 H1 q1)
  | ret v => exact q
  | brk => exact q
  | cont => exact q

/-! ### the same, the written part named -/
section
variable {X : Cx} {K : PySem.W.Frag}
theorem op_addG (hK : X.K = K := by rfl) : OpR X (binaryOp .Add) (gAdd K) := hK ▸ op_addG0
theorem op_mulG (hK : X.K = K := by rfl) : OpR X (binaryOp .Mult) (gMul K) := hK ▸ op_mulG0
theorem iop_addG (hK : X.K = K := by rfl) : OpR X (inplaceOp .Add) (gIAdd K) := hK ▸ iop_addG0
theorem op_eqG (hu : X.A.units + 64 < cLine) (hK : X.K = K := by rfl) : OpR X (compareOp .Eq) (gEqW K id) := hK ▸ op_eqG0 hu
theorem op_neG (hu : X.A.units + 64 < cLine) (hK : X.K = K := by rfl) : OpR X (compareOp .NotEq) (gEqW K not) := hK ▸ op_neG0 hu
theorem op_inG (hK : X.K = K := by rfl) : OpR X (compareOp .In) (gIn K false) := hK ▸ op_inG0
theorem op_notInG (hK : X.K = K := by rfl) : OpR X (compareOp .NotIn) (gIn K true) := hK ▸ op_notInG0
theorem ixG (hK : X.K = K := by rfl) : IxR X (gIx K) := hK ▸ ixG0
theorem slG (hK : X.K = K := by rfl) : SlR X (gSl K) := hK ▸ slG0
theorem cr_lenG (hK : X.K = K := by rfl) : CallR X (.builtin "len") (gLen K) := hK ▸ cr_lenG0
theorem cr_tupleG (hK : X.K = K := by rfl) : CallR X (.type "tuple") (gTuple K) := hK ▸ cr_tupleG0
theorem cr_listG (hK : X.K = K := by rfl) : CallR X (.type "list") (gList K) := hK ▸ cr_listG0
theorem cr_allG (hc : X.calm = true) (hK : X.K = K := by rfl) : CallR X (.builtin "all") (gAll K) := hK ▸ cr_allG0 hc
theorem cr_sumG (hc : X.calm = true) (hK : X.K = K := by rfl) : CallR X (.builtin "sum") (gSum K) := hK ▸ cr_sumG0 hc
theorem cr_isiG (k : Knd) (hK : X.K = K := by rfl) : CallR X (.builtin "isinstance") (fun vs H Q => tagOf (.ty k.nm) vs ∧ gIsi K k vs H Q) := hK ▸ cr_isiG0 k
theorem mt_joinG (hK : X.K = K := by rfl) : MtR X "str.join" (gJoin K) := hK ▸ mt_joinG0
variable {a e o : Expr} {es : List Expr} {ta to : TE} {pos p tpos apos cpos : Pos} {elts : List Expr} {kk : Nat} {t : TA} {T id : String} {name : Str} {r : RM}
theorem pt_truG (ha : PE X a ta) (hK : X.K = K := by rfl) (he : ∀ whole, isTrue a X.env whole = (do let v ← whole; standAt a.pos; holding [v] (truthy v)) := by intro _; rfl) : PT X a (gTru K ta) := hK ▸ pt_truG0 ha he
theorem pi_seqG {tg : Expr} (ha : PE X a ta) (hK : X.K = K := by rfl) : PI X tg a (gSeq K ta) := hK ▸ pi_seqG0 ha
theorem pi_enumG (hm : X.mg "enumerate" = none) (ha : PA X [e] t) (hK : X.K = K := by rfl) (hg : Gl X "enumerate" := by rfl) (hs : starEach [e] X.env = [(false, eval e X.env)] := by rfl) (hc : X.calm = true := by rfl) :
    PI X (.Tuple elts kk tpos) (.Call (.Name "enumerate" p) [e] [] pos) (gEnum K t) := hK ▸ pi_enumG0 hm ha hg hs hc
theorem pg_nm {es : List Expr} {is : List Nat} {k n : Nat} {t : TGs} (h : PGs X es t) (ht : ∀ xs σ H Q, (match is, xs with
    | [i, j], [x, y] => Q ((σ.set i (some x)).set j (some y)) H
    | [i, j, k], [x, y, z] => Q (((σ.set i (some x)).set j (some y)).set k (some z)) H
    | _, _ => False) → xs.length = n ∧ t xs σ H Q) (hK : X.K = K := by rfl) (hc : X.calm = true := by rfl)
    (hn : (assignEach es X.env).length = n := by rfl) (hst : (assignEach es X.env).findIdx? (·.1) = none := by rfl) : PG X (.Tuple es k pos) (gNm K is) := hK ▸ pg_nm0 h ht hc hn hst
/-- methods of built-in kinds -/
def gBM (K : PySem.W.Frag) (T : String) (r : RM) (to : TE) (t : TA) : TE := fun σ H Q => to σ H fun x H1 => tyV K T x H1 ∧ t σ H1 fun xs H2 => r x xs H2 Q
theorem pe_bmG (pa : PlainAttrs T) (slot : Slot T name id) (hty : typeOf (.builtin id) = pure (.type "method_descriptor")) (hm : MtR X id r) (ho : PE X o to) (ha : PA X (e :: es) t) (hK : X.K = K := by rfl)
    (hbase : attributeBase o name X.env (eval o X.env) = eval o X.env := by rfl)
    (hfew : ((backTo cpos (starEach (e :: es) X.env)).all (fun x => !x.1) && (backToKw cpos (keywordEach [] X.env)).all (fun x => x.1.isSome)
      && decide ((e :: es).length + ([] : List Keyword).length + (if ([] : List Keyword).isEmpty then 0 else 1) < 30)) = true := by rfl)
    (hline : (apos.endLine == cpos.line) = true := by rfl) (hs : starEach (e :: es) X.env = (false, eval e X.env) :: starEach es X.env := by rfl) (hplain : (backTo cpos (starEach es X.env)).any (·.1) = false := by rfl) :
    PE X (.Call (.Attribute o name apos) (e :: es) [] cpos) (gBM K T r to t) := hK ▸ pe_bm pa slot hty hm ho ha hbase hfew hline hs hplain
def gBM0 (K : PySem.W.Frag) (T : String) (r : RM) (to : TE) : TE := fun σ H Q => to σ H fun x H1 => tyV K T x H1 ∧ r x [] H1 Q
theorem pe_bm0G (pa : PlainAttrs T) (slot : Slot T name id) (hty : typeOf (.builtin id) = pure (.type "method_descriptor")) (hm : MtR X id r) (ho : PE X o to) (hK : X.K = K := by rfl)
    (hbase : attributeBase o name X.env (eval o X.env) = eval o X.env := by rfl) (hline : (apos.endLine == cpos.line) = true := by rfl) : PE X (.Call (.Attribute o name apos) [] [] cpos) (gBM0 K T r to) := hK ▸ pe_bm0 pa slot hty hm ho hbase hline
end
theorem iteB {c A B : Prop} [Decidable c] (h : (c → A) ∧ (¬ c → B)) : if c then A else B := by
  by_cases e : c
  · rw [if_pos e]; exact h.1 e
  · rw [if_neg e]; exact h.2 e
end Pk

namespace Pk
open PySem PySem.Spec PyProof.Rows L2
/-! ### x[::-1] of a list, of a text -/
theorem sliceBack (n : Nat) : Builtin.Str.strSliceIndices none none (-1) n = (List.range n).map fun k => n - 1 - k := by
  unfold Builtin.Str.strSliceIndices sliceRange
  simp only [show ¬ ((-1 : Int) > 0) by decide, if_false]
  by_cases h : n = 0
  · subst h; rfl
  · rw [if_pos (show ((n : Int) - 1) > -1 by omega)]
    have e : (((n : Int) - 1 - -1 - -1 - 1) / (- -1)).toNat = n := by
      rw [show ((n : Int) - 1 - -1 - -1 - 1) / (- -1) = (n : Int) by rw [show (- -1 : Int) = 1 by decide, Int.ediv_one]; omega]
      exact Int.toNat_natCast n
    rw [e]
    refine List.map_congr_left fun k hk => ?_
    rw [List.mem_range] at hk
    omega
theorem pick_back (l : List Nat) : ((List.range l.length).map fun k => l.length - 1 - k).filterMap (fun i => l[i]?) = l.reverse := by
  refine List.ext_getElem? fun i => ?_
  have e : ((List.range l.length).map fun k => l.length - 1 - k).filterMap (fun i => l[i]?) = (List.range l.length).map fun k => l.getD (l.length - 1 - k) 0 := by
    rw [List.filterMap_map]
    have : ∀ ks : List Nat, (∀ k ∈ ks, k < l.length) → ks.filterMap ((fun i => l[i]?) ∘ fun k => l.length - 1 - k) = ks.map fun k => l.getD (l.length - 1 - k) 0 := by
      intro ks
      induction ks with
      | nil => intro _; rfl
      | cons k r ih =>
        intro h
        have hk := h k (by simp)
        have e2 : l[l.length - 1 - k]? = some (l.getD (l.length - 1 - k) 0) := by
          rw [List.getD_eq_getElem?_getD, List.getElem?_eq_getElem (by omega)]; rfl
        rw [List.filterMap_cons]
        simp only [Function.comp, e2, List.map_cons]
        rw [← ih fun k hk => h k (by simp [hk])]
    exact this _ fun k hk => List.mem_range.mp hk
  rw [e]
  by_cases hi : i < l.length
  · rw [List.getElem?_map, List.getElem?_range hi, List.getElem?_reverse hi]
    show some (l.getD (l.length - 1 - i) 0) = _
    rw [List.getD_eq_getElem?_getD, List.getElem?_eq_getElem (by omega)]; rfl
  · rw [List.getElem?_eq_none (by simp; omega), List.getElem?_eq_none (by simp; omega)]
section
variable {X : Cx} {K : PySem.W.Frag}
def gRev (K : PySem.W.Frag) (te : TE) : TE := fun σ H Q => te σ H fun x H1 => match x with
  | .ref a => ∃ xs, SqL K H1 a xs ∧ ∀ p, H1 p = none → Q (.ref p) (upd H1 p (.lst xs.reverse))
  | .str z => (tl z).length ≤ 1000000 ∧ Q (.str (S (tl z).reverse)) H1
  | _ => False
theorem pe_revG0 {e : Expr} {te : TE} {k : Nat} {p1 p2 p3 pos : Pos} (he : PE X e te) : PE X (.Subscript e (.Slice none none (some (.UnaryOp .USub (.Constant (.int 1) k p1) p2)) p3) pos) (gRev X.K te) := by
  refine ⟨fun pins s σ H Q I h => ?_⟩
  refine Subscript_ (thn (he.run pins s σ H _ I h) fun v s1 ⟨x, H1, I1, r1, q1⟩ => ?_)
  have hst : PO X (some (.UnaryOp .USub (.Constant (.int 1) k p1) p2)) (tPart (tUn (rU fun i => .int (-i)) (tC (.int 1)))) := po_some (pe_un un_neg pe_int)
  refine wpAny_Slice (thn (po_none.run pins s1 σ H1 (fun o H2 => o = none ∧ H2 = H1) I1 ⟨rfl, rfl⟩) fun vl s2 ⟨l, H2, I2, pl, el, e2⟩ => ?_)
  subst el e2
  refine thn (po_none.run pins s2 σ H2 (fun o H3 => o = none ∧ H3 = H2) I2 ⟨rfl, rfl⟩) fun vu s3 ⟨u, H3, I3, pu, eu, e3⟩ => ?_
  subst eu e3
  refine thn (hst.run pins s3 σ H3 (fun o H4 => o = some (-1) ∧ H4 = H3) I3 ⟨1, rfl, -1, rfl, rfl, rfl⟩) fun vs s4 ⟨o, H4, I4, ps, eo, e4⟩ => ?_
  subst eo e4
  have I5 : Inv X pins σ H4 { s4 with heap := s4.heap.push { cls := .type "slice", data := .fields #[vl, vu, vs] } } := I4.kept (t' := s4.toks) fun b ob q => Heap.get?_push_of_some _ q
  cases x with
  | ref a =>
    obtain ⟨xs, hx, q⟩ := q1
    cases r1
    obtain ⟨its, r, ht, hz⟩ := I5.list hx
    have hlen := r.length
    show wpAny (model X.prog X.w) X.A (subscriptTail e (.Slice none none (some (.UnaryOp .USub (.Constant (.int 1) k p1) p2)) p3) (.ref a) (.ref s4.heap.objs.size)) (EP X pins σ Q) X.xe { s4 with heap := s4.heap.push { cls := .type "slice", data := .fields #[vl, vu, vs] } }
    refine tail_any (ops := [.ref a, .ref s4.heap.objs.size]) ht.isList.typeIs (PySem.slot_list_getitem.lookup) ?_ (by with_unfolding_all rfl)
    refine wpAny_getItem_list_slice ht.isList (Heap.IsSliceOf.new _ vl vu vs) pl pu ps (by decide) ?_ (by rw [List.size_toArray]; omega)
    rw [PySem.W.krv_pick]
    refine ⟨.ref _, _, I5.laid (t' := s4.toks) (o := .lst xs.reverse) (fun b ob q => Heap.get?_push_of_some _ q) (Nat.le_refl _) ?_, rfl, q _ (I5.hok.fresh (Nat.le_refl _))⟩
    exact ⟨by rw [List.length_reverse]; exact hz, _, 0, r.reverse, Heap.get?_push_size _ rfl⟩
  | str z =>
    obtain ⟨t, rfl⟩ := r1
    obtain ⟨hz, q⟩ := q1
    have evs : ∃ tk, vs = .int (-1) tk := by cases ps; exact ⟨_, rfl⟩
    obtain ⟨tk, rfl⟩ := evs
    have evl : vl = .none := by cases pl; rfl
    have evu : vu = .none := by cases pu; rfl
    subst evl evu
    show wpAny (model X.prog X.w) X.A (subscriptTail e (.Slice none none (some (.UnaryOp .USub (.Constant (.int 1) k p1) p2)) p3) (.str z t) (.ref s4.heap.objs.size)) (EP X pins σ Q) X.xe { s4 with heap := s4.heap.push { cls := .type "slice", data := .fields #[.none, .none, .int (-1) tk] } }
    refine tail_any (ops := [.str z t, .ref s4.heap.objs.size]) (typeIs_str _ _ _) (F.slot_str_getitem.lookup) ?_ (by with_unfolding_all rfl)
    refine wpAny_getItem_str_slice (l := none) (u := none) (st := some (-1, tk)) ⟨_, Heap.get?_push_size _ rfl, rfl, rfl⟩ rfl ?_
    have ep : slicePicked z none none (some (-1, tk)) = (List.range (tl z).length).map fun k => (tl z).length - 1 - k := by
      show Builtin.Str.strSliceIndices none none (-1) z.length = _
      rw [sliceBack, len_S]
    have em : sliceMade z t none none (some (-1, tk)) = .str (S (tl z).reverse) := by
      unfold sliceMade
      rw [if_neg (by simp), ep]
      have e3 : ((List.range (tl z).length).map fun k => (tl z).length - 1 - k).filterMap (fun i => z.cps[i]?) = (tl z).reverse := by
        rw [← pick_back (tl z)]
        congr 1
        funext i
        simp
      rw [e3]
    rw [em]
    exact ⟨by rw [len_S, tl_S, List.length_reverse]; exact Nat.le_trans hz line6, .str _, H4, I5.tok _, ⟨_, rfl⟩, q⟩
  | _ => exact q1.elim
theorem pe_revG {e : Expr} {te : TE} {k : Nat} {p1 p2 p3 pos : Pos} (he : PE X e te) (hK : X.K = K := by rfl) : PE X (.Subscript e (.Slice none none (some (.UnaryOp .USub (.Constant (.int 1) k p1) p2)) p3) pos) (gRev K te) := hK ▸ pe_revG0 he
end
end Pk

namespace Pk
open PySem PySem.Spec PyProof.Rows L2
/-! ### zip -/
theorem addNe {b : Addr} {i j : Nat} (h : i ≠ j) : (b + i : Addr) ≠ (b + j : Addr) := fun z => h (Nat.add_left_cancel z)
theorem addNeL {b : Addr} {i : Nat} (h : i ≠ 0) : (b + i : Addr) ≠ b := fun z => h (Nat.add_left_cancel (k := 0) z)
theorem addNeR {b : Addr} {i : Nat} (h : i ≠ 0) : b ≠ (b + i : Addr) := fun z => addNeL h z.symm
/-- what zip takes: a text, a tuple, a list -/
inductive Src
  | txt (x : Str)
  | tup (t : Addr) (xs : List V)
  | lst (t : Addr) (xs : List V)
def Src.items : Src → List V
  | .txt x => sgs x
  | .tup _ xs => xs
  | .lst _ xs => xs
def Src.ok (K : PySem.W.Frag) (H : Hp) : Src → Prop
  | .txt _ => True
  | .tup t xs => SqT K H t xs
  | .lst t xs => SqL K H t xs
def Src.of (v : V) : Src → Prop
  | .txt x => v = .str x
  | .tup t _ => v = .ref t
  | .lst t _ => v = .ref t
def Src.at (h : Heap) (it : Addr) (i : Nat) : Src → Prop
  | .txt x => ∃ tk, h.IsStrIter it (strIterType x) x tk i
  | .tup t _ => h.IsTupleIter it t i
  | .lst t _ => h.IsListIter it t i
def Src.fp (it : Addr) : Src → List Addr
  | .txt _ => [it]
  | .tup t _ => [it, t]
  | .lst t _ => [it, t]
def Src.off (b : Addr) : Src → Prop
  | .txt _ => True
  | .tup t _ => t ≠ b
  | .lst t _ => t ≠ b
theorem Src.off_fp {S : Src} {it b : Addr} (h : S.off b) (h2 : b ≠ it) : b ∉ S.fp it := by
  cases S with
  | txt x => intro z; exact h2 (List.mem_singleton.mp z)
  | tup t xs =>
    intro z
    have z' : b = it ∨ b = t := by simpa [Src.fp] using z
    rcases z' with z | z
    · exact h2 z
    · exact h z.symm
  | lst t xs =>
    intro z
    have z' : b = it ∨ b = t := by simpa [Src.fp] using z
    rcases z' with z | z
    · exact h2 z
    · exact h z.symm
theorem Src.it_fp {S : Src} {it : Addr} : it ∈ S.fp it := by cases S <;> simp [Src.fp]
theorem Src.at_obj {S : Src} {h : Heap} {it : Addr} {i : Nat} (st : S.at h it i) : ∃ o, h.get? it = some o ∧ ∀ v, o.data ≠ .cell v := by
  cases S with
  | txt x => obtain ⟨tk, o, ho, hc, hd⟩ := st; exact ⟨o, ho, fun v q => by rw [hd] at q; cases q⟩
  | tup t xs => obtain ⟨o, ho, hc, hd⟩ := st; exact ⟨o, ho, fun v q => by rw [hd] at q; cases q⟩
  | lst t xs => obtain ⟨o, ho, hc, hd⟩ := st; exact ⟨o, ho, fun v q => by rw [hd] at q; cases q⟩
theorem Src.at_keep {S : Src} {h h' : Heap} {it : Addr} {i : Nat} (st : S.at h it i) (k : ∀ o, h.get? it = some o → h'.get? it = some o) : S.at h' it i := by
  cases S with
  | txt x => obtain ⟨tk, o, ho, r⟩ := st; exact ⟨tk, o, k o ho, r⟩
  | tup t xs => obtain ⟨o, ho, r⟩ := st; exact ⟨o, k o ho, r⟩
  | lst t xs => obtain ⟨o, ho, r⟩ := st; exact ⟨o, k o ho, r⟩
theorem Src.drawsA {X : Cx} {pins : List (Addr × Obj)} {s : Shared} {σ : L2.St} {H : Hp} {it : Addr} {i : Nat} (S : Src) (I : Inv X pins σ H s) {A' : Around} (hh : A'.handled = none) (g : S.ok X.K H) (ho : S.off it) (st : S.at s.heap it i) :
    ∃ P St, Draws X.prog X.w A' it (S.fp it) S.items.length P St ∧ (∀ j v, P j v → ∃ y, S.items[j]? = some y ∧ RelV y v) ∧ St i s.heap ∧ (∀ j h, St j h → S.at h it j) := by
  cases S with
  | txt x =>
    obtain ⟨tk, st⟩ := st
    have D := Draws.text (prog := X.prog) (w := X.w) (A := A') hh it x tk
    have hlen : x.cps.size = (Src.txt x).items.length := by show _ = (sgs x).length; unfold sgs; simp
    rw [hlen] at D
    refine ⟨_, _, D, fun j v hv => ?_, st, fun j h st => ⟨tk, st⟩⟩
    obtain ⟨c, u, hx, rfl⟩ := hv
    have hx' : (tl x)[j]? = some c := by simpa using hx
    exact ⟨.str (Pk.S [c]), by show (sgs x)[j]? = _; unfold sgs; rw [List.getElem?_map, hx']; rfl, ⟨u, rfl⟩⟩
  | tup t xs =>
    obtain ⟨its, rv, ht, hz⟩ := I.tuple g
    have D := Draws.tuple (prog := X.prog) (w := X.w) (A := A') hh it t ho its.toArray
    have hlen : its.toArray.size = (Src.tup t xs).items.length := by rw [List.size_toArray]; exact rv.length.symm
    rw [hlen] at D
    refine ⟨_, _, D, fun j v hv => ?_, ⟨st, ht⟩, fun j h st => st.1⟩
    have hx' : its[j]? = some v := by simpa using hv
    have hj : j < xs.length := by rw [rv.length]; exact (List.getElem?_eq_some_iff.mp hx').1
    obtain ⟨u, hu, ru⟩ := rv.get (List.getElem?_eq_getElem hj)
    rw [hx'] at hu
    cases hu
    exact ⟨xs[j], List.getElem?_eq_getElem hj, ru⟩
  | lst t xs =>
    obtain ⟨its, rv, ⟨o, n, h1, h2, h3, h4⟩, hz⟩ := I.list g
    have ht : s.heap.IsList t its.toArray := ⟨o, h1, h2, n, h4⟩
    have D := Draws.list (prog := X.prog) (w := X.w) (A := A') hh it t ho its.toArray
    have hlen : its.toArray.size = (Src.lst t xs).items.length := by rw [List.size_toArray]; exact rv.length.symm
    rw [hlen] at D
    refine ⟨_, _, D, fun j v hv => ?_, ⟨st, ht⟩, fun j h st => st.1⟩
    have hx' : its[j]? = some v := by simpa using hv
    have hj : j < xs.length := by rw [rv.length]; exact (List.getElem?_eq_some_iff.mp hx').1
    obtain ⟨u, hu, ru⟩ := rv.get (List.getElem?_eq_getElem hj)
    rw [hx'] at hu
    cases hu
    exact ⟨xs[j], List.getElem?_eq_getElem hj, ru⟩
theorem Src.draws {X : Cx} {pins : List (Addr × Obj)} {s : Shared} {σ : L2.St} {H : Hp} {it : Addr} {i : Nat} (S : Src) (I : Inv X pins σ H s) (hc : X.calm = true) (g : S.ok X.K H) (ho : S.off it) (st : S.at s.heap it i) :
    ∃ P St, Draws X.prog X.w X.A.in1 it (S.fp it) S.items.length P St ∧ (∀ j v, P j v → ∃ y, S.items[j]? = some y ∧ RelV y v) ∧ St i s.heap ∧ (∀ j h, St j h → S.at h it j) := S.drawsA I (I.ok.hd hc) g ho st
/-- iter(v) -/
theorem Src.begins {X : Cx} {pins : List (Addr × Obj)} {s : Shared} {σ : L2.St} {H : Hp} {v : V} {u : Value} (S : Src) (I : Inv X pins σ H s) (e : S.of v) (r : RelV v u) (g : S.ok X.K H) :
    ∃ o G, Begins u o G ∧ G s.heap ∧ (∀ (h : Heap) (it : Addr), h.get? it = some o → S.at h it 0) ∧ ∀ b, s.heap.objs.size ≤ b → S.off b := by
  cases S with
  | txt x =>
    cases (show v = .str x from e)
    obtain ⟨tk, rfl⟩ := r
    exact ⟨_, _, begins_text x tk, trivial, fun h it ho => ⟨tk, _, ho, rfl, rfl⟩, fun _ _ => trivial⟩
  | tup t xs =>
    cases (show v = .ref t from e)
    cases r
    obtain ⟨its, rv, ht, hz⟩ := I.tuple g
    refine ⟨_, _, begins_tuple t its.toArray, ht, fun h it ho => ⟨_, ho, rfl, rfl⟩, fun b hb z => ?_⟩
    obtain ⟨o, ho, _⟩ := ht
    exact absurd (Heap.lt_size ho) (by rw [z]; exact Nat.not_lt.mpr hb)
  | lst t xs =>
    cases (show v = .ref t from e)
    cases r
    obtain ⟨its, rv, ⟨o, n, h1, h2, h3, h4⟩, hz⟩ := I.list g
    have ht : s.heap.IsList t its.toArray := ⟨o, h1, h2, n, h4⟩
    refine ⟨_, _, begins_list t its.toArray, ht, fun h it ho => ⟨_, ho, rfl, rfl⟩, fun b hb z => ?_⟩
    exact absurd (Heap.lt_size h1) (by rw [z]; exact Nat.not_lt.mpr hb)

def YZ3 (a b c : List V) : Nat → List V → Prop := fun i ys => ∃ x y z, a[i]? = some x ∧ b[i]? = some y ∧ c[i]? = some z ∧ ys = [x, y, z]
def YZ2 (a b : List V) : Nat → List V → Prop := fun i ys => ∃ x y, a[i]? = some x ∧ b[i]? = some y ∧ ys = [x, y]
theorem turn_zip3 {P : Program} {w : World} {K : PySem.W.Frag} {elts : List Expr} {kk : Nat} {tpos : Pos} (S1 S2 S3 : Src) (b0 : Addr) (h1 : ∀ b, b0 ≤ b → S1.off b) (h2 : ∀ b, b0 ≤ b → S2.off b) (h3 : ∀ b, b0 ≤ b → S3.off b) :
    Turn P w K (.Tuple elts kk tpos) (Jt (min (min S1.items.length S2.items.length) S3.items.length) (fun H => S1.ok K H ∧ S2.ok K H ∧ S3.ok K H) (YZ3 S1.items S2.items S3.items)) [b0 + 5, b0 + 3, b0 + 4, b0, b0 + 1, b0 + 2] (b0 + 5)
      (fun i h => i ≤ min (min S1.items.length S2.items.length) S3.items.length ∧ IsZip h (b0 + 5) (b0 + 3) (b0 + 4) .none ∧ IsTupOf3 h (b0 + 3) (.ref b0) (.ref (b0 + 1)) (.ref (b0 + 2)) ∧ (∃ a1 a2 a3, IsTupOf3 h (b0 + 4) a1 a2 a3) ∧ S1.at h b0 i ∧ S2.at h (b0 + 1) i ∧ S3.at h (b0 + 2) i) := by
  refine turn_wt (b0 + 5) [b0 + 5, b0 + 3, b0 + 4, b0, b0 + 1, b0 + 2] (min (min S1.items.length S2.items.length) S3.items.length) _ _ _ (by simp) (fun i h st b hb => ?_) (fun i h h' st k => ?_) (fun i h st => st.1) (fun X pins s σ H i hP hw hK hc I hg st => ?_) (fun A i s Q E st h => ?_)
  · obtain ⟨_, hz, hTI, ⟨a1, a2, a3, hTO⟩, st1, st2, st3⟩ := st
    have e' : b = b0 + 5 ∨ b = b0 + 3 ∨ b = b0 + 4 ∨ b = b0 ∨ b = b0 + 1 ∨ b = b0 + 2 := by simpa using hb
    rcases e' with z | z | z | z | z | z
    · rw [z]; exact ⟨_, hz, fun v q => nomatch q⟩
    · rw [z]; exact ⟨_, hTI, fun v q => nomatch q⟩
    · rw [z]; exact ⟨_, hTO, fun v q => nomatch q⟩
    · rw [z]; exact Src.at_obj st1
    · rw [z]; exact Src.at_obj st2
    · rw [z]; exact Src.at_obj st3
  · obtain ⟨hi, hz, hTI, ⟨a1, a2, a3, hTO⟩, st1, st2, st3⟩ := st
    exact ⟨hi, k _ (by simp) _ hz, k _ (by simp) _ hTI, ⟨a1, a2, a3, k _ (by simp) _ hTO⟩, Src.at_keep st1 (k _ (by simp)), Src.at_keep st2 (k _ (by simp)), Src.at_keep st3 (k _ (by simp))⟩
  · subst hP hw hK
    obtain ⟨hi, hz, hTI, hTO, st1, st2, st3⟩ := st
    obtain ⟨g1, g2, g3⟩ := hg
    obtain ⟨P1, T1, D1, v1, s1, t1⟩ := S1.draws I hc g1 (h1 _ (Nat.le_refl _)) st1
    obtain ⟨P2, T2, D2, v2, s2, t2⟩ := S2.draws I hc g2 (h2 (b0 + 1) (Nat.le_add_right _ _)) st2
    obtain ⟨P3, T3, D3, v3, s3, t3⟩ := S3.draws I hc g3 (h3 (b0 + 2) (Nat.le_add_right _ _)) st3
    have sep : ZipSep3 (b0 + 5) (b0 + 3) (b0 + 4) b0 (b0 + 1) (b0 + 2) (S1.fp b0) (S2.fp (b0 + 1)) (S3.fp (b0 + 2)) := ⟨by first | exact addNe (by decide) | exact addNeL (by decide) | exact addNeR (by decide), by first | exact addNe (by decide) | exact addNeL (by decide) | exact addNeR (by decide), by first | exact addNe (by decide) | exact addNeL (by decide) | exact addNeR (by decide), by first | exact addNe (by decide) | exact addNeL (by decide) | exact addNeR (by decide), Src.it_fp, Src.off_fp (h1 _ (by first | exact Nat.le_refl _ | exact Nat.le_add_right _ _)) (by first | exact addNe (by decide) | exact addNeL (by decide) | exact addNeR (by decide)), Src.off_fp (h1 _ (by first | exact Nat.le_refl _ | exact Nat.le_add_right _ _)) (by first | exact addNe (by decide) | exact addNeL (by decide) | exact addNeR (by decide)),
      by first | exact addNe (by decide) | exact addNeL (by decide) | exact addNeR (by decide), Src.it_fp, Src.off_fp (h2 _ (by first | exact Nat.le_refl _ | exact Nat.le_add_right _ _)) (by first | exact addNe (by decide) | exact addNeL (by decide) | exact addNeR (by decide)), Src.off_fp (h2 _ (by first | exact Nat.le_refl _ | exact Nat.le_add_right _ _)) (by first | exact addNe (by decide) | exact addNeL (by decide) | exact addNeR (by decide)), by first | exact addNe (by decide) | exact addNeL (by decide) | exact addNeR (by decide), Src.it_fp, Src.off_fp (h3 _ (by first | exact Nat.le_refl _ | exact Nat.le_add_right _ _)) (by first | exact addNe (by decide) | exact addNeL (by decide) | exact addNeR (by decide)), Src.off_fp (h3 _ (by first | exact Nat.le_refl _ | exact Nat.le_add_right _ _)) (by first | exact addNe (by decide) | exact addNeL (by decide) | exact addNeR (by decide)),
      Src.off_fp (h2 _ (by first | exact Nat.le_refl _ | exact Nat.le_add_right _ _)) (by first | exact addNe (by decide) | exact addNeL (by decide) | exact addNeR (by decide)), Src.off_fp (h3 _ (by first | exact Nat.le_refl _ | exact Nat.le_add_right _ _)) (by first | exact addNe (by decide) | exact addNeL (by decide) | exact addNeR (by decide)), Src.off_fp (h1 _ (by first | exact Nat.le_refl _ | exact Nat.le_add_right _ _)) (by first | exact addNe (by decide) | exact addNeL (by decide) | exact addNeR (by decide)), Src.off_fp (h3 _ (by first | exact Nat.le_refl _ | exact Nat.le_add_right _ _)) (by first | exact addNe (by decide) | exact addNeL (by decide) | exact addNeR (by decide)), Src.off_fp (h1 _ (by first | exact Nat.le_refl _ | exact Nat.le_add_right _ _)) (by first | exact addNe (by decide) | exact addNeL (by decide) | exact addNeR (by decide)), Src.off_fp (h2 _ (by first | exact Nat.le_refl _ | exact Nat.le_add_right _ _)) (by first | exact addNe (by decide) | exact addNeL (by decide) | exact addNeR (by decide))⟩
    refine ⟨_, _, _, _, _, WalksT.zipD3 sep D1 D2 D3, fun b hb => ?_, ⟨hz, hTI, hTO, s1, s2, s3⟩, fun j h hj hs => ⟨hj, hs.1, hs.2.1, hs.2.2.1, t1 _ _ hs.2.2.2.1, t2 _ _ hs.2.2.2.2.1, t3 _ _ hs.2.2.2.2.2⟩, fun j vals hv => ?_⟩
    · have e' : b = b0 + 5 ∨ b = b0 + 4 ∨ b = b0 ∨ b = b0 + 1 ∨ b = b0 + 2 := by simpa using hb
      rcases e' with z | z | z | z | z <;> simp [z]
    · obtain ⟨x1, x2, x3, p1, p2, p3, rfl⟩ := hv
      obtain ⟨y1, e1, r1⟩ := v1 j x1 p1
      obtain ⟨y2, e2, r2⟩ := v2 j x2 p2
      obtain ⟨y3, e3, r3⟩ := v3 j x3 p3
      exact ⟨[y1, y2, y3], .cons r1 (.cons r2 (.cons r3 .nil)), ⟨_, _, _, e1, e2, e3, rfl⟩, by show 3 ≤ 1000; decide⟩
  · obtain ⟨_, hz, _⟩ := st
    exact wpAny_pyIter_zip hz h
theorem turn_zip2 {P : Program} {w : World} {K : PySem.W.Frag} {elts : List Expr} {kk : Nat} {tpos : Pos} (S1 S2 : Src) (b0 : Addr) (h1 : ∀ b, b0 ≤ b → S1.off b) (h2 : ∀ b, b0 ≤ b → S2.off b) :
    Turn P w K (.Tuple elts kk tpos) (Jt (min S1.items.length S2.items.length) (fun H => S1.ok K H ∧ S2.ok K H) (YZ2 S1.items S2.items)) [b0 + 4, b0 + 2, b0 + 3, b0, b0 + 1] (b0 + 4)
      (fun i h => i ≤ min S1.items.length S2.items.length ∧ IsZip h (b0 + 4) (b0 + 2) (b0 + 3) .none ∧ IsTupOf2 h (b0 + 2) (.ref b0) (.ref (b0 + 1)) ∧ (∃ a1 a2, IsTupOf2 h (b0 + 3) a1 a2) ∧ S1.at h b0 i ∧ S2.at h (b0 + 1) i) := by
  refine turn_wt (b0 + 4) [b0 + 4, b0 + 2, b0 + 3, b0, b0 + 1] (min S1.items.length S2.items.length) _ _ _ (by simp) (fun i h st b hb => ?_) (fun i h h' st k => ?_) (fun i h st => st.1) (fun X pins s σ H i hP hw hK hc I hg st => ?_) (fun A i s Q E st h => ?_)
  · obtain ⟨_, hz, hTI, ⟨a1, a2, hTO⟩, st1, st2⟩ := st
    have e' : b = b0 + 4 ∨ b = b0 + 2 ∨ b = b0 + 3 ∨ b = b0 ∨ b = b0 + 1 := by simpa using hb
    rcases e' with z | z | z | z | z
    · rw [z]; exact ⟨_, hz, fun v q => nomatch q⟩
    · rw [z]; exact ⟨_, hTI, fun v q => nomatch q⟩
    · rw [z]; exact ⟨_, hTO, fun v q => nomatch q⟩
    · rw [z]; exact Src.at_obj st1
    · rw [z]; exact Src.at_obj st2
  · obtain ⟨hi, hz, hTI, ⟨a1, a2, hTO⟩, st1, st2⟩ := st
    exact ⟨hi, k _ (by simp) _ hz, k _ (by simp) _ hTI, ⟨a1, a2, k _ (by simp) _ hTO⟩, Src.at_keep st1 (k _ (by simp)), Src.at_keep st2 (k _ (by simp))⟩
  · subst hP hw hK
    obtain ⟨hi, hz, hTI, hTO, st1, st2⟩ := st
    obtain ⟨g1, g2⟩ := hg
    obtain ⟨P1, T1, D1, v1, s1, t1⟩ := S1.draws I hc g1 (h1 _ (Nat.le_refl _)) st1
    obtain ⟨P2, T2, D2, v2, s2, t2⟩ := S2.draws I hc g2 (h2 (b0 + 1) (Nat.le_add_right _ _)) st2
    have sep : ZipSep2 (b0 + 4) (b0 + 2) (b0 + 3) b0 (b0 + 1) (S1.fp b0) (S2.fp (b0 + 1)) := ⟨by first | exact addNe (by decide) | exact addNeL (by decide) | exact addNeR (by decide), by first | exact addNe (by decide) | exact addNeL (by decide) | exact addNeR (by decide), by first | exact addNe (by decide) | exact addNeL (by decide) | exact addNeR (by decide), by first | exact addNe (by decide) | exact addNeL (by decide) | exact addNeR (by decide), Src.it_fp, Src.off_fp (h1 _ (by first | exact Nat.le_refl _ | exact Nat.le_add_right _ _)) (by first | exact addNe (by decide) | exact addNeL (by decide) | exact addNeR (by decide)), Src.off_fp (h1 _ (by first | exact Nat.le_refl _ | exact Nat.le_add_right _ _)) (by first | exact addNe (by decide) | exact addNeL (by decide) | exact addNeR (by decide)),
      by first | exact addNe (by decide) | exact addNeL (by decide) | exact addNeR (by decide), Src.it_fp, Src.off_fp (h2 _ (by first | exact Nat.le_refl _ | exact Nat.le_add_right _ _)) (by first | exact addNe (by decide) | exact addNeL (by decide) | exact addNeR (by decide)), Src.off_fp (h2 _ (by first | exact Nat.le_refl _ | exact Nat.le_add_right _ _)) (by first | exact addNe (by decide) | exact addNeL (by decide) | exact addNeR (by decide)),
      Src.off_fp (h2 _ (by first | exact Nat.le_refl _ | exact Nat.le_add_right _ _)) (by first | exact addNe (by decide) | exact addNeL (by decide) | exact addNeR (by decide)), Src.off_fp (h1 _ (by first | exact Nat.le_refl _ | exact Nat.le_add_right _ _)) (by first | exact addNe (by decide) | exact addNeL (by decide) | exact addNeR (by decide))⟩
    refine ⟨_, _, _, _, _, WalksT.zipD2 sep D1 D2, fun b hb => ?_, ⟨hz, hTI, hTO, s1, s2⟩, fun j h hj hs => ⟨hj, hs.1, hs.2.1, hs.2.2.1, t1 _ _ hs.2.2.2.1, t2 _ _ hs.2.2.2.2⟩, fun j vals hv => ?_⟩
    · have e' : b = b0 + 4 ∨ b = b0 + 3 ∨ b = b0 ∨ b = b0 + 1 := by simpa using hb
      rcases e' with z | z | z | z <;> simp [z]
    · obtain ⟨x1, x2, p1, p2, rfl⟩ := hv
      obtain ⟨y1, e1, r1⟩ := v1 j x1 p1
      obtain ⟨y2, e2, r2⟩ := v2 j x2 p2
      exact ⟨[y1, y2], .cons r1 (.cons r2 .nil), ⟨_, _, e1, e2, rfl⟩, by show 2 ≤ 1000; decide⟩
  · obtain ⟨_, hz, _⟩ := st
    exact wpAny_pyIter_zip hz h
section
variable {X : Cx} {e e2 e3 : Expr} {ta : TA} {p pos tpos : Pos} {elts : List Expr} {kk : Nat}
def gZip3 (K : PySem.W.Frag) (ta : TA) : TI := fun σ H R => ta σ H fun vs H1 => ∃ (u1 u2 u3 : V) (S1 S2 S3 : Src), vs = [u1, u2, u3] ∧ (S1.of u1 ∧ S1.ok K H1) ∧ (S2.of u2 ∧ S2.ok K H1) ∧ (S3.of u3 ∧ S3.ok K H1) ∧
  R (Jt (min (min S1.items.length S2.items.length) S3.items.length) (fun H => S1.ok K H ∧ S2.ok K H ∧ S3.ok K H) (YZ3 S1.items S2.items S3.items)) H1
def gZip2 (K : PySem.W.Frag) (ta : TA) : TI := fun σ H R => ta σ H fun vs H1 => ∃ (u1 u2 : V) (S1 S2 : Src), vs = [u1, u2] ∧ (S1.of u1 ∧ S1.ok K H1) ∧ (S2.of u2 ∧ S2.ok K H1) ∧
  R (Jt (min S1.items.length S2.items.length) (fun H => S1.ok K H ∧ S2.ok K H) (YZ2 S1.items S2.items)) H1
theorem pi_zip3G0 (hm : X.mg "zip" = none) (ha : PA X [e, e2, e3] ta) (hg : Gl X "zip" := by rfl) (hs : starEach [e, e2, e3] X.env = (false, eval e X.env) :: starEach [e2, e3] X.env := by rfl) (hpl : (backTo pos (starEach [e2, e3] X.env)).any (·.1) = false := by rfl) :
    PI X (.Tuple elts kk tpos) (.Call (.Name "zip" p) [e, e2, e3] [] pos) (gZip3 X.K ta) := by
  refine ⟨fun pins s σ H R I h => ?_⟩
  refine Call_ (ld_blt I hg hm PyProof.Rows.boot_zip (PyProof.Rows.callWith_type1 (thn (ha.run pos pins s σ H _ I h) fun us s1 ⟨vs, H1, I1, r1, q1⟩ => ?_) hs hpl))
  obtain ⟨u1, u2, u3, S1, S2, S3, rfl, ⟨f1, k1⟩, ⟨f2, k2⟩, ⟨f3, k3⟩, q⟩ := q1
  cases r1 with
  | cons r1 rr =>
  cases rr with
  | cons r2 rr =>
  cases rr with
  | cons r3 rr =>
  cases rr
  obtain ⟨o1, G1, B1, g1, a1, n1⟩ := S1.begins I1 f1 r1 k1
  obtain ⟨o2, G2, B2, g2, a2, n2⟩ := S2.begins I1 f2 r2 k2
  obtain ⟨o3, G3, B3, g3, a3, n3⟩ := S3.begins I1 f3 r3 k3
  refine zip_begins3 B1 B2 B3 g1 g2 g3 fun h' hz hTI hTO h1 h2 h3 hsz hk => wpAny_pyIter_zip hz ?_
  have I2 : Inv X pins σ H1 { s1 with heap := h' } := I1.kept (t' := s1.toks) hk
  refine ⟨s1.heap.objs.size + 5, _, _, _, H1, rfl, I2, turn_zip3 S1 S2 S3 s1.heap.objs.size n1 n2 n3, ⟨Nat.zero_le _, hz, hTI, ⟨_, _, _, hTO⟩, a1 _ _ h1, a2 _ _ h2, a3 _ _ h3⟩, fun c hc => ?_, q⟩
  have e' : c = s1.heap.objs.size + 5 ∨ c = s1.heap.objs.size + 3 ∨ c = s1.heap.objs.size + 4 ∨ c = s1.heap.objs.size ∨ c = s1.heap.objs.size + 1 ∨ c = s1.heap.objs.size + 2 := by simpa using hc
  have hle : s1.heap.objs.size ≤ c := by
    rcases e' with z | z | z | z | z | z
    all_goals first | (rw [z]; exact Nat.le_add_right _ _) | (rw [z]; exact Nat.le_refl _)
  exact I1.fpOk hle (I1.hok.fresh hle)
theorem pi_zip2G0 (hm : X.mg "zip" = none) (ha : PA X [e, e2] ta) (hg : Gl X "zip" := by rfl) (hs : starEach [e, e2] X.env = (false, eval e X.env) :: starEach [e2] X.env := by rfl) (hpl : (backTo pos (starEach [e2] X.env)).any (·.1) = false := by rfl) :
    PI X (.Tuple elts kk tpos) (.Call (.Name "zip" p) [e, e2] [] pos) (gZip2 X.K ta) := by
  refine ⟨fun pins s σ H R I h => ?_⟩
  refine Call_ (ld_blt I hg hm PyProof.Rows.boot_zip (PyProof.Rows.callWith_type1 (thn (ha.run pos pins s σ H _ I h) fun us s1 ⟨vs, H1, I1, r1, q1⟩ => ?_) hs hpl))
  obtain ⟨u1, u2, S1, S2, rfl, ⟨f1, k1⟩, ⟨f2, k2⟩, q⟩ := q1
  cases r1 with
  | cons r1 rr =>
  cases rr with
  | cons r2 rr =>
  cases rr
  obtain ⟨o1, G1, B1, g1, a1, n1⟩ := S1.begins I1 f1 r1 k1
  obtain ⟨o2, G2, B2, g2, a2, n2⟩ := S2.begins I1 f2 r2 k2
  refine zip_begins2 B1 B2 g1 g2 fun h' hz hTI hTO h1 h2 hsz hk => wpAny_pyIter_zip hz ?_
  have I2 : Inv X pins σ H1 { s1 with heap := h' } := I1.kept (t' := s1.toks) hk
  refine ⟨s1.heap.objs.size + 4, _, _, _, H1, rfl, I2, turn_zip2 S1 S2 s1.heap.objs.size n1 n2, ⟨Nat.zero_le _, hz, hTI, ⟨_, _, hTO⟩, a1 _ _ h1, a2 _ _ h2⟩, fun c hc => ?_, q⟩
  have e' : c = s1.heap.objs.size + 4 ∨ c = s1.heap.objs.size + 2 ∨ c = s1.heap.objs.size + 3 ∨ c = s1.heap.objs.size ∨ c = s1.heap.objs.size + 1 := by simpa using hc
  have hle : s1.heap.objs.size ≤ c := by
    rcases e' with z | z | z | z | z
    all_goals first | (rw [z]; exact Nat.le_add_right _ _) | (rw [z]; exact Nat.le_refl _)
  exact I1.fpOk hle (I1.hok.fresh hle)
theorem pi_zip3G {K : PySem.W.Frag} (hm : X.mg "zip" = none) (ha : PA X [e, e2, e3] ta) (hK : X.K = K := by rfl) (hg : Gl X "zip" := by rfl) (hs : starEach [e, e2, e3] X.env = (false, eval e X.env) :: starEach [e2, e3] X.env := by rfl) (hpl : (backTo pos (starEach [e2, e3] X.env)).any (·.1) = false := by rfl) :
    PI X (.Tuple elts kk tpos) (.Call (.Name "zip" p) [e, e2, e3] [] pos) (gZip3 K ta) := hK ▸ pi_zip3G0 hm ha hg hs hpl
theorem pi_zip2G {K : PySem.W.Frag} (hm : X.mg "zip" = none) (ha : PA X [e, e2] ta) (hK : X.K = K := by rfl) (hg : Gl X "zip" := by rfl) (hs : starEach [e, e2] X.env = (false, eval e X.env) :: starEach [e2] X.env := by rfl) (hpl : (backTo pos (starEach [e2] X.env)).any (·.1) = false := by rfl) :
    PI X (.Tuple elts kk tpos) (.Call (.Name "zip" p) [e, e2] [] pos) (gZip2 K ta) := hK ▸ pi_zip2G0 hm ha hg hs hpl
end
end Pk

namespace Pk
open PySem PySem.Spec PyProof.Rows L2
/-! ### list(zip(a, b)) -/
abbrev ZipF (h : Heap) (z TI TO T : Addr) (f : Bool) : Prop :=
  h.get? z = some { cls := .type "zip", dict := none, data := .fields #[rawInt T, .bool f, .bool false, .ref TI, .ref TO], slots := #[] }
section
variable {prog : Program} {w : World} {A : Around} {E : Value → Shared → Prop} {s : Shared} {z TI TO i1 i2 T : Addr} {f : Bool} {fp1 fp2 : List Addr} {n1 n2 i : Nat} {P1 P2 : Nat → Value → Prop} {St1 St2 : Nat → Heap → Prop}
theorem owned_busy {oT : Obj} {Q : Bool → Shared → Prop} (hz : ZipF s.heap z TI TO T f) (hT : s.heap.get? T = some oT) (hQ : ∀ h', ZipF h' z TI TO T true → Heap.SameBut z s.heap h' → Q false { s with heap := h' }) :
    wpAny (model prog w) A (Builtin.SmallTypes.ownedTupleIsFree (.ref z)) Q E s := by
  obtain ⟨hp, g, d, tk0, os⟩ := s
  unfold Builtin.SmallTypes.ownedTupleIsFree
  refine wpAny_bind (wpAny_field hz rfl (x := rawInt T) rfl ?_)
  show wpAny _ _ (loadIfAlive ((T : Int).toNat) >>= _) _ _ _
  rw [Int.toNat_natCast]
  refine wpAny_bind (PySem.W.kdx_alive hT ?_)
  simp only [Option.isNone_some, Bool.false_eq_true, if_false]
  refine wpAny_bind (wpAny_field hz rfl (x := .bool f) rfl ?_)
  cases f with
  | true =>
    rw [if_neg (show ¬ ((Value.bool true != Value.bool true) = true) from Bool.false_ne_true)]
    exact wpAny_pure (hQ hp hz (Heap.SameBut.refl _ _))
  | false =>
    rw [if_pos (show (Value.bool false != Value.bool true) = true from rfl)]
    refine wpAny_bind (wpAny_setField_rec hz (by simp) fun h3 hz3 hs3 => ?_)
    replace hz3 : ZipF h3 z TI TO T true := hz3
    exact wpAny_pure (hQ h3 hz3 hs3)
theorem zip2_out_item {oT : Obj} {Q : Value → Shared → Prop} (S : ZipSep2 z TI TO i1 i2 fp1 fp2) (D1 : Draws prog w A i1 fp1 n1 P1 St1) (D2 : Draws prog w A i2 fp2 n2 P2 St2)
    (hz : ZipF s.heap z TI TO T f) (hT : s.heap.get? T = some oT) (hTI : IsTupOf2 s.heap TI (.ref i1) (.ref i2)) (st1 : St1 i s.heap) (st2 : St2 i s.heap) (hlt1 : i < n1) (hlt2 : i < n2)
    (hQ : ∀ x1 x2 h' tk, P1 i x1 → P2 i x2 → ZipF h' z TI TO T true → St1 (i + 1) h' → St2 (i + 1) h' → IsTupOf2 h' s.heap.objs.size x1 x2 →
      (∀ c o, c ≠ z → c ≠ i1 → c ≠ i2 → s.heap.get? c = some o → h'.get? c = some o) → Q (.ref s.heap.objs.size) { s with heap := h', toks := tk }) :
    wpAny (model prog w) A (Builtin.«zip.__next__» ⟨[.ref z], []⟩) (fun fin s' => ∃ v, fin = .done (.ret v) ∧ Q v s') E s := by
  obtain ⟨hp, g, d, tk0, os⟩ := s
  show wpAny _ _ (field (.ref z) 2 >>= _) _ _ _
  refine wpAny_bind (wpAny_field hz rfl (x := .bool false) rfl ?_)
  show wpAny _ _ (field (.ref z) 3 >>= _) _ _ _
  refine wpAny_bind (wpAny_field hz rfl (x := .ref TI) rfl ?_)
  refine wpAny_bind (wpAny_seqItems hTI rfl ?_)
  show wpAny _ _ (Builtin.SmallTypes.ownedTupleIsFree (.ref z) >>= _) _ _ _
  refine wpAny_bind (owned_busy hz hT fun g0 hz0 hs0 => ?_)
  replace hs0 : Heap.SameBut z hp g0 := hs0
  simp only [Bool.false_eq_true, if_false]
  refine wpAny_bind ?_
  simp only [← Array.forIn_toList, List.forIn_cons, List.forIn_nil]
  refine wpAny_bind (wpAny_bind (wpAny_holding ?_))
  show wpAny _ _ (Builtin.SmallTypes.nextOf (.ref i1) >>= _) _ _ ⟨g0, g, d, tk0, os⟩
  refine wpAny_bind (D1.item i _ _ _ hlt1 (D1.over st1 hs0 S.zf1) fun x1 p1 tk1 hx1 sn1 hp1 => wpAny_pure ?_)
  replace hp1 : Heap.SameBut i1 g0 p1 := hp1
  refine wpAny_pure ?_
  refine wpAny_bind (wpAny_bind (wpAny_holding ?_))
  show wpAny _ _ (Builtin.SmallTypes.nextOf (.ref i2) >>= _) _ _ ⟨p1, g, d, tk1, os⟩
  refine wpAny_bind (D2.item i _ _ _ hlt2 (D2.over (D2.over st2 hs0 S.zf2) hp1 S.sep1_2) fun x2 p2 tk2 hx2 sn2 hp2 => wpAny_pure ?_)
  replace hp2 : Heap.SameBut i2 p1 p2 := hp2
  refine wpAny_pure (wpAny_pure ?_)
  refine wpAny_bind (wpAny_newTuple (wpAny_pure ⟨_, rfl, ?_⟩) (hsz := by show 2 ≤ sizeLine; rw [sizeLine_eq]; decide))
  have hsz : p2.objs.size = hp.objs.size := by rw [hp2.1, hp1.1, hs0.1]
  have hzz : ZipF p2 z TI TO T true := hp2.extBut _ _ S.zi2 (hp1.extBut _ _ S.zi1 hz0)
  show Q (.ref p2.objs.size) ⟨p2.push { cls := .type "tuple", data := .seq #[x1, x2] }, g, d, tk2, os⟩
  have up : ∀ c o, p2.get? c = some o → (p2.push { cls := .type "tuple", data := .seq #[x1, x2] }).get? c = some o := fun c o e => Heap.get?_push_of_some _ e
  have hT2 : IsTupOf2 (p2.push { cls := .type "tuple", data := .seq #[x1, x2] }) p2.objs.size x1 x2 := Heap.get?_push_size _ rfl
  rw [hsz] at hT2 ⊢
  exact hQ x1 x2 _ tk2 hx1 hx2 (up _ _ hzz) (D1.frame _ _ _ (D1.over sn1 hp2 S.sep2_1) fun b _ o e => up b o e) (D2.frame _ _ _ sn2 fun b _ o e => up b o e) hT2
    fun c o cz c1 c2 e => up c o (hp2.extBut _ _ c2 (hp1.extBut _ _ c1 (hs0.extBut _ _ cz e)))
theorem zip2_out_end {oT : Obj} {Q : Fin → Shared → Prop} (S : ZipSep2 z TI TO i1 i2 fp1 fp2) (D1 : Draws prog w A i1 fp1 n1 P1 St1) (D2 : Draws prog w A i2 fp2 n2 P2 St2)
    (hz : ZipF s.heap z TI TO T f) (hT : s.heap.get? T = some oT) (hTI : IsTupOf2 s.heap TI (.ref i1) (.ref i2)) (st1 : St1 i s.heap) (st2 : St2 i s.heap) (hle1 : i ≤ n1) (hle2 : i ≤ n2) (hend : i = n1 ∨ i = n2)
    (hE : ∀ h' tk e, (∀ c o, c ≠ z → c ≠ i1 → c ≠ i2 → s.heap.get? c = some o → h'.get? c = some o) → (∃ o, h'.get? e = some o ∧ o.cls = .type "StopIteration") → E (.ref e) { s with heap := h', toks := tk }) :
    wpAny (model prog w) A (Builtin.«zip.__next__» ⟨[.ref z], []⟩) Q E s := by
  obtain ⟨hp, g, d, tk0, os⟩ := s
  show wpAny _ _ (field (.ref z) 2 >>= _) _ _ _
  refine wpAny_bind (wpAny_field hz rfl (x := .bool false) rfl ?_)
  show wpAny _ _ (field (.ref z) 3 >>= _) _ _ _
  refine wpAny_bind (wpAny_field hz rfl (x := .ref TI) rfl ?_)
  refine wpAny_bind (wpAny_seqItems hTI rfl ?_)
  show wpAny _ _ (Builtin.SmallTypes.ownedTupleIsFree (.ref z) >>= _) _ _ _
  refine wpAny_bind (owned_busy hz hT fun g0 hz0 hs0 => ?_)
  replace hs0 : Heap.SameBut z hp g0 := hs0
  simp only [Bool.false_eq_true, if_false]
  refine wpAny_bind ?_
  simp only [← Array.forIn_toList, List.forIn_cons, List.forIn_nil]
  refine wpAny_bind (wpAny_bind (wpAny_holding ?_))
  show wpAny _ _ (Builtin.SmallTypes.nextOf (.ref i1) >>= _) _ _ ⟨g0, g, d, tk0, os⟩
  by_cases hlt1 : i < n1
  · refine wpAny_bind (D1.item i _ _ _ hlt1 (D1.over st1 hs0 S.zf1) fun x1 p1 tk1 hx1 sn1 hp1 => wpAny_pure ?_)
    replace hp1 : Heap.SameBut i1 g0 p1 := hp1
    refine wpAny_pure ?_
    refine wpAny_bind (wpAny_bind (wpAny_holding ?_))
    show wpAny _ _ (Builtin.SmallTypes.nextOf (.ref i2) >>= _) _ _ ⟨p1, g, d, tk1, os⟩
    have hi2 : i = n2 := by omega
    refine wpAny_bind (D2.done ⟨p1, g, d, tk1, os⟩ _ _ (by rw [← hi2]; exact D2.over (D2.over st2 hs0 S.zf2) hp1 S.sep1_2) fun q e hq he => ?_)
    replace hq : Heap.ExtBut i2 p1 q := hq
    exact hE q tk1 e (fun c o cz c1 c2 x => hq _ _ c2 (hp1.extBut _ _ c1 (hs0.extBut _ _ cz x))) he
  · have hi1 : i = n1 := by omega
    refine wpAny_bind (D1.done ⟨g0, g, d, tk0, os⟩ _ _ (by rw [← hi1]; exact D1.over st1 hs0 S.zf1) fun q e hq he => ?_)
    replace hq : Heap.ExtBut i1 g0 q := hq
    exact hE q tk0 e (fun c o cz c1 c2 x => hq _ _ c1 (hs0.extBut _ _ cz x)) he
theorem pyNext_zip2_out_item {oT : Obj} {Q : Option Value → Shared → Prop} (S : ZipSep2 z TI TO i1 i2 fp1 fp2) (D1 : Draws prog w A.in1 i1 fp1 n1 P1 St1) (D2 : Draws prog w A.in1 i2 fp2 n2 P2 St2)
    (hz : ZipF s.heap z TI TO T f) (hT : s.heap.get? T = some oT) (hTI : IsTupOf2 s.heap TI (.ref i1) (.ref i2)) (st1 : St1 i s.heap) (st2 : St2 i s.heap) (hlt1 : i < n1) (hlt2 : i < n2)
    (hQ : ∀ x1 x2 h' tk, P1 i x1 → P2 i x2 → ZipF h' z TI TO T true → St1 (i + 1) h' → St2 (i + 1) h' → IsTupOf2 h' s.heap.objs.size x1 x2 →
      (∀ c o, c ≠ z → c ≠ i1 → c ≠ i2 → s.heap.get? c = some o → h'.get? c = some o) → Q (some (.ref s.heap.objs.size)) { s with heap := h', toks := tk }) :
    wpAny (model prog w) A (pyNext (.ref z)) Q E s := by
  have hTy : s.TypeIs (.ref z) "zip" := ⟨_, hz, rfl⟩
  unfold pyNext
  exact wpAny_bind (wpAny_attempt (wpAny_callSpecial?_slot (name := Str.ofString "__next__") hTy PySem.F.slot_zip_next
    (wpAny_call_entry PySem.F.slot_zip_next hTy PySem.F.entry_zip_next
      (zip2_out_item S D1 D2 hz hT hTI st1 st2 hlt1 hlt2 fun x1 x2 h' tk y1 y2 b1 d1 d2 b5 b7 => wpAny_pure (hQ x1 x2 h' tk y1 y2 b1 d1 d2 b5 b7)) (PySem.F.args_zip_next_1 _))))
theorem pyNext_zip2_out_end {oT : Obj} {Q : Option Value → Shared → Prop} (S : ZipSep2 z TI TO i1 i2 fp1 fp2) (D1 : Draws prog w A.in1 i1 fp1 n1 P1 St1) (D2 : Draws prog w A.in1 i2 fp2 n2 P2 St2)
    (hz : ZipF s.heap z TI TO T f) (hT : s.heap.get? T = some oT) (hTI : IsTupOf2 s.heap TI (.ref i1) (.ref i2)) (st1 : St1 i s.heap) (st2 : St2 i s.heap) (hle1 : i ≤ n1) (hle2 : i ≤ n2) (hend : i = n1 ∨ i = n2)
    (hQ : ∀ h' tk, (∀ c o, c ≠ z → c ≠ i1 → c ≠ i2 → s.heap.get? c = some o → h'.get? c = some o) → Q none { s with heap := h', toks := tk }) : wpAny (model prog w) A (pyNext (.ref z)) Q E s := by
  have hTy : s.TypeIs (.ref z) "zip" := ⟨_, hz, rfl⟩
  unfold pyNext
  refine wpAny_bind (wpAny_attempt (wpAny_callSpecial?_slot (name := Str.ofString "__next__") hTy PySem.F.slot_zip_next
    (wpAny_call_entry PySem.F.slot_zip_next hTy PySem.F.entry_zip_next (zip2_out_end S D1 D2 hz hT hTI st1 st2 hle1 hle2 hend fun h' tk e hk he => ?_) (PySem.F.args_zip_next_1 _))))
  obtain ⟨o, ho, hc⟩ := he
  refine wpAny_bind (wpAny_isInstance (T := "StopIteration") (b := true) ⟨o, ho, hc⟩ isSubtype_stop ?_)
  exact wpAny_pure (hQ _ _ hk)
end
/-! the list is filled -/
theorem zip_no_len : typeLookup (.type "zip") "__len__" = pure none := by rw [typeLookup_type, builtinLookup_eq_fast]; kernel_rfl
theorem zip_no_hint : typeLookup (.type "zip") "__length_hint__" = pure none := by rw [typeLookup_type, builtinLookup_eq_fast]; kernel_rfl
/-- the zip over S1 and S2 with its cells at b0.., i items drawn; T the tuple drawn last -/
structure ZAt (K : PySem.W.Frag) (S1 S2 : Src) (b0 : Addr) (h : Heap) (H : Hp) (i : Nat) : Prop where
  z : IsZip h (b0 + 4) (b0 + 2) (b0 + 3) .none ∨ ∃ T f xs, ZipF h (b0 + 4) (b0 + 2) (b0 + 3) T f ∧ H T = some (.tup xs)
  ti : IsTupOf2 h (b0 + 2) (.ref b0) (.ref (b0 + 1))
  to : ∃ a1 a2, IsTupOf2 h (b0 + 3) a1 a2
  s1 : S1.at h b0 i
  s2 : S2.at h (b0 + 1) i
/-- the tuples drawn -/
def ZAcc (S1 S2 : Src) (H : Hp) (acc : List V) : Prop := ∀ (j : Nat) (v : V), acc[j]? = some v → ∃ T x y, v = .ref T ∧ S1.items[j]? = some x ∧ S2.items[j]? = some y ∧ H T = some (.tup [x, y])
section
variable {X : Cx} {pins : List (Addr × Obj)} {σ : L2.St} {A1 : Around}
theorem Src.ok_upd {K : PySem.W.Frag} {S : Src} {H : Hp} {a : Addr} {o : HO} (h : S.ok K H) (hs : Same H (upd H a o)) : S.ok K (upd H a o) := by
  cases S with
  | txt x => trivial
  | tup t xs => exact hs.tup h
  | lst t xs => exact hs.seq h
theorem Src.ok_updB {K : PySem.W.Frag} {S : Src} {H : Hp} {a : Addr} {o : HO} (h : S.ok K H) (ho : S.off a) : S.ok K (upd H a o) := by
  cases S with
  | txt x => trivial
  | tup t xs =>
    rcases h with (h | ⟨o, h⟩) | h
    · exact .inl (.inl (by rw [upd_ne ho]; exact h))
    · exact .inl (.inr ⟨o, by rw [upd_ne ho]; exact h⟩)
    · exact .inr h
  | lst t xs =>
    rcases h with (h | ⟨o, h⟩) | h
    · exact .inl (.inl (by rw [upd_ne ho]; exact h))
    · exact .inl (.inr ⟨o, by rw [upd_ne ho]; exact h⟩)
    · exact .inr h
theorem zsep {S1 S2 : Src} {b0 : Addr} (h1 : ∀ b, b0 ≤ b → S1.off b) (h2 : ∀ b, b0 ≤ b → S2.off b) : ZipSep2 (b0 + 4) (b0 + 2) (b0 + 3) b0 (b0 + 1) (S1.fp b0) (S2.fp (b0 + 1)) := ⟨by first | exact addNe (by decide) | exact addNeL (by decide) | exact addNeR (by decide), by first | exact addNe (by decide) | exact addNeL (by decide) | exact addNeR (by decide), by first | exact addNe (by decide) | exact addNeL (by decide) | exact addNeR (by decide), by first | exact addNe (by decide) | exact addNeL (by decide) | exact addNeR (by decide), Src.it_fp, Src.off_fp (h1 _ (Nat.le_add_right _ _)) (by first | exact addNe (by decide) | exact addNeL (by decide) | exact addNeR (by decide)), Src.off_fp (h1 _ (Nat.le_add_right _ _)) (by first | exact addNe (by decide) | exact addNeL (by decide) | exact addNeR (by decide)),
      by first | exact addNe (by decide) | exact addNeL (by decide) | exact addNeR (by decide), Src.it_fp, Src.off_fp (h2 _ (Nat.le_add_right _ _)) (by first | exact addNe (by decide) | exact addNeL (by decide) | exact addNeR (by decide)), Src.off_fp (h2 _ (Nat.le_add_right _ _)) (by first | exact addNe (by decide) | exact addNeL (by decide) | exact addNeR (by decide)),
      Src.off_fp (h2 _ (Nat.le_refl _)) (by first | exact addNe (by decide) | exact addNeL (by decide) | exact addNeR (by decide)), Src.off_fp (h1 _ (Nat.le_add_right _ _)) (by first | exact addNe (by decide) | exact addNeL (by decide) | exact addNeR (by decide))⟩
variable {S1 S2 : Src} {b0 : Addr} {H : Hp} {s : Shared} {i : Nat}
abbrev zcells (b0 : Addr) : List Addr := [b0 + 4, b0 + 2, b0 + 3, b0, b0 + 1]
theorem zip_next (hh : A1.handled = none) (h1 : ∀ b, b0 ≤ b → S1.off b) (h2 : ∀ b, b0 ≤ b → S2.off b) (I : Inv X pins σ H s) (Z : ZAt X.K S1 S2 b0 s.heap H i) (hf : ∀ b ∈ zcells b0, FpOk X pins H b) (g1 : S1.ok X.K H) (g2 : S2.ok X.K H) {Q : Option Value → Shared → Prop} {E : Value → Shared → Prop}
    (hi : i < min S1.items.length S2.items.length)
    (hQ : ∀ h' tk y1 y2, S1.items[i]? = some y1 → S2.items[i]? = some y2 → H s.heap.objs.size = none → Inv X pins σ (upd H s.heap.objs.size (.tup [y1, y2])) { s with heap := h', toks := tk } → ZAt X.K S1 S2 b0 h' (upd H s.heap.objs.size (.tup [y1, y2])) (i + 1) → Q (some (.ref s.heap.objs.size)) { s with heap := h', toks := tk }) :
    wpAny (model X.prog X.w) A1 (pyNext (.ref (b0 + 4))) Q E s := by
  obtain ⟨hz, hTI, ⟨a1, a2, hTO⟩, st1, st2⟩ := Z
  obtain ⟨P1, T1, D1, v1, s1, t1⟩ := S1.drawsA I (A' := A1.in1) hh g1 (h1 _ (Nat.le_refl _)) st1
  obtain ⟨P2, T2, D2, v2, s2, t2⟩ := S2.drawsA I (A' := A1.in1) hh g2 (h2 (b0 + 1) (Nat.le_add_right _ _)) st2
  have hn : H s.heap.objs.size = none := I.hok.fresh (Nat.le_refl _)
  have sep := zsep h1 h2
  have hi1 : i < S1.items.length := Nat.lt_of_lt_of_le hi (Nat.min_le_left _ _)
  have hi2 : i < S2.items.length := Nat.lt_of_lt_of_le hi (Nat.min_le_right _ _)
  have fp4 : ∀ b ∈ [b0 + 4, b0 + 3, b0, b0 + 1], FpOk X pins H b := fun b hb => hf b (by
    have e' : b = b0 + 4 ∨ b = b0 + 3 ∨ b = b0 ∨ b = b0 + 1 := by simpa using hb
    rcases e' with z | z | z | z <;> simp [z])
  have newI : ∀ {h' : Heap} {tk : Nat} {x1 x2 : Value} {y1 y2 : V}, (∀ c o, c ∉ [b0 + 4, b0 + 3, b0, b0 + 1] → s.heap.get? c = some o → h'.get? c = some o) → RelV y1 x1 → RelV y2 x2 → IsTupOf2 h' s.heap.objs.size x1 x2 → Inv X pins σ (upd H s.heap.objs.size (.tup [y1, y2])) { s with heap := h', toks := tk } :=
    fun {h' tk x1 x2 y1 y2} hk r1 r2 hT => I.turnedNew (ch := [b0 + 4, b0 + 3, b0, b0 + 1]) hk fp4 (Nat.le_refl _) ⟨by show 2 ≤ sizeLine; rw [sizeLine_eq]; decide, [x1, x2], .cons r1 (.cons r2 .nil), ⟨_, hT, rfl, 0, rfl⟩⟩
  rcases hz with hz | ⟨T, f, xs, hz, hT⟩
  · refine wpAny_pyNext_zipD2_item sep D1 D2 hz hTI hTO s1 s2 hi1 hi2 fun x1 x2 h' tk p1 p2 b1 b2 d1 d2 b5 b6 hk => ?_
    obtain ⟨y1, e1, r1⟩ := v1 i x1 p1
    obtain ⟨y2, e2, r2⟩ := v2 i x2 p2
    have hk' : ∀ c o, c ∉ [b0 + 4, b0 + 3, b0, b0 + 1] → s.heap.get? c = some o → h'.get? c = some o := fun c o hc e => hk c o (fun q => hc (by simp [q])) (fun q => hc (by simp [q])) (fun q => hc (by simp [q])) (fun q => hc (by simp [q])) e
    exact hQ h' tk y1 y2 e1 e2 hn (newI hk' r1 r2 b5) ⟨.inr ⟨_, false, _, b1, upd_same⟩, hk _ _ sep.TIz sep.TITO sep.TIi1 sep.TIi2 hTI, ⟨_, _, b2⟩, t1 _ _ d1, t2 _ _ d2⟩
  · obtain ⟨_, its, rv, ⟨oT, hoT, _⟩⟩ := I.hok T _ hT
    have hTO' := hTO
    refine pyNext_zip2_out_item sep D1 D2 hz hoT hTI s1 s2 hi1 hi2 fun x1 x2 h' tk p1 p2 b1 d1 d2 b5 hk => ?_
    obtain ⟨y1, e1, r1⟩ := v1 i x1 p1
    obtain ⟨y2, e2, r2⟩ := v2 i x2 p2
    have hk' : ∀ c o, c ∉ [b0 + 4, b0 + 3, b0, b0 + 1] → s.heap.get? c = some o → h'.get? c = some o := fun c o hc e => hk c o (fun q => hc (by simp [q])) (fun q => hc (by simp [q])) (fun q => hc (by simp [q])) e
    exact hQ h' tk y1 y2 e1 e2 hn (newI hk' r1 r2 b5) ⟨.inr ⟨T, true, xs, b1, by rw [upd_ne (ne_of_none hT hn)]; exact hT⟩, hk _ _ sep.TIz sep.TIi1 sep.TIi2 hTI, ⟨_, _, hk _ _ sep.TOz sep.Ti1 sep.Ti2 hTO⟩, t1 _ _ d1, t2 _ _ d2⟩
theorem zip_stop (hh : A1.handled = none) (h1 : ∀ b, b0 ≤ b → S1.off b) (h2 : ∀ b, b0 ≤ b → S2.off b) (I : Inv X pins σ H s) (Z : ZAt X.K S1 S2 b0 s.heap H i) (hf : ∀ b ∈ zcells b0, FpOk X pins H b) (g1 : S1.ok X.K H) (g2 : S2.ok X.K H) {Q : Option Value → Shared → Prop} {E : Value → Shared → Prop}
    (hi : i = min S1.items.length S2.items.length)
    (hQ : ∀ h' tk, Inv X pins σ H { s with heap := h', toks := tk } → Q none { s with heap := h', toks := tk }) :
    wpAny (model X.prog X.w) A1 (pyNext (.ref (b0 + 4))) Q E s := by
  obtain ⟨hz, hTI, ⟨a1, a2, hTO⟩, st1, st2⟩ := Z
  obtain ⟨P1, T1, D1, v1, s1, t1⟩ := S1.drawsA I (A' := A1.in1) hh g1 (h1 _ (Nat.le_refl _)) st1
  obtain ⟨P2, T2, D2, v2, s2, t2⟩ := S2.drawsA I (A' := A1.in1) hh g2 (h2 (b0 + 1) (Nat.le_add_right _ _)) st2
  have sep := zsep h1 h2
  have hle1 : i ≤ S1.items.length := by rw [hi]; exact Nat.min_le_left _ _
  have hle2 : i ≤ S2.items.length := by rw [hi]; exact Nat.min_le_right _ _
  have hend : i = S1.items.length ∨ i = S2.items.length := by omega
  have fp4 : ∀ b ∈ [b0 + 4, b0 + 3, b0, b0 + 1], FpOk X pins H b := fun b hb => hf b (by
    have e' : b = b0 + 4 ∨ b = b0 + 3 ∨ b = b0 ∨ b = b0 + 1 := by simpa using hb
    rcases e' with z | z | z | z <;> simp [z])
  rcases hz with hz | ⟨T, f, xs, hz, hT⟩
  · exact wpAny_pyNext_zipD2_end sep D1 D2 hz hTI hTO s1 s2 hle1 hle2 hend fun h' tk hk => hQ h' tk (I.turnedL (ch := [b0 + 4, b0 + 3, b0, b0 + 1]) (fun c o hc e => hk c o (fun q => hc (by simp [q])) (fun q => hc (by simp [q])) (fun q => hc (by simp [q])) (fun q => hc (by simp [q])) e) fp4)
  · obtain ⟨_, its, rv, ⟨oT, hoT, _⟩⟩ := I.hok T _ hT
    exact pyNext_zip2_out_end sep D1 D2 hz hoT hTI s1 s2 hle1 hle2 hend fun h' tk hk => hQ h' tk (I.turnedL (ch := [b0 + 4, b0 + 3, b0, b0 + 1]) (fun c o hc e => hk c o (fun q => hc (by simp [q])) (fun q => hc (by simp [q])) (fun q => hc (by simp [q])) e) fp4)
theorem fp_upd {b a : Addr} {o : HO} (h : FpOk X pins H b) (hne : b ≠ a) : FpOk X pins (upd H a o) b := ⟨by rw [upd_ne hne]; exact h.1, h.2⟩
theorem ZAt.obj (Z : ZAt X.K S1 S2 b0 s.heap H i) : ∀ b ∈ zcells b0, ∃ o, s.heap.get? b = some o := fun b hb => by
  obtain ⟨hz, hTI, ⟨a1, a2, hTO⟩, st1, st2⟩ := Z
  have e' : b = b0 + 4 ∨ b = b0 + 2 ∨ b = b0 + 3 ∨ b = b0 ∨ b = b0 + 1 := by simpa using hb
  rcases e' with z | z | z | z | z
  · rw [z]
    rcases hz with hz | ⟨_, _, _, hz, _⟩
    · exact ⟨_, hz⟩
    · exact ⟨_, hz⟩
  · rw [z]; exact ⟨_, hTI⟩
  · rw [z]; exact ⟨_, hTO⟩
  · rw [z]; obtain ⟨o, h, _⟩ := Src.at_obj st1; exact ⟨o, h⟩
  · rw [z]; obtain ⟨o, h, _⟩ := Src.at_obj st2; exact ⟨o, h⟩
theorem ZAt.keep {h h' : Heap} {H' : Hp} (Z : ZAt X.K S1 S2 b0 h H i) (k : ∀ b ∈ zcells b0, ∀ o, h.get? b = some o → h'.get? b = some o) (hT : ∀ T xs, H T = some (.tup xs) → H' T = some (.tup xs)) : ZAt X.K S1 S2 b0 h' H' i := by
  obtain ⟨hz, hTI, ⟨a1, a2, hTO⟩, st1, st2⟩ := Z
  refine ⟨?_, k _ (by simp) _ hTI, ⟨a1, a2, k _ (by simp) _ hTO⟩, Src.at_keep st1 (k _ (by simp)), Src.at_keep st2 (k _ (by simp))⟩
  rcases hz with hz | ⟨T, f, xs, hz, h⟩
  · exact .inl (k _ (by simp) _ hz)
  · exact .inr ⟨T, f, xs, k _ (by simp) _ hz, hT _ _ h⟩
theorem zip_loop {H0 : Hp} {q : Addr} {Rs : Result → Shared → Prop} (hh : A1.handled = none) (h1 : ∀ b, b0 ≤ b → S1.off b) (h2 : ∀ b, b0 ≤ b → S2.off b) (q1 : S1.off q) (q2 : S2.off q) (hq0 : H0 q = none) (hn : min S1.items.length S2.items.length ≤ 1000)
    (hdone : ∀ acc H s, Inv X pins σ H s → Same H0 H → H q = some (.lst acc) → acc.length = min S1.items.length S2.items.length → ZAcc S1 S2 H acc → Rs (.ok (.ret .none)) s) :
    ∀ (k i : Nat) (acc : List V) (H : Hp) (s : Shared), min S1.items.length S2.items.length - i = k → i ≤ min S1.items.length S2.items.length → Inv X pins σ H s → Same H0 H → H q = some (.lst acc) → acc.length = i → ZAcc S1 S2 H acc → ZAt X.K S1 S2 b0 s.heap H i →
      (∀ b ∈ zcells b0, FpOk X pins H b) → S1.ok X.K H → S2.ok X.K H → codeAny (model X.prog X.w) A1 (.builtin "list.extend.loop" ⟨[.ref q, .ref (b0 + 4), .none], []⟩) Rs s := by
  intro k
  induction k with
  | zero =>
    intro i acc H s hk hi I s0 hq hl hA Z hf g1 g2
    refine codeAny_builtin PySem.F.entry_extend_loop ?_
    rw [Around.under_plainId PySem.F.plain_extend_loop _]
    show wpAny _ A1.in1 (pyNext (.ref (b0 + 4)) >>= _) _ _ s
    refine wpAny_bind (zip_stop (A1 := A1.in1) hh h1 h2 I Z hf g1 g2 (by omega) fun h' tk I' => wpAny_pure (hdone acc H _ I' s0 hq (by omega) hA))
  | succ k ih =>
    intro i acc H s hk hi I s0 hq hl hA Z hf g1 g2
    refine codeAny_builtin PySem.F.entry_extend_loop ?_
    rw [Around.under_plainId PySem.F.plain_extend_loop _]
    show wpAny _ A1.in1 (pyNext (.ref (b0 + 4)) >>= _) _ _ s
    refine wpAny_bind (zip_next (A1 := A1.in1) hh h1 h2 I Z hf g1 g2 (by omega) fun h' tk y1 y2 e1 e2 hTn I' Z' => ?_)
    generalize hTe : s.heap.objs.size = T at *
    show wpAny _ A1.in1 (updateSeq q (·.push (.ref T)) >>= _) _ _ _
    have hqT : q ≠ T := ne_of_none hq hTn
    have hq' : upd H T (.tup [y1, y2]) q = some (.lst acc) := by rw [upd_ne hqT]; exact hq
    obtain ⟨z, its, kn, r2, hl2, e⟩ := I'.lstM hq'
    refine wpAny_bind (wpAny_updateSeq e rfl (wpAny_pure ⟨plainId_quiet PySem.F.plain_extend_loop _, ?_⟩) (by rw [List.size_toArray]; omega) (by show (its.toArray.push (.ref T)).size ≤ sizeLine + 1; rw [Array.size_push, List.size_toArray]; omega))
    have hcell : ∀ b ∈ zcells b0, b ≠ T ∧ b ≠ q := fun b hb => ⟨fun z => by
      obtain ⟨o, ho⟩ := Z.obj b hb
      rw [z, ← hTe] at ho
      exact absurd (Heap.lt_size ho) (Nat.lt_irrefl _), fun z => by
      have := (hf b hb).1
      rw [z, hq] at this
      cases this⟩
    have hlen : (acc ++ [V.ref T]).length ≤ sizeLine := by
      rw [List.length_append, List.length_singleton]
      exact Nat.le_of_lt (small1000 (by omega))
    have sT : Same H (upd H T (.tup [y1, y2])) := same_upd hTn
    refine ih (i + 1) (acc ++ [.ref T]) _ _ (by omega) (by omega) (I'.lset (its' := its ++ [.ref T]) (t' := tk) hq' e (by simp) (r2.append (.cons (show L2.RelV (.ref T) (.ref T) from rfl) .nil)) hlen) ?_ upd_same (by rw [List.length_append, List.length_singleton]; omega) ?_ ?_ ?_ ?_ ?_
    · exact (s0.trans sT).at hq0
    · intro j v hv
      by_cases hj : j < acc.length
      · rw [List.getElem?_append_left hj] at hv
        obtain ⟨T', x, y, rfl, ex, ey, hT'⟩ := hA j v hv
        have : T' ≠ q := fun z => by rw [z, hq] at hT'; cases hT'
        exact ⟨T', x, y, rfl, ex, ey, by rw [upd_ne this]; exact sT _ _ hT'⟩
      · rw [List.getElem?_append_right (by omega)] at hv
        have ej : j - acc.length = 0 := by
          have := (List.getElem?_eq_some_iff.mp hv).1
          simp at this
          omega
        rw [ej] at hv
        cases hv
        have ej' : j = i := by omega
        subst ej'
        exact ⟨T, y1, y2, rfl, e1, e2, by rw [upd_ne hqT.symm]; exact upd_same⟩
    · refine Z'.keep (fun b hb o ho => (Heap.get?_update_other _ _ (Ne.symm (hcell b hb).2)).trans ho) fun T' xs hT' => ?_
      have : T' ≠ q := fun z => by rw [z, hq'] at hT'; cases hT'
      rw [upd_ne this]
      exact hT'
    · intro b hb
      exact fp_upd (fp_upd (hf b hb) (hcell b hb).1) (hcell b hb).2
    · exact Src.ok_updB (Src.ok_upd g1 sT) q1
    · exact Src.ok_updB (Src.ok_upd g2 sT) q2
/-- list(zip(e, e2)) -/
def gListZip (K : PySem.W.Frag) (ta : TA) : TE := fun σ H Q => ta σ H fun vs H1 => ∃ (u1 u2 : V) (S1 S2 : Src), vs = [u1, u2] ∧ (S1.of u1 ∧ S1.ok K H1) ∧ (S2.of u2 ∧ S2.ok K H1) ∧ min S1.items.length S2.items.length ≤ 1000 ∧
  ∀ q acc H', Same H1 H' → H1 q = none → H' q = some (.lst acc) → acc.length = min S1.items.length S2.items.length → ZAcc S1 S2 H' acc → Q (.ref q) H'
theorem pe_listZip0 {e e2 : Expr} {ta : TA} {p pos p2 pos2 : Pos} (hl : X.mg "list" = none) (hm : X.mg "zip" = none) (ha : PA X [e, e2] ta) (hc : X.calm = true) (hgl : Gl X "list" := by rfl) (hg : Gl X "zip" := by rfl)
    (hs1 : starEach [.Call (.Name "zip" p) [e, e2] [] pos] X.env = (false, eval (.Call (.Name "zip" p) [e, e2] [] pos) X.env) :: starEach [] X.env := by rfl)
    (hs : starEach [e, e2] X.env = (false, eval e X.env) :: starEach [e2] X.env := by rfl) (hpl : (backTo pos (starEach [e2] X.env)).any (·.1) = false := by rfl) :
    PE X (.Call (.Name "list" p2) [.Call (.Name "zip" p) [e, e2] [] pos] [] pos2) (gListZip X.K ta) := by
  refine ⟨fun pins s σ H Q I h => ?_⟩
  refine wpAny_Call_Name_kw (ld_blt I hgl hl bt_list ?_ (by decide) (by decide))
  refine PyProof.Rows.callWith_type1 ?_ hs1 rfl
  rw [hs1]
  show wpAny _ _ (spliced ((false, eval (.Call (.Name "zip" p) [e, e2] [] pos) X.env) :: backTo pos2 (starEach [] X.env))) _ _ s
  refine Calls.spliced_cons ?_
  refine wpAny_Call_Name_kw (ld_blt I hg hm PyProof.Rows.boot_zip ?_ (by decide) (by decide))
  refine PyProof.Rows.callWith_type1 (thn (ha.run pos pins s σ H _ I h) fun us s1 ⟨vs, H1, I1, r1, q1⟩ => ?_) hs hpl
  obtain ⟨u1, u2, S1, S2, rfl, ⟨f1, k1⟩, ⟨f2, k2⟩, hlen, q⟩ := q1
  cases r1 with
  | cons r1 rr =>
  cases rr with
  | cons r2 rr =>
  cases rr
  obtain ⟨o1, G1, B1, g1, a1, n1⟩ := S1.begins I1 f1 r1 k1
  obtain ⟨o2, G2, B2, g2, a2, n2⟩ := S2.begins I1 f2 r2 k2
  refine zip_begins2 B1 B2 g1 g2 fun h' hz hTI hTO h1 h2 hsz hk => ?_
  have I2 : Inv X pins σ H1 { s1 with heap := h' } := I1.kept (t' := s1.toks) hk
  have hf : ∀ b ∈ zcells s1.heap.objs.size, FpOk X pins H1 b := fun c hcm => by
    have e' : c = s1.heap.objs.size + 4 ∨ c = s1.heap.objs.size + 2 ∨ c = s1.heap.objs.size + 3 ∨ c = s1.heap.objs.size ∨ c = s1.heap.objs.size + 1 := by simpa using hcm
    have hle : s1.heap.objs.size ≤ c := by
      rcases e' with z | z | z | z | z
      all_goals first | (rw [z]; exact Nat.le_add_right _ _) | (rw [z]; exact Nat.le_refl _)
    exact I1.fpOk hle (I1.hok.fresh hle)
  have Z : ZAt X.K S1 S2 s1.heap.objs.size h' H1 0 := ⟨.inl hz, hTI, ⟨_, _, hTO⟩, a1 _ _ h1, a2 _ _ h2⟩
  refine Calls.spliced_nil ?_
  generalize s1.heap.objs.size = b0 at *
  have sz : b0 + 4 < h'.objs.size := Heap.lt_size hz
  have hcellq : ∀ b ∈ zcells b0, b ≠ h'.objs.size := fun b hb z => by
    obtain ⟨o, ho⟩ := ZAt.obj (s := { s1 with heap := h' }) Z b hb
    rw [z] at ho
    exact absurd (Heap.lt_size ho) (Nat.lt_irrefl _)
  have hfr : H1 h'.objs.size = none := I2.hok.fresh (Nat.le_refl _)
  have q1 : S1.off h'.objs.size := n1 _ (by exact Nat.le_trans (Nat.le_add_right _ 4) (Nat.le_of_lt sz))
  have q2 : S2.off h'.objs.size := n2 _ (by exact Nat.le_trans (Nat.le_add_right _ 4) (Nat.le_of_lt sz))
  refine callType_codes (Q₁ := fun obj s₁ => obj = .ref h'.objs.size ∧ s₁ = { s1 with heap := h'.push { cls := .type "list", data := .seq #[] } }) PySem.F.called_list (PySem.F.typeCall_list_1 _) PySem.F.entry_list_init
    (code_list_new _ ⟨rfl, rfl⟩) fun obj s₁ h₁ => ?_
  obtain ⟨rfl, rfl⟩ := h₁
  have hS : (h'.push { cls := .type "list", data := .seq #[] }).get? h'.objs.size = some { cls := .type "list", data := .seq #[] } := Heap.get?_push_size _ rfl
  refine ⟨⟨_, hS, rfl⟩, PySem.F.args_list_init_2 _ _, ?_⟩
  have I3 : Inv X pins σ (upd H1 h'.objs.size (.lst [])) { s1 with heap := h'.push { cls := .type "list", data := .seq #[] } } := I2.lnew (its := []) (t' := s1.toks) .nil (Nat.zero_le _)
  have Z3 : ZAt X.K S1 S2 b0 (h'.push { cls := .type "list", data := .seq #[] }) (upd H1 h'.objs.size (.lst [])) 0 := Z.keep (fun b _ o ho => Heap.get?_push_of_some _ ho) fun T xs hT => by
    rw [upd_ne (ne_of_none hT hfr)]; exact hT
  have hz3 : IsZip (h'.push { cls := .type "list", data := .seq #[] }) (b0 + 4) (b0 + 2) (b0 + 3) .none := Heap.get?_push_of_some _ hz
  generalize hqe : h'.objs.size = qq at *
  generalize h'.push { cls := .type "list", data := .seq #[] } = h3 at *
  show wpAny _ _ (do let old ← Builtin.List.listItems (.ref qq); Builtin.List.listUpdate (.ref qq) (fun _ => #[]); letGo old.toList.reverse; Builtin.List.listExtendWith (.ref qq) (.ref (b0 + 4)) .none) _ _ _
  refine wpAny_bind ?_
  unfold Builtin.List.listItems
  refine wpAny_bind (wpAny_seqItems hS rfl (wpAny_pure ?_))
  show wpAny _ _ (updateSeq qq (fun _ => #[]) >>= fun _ => letGo (#[] : Array Value).toList.reverse >>= fun _ => Builtin.List.listExtendWith (.ref qq) (.ref (b0 + 4)) .none) _ _ _
  refine wpAny_bind (wpAny_updateSeq hS rfl ?_)
  have I4 := I3.lset (f := fun _ => #[]) (its := []) (its' := []) (ys := []) (t' := s1.toks) upd_same hS rfl .nil (Nat.zero_le _)
  rw [upd_upd] at I4
  have upk : ∀ {h : Heap} {g : Array Value → Array Value} (b : Addr), b ∈ zcells b0 → ∀ o, h.get? b = some o → (h.update qq (Obj.mapSeq g)).get? b = some o := fun b hb o ho => (Heap.get?_update_other _ _ (Ne.symm (hcellq b hb))).trans ho
  have Z4 := Z3.keep (h' := h3.update qq (Obj.mapSeq fun _ => #[])) (H' := upd H1 qq (.lst [])) (fun b hb => upk b hb) fun T xs hT => hT
  have hz4 : IsZip (h3.update qq (Obj.mapSeq fun _ => #[])) (b0 + 4) (b0 + 2) (b0 + 3) .none := upk _ (by simp) _ hz3
  refine wpAny_bind (wpAny_letGo ?_)
  generalize h3.update qq (Obj.mapSeq fun _ => #[]) = h4 at *
  have hne : qq ≠ b0 + 4 := (hcellq (b0 + 4) (by simp)).symm
  have hT4 : Shared.TypeIs { s1 with heap := h4 } (.ref (b0 + 4)) "zip" := ⟨_, hz4, rfl⟩
  unfold Builtin.List.listExtendWith
  refine wpAny_bind (wpAny_typeOf hT4 ?_)
  have e1 : Builtin.List.listSameRef (.ref qq) (.ref (b0 + 4)) = false := by simp [Builtin.List.listSameRef, hne]
  have e2 : (Value.type "zip" == Value.type "list") = false := by decide
  have e3 : (Value.type "zip" == Value.type "tuple") = false := by decide
  simp only [e1, e2, e3, Bool.or_false, Bool.false_eq_true, if_false]
  refine wpAny_bind (wpAny_pyIter_zip hz4 ?_)
  refine wpAny_bind (wpAny_holding ?_)
  unfold Builtin.List.listLengthHint
  refine wpAny_bind (wpAny_specialOf hT4 zip_no_len ?_)
  show wpAny _ _ (specialOf (Value.ref (b0 + 4)) (Str.ofString "__length_hint__") >>= _) _ _ _
  refine wpAny_bind (wpAny_specialOf hT4 zip_no_hint ?_)
  refine wpAny_pure ?_
  show wpAny _ _ (rule "list.extend.makes-room" >>= fun _ => Builtin.List.listTouch (.ref qq) >>= fun _ =>
    again (.builtin "list.extend.loop" ⟨[.ref qq, .ref (b0 + 4), .none], []⟩)) _ _ _
  refine wpAny_bind (wpAny_rule ?_)
  refine wpAny_bind ?_
  show wpAny _ _ (updateSeq qq (·.push .none) >>= fun _ => updateSeq qq (·.pop)) _ _ _
  obtain ⟨zz, its, kk, r3, hl3, e3⟩ := I4.lstM upd_same
  cases r3
  refine wpAny_bind (wpAny_updateSeq e3 rfl ?_)
  have I5 := I4.lset (f := (·.push Value.none)) (its' := [Value.none]) (ys := [.non]) (t' := s1.toks) upd_same e3 (by simp) (.cons rfl .nil) (by rw [List.length_singleton, sizeLine_eq]; decide)
  have Z5 := Z4.keep (h' := h4.update qq (Obj.mapSeq (·.push Value.none))) (H' := upd H1 qq (.lst [])) (fun b hb => upk b hb) fun T xs hT => hT
  rw [upd_upd] at I5
  obtain ⟨z4, its4, k4, r4, hl4, e4⟩ := I5.lstM upd_same
  obtain ⟨u4, rfl, ru4⟩ := r4.one
  refine wpAny_updateSeq e4 rfl ?_ (by show 1 ≤ sizeLine; rw [sizeLine_eq]; decide) (by show 0 ≤ sizeLine + 1; exact Nat.zero_le _)
  have I6 := I5.lset (f := (·.pop)) (its := [u4]) (its' := []) (ys := []) (t' := s1.toks) upd_same e4 (by rfl) .nil (Nat.zero_le _)
  rw [upd_upd] at I6
  have Z6 := Z5.keep (h' := (h4.update qq (Obj.mapSeq (·.push Value.none))).update qq (Obj.mapSeq (·.pop))) (H' := upd H1 qq (.lst [])) (fun b hb => upk b hb) fun T xs hT => hT
  refine wpAny_pure ⟨plainId_quiet PySem.F.plain_extend_loop _, zip_loop (A1 := X.A.in1) (H0 := H1) (I.ok.hd hc) n1 n2 q1 q2 hfr hlen (fun acc H' s' I' s0 hq hl hA => ?_) _ 0 [] _ _ rfl (Nat.zero_le _) I6 (same_upd hfr) upd_same rfl (fun j v hv => by simp at hv) Z6 (fun b hb => fp_upd (hf b hb) (hcellq b hb)) (Src.ok_updB k1 q1) (Src.ok_updB k2 q2)⟩
  exact ⟨rfl, .ref qq, H', I', rfl, q qq acc H' s0 hfr hq hl hA⟩
theorem pe_listZip {K : PySem.W.Frag} {e e2 : Expr} {ta : TA} {p pos p2 pos2 : Pos} (hl : X.mg "list" = none) (hm : X.mg "zip" = none) (ha : PA X [e, e2] ta) (hK : X.K = K := by rfl) (hc : X.calm = true := by rfl) (hgl : Gl X "list" := by rfl) (hg : Gl X "zip" := by rfl)
    (hs1 : starEach [.Call (.Name "zip" p) [e, e2] [] pos] X.env = (false, eval (.Call (.Name "zip" p) [e, e2] [] pos) X.env) :: starEach [] X.env := by rfl)
    (hs : starEach [e, e2] X.env = (false, eval e X.env) :: starEach [e2] X.env := by rfl) (hpl : (backTo pos (starEach [e2] X.env)).any (·.1) = false := by rfl) :
    PE X (.Call (.Name "list" p2) [.Call (.Name "zip" p) [e, e2] [] pos] [] pos2) (gListZip K ta) := hK ▸ pe_listZip0 hl hm ha hc hgl hg hs1 hs hpl
end
end Pk

namespace Pk
open PySem PySem.Spec PyProof.Rows L2
section
variable {prog : Program} {w : World} {A : Around} {E : Value → Shared → Prop} {s : Shared} {l : Addr}
theorem sum_intTup {xs : Array (Int × Tok)} {Q : Value → Shared → Prop} (hh : A.handled = none) (hl : s.heap.IsTuple l (intItems xs))
    (h : ∀ h' tk t', (∀ b o, s.heap.get? b = some o → h'.get? b = some o) → Q (.int (preSum (numAt xs) xs.size) t') { s with heap := h', toks := tk }) :
    wpAny (model prog w) A (call (.builtin "sum") [.ref l]) Q E s := by
  have hlt : l < s.heap.objs.size := by
    obtain ⟨o, ho, _⟩ := hl
    exact Heap.lt_size ho
  refine call_sum_walkG (wpAny_pyIter_tuple hl ?_)
  refine ⟨_, [s.heap.objs.size, l], [s.heap.objs.size], _, _, _, numAt xs, rfl, Walks.tuple (A := A.in1) hh _ l (Nat.ne_of_lt hlt) (intItems xs), ⟨⟨_, Heap.get?_push_size _ rfl, rfl, rfl⟩, hl.push _⟩, ?_, (fun _ _ => intItems_at), fun h' tk t' hk => ?_⟩
  · intro b hb
    have e' : b = s.heap.objs.size ∨ b = l := by simpa using hb
    rw [Heap.size_push]
    rcases e' with z | z
    · rw [z]; exact Nat.lt_succ_self _
    · rw [z]; exact Nat.lt_succ_of_lt hlt
  have := h h' tk t' (fun b o e => hk b o (fun hm => by rw [List.mem_singleton.mp hm] at e; exact absurd (Heap.lt_size e) (Nat.lt_irrefl _)) (Heap.get?_push_of_some _ e))
  simpa [intItems] using this
theorem sum_rawT {its : List Value} {ns : List Int} {Q : Value → Shared → Prop} (hh : A.handled = none) (hl : s.heap.IsTuple l its.toArray) (hi : IntsAre its ns)
    (h : ∀ h' tk t', (∀ b o, s.heap.get? b = some o → h'.get? b = some o) → Q (.int ns.sum t') { s with heap := h', toks := tk }) : wpAny (model prog w) A (call (.builtin "sum") [.ref l]) Q E s := by
  obtain ⟨xs, e⟩ := hi.allInts.items
  have hn : numsOf (intItems xs).toList = ns := by rw [← e]; exact hi.numsOf
  rw [nums_intItems] at hn
  rw [e] at hl
  refine sum_intTup hh hl fun h' tk t' hk => ?_
  have := h h' tk t' hk
  rw [preSum_eq, List.take_of_length_le (by simp), hn]; exact this
end
section
variable {X : Cx} {K : PySem.W.Frag}
/-- sum of a list, a tuple of ints -/
def gSum2 (K : PySem.W.Frag) : RC := fun vs H Q => match vs with
  | [.ref p] => ∃ ns : List Int, (SqL K H p (ns.map V.int) ∨ SqT K H p (ns.map V.int)) ∧ Q (.int ns.sum) H
  | _ => False
theorem cr_sum2G0 (hc : X.calm = true := by rfl) : CallR X (.builtin "sum") (gSum2 X.K) := by
  intro pins s σ H xs us Q I r h
  unfold gSum2 at h
  split at h
  · obtain ⟨ys, h1 | h1, h2⟩ := h
    · exact cr_sum hc pins s σ H _ us Q I r ⟨_, ys, rfl, h1, h2⟩
    · obtain ⟨its, rv, hl, _⟩ := I.tuple h1
      rw [Vals.ref1 r]
      exact sum_rawT (I.ok.hd hc) hl rv.ints fun h' tk t' hk => ⟨.int _, H, I.kept hk, ⟨_, rfl⟩, h2⟩
  · exact h.elim
theorem cr_sumG2 (hc : X.calm = true) (hK : X.K = K := by rfl) : CallR X (.builtin "sum") (gSum2 K) := hK ▸ cr_sum2G0 hc
end
end Pk

namespace Pk
open PySem PySem.Spec PyProof.Rows L2
section
variable {J : It} {n : Nat} {G : Hp → Prop} {Y : Nat → Hp → V → Hp → Prop}
/-- a walk whose turns are told by B (the comprehension's outer and inner turns) -/
theorem out_it (w : Walk J n G Y) {B : (Hp → Prop) → V → Hp → Prop} {Qd : Hp → Prop} {Hs : Hp} (Pv : Nat → Hp → Prop) (h0 : Pv 0 Hs) (hG : ∀ i H, i ≤ n → Pv i H → G H)
    (hs : ∀ i x H H', i < n → Pv i H → Y i H x H' → B (Pv (i + 1)) x H') (hd : ∀ H, Pv n H → Qd H) :
    ∃ W : Nat → Nat → Hp → Prop, (∃ m, W 0 m Hs) ∧ ∀ i m H, W i m H → (J.stop i H ∧ Qd H) ∨ (J.go i H ∧ ∃ Nx : Hp → Prop, (∀ H', Nx H' → ∃ m', m' < m ∧ W (i + 1) m' H') ∧ ∀ x H', J.yld i H x H' → B Nx x H') := by
  refine ⟨fun i m H => m = n - i ∧ i ≤ n ∧ Pv i H, ⟨n, by simp, Nat.zero_le _, h0⟩, ?_⟩
  rintro i m H ⟨rfl, hi, p⟩
  have q := hG i H hi p
  by_cases hlt : i < n
  · exact .inr ⟨w.goes i H hlt q, Pv (i + 1), fun H' p' => ⟨n - (i + 1), by omega, rfl, hlt, p'⟩, fun x H' y => hs i x H H' hlt p (w.yields i H x H' hlt q y)⟩
  · have e : i = n := by omega
    subst e
    exact .inl ⟨w.stops H q, hd H p⟩
end
theorem g_ref {X : Cx} {x : Str} {a : Addr} {pos : Pos} (hm : X.mg x = some (.ref a)) (hg : Gl X x := by rfl) (hd : (x == ("__debug__" : Str)) = false := by decide) : PE X (.Name x pos) (tC (.ref a)) := pe_glob hg hm rfl hd
end Pk
namespace Pk
open PySem PySem.Spec PyProof.Rows L2
section
variable {X : Cx} {K : PySem.W.Frag}
theorem un65 {k : Nat} {A : Around} (r : Room k A) : A.units + 65 < cLine := by have := r.un; omega
theorem op_notInD (hu : X.A.units + 65 < cLine) (hK : X.K = K := by rfl) : OpR X (compareOp .NotIn) (rNotInD K) := hK ▸ L2.op_notInD hu
theorem op_inD (hu : X.A.units + 65 < cLine) (hK : X.K = K := by rfl) : OpR X (compareOp .In) (rInD K) := hK ▸ L2.op_inD hu
end
end Pk

namespace Pk
open PySem PySem.Spec PyProof.Rows L2
section
variable {X : Cx} {K : PySem.W.Frag}
/-- list of a list, a tuple, a text -/
def gList2 (K : PySem.W.Frag) : RC := fun vs H Q => match vs with
  | [.ref p] => ∃ ys, (SqL K H p ys ∨ SqT K H p ys) ∧ ∀ l, H l = none → Q (.ref l) (upd H l (.lst ys))
  | [.str x] => (tl x).length ≤ 1000 ∧ ∀ l, H l = none → Q (.ref l) (upd H l (.lst (sgs x)))
  | _ => False
theorem vals_of_get : ∀ {xs : List V} {us : List Value}, xs.length = us.length → (∀ (j : Nat) (x : V) (u : Value), xs[j]? = some x → us[j]? = some u → RelV x u) → Vals xs us
  | [], [], _, _ => .nil
  | [], _ :: _, h, _ => by simp at h
  | _ :: _, [], h, _ => by simp at h
  | x :: xs, u :: us, h, hr => .cons (hr 0 x u rfl rfl) (vals_of_get (by simpa using h) fun j y v h1 h2 => hr (j + 1) y v h1 h2)
theorem cr_list2G0 (hc : X.calm = true) : CallR X (.type "list") (gList2 X.K) := by
  intro pins s σ H xs us Q I r h
  unfold gList2 at h
  split at h
  · exact cr_listG0 pins s σ H _ us Q I r h
  · rename_i x
    obtain ⟨u, rfl, tk, rfl⟩ := vals1 r
    obtain ⟨hl, q⟩ := h
    have hsz : x.cps.size = (tl x).length := by simp
    refine call_list_str (I.ok.hd hc) x tk (hn := by rw [hsz]; exact Nat.le_of_lt (small1000 hl)) fun h' tk' acc' c' hk hS' hacc => ?_
    have hn : H s.heap.objs.size = none := I.hok.fresh (Nat.le_refl _)
    have hv : Vals (sgs x) acc'.toList := vals_of_get (by unfold sgs; rw [List.length_map, ← hsz]; have := hacc.1; simp [this]) fun j y v h1 h2 => by
      obtain ⟨c, w', hx, rfl⟩ := hacc.2 j v (by simpa using h2)
      have hx' : (tl x)[j]? = some c := by simpa using hx
      unfold sgs at h1
      rw [List.getElem?_map, hx'] at h1
      cases h1
      exact ⟨w', rfl⟩
    have hlen : (sgs x).length ≤ sizeLine := by unfold sgs; rw [List.length_map]; exact Nat.le_of_lt (small1000 hl)
    exact ⟨.ref s.heap.objs.size, upd H s.heap.objs.size (.lst (sgs x)), I.laid (o := .lst (sgs x)) (t' := tk') hk (Nat.le_refl _) ⟨hlen, acc'.toList, c', hv, by rw [Array.toArray_toList]; exact hS'⟩, rfl, q _ hn⟩
  · exact h.elim
theorem cr_listG2 (hc : X.calm = true) (hK : X.K = K := by rfl) : CallR X (.type "list") (gList2 K) := hK ▸ cr_list2G0 hc
end
end Pk

namespace Pk
open PySem PySem.Spec PyProof.Rows L2
/-! ### the least text of a list -/
theorem cmp_strs {prog : Program} {w : World} {A : Around} {P : Nat → Value → Prop} (val : Nat → Str) (hval : ∀ i v, P i v → ∃ t, v = .str (val i) t) :
    CmpOf prog w A .Lt P (fun i j => decide ((val i).cps.toList < (val j).cps.toList)) := fun i j vi vj s Q E hi hj h => by
  obtain ⟨t, rfl⟩ := hval i vi hi
  obtain ⟨u, rfl⟩ := hval j vj hj
  exact PyProof.Rows.lt_str h
theorem ltl_trans {a b c : List Nat} (h : a < b) (h2 : b < c) : a < c := List.lt_trans h h2
theorem ltl_irr (a : List Nat) : ¬ a < a := List.lt_irrefl a
theorem best_strs (val : Nat → List Nat) : ∀ k, argBest (fun i j => decide (val i < val j)) k ≤ k ∧ ∀ j, j ≤ k → ¬ val j < val (argBest (fun i j => decide (val i < val j)) k)
  | 0 => ⟨Nat.le_refl _, fun j hj => by
      have : j = 0 := by omega
      subst this
      exact ltl_irr _⟩
  | k + 1 => by
    obtain ⟨h1, h2⟩ := best_strs val k
    show (if decide (val (k + 1) < val (argBest (fun i j => decide (val i < val j)) k)) then k + 1 else argBest (fun i j => decide (val i < val j)) k) ≤ k + 1 ∧ ∀ j, j ≤ k + 1 → ¬ val j < val (if decide (val (k + 1) < val (argBest (fun i j => decide (val i < val j)) k)) then k + 1 else argBest (fun i j => decide (val i < val j)) k)
    by_cases h : val (k + 1) < val (argBest (fun i j => decide (val i < val j)) k)
    · rw [decide_eq_true h]
      refine ⟨Nat.le_refl _, fun j hj hlt => ?_⟩
      rcases Nat.lt_or_ge j (k + 1) with hj2 | hj2
      · exact h2 j (by omega) (ltl_trans hlt h)
      · have : j = k + 1 := by omega
        subst this
        exact ltl_irr _ hlt
    · rw [decide_eq_false h]
      refine ⟨Nat.le_succ_of_le h1, fun j hj => ?_⟩
      rcases Nat.lt_or_ge j (k + 1) with hj2 | hj2
      · exact h2 j (by omega)
      · have : j = k + 1 := by omega
        subst this
        exact h
theorem vals_txt : ∀ {ts : List (List Nat)} {us : List Value}, Vals (ts.map fun l => V.str (S l)) us → ∀ {i : Nat} {v : Value}, us[i]? = some v → ∃ l t, ts[i]? = some l ∧ v = .str (S l) t
  | [], us, h, i, v, hv => by cases h; simp at hv
  | l :: ts, us, h, i, v, hv => by
    cases h with
    | cons r1 r2 =>
      cases i with
      | zero =>
        obtain ⟨t, rfl⟩ := r1
        cases hv
        exact ⟨l, t, rfl, rfl⟩
      | succ i => exact vals_txt r2 hv
section
variable {X : Cx} {K : PySem.W.Frag}
def gMin (K : PySem.W.Frag) : RC := fun vs H Q => match vs with
  | [.ref p] => (∃ ns : List Int, SqL K H p (ns.map V.int) ∧ 0 < ns.length ∧ ∀ m ∈ ns, (∀ y ∈ ns, m ≤ y) → Q (.int m) H) ∨
      (∃ ts : List (List Nat), SqL K H p (ts.map fun l => V.str (S l)) ∧ 0 < ts.length ∧ ∀ m ∈ ts, (∀ y ∈ ts, ¬ y < m) → Q (.str (S m)) H)
  | [.int i, .int j] => Q (.int (if j < i then j else i)) H
  | _ => False
theorem cr_minG0 (hc : X.calm = true) : CallR X (.builtin "min") (gMin X.K) := by
  intro pins s σ H xs us Q I r h
  unfold gMin at h
  split at h
  · rename_i p
    rcases h with ⟨ns, h1, h2, h3⟩ | ⟨ts, h1, h2, h3⟩
    · exact cr_min hc pins s σ H _ us Q I r ⟨_, ns, rfl, h1, h2, h3⟩
    · obtain ⟨its, rv, hl, _⟩ := I.list h1
      rw [Vals.ref1 r]
      have hlen : its.length = ts.length := by have := rv.length; rw [List.length_map] at this; exact this.symm
      have hval : ∀ (i : Nat) (v : Value), its.toArray[i]? = some v → ∃ t, v = .str (S (ts.getD i [])) t := fun i v hv => by
        obtain ⟨l, t, e1, e2⟩ := vals_txt rv (i := i) (v := v) (by simpa using hv)
        exact ⟨t, by rw [e2, List.getD_eq_getElem?_getD, e1]; rfl⟩
      have hlt : ∀ a, s.heap.IsList a its.toArray → a < s.heap.objs.size := fun a ha => by
        obtain ⟨o, ho, _⟩ := ha
        exact Heap.lt_size ho
      have hp := hlt p hl.isList
      refine call_min_walk (wpAny_pyIter_list hl.isList ?_)
      refine ⟨_, [s.heap.objs.size, p], [s.heap.objs.size], _, _, _, _, rfl, Walks.list (A := X.A.in1) (I.ok.hd hc) _ p (Nat.ne_of_lt hp) its.toArray, ⟨⟨_, Heap.get?_push_size _ rfl, rfl, rfl⟩, hl.isList.push _⟩, ?_, by rw [List.size_toArray, hlen]; exact h2, cmp_strs (fun i => S (ts.getD i [])) hval, fun v h' tk hP hk => ?_⟩
      · intro b hb
        have e' : b = s.heap.objs.size ∨ b = p := by simpa using hb
        rw [Heap.size_push]
        rcases e' with z | z
        · rw [z]; exact Nat.lt_succ_self _
        · rw [z]; exact Nat.lt_succ_of_lt hp
      obtain ⟨t, rfl⟩ := hval _ v hP
      obtain ⟨b1, b2⟩ := best_strs (fun i => ts.getD i []) (its.toArray.size - 1)
      rw [List.size_toArray, hlen] at b1 b2
      have hbl : argBest (fun i j => decide (ts.getD i [] < ts.getD j [])) (ts.length - 1) < ts.length := by omega
      have I2 : Inv X pins σ H { s with heap := h', toks := tk } := I.kept fun b o e => hk b o (fun hm => by rw [List.mem_singleton.mp hm] at e; exact absurd (Heap.lt_size e) (Nat.lt_irrefl _)) (Heap.get?_push_of_some _ e)
      refine ⟨.str (S _), H, I2, ⟨t, rfl⟩, h3 _ ?_ fun y hy hlt => ?_⟩
      · rw [List.size_toArray, hlen]
        show ts.getD (argBest (fun i j => decide (ts.getD i [] < ts.getD j [])) (ts.length - 1)) [] ∈ ts
        rw [List.getD_eq_getElem?_getD, List.getElem?_eq_getElem hbl]
        exact List.getElem_mem _
      · obtain ⟨j, hj, rfl⟩ := List.getElem_of_mem hy
        have e : ts.getD j [] = ts[j] := by rw [List.getD_eq_getElem?_getD, List.getElem?_eq_getElem hj]; rfl
        rw [List.size_toArray, hlen] at hlt
        refine b2 j (by omega) ?_
        show ts.getD j [] < _
        rw [e]
        exact hlt
  · exact call_min2 hc pins s σ H _ us Q I r ⟨_, _, rfl, h⟩
  · exact h.elim
theorem cr_minG (hc : X.calm = true) (hK : X.K = K := by rfl) : CallR X (.builtin "min") (gMin K) := hK ▸ cr_minG0 hc
def gMax (K : PySem.W.Frag) : RC := fun vs H Q => match vs with
  | [.int i, .int j] => Q (.int (if j > i then j else i)) H
  | [.ref p] => ∃ ns : List Int, SqL K H p (ns.map V.int) ∧ 0 < ns.length ∧ ∀ m ∈ ns, (∀ y ∈ ns, y ≤ m) → Q (.int m) H
  | _ => False
theorem cr_maxG0 (hc : X.calm = true) : CallR X (.builtin "max") (gMax X.K) := by
  intro pins s σ H xs us Q I r h
  unfold gMax at h
  split at h
  · exact call_max2 hc pins s σ H _ us Q I r ⟨_, _, rfl, h⟩
  · obtain ⟨ns, h1, h2, h3⟩ := h
    exact cr_max hc pins s σ H _ us Q I r ⟨_, ns, rfl, h1, h2, h3⟩
  · exact h.elim
theorem cr_maxG (hc : X.calm = true) (hK : X.K = K := by rfl) : CallR X (.builtin "max") (gMax K) := hK ▸ cr_maxG0 hc
def gInt : RC := fun vs H Q => match vs with
  | [.int i] => Q (.int i) H
  | [.bl k] => Q (.int (if k then 1 else 0)) H
  | _ => False
theorem cr_intG0 : CallR X (.type "int") gInt := by
  intro pins s σ H xs us Q I r h
  unfold gInt at h
  split at h
  · exact call_int1 pins s σ H _ us Q I r (.inl ⟨_, rfl, h⟩)
  · exact call_int1 pins s σ H _ us Q I r (.inr ⟨_, rfl, h⟩)
  · exact h.elim
theorem cr_intG : CallR X (.type "int") gInt := cr_intG0
end
end Pk

namespace Pk
open PySem PySem.Spec PyProof.Rows L2
/-! ### sets of numbers and texts, with their walk -/
def kOf : Value → Key
  | .int k _ => .inl k
  | .str x _ => .inr x
  | _ => .inl 0
theorem kOf_is {k : Key} {v : Value} (h : keyIs k v = true) : kOf v = k := by
  rcases keyIs_shape h with ⟨i, t, rfl, rfl⟩ | ⟨x, t, rfl, rfl⟩ <;> rfl
theorem is_kOf {k : Key} {v : Value} (h : keyIs k v = true) : keyIs (kOf v) v = true := by rw [kOf_is h]; exact h
theorem scan_is {k : Key} {v : Value} (h : keyIs k v = true) : v.scannable = true := by
  rcases keyIs_shape h with ⟨i, t, rfl, rfl⟩ | ⟨x, t, rfl, rfl⟩ <;> rfl
def GdE (w : World) (e : Int × Value) : Prop := keyIs (kOf e.2) e.2 = true ∧ e.1 = keyH w (kOf e.2)
abbrev esK (es : Array (Int × Value)) : List Key := es.toList.map fun e => kOf e.2
/-- the set at a, its members -/
def SetG (w : World) (h : Heap) (a : Addr) (ks : List Key) : Prop :=
  ∃ o es ep t, h.get? a = some o ∧ o.ExactSet ∧ o.data = .set es ep t ∧ (∀ e ∈ es.toList, GdE w e) ∧ (esK es).Perm ks ∧ ks.Nodup ∧ es.size < scanBound ∧ t.fits es.size = true ∧ Ris t.place.toList ∧
    (w.params.followText "set-order" = true ∨ t.led = true)
theorem SetG.at {w : World} {h h' : Heap} {a : Addr} {ks : List Key} (R : SetG w h a ks) (k : ∀ o, h.get? a = some o → h'.get? a = some o) : SetG w h' a ks := by
  obtain ⟨o, es, ep, t, ho, r⟩ := R
  exact ⟨o, es, ep, t, k o ho, r⟩
theorem gd_elems {P : Program} {w : World} {l : List (Int × Value)} (g : ∀ e ∈ l, GdE w e) : ElemsOf (mixKind P w) l := fun e he => ⟨⟨kOf e.2, (g e he).1, (g e he).2⟩, scan_is (g e he).1⟩
section
variable {P : Program} {w : World} {A : Around} {E : Value → Shared → Prop} {s : Shared} {a : Addr} {ks : List Key}
theorem setG_tail {g : Bool → Sem Unit} (hg : ∀ (b : Bool) (s₁ : Shared) (Q' : Unit → Shared → Prop), Q' () s₁ → wpAny (model P w) A (g b) Q' E s₁) {o : Obj} {es es1 : Array (Int × Value)} {ep : Nat} {t t2 : SetTable}
    (ho : s.heap.get? a = some o) (hex : o.ExactSet) (hd : o.data = .set es ep t) (g1 : ∀ e ∈ es1.toList, GdE w e) (p1 : (esK es1).Perm ks) (nd : ks.Nodup) (hb1 : es1.size < scanBound) (hf2 : t2.fits es1.size = true) (hr : Ris t2.place.toList)
    (hl : w.params.followText "set-order" = true ∨ t2.led = true) {wasDummy : Bool} {R : Option Bool → Shared → Prop} (hR : ∀ h', Heap.SameBut a s.heap h' → SetG w h' a ks → R (some true) { s with heap := h' }) :
    wpAny (model P w) A (do
        storeSet a es1 t2
        if (!wasDummy && t2.tooFull) = true then do
            g (relayAll t2 es1 (SetTable.grown es1.size)).2.2
            storeSet a (relayAll t2 es1 (SetTable.grown es1.size)).1 (relayAll t2 es1 (SetTable.grown es1.size)).2.1
            pure (some true)
          else pure (some true)) R E s := by
  refine wpAny_bind (wpAny_storeSet_of ho hd ?_ (fits_of_scanBound hb1))
  have ho1 := store_at (es' := es1) (t' := t2) ho hd
  have sb1 := Heap.SameBut.update s.heap a (Obj.putSet es1 t2)
  split
  · have pm := relayAll_perm t2 es1 (SetTable.grown es1.size)
    have hf3 := relayAll_fits t2 es1 (SetTable.grown es1.size)
    have hr3 := relayAll_ris t2 es1 (SetTable.grown es1.size)
    have hl3 := relayAll_led t2 es1 (SetTable.grown es1.size)
    generalize relayAll t2 es1 (SetTable.grown es1.size) = Z at pm hf3 hr3 hl3 ⊢
    obtain ⟨es2, t3, gave⟩ := Z
    dsimp only at pm hf3 hr3 hl3 ⊢
    have hb2 : es2.size < scanBound := by rw [← Array.length_toList, pm.length_eq, Array.length_toList]; exact hb1
    refine wpAny_bind (hg _ _ _ (wpAny_bind (wpAny_storeSet_of ho1 rfl ?_ (fits_of_scanBound hb2))))
    have ho2 := store_at (es' := es2) (t' := t3) ho1 rfl
    exact wpAny_pure (hR _ (sb1.trans (Heap.SameBut.update _ a _)) ⟨_, es2, _, t3, ho2, hex, rfl, fun e he => g1 e (pm.mem_iff.mp he), (pm.map _).trans p1, nd, hb2, hf3, hr3, hl.imp id fun z => by rw [hl3]; exact z⟩)
  · exact wpAny_pure (hR _ sb1 ⟨_, es1, _, t2, ho1, hex, rfl, g1, p1, nd, hb1, hf2, hr, hl⟩)
/-- one more member -/
noncomputable def addK (ks : List Key) (k : Key) : List Key := @ite _ (k ∈ ks) (Classical.propDecidable _) ks (k :: ks)
theorem addK_mem {ks : List Key} {k j : Key} : j ∈ addK ks k ↔ j ∈ ks ∨ j = k := by
  unfold addK
  split
  · rename_i h
    exact ⟨.inl, fun z => z.elim id fun e => e ▸ h⟩
  · rw [List.mem_cons]
    exact Or.comm
theorem setG_add {k : Key} {u : Value} {Q : Bool → Shared → Prop} (hk : keyIs k u = true) (R : SetG w s.heap a ks) (room : ks.length + 1 < scanBound)
    (hQ : ∀ (b : Bool) (h' : Heap), Heap.SameBut a s.heap h' → SetG w h' a (addK ks k) → Q b { s with heap := h' }) : wpAny (model P w) A (setAddHashed a u ((mixKind P w).hash k)) Q E s := by
  obtain ⟨o, es, ep, t, ho, hex, hd, g, pk, nd, hb, hf, hr, hl⟩ := R
  have hkey : (mixKind P w).is k u = true := hk
  have hsc := scan_is hk
  have hel : ElemsOf (mixKind P w) es.toList := gd_elems g
  have isk : ∀ e ∈ es.toList, (mixKind P w).is k e.2 = true ↔ kOf e.2 = k := fun e he => ⟨fun z => kOf_is z, fun z => by rw [← z]; exact (g e he).1⟩
  unfold setAddHashed setAddHashedIn
  refine wpAny_holding (wpAny_bind (wpAny_setState_of ho hd hf ?_))
  dsimp only
  rw [byScan_of hsc hb hel]
  simp only [↓reduceIte]
  unfold setAddByScan
  refine wpAny_bind (wpAny_bind (wpAny_rule (wpAny_bind (wpAny_setScan_of hkey ho hd hf hel ?_))))
  cases hfi : List.findIdx? (fun e => (mixKind P w).is k e.2) es.toList with
  | some j =>
    dsimp only
    obtain ⟨hj, pj, _⟩ := List.findIdx?_eq_some_iff_getElem.mp hfi
    have hin : k ∈ ks := pk.mem_iff.mp (List.mem_map.mpr ⟨_, List.getElem_mem hj, (isk _ (List.getElem_mem hj)).mp pj⟩)
    have ea : addK ks k = ks := if_pos hin
    rw [ea] at hQ
    exact wpAny_pure (wpAny_pure (hQ _ _ (Heap.SameBut.refl a s.heap) ⟨o, es, ep, t, ho, hex, hd, g, pk, nd, hb, hf, hr, hl⟩))
  | none =>
    dsimp only
    have hnk : k ∉ ks := fun z => by
      obtain ⟨e, he, q⟩ := List.mem_map.mp (pk.mem_iff.mpr z)
      have c := List.findIdx?_eq_none_iff.mp hfi e he
      rw [(isk e he).mpr q] at c
      cases c
    have ea : addK ks k = k :: ks := if_neg hnk
    rw [ea] at hQ
    have hgw : ∀ (b : Bool) {s₁ : Shared} {Q' : Unit → Shared → Prop}, Q' () s₁ → wpAny (model P w) A (match b with | true => rule "set.scan.the-table-gave-way" | false => pure ()) Q' E s₁ := fun b s₁ Q' q => by
      cases b <;> first | exact wpAny_pure q | exact wpAny_rule q
    have pm := layNew_perm t es ((mixKind P w).hash k) u
    have hf1 := layNew_fits t es ((mixKind P w).hash k) u
    have hr1 := layNew_ris t es ((mixKind P w).hash k) u hr
    have hl1 := layNew_led t es ((mixKind P w).hash k) u
    generalize layNew t es ((mixKind P w).hash k) u = Z at pm hf1 hr1 hl1 ⊢
    obtain ⟨es1, t1, wasDummy, gave⟩ := Z
    dsimp only at pm hf1 hr1 hl1 ⊢
    rw [Array.toList_push] at pm
    have pc : es1.toList.Perm (((mixKind P w).hash k, u) :: es.toList) := pm.trans (List.perm_append_singleton _ _)
    have pk1 : (esK es1).Perm (k :: ks) := (pc.map _).trans (by rw [List.map_cons, kOf_is hk]; exact pk.cons k)
    have g1 : ∀ e ∈ es1.toList, GdE w e := fun e he => by
      rcases List.mem_cons.mp (pc.mem_iff.mp he) with z | z
      · rw [z]; exact ⟨is_kOf hk, by rw [kOf_is hk]; rfl⟩
      · exact g e z
    have hks : ks.length = es.size := by rw [← pk.length_eq, List.length_map, Array.length_toList]
    have hb1 : es1.size < scanBound := by rw [← Array.length_toList, pc.length_eq, List.length_cons, Array.length_toList, ← hks]; exact room
    have nd1 : (k :: ks).Nodup := List.nodup_cons.mpr ⟨hnk, nd⟩
    have hled : w.params.followText "set-order" = true ∨ t1.led = true := hl.imp id fun z => by rw [hl1]; exact z
    refine wpAny_bind (hgw _ ?_)
    split
    · refine wpAny_bind ?_
      rw [hashByValue_scannable 8 hsc]
      refine wpAny_pure (setG_tail ?_ ho hex hd g1 pk1 nd1 hb1 ?_ ?_ ?_ ?_)
      · intro b s₁ Q' q; cases b <;> first | exact wpAny_pure q | exact wpAny_rule q
      · first | (split <;> first | exact hf1 | exact SetTable.fits_plain_off hf1) | exact hf1
      · first | (split <;> exact hr1) | exact hr1
      · first | (split <;> exact hled) | exact hled
      · intro h' sb r; dsimp only; exact wpAny_pure (hQ _ h' sb r)
    · refine wpAny_bind (wpAny_pure ?_)
      simp only [↓reduceIte]
      refine setG_tail ?_ ho hex hd g1 pk1 nd1 hb1 hf1 hr1 hled ?_
      · intro b s₁ Q' q; cases b <;> first | exact wpAny_pure q | exact wpAny_rule q
      · intro h' sb r; dsimp only; exact wpAny_pure (hQ _ h' sb r)
theorem setG_new {w : World} {h : Heap} {a : Addr} (ho : h.get? a = some { cls := .type "set", dict := none, data := .set #[] 0 (.fresh 0 0 (!w.params.followText "set-order")) }) : SetG w h a [] :=
  ⟨_, #[], 0, _, ho, ⟨rfl, rfl, rfl⟩, rfl, (fun e he => by simp at he), .refl _, List.nodup_nil, (by decide), (by rfl), List.Pairwise.nil, by
    show _ ∨ (!w.params.followText "set-order") = true
    cases w.params.followText "set-order"
    · exact .inr rfl
    · exact .inl rfl⟩
/-- all that is drawn goes into the set -/
theorem setG_loop {I : Addr} {fp wr : List Addr} {G : Array GenState → Array GenState → Prop} {n : Nat} {Pv : Nat → Value → Prop} {St : Nat → Shared → Prop} {R : Result → Shared → Prop} (W : WalksS P w A.in1 I fp wr G n Pv St) (T : Addr) (hTf : T ∉ fp) (xs : List Key)
    (hn : n = xs.length) (hb : xs.length + 1 < scanBound) (hval : ∀ i v, Pv i v → ∃ k, xs[i]? = some k ∧ keyIs k v = true) : ∀ (m i : Nat) (s : Shared), n - i = m → i ≤ n → St i s → (∃ ds, SetG w s.heap T ds ∧ ds.length ≤ i ∧ ∀ k, k ∈ ds ↔ k ∈ xs.take i) →
      (∀ s' ds, Moved (T :: wr) G s s' → SetG w s'.heap T ds → (∀ k, k ∈ ds ↔ k ∈ xs) → R (.ok (.ret .none)) s') → codeAny (model P w) A (.builtin "set.update.loop" ⟨[.ref T, .ref I], []⟩) R s := by
  have hTw : T ∉ wr := fun h => hTf (W.sub _ h)
  have hsub : ∀ b ∈ wr, b ∈ T :: wr := fun b hb => List.mem_cons_of_mem _ hb
  intro m
  induction m with
  | zero =>
    intro i s hm hi hst ⟨ds, hS, hl, hd⟩ hR
    have hin : i = n := by omega
    subst hin
    refine codeAny_builtin F.entry_set_update_loop ?_
    rw [Around.under_plainId F.plain_set_update_loop _]
    show wpAny _ A.in1 (pyNext (.ref I) >>= _) _ _ s
    refine wpAny_bind (W.done s _ _ hst fun s' hmv => ?_)
    rw [List.take_of_length_le (by omega)] at hd
    exact wpAny_pure (hR s' ds (hmv.mono hsub) (hS.at fun o e => hmv.heap T o hTw e) hd)
  | succ m ih =>
    intro i s hm hi hst ⟨ds, hS, hl, hd⟩ hR
    have hlt : i < n := by omega
    refine codeAny_builtin F.entry_set_update_loop ?_
    rw [Around.under_plainId F.plain_set_update_loop _]
    show wpAny _ A.in1 (pyNext (.ref I) >>= _) _ _ s
    refine wpAny_bind (W.item i s _ _ hlt hst fun v s' hP hst' hmv => ?_)
    obtain ⟨k, hk, hkv⟩ := hval i v hP
    have hS' : SetG w s'.heap T ds := hS.at fun o e => hmv.heap T o hTw e
    show wpAny _ A.in1 (holding [v] (setAdd T v) >>= _) _ _ s'
    refine wpAny_bind (wpAny_holding ?_)
    unfold setAdd
    refine wpAny_holding (wpAny_bind ((mixKind P w).pyHash (k := k) hkv ?_))
    refine setG_add (s := { s' with toks := s'.toks + 1 }) hkv hS' (by omega) fun b h' hsb hS2 => ?_
    have hl3 : (addK ds k).length ≤ i + 1 := by
      unfold addK
      split
      · omega
      · rw [List.length_cons]; omega
    refine wpAny_pure ⟨plainId_quiet F.plain_set_update_loop _, ih (i + 1) _ (by omega) hlt (W.frame _ s' _ _ hst' (Nat.le_succ _) fun b hb o e => ?_) ⟨_, hS2, hl3, fun j => ?_⟩ fun s'' d2 hm'' hS'' hd2 => ?_⟩
    · rw [hsb.2 b (fun h : b = T => hTf (by rw [← h]; exact hb))]; exact e
    · rw [addK_mem, hd j, List.take_add_one, hk, List.mem_append]
      simp
    · refine hR s'' d2 (Moved.trans W.gtrans ((hmv.mono hsub).then_heap (Nat.le_succ _) fun b o hb e => ?_) hm'') hS'' hd2
      rw [hsb.2 b (fun h : b = T => hb (by rw [h]; exact List.mem_cons_self))]; exact e
end
end Pk

namespace Pk
open PySem PySem.Spec PyProof.Rows L2
section
variable {P : Program} {w : World} {A : Around} {E : Value → Shared → Prop} {s : Shared}
abbrev set0 (w : World) : Obj := { cls := .type "set", dict := none, data := .set #[] 0 (.fresh 0 0 (!w.params.followText "set-order")) }
/-- set(v), where v is neither a set nor a dict -/
theorem call_setG (v : Value) {Q : Value → Shared → Prop}
    (hup : ∀ (A' : Around) (E' : Value → Shared → Prop) (R : Unit → Shared → Prop), A'.handled = A.handled → (∀ h' tk, (∃ ds, SetG w h' s.heap.objs.size ds) → Q (.ref s.heap.objs.size) { s with heap := h', toks := tk } → R () { s with heap := h', toks := tk }) →
      wpAny (model P w) A' (Builtin.Frozenset.updateFrom "set.__init__" s.heap.objs.size v) R E' { s with heap := s.heap.push (set0 w) }) :
    wpAny (model P w) A (call (.type "set") [v]) Q E s := by
  obtain ⟨c, tl, hmro⟩ := F.called_set.mro
  have hmade := F.called_set.made
  have hsub := F.called_set.sub
  refine wpAny_call (codeAny_of_tree ?_)
  show wpAny _ _ (callAny (.type "set") _) _ _ _
  refine wpAny_pure ⟨Code.quiet_builtin _ (by decide +kernel), codeAny_builtin F.entry_type_call ?_⟩
  rw [Around.under_plain (weight_type_call_type "set" [v] []) rfl]
  have h1 := F.called_set.notType
  have h2 := F.called_set.canCreate
  have hct := F.typeCall_set_1 v
  repeat (any_goals (first | assumption | wp_step))
  refine codeAny_mono (code_set_led1 v (E := E) (Q₁ := fun obj s₁ => obj = .ref s.heap.objs.size ∧ s₁ = { s with heap := s.heap.push (set0 w) }) ⟨rfl, rfl⟩) fun r s₁ hr => ?_
  cases r with
  | error e => exact hr
  | ok fl =>
    cases fl with
    | ret obj =>
      obtain ⟨rfl, rfl⟩ := hr
      have hS : (s.heap.push (set0 w)).get? s.heap.objs.size = some (set0 w) := Heap.get?_push_size _ rfl
      have hT : Shared.TypeIs { s with heap := s.heap.push (set0 w) } (.ref s.heap.objs.size) "set" := ⟨_, hS, rfl⟩
      have hli := F.called_set.init.lookup
      have hbi := F.called_set.init.bind (.ref s.heap.objs.size)
      repeat (any_goals (first | assumption | wp_step))
      refine codeAny_mono (codeAny_call_builtin (R := wants (fun r s₂ => r = .none ∧ ∃ h' tk, s₂ = { s with heap := h', toks := tk } ∧ (∃ o, h'.get? s.heap.objs.size = some o ∧ o.cls = .type "set") ∧ Q (.ref s.heap.objs.size) s₂) E) F.called_set.init.plain F.entry_set_init (check_set_init_1 hT ?_)) fun r₂ s₂ hr₂ => ?_
      · unfold Builtin.«set.__init__» noKeywords
        generalize hUU : Builtin.Frozenset.updateFrom = UU
        wp_walk
        subst hUU
        refine hup _ _ _ (by simp) fun h' tk ⟨ds, o, es, ep, t, ho, hex, _⟩ hq => ?_
        exact wpAny_pure ⟨rfl, h', tk, rfl, ⟨o, ho, hex.1⟩, hq⟩
      · cases r₂ with
        | error e => exact hr₂
        | ok fl₂ =>
          cases fl₂ with
          | ret r =>
            obtain ⟨rfl, h', tk, rfl, ⟨o, ho, hc⟩, hq⟩ := hr₂
            repeat (any_goals (first | assumption | wp_step))
          | _ => exact hr₂.elim
    | _ => exact hr.elim
end
end Pk

namespace Pk
open PySem PySem.Spec PyProof.Rows L2
section
variable {P : Program} {w : World} {A : Around} {E : Value → Shared → Prop} {s : Shared}
/-- what is put into a new set, from a list or a text -/
theorem set_fromL {l : Addr} {items : Array Value} (xs : List Key) {R : Unit → Shared → Prop} (hh : A.handled = none) (hl : s.heap.IsList l items) (hn : items.size = xs.length) (hit : ∀ (i : Nat) (v : Value), items[i]? = some v → ∃ k, xs[i]? = some k ∧ keyIs k v = true) (hb : xs.length + 1 < scanBound)
    (h : ∀ h' tk ds, SetG w h' s.heap.objs.size ds → (∀ k, k ∈ ds ↔ k ∈ xs) → (∀ b o, s.heap.get? b = some o → h'.get? b = some o) → R () { s with heap := h', toks := tk }) :
    wpAny (model P w) A (Builtin.Frozenset.updateFrom "set.__init__" s.heap.objs.size (.ref l)) R E { s with heap := s.heap.push (set0 w) } := by
  obtain ⟨ol, hol, hcl, nl, hdl⟩ := hl
  obtain ⟨ocls, odict, odata, oslots⟩ := ol
  simp only at hcl hdl
  subst hcl; subst hdl
  have hol' : (s.heap.push (set0 w)).get? l = some { cls := .type "list", dict := odict, data := .seq items nl, slots := oslots } := Heap.get?_push_of_some _ hol
  have f1 := F.sub_list_set
  have f2 := F.sub_list_frozenset
  have f3 : (Value.type "list" == Value.type "dict") = false := by decide
  have hl1 : (s.heap.push (set0 w)).IsList l items := ⟨_, hol', rfl, nl, rfl⟩
  unfold Builtin.Frozenset.updateFrom
  generalize hPI : pyIter = PI
  wp_walk
  subst hPI
  refine wpAny_pyIter_list hl1 (wpAny_bind (wpAny_runValue ?_))
  have hlS : l < s.heap.objs.size := Heap.lt_size hol
  have hz1 : (s.heap.push (set0 w)).objs.size = s.heap.objs.size + 1 := Heap.size_push ..
  have hneI : l ≠ (s.heap.push (set0 w)).objs.size := by rw [hz1]; exact Nat.ne_of_lt (Nat.lt_succ_of_lt hlS)
  have hTf : s.heap.objs.size ∉ [(s.heap.push (set0 w)).objs.size, l] := by
    rw [hz1]
    simp only [List.mem_cons, List.mem_singleton, List.not_mem_nil, or_false, not_or]
    exact ⟨Nat.ne_of_lt (Nat.lt_succ_self _), Nat.ne_of_gt hlS⟩
  refine setG_loop ((Walks.list (A := A.in1) (by simp [hh]) _ l hneI items).toS) s.heap.objs.size hTf xs hn hb hit (items.size - 0) 0 _ (by omega) (Nat.zero_le _) ⟨⟨_, Heap.get?_push_size _ rfl, rfl, rfl⟩, hl1.push _⟩
    ⟨[], setG_new (Heap.get?_push_of_some _ (Heap.get?_push_size _ rfl)), Nat.le_refl _, fun k => by simp⟩ fun s' ds hm hS hd => ?_
  obtain ⟨h', g2, d', tk', os'⟩ := s'
  cases (show g2 = s.gens from hm.gens)
  cases (show d' = s.drawn from hm.drawn)
  cases (show os' = s.os from hm.os)
  refine wpAny_pure (h h' tk' ds hS hd fun b o e => ?_)
  have hb0 : b < s.heap.objs.size := Heap.lt_size e
  refine hm.heap b o ?_ (Heap.get?_push_of_some _ (Heap.get?_push_of_some _ e))
  simp only [List.mem_cons, List.mem_singleton, List.not_mem_nil, or_false, not_or]
  exact ⟨Nat.ne_of_lt hb0, by rw [hz1]; exact Nat.ne_of_lt (Nat.lt_succ_of_lt hb0)⟩
theorem set_fromS {x : Str} {tk : Tok} {R : Unit → Shared → Prop} (hh : A.handled = none) (hb : (tl x).length + 1 < scanBound)
    (h : ∀ h' tk ds, SetG w h' s.heap.objs.size ds → (∀ k, k ∈ ds ↔ k ∈ (tl x).map fun c => (.inr (S [c]) : Key)) → (∀ b o, s.heap.get? b = some o → h'.get? b = some o) → R () { s with heap := h', toks := tk }) :
    wpAny (model P w) A (Builtin.Frozenset.updateFrom "set.__init__" s.heap.objs.size (.str x tk)) R E { s with heap := s.heap.push (set0 w) } := by
  have f1 := PySem.F.sub_str_set
  have f2 := PySem.F.sub_str_frozenset
  have f3 : (Value.type "str" == Value.type "dict") = false := by decide
  unfold Builtin.Frozenset.updateFrom
  generalize hPI : pyIter = PI
  wp_walk
  subst hPI
  refine wpAny_pyIter_str fun o St hW hst => wpAny_bind (wpAny_runValue ?_)
  have hz1 : (s.heap.push (set0 w)).objs.size = s.heap.objs.size + 1 := Heap.size_push ..
  have hTf : s.heap.objs.size ∉ [(s.heap.push (set0 w)).objs.size] := by
    rw [hz1]
    simp only [List.mem_singleton]
    exact Nat.ne_of_lt (Nat.lt_succ_self _)
  have hsz : x.cps.size = (tl x).length := by simp
  refine setG_loop ((hW A.in1 (by simp [hh])).toS) s.heap.objs.size hTf ((tl x).map fun c => (.inr (S [c]) : Key)) (by rw [List.length_map]; exact hsz) (by rw [List.length_map]; exact hb) ?_ (x.cps.size - 0) 0 _ (by omega) (Nat.zero_le _) hst
    ⟨[], setG_new (Heap.get?_push_of_some _ (Heap.get?_push_size _ rfl)), Nat.le_refl _, fun k => by simp⟩ fun s' ds hm hS hd => ?_
  · intro i v hv
    obtain ⟨c, u, hc, rfl⟩ := hv
    have hc' : (tl x)[i]? = some c := by simpa using hc
    exact ⟨.inr (S [c]), by rw [List.getElem?_map, hc']; rfl, mixKind_str P w (S [c]) u⟩
  obtain ⟨h', g2, d', tk', os'⟩ := s'
  cases (show g2 = s.gens from hm.gens)
  cases (show d' = s.drawn from hm.drawn)
  cases (show os' = s.os from hm.os)
  refine wpAny_pure (h h' tk' ds hS hd fun b ob e => ?_)
  have hb0 : b < s.heap.objs.size := Heap.lt_size e
  refine hm.heap b ob ?_ (Heap.get?_push_of_some _ (Heap.get?_push_of_some _ e))
  simp only [List.mem_cons, List.mem_singleton, List.not_mem_nil, or_false, not_or]
  exact ⟨Nat.ne_of_lt hb0, by rw [hz1]; exact Nat.ne_of_lt (Nat.lt_succ_of_lt hb0)⟩
end
end Pk

namespace Pk
open PySem PySem.Spec PyProof.Rows L2
abbrev txV (l : List Nat) : V := V.str (S l)
abbrev txK (l : List Nat) : Key := .inr (S l)
/-- a set, its members in some order -/
def SetX (w : World) (a : Addr) (ks : List Key) : HO := .ext fun h => SetG w h a ks
theorem ltC_iff : ∀ (a b : List Nat), ltCps a b = true ↔ a < b
  | [], [] => by simp [ltCps]
  | [], _ :: _ => by simp [ltCps]
  | _ :: _, [] => by simp [ltCps]
  | x :: a, y :: b => by
    have ih := ltC_iff a b
    simp only [ltCps, Bool.or_eq_true, Bool.and_eq_true, decide_eq_true_eq, beq_iff_eq, ih, List.cons_lt_cons_iff]
theorem rising_pw : ∀ (l : List Str) (p : Str), risingS p l = true → (∀ x ∈ l, ¬ tl x < tl p) ∧ l.Pairwise fun a b => ¬ tl b < tl a
  | [], _, _ => ⟨by simp, .nil⟩
  | x :: r, p, h => by
    simp only [risingS, Bool.and_eq_true, Bool.not_eq_true'] at h
    obtain ⟨h1, h2⟩ := h
    have h1' : ¬ tl x < tl p := fun z => by
      have := (ltC_iff (tl x) (tl p)).mpr z
      rw [this] at h1
      cases h1
    obtain ⟨h3, h4⟩ := rising_pw r x h2
    refine ⟨fun y hy => ?_, List.pairwise_cons.mpr ⟨h3, h4⟩⟩
    rcases List.mem_cons.mp hy with rfl | hy
    · exact h1'
    · exact fun z => h1' (List.lt_of_le_of_lt (List.not_lt.mp (h3 y hy)) z)
theorem sorted_pw {l : List Str} (h : sortedS l = true) : l.Pairwise fun a b => ¬ tl b < tl a := by
  cases l with
  | nil => exact .nil
  | cons x r =>
    obtain ⟨h1, h2⟩ := rising_pw r x h
    exact List.pairwise_cons.mpr ⟨h1, h2⟩
theorem map_S_tl (ys : List Str) : (ys.map tl).map S = ys := by
  rw [List.map_map]
  conv => rhs; rw [← List.map_id ys]
  exact List.map_congr_left fun y _ => S_tl y
theorem kV_vals (P : Program) (w : World) {ks : List Key} {us : List Value} (h : Vals (ks.map kV) us) {i : Nat} {v : Value} (hv : us[i]? = some v) : ∃ k, ks[i]? = some k ∧ keyIs k v = true := by
  have hlen := h.length
  rw [List.length_map] at hlen
  have hi : i < ks.length := by rw [hlen]; exact (List.getElem?_eq_some_iff.mp hv).1
  obtain ⟨u, hu, r⟩ := h.get (i := i) (x := kV ks[i]) (by rw [List.getElem?_map, List.getElem?_eq_getElem hi]; rfl)
  rw [hv] at hu
  cases hu
  refine ⟨ks[i], List.getElem?_eq_getElem hi, ?_⟩
  exact kV_is (P := P) (w := w) r
section
variable {X : Cx} {K : PySem.W.Frag} {w : World}
theorem setX_ok {P : Program} {w : World} {H : Hp} {h : Heap} {a : Addr} {ks : List Key} (R : SetG w h a ks) : ObjOk P w H h a (SetX w a ks) := by
  have ⟨o, _, _, _, ho, _⟩ := R
  exact ⟨R, ⟨o, ho⟩, fun h1 h2 p k => SetG.at p k⟩
theorem setX_get {pins : List (Addr × Obj)} {σ : L2.St} {H : Hp} {s : Shared} {a : Addr} {ks : List Key} (I : Inv X pins σ H s) (ha : H a = some (SetX w a ks)) : SetG w s.heap a ks := (I.hok a _ ha).1
/-- set(a list, a text) -/
def gSet (K : PySem.W.Frag) (w : World) : RC := fun vs H Q => match vs with
  | [.str x] => (tl x).length ≤ 4000 ∧ ∀ p ds, H p = none → ds.Nodup → (∀ k, k ∈ ds ↔ k ∈ (tl x).map fun c => txK [c]) → Q (.ref p) (upd H p (SetX w p ds))
  | [.ref l] => ∃ ks : List Key, SqL K H l (ks.map kV) ∧ ks.length ≤ 4000 ∧ ∀ p ds, H p = none → ds.Nodup → (∀ k, k ∈ ds ↔ k ∈ ks) → Q (.ref p) (upd H p (SetX w p ds))
  | _ => False
theorem cr_setG0 (hc : X.calm = true) : CallR X (.type "set") (gSet X.K X.w) := by
  intro pins s σ H xs us Q I r h
  have fin : ∀ (h' : Heap) (tk : Nat) (ds : List Key), SetG X.w h' s.heap.objs.size ds → (∀ b o, s.heap.get? b = some o → h'.get? b = some o) → (∀ p ds', H p = none → ds'.Nodup → ds' = ds → Q (.ref p) (upd H p (SetX X.w p ds'))) → EP X pins σ Q (.ref s.heap.objs.size) { s with heap := h', toks := tk } := fun h' tk ds hS hk q => by
    have nd : ds.Nodup := by obtain ⟨_, _, _, _, _, _, _, _, _, nd, _⟩ := hS; exact nd
    exact ⟨.ref _, upd H s.heap.objs.size (SetX X.w s.heap.objs.size ds), I.laid (t' := tk) hk (Nat.le_refl _) (setX_ok hS), rfl, q _ ds (I.hok.fresh (Nat.le_refl _)) nd rfl⟩
  unfold gSet at h
  split at h
  · obtain ⟨u, rfl, tk, rfl⟩ := vals1 r
    obtain ⟨hl, q⟩ := h
    refine call_setG _ fun A' E' R hA hR => set_fromS (by rw [hA]; exact I.ok.hd hc) (by unfold scanBound; omega) fun h' tk ds hS hd hk => hR h' tk ⟨ds, hS⟩ (fin h' tk ds hS hk fun p ds' hp nd e => ?_)
    subst e
    exact q p _ hp nd hd
  · obtain ⟨ks, h1, hl, q⟩ := h
    obtain ⟨its, rv, hL, _⟩ := I.list h1
    rw [Vals.ref1 r]
    have hlen := rv.length
    rw [List.length_map] at hlen
    refine call_setG _ fun A' E' R hA hR => set_fromL ks (by rw [hA]; exact I.ok.hd hc) hL.isList (by rw [List.size_toArray]; exact hlen.symm) (fun i v hv => kV_vals X.prog X.w rv (by simpa using hv)) (by unfold scanBound; omega) fun h' tk ds hS hd hk => hR h' tk ⟨ds, hS⟩ (fin h' tk ds hS hk fun p ds' hp nd e => ?_)
    subst e
    exact q p _ hp nd hd
  · exact h.elim
theorem cr_setG (hc : X.calm = true) (hK : X.K = K := by rfl) (hw : X.w = w := by rfl) : CallR X (.type "set") (gSet K w) := hK ▸ hw ▸ cr_setG0 hc
/-- len of a set -/
def gLenX (w : World) : RC := fun vs H Q => match vs with
  | [.ref p] => ∃ ks, H p = some (SetX w p ks) ∧ Q (.int (ks.length : Nat)) H
  | _ => False
theorem cr_lenX (hw : X.w = w := by rfl) : CallR X (.builtin "len") (gLenX w) := by
  subst hw
  intro pins s σ H xs us Q I r h
  unfold gLenX at h
  split at h
  · obtain ⟨ks, h1, q⟩ := h
    rw [Vals.ref1 r]
    obtain ⟨o, es, ep, t, ho, hex, hd, g, pk, nd, hb, hf, _⟩ := setX_get I h1
    have hn : es.size = ks.length := by rw [← pk.length_eq, List.length_map, Array.length_toList]
    refine call_len_set ho hex hd hf (by unfold scanBound at hb; omega) ⟨.int (ks.length : Nat), H, (I.tok _).tok _, ⟨_, by rw [hn]⟩, q⟩
  · exact h.elim
/-- sorted(a list of ints, of texts) -/
def gSorted (K : PySem.W.Frag) : RC := fun vs H Q => match vs with
  | [.ref p] => (∃ ns : List Int, SqL K H p (ns.map V.int) ∧ ∀ (ms : List Int) (q : Addr), ms.Perm ns → ms.Pairwise (· ≤ ·) → H q = none → Q (.ref q) (upd H q (.lst (ms.map V.int)))) ∨
      (∃ ts : List (List Nat), SqL K H p (ts.map txV) ∧ ∀ (us : List (List Nat)) (q : Addr), us.Perm ts → us.Pairwise (fun a b => ¬ b < a) → H q = none → Q (.ref q) (upd H q (.lst (us.map txV))))
  | _ => False
theorem cr_sortedG0 : CallR X (.builtin "sorted") (gSorted X.K) := by
  intro pins s σ H xs us Q I r h
  unfold gSorted at h
  split at h
  · rcases h with ⟨ns, h1, q⟩ | ⟨ts, h1, q⟩
    · exact cr_sortedI pins s σ H _ us Q I r ⟨_, ns, rfl, h1, q⟩
    · obtain ⟨its, rv, hl, hz⟩ := I.list h1
      rw [Vals.ref1 r]
      have e0 : ts.map txV = (ts.map S).map V.str := by rw [List.map_map]; rfl
      rw [e0] at rv hz
      have hlen0 := rv.length
      refine sorted_strsAny hl.isList rv.strs (by rw [← hlen0]; exact hz) fun out ys a1 a2 a3 => ?_
      obtain ⟨ep, he'⟩ := sortedAll_at s.heap its out
      have hlen : (ys.map V.str).length ≤ sizeLine := by rw [List.length_map, a2.length_eq, ← List.length_map (f := V.str)]; exact hz
      have eys : ys.map V.str = (ys.map tl).map txV := by
        rw [← map_S_tl ys]
        simp
      have hp : (ys.map tl).Perm ts := by
        have := a2.map tl
        rw [List.map_map] at this
        have e : ts.map (tl ∘ S) = ts := by
          conv => rhs; rw [← List.map_id ts]
          exact List.map_congr_left fun y _ => rfl
        rw [e] at this
        exact this
      refine ⟨.ref _, upd H (s.heap.objs.size + 1) (.lst (ys.map V.str)), I.laid (t' := s.toks) (fun _ _ => sortedAll_old) (Nat.le_succ _) ⟨hlen, out.toList, ep, vals_of_strs a1, he'⟩, rfl, ?_⟩
      rw [eys]
      exact q _ _ hp (List.pairwise_map.mpr (sorted_pw a3)) (I.hok.fresh (Nat.le_succ _))
  · exact h.elim
theorem cr_sortedG (hK : X.K = K := by rfl) : CallR X (.builtin "sorted") (gSorted K) := hK ▸ cr_sortedG0
end
end Pk

namespace Pk
open PySem PySem.Spec PyProof.Rows L2
section
variable {P : Program} {w : World} {A : Around} {E : Value → Shared → Prop} {s : Shared} {a : Addr} {ks : List Key}
/-- sorted(a set): what is walked is put into a list, and sorted there -/
theorem sorted_setG {Q : Value → Shared → Prop} (R : SetG w s.heap a ks) (hh : A.handled = none) (C : List Value → Prop)
    (hsort : ∀ (A' : Around) (s1 : Shared) (vs : List Value) (b : Addr) (n : Nat) (R' : Fin → Shared → Prop), (vs.map kOf).Perm ks → (∀ v ∈ vs, keyIs (kOf v) v = true) → s1.heap.get? b = some (seqObj "list" vs.toArray n) → vs.length ≤ sizeLine →
      (∀ out : Array Value, C out.toList → R' (.done (.ret .none)) { s1 with heap := sortedHeap s1.heap b vs out }) → wpAny (model P w) A' (Builtin.«list.sort» ⟨[.ref b], []⟩) R' E s1)
    (hQ : ∀ s' p (out : Array Value) (c : Nat), (∀ b o, s.heap.get? b = some o → s'.heap.get? b = some o) → s'.gens = s.gens → s'.os = s.os → s.heap.objs.size ≤ p → s'.heap.get? p = some (seqObj "list" out c) → C out.toList → Q (.ref p) s') :
    wpAny (model P w) A (call (.builtin "sorted") [.ref a]) Q E s := by
  obtain ⟨o, es, ep, t, ho, hex, hd, g, pk, nd, hb, hf, hr, hl⟩ := R
  refine Calls.call_function_entry kind_sorted plain_sorted entry_sorted (args_sorted1 _) ?_
  unfold Builtin.«sorted»
  refine wpAny_bind (m := checkCount "sorted" 1 1 _) (wpAny_pure (wpAny_bind (collect_set (A := A.in1) hh ⟨o, ho, hex.1, hd⟩ hf hb hr hl fun s1 vs k1 hz g1 o1 pm => ?_)))
  have hvl : vs.length = es.size := by rw [pm.length_eq, List.length_map, Array.length_toList]
  have hle : vs.length ≤ sizeLine := by rw [hvl]; exact fits_of_scanBound hb
  have hpk : (vs.map kOf).Perm ks := by
    have q := pm.map kOf
    rw [List.map_map] at q
    exact q.trans pk
  have hki : ∀ v ∈ vs, keyIs (kOf v) v = true := fun v hv => by
    obtain ⟨e, he, rfl⟩ := List.mem_map.mp (pm.mem_iff.mp hv)
    exact (g e he).1
  refine wpAny_bind (wpAny_newList ?_ hle)
  have hoL : (s1.heap.push (seqObj "list" vs.toArray 0)).get? s1.heap.objs.size = some (seqObj "list" vs.toArray 0) := Heap.get?_push_size _ rfl
  refine wpAny_bind (wpAny_holding (wpAny_call_entry slot_list_sort ⟨_, hoL, rfl⟩ entry_list_sort (hsort _ _ vs _ 0 _ hpk hki hoL hle fun out hC => ⟨_, rfl, ?_⟩) (args_list_sort _)))
  obtain ⟨c, hc⟩ := sortedHeap_at (vs := vs) (out := out) hoL
  refine wpAny_pure ⟨_, rfl, hQ _ s1.heap.objs.size out c (fun b u e => ?_) g1 o1 hz hc hC⟩
  have q := k1 b u e
  have hlt := Heap.lt_size q
  show (sortedHeap (s1.heap.push (seqObj "list" vs.toArray 0)) s1.heap.objs.size vs out).get? b = some u
  rw [sortedHeap_old (Nat.ne_of_lt hlt) (by rw [size_push']; exact Nat.lt_succ_of_lt hlt)]
  exact Heap.get?_push_of_some _ q
end
theorem ints_keys : ∀ {vs : List Value} {ns : List Int}, vs.map kOf = ns.map (fun n => (.inl n : Key)) → (∀ v ∈ vs, keyIs (kOf v) v = true) → IntsAre vs ns
  | [], [], _, _ => .nil
  | [], _ :: _, h, _ => by simp at h
  | _ :: _, [], h, _ => by simp at h
  | v :: vs, n :: ns, h, hk => by
    rw [List.map_cons, List.map_cons] at h
    obtain ⟨h1, h2⟩ := List.cons.inj h
    have hv := hk v (by simp)
    rw [h1] at hv
    rcases keyIs_shape hv with ⟨i, t, e, rfl⟩ | ⟨x, t, e, _⟩
    · cases e
      exact .cons n t (ints_keys h2 fun u hu => hk u (by simp [hu]))
    · cases e
theorem strs_keys : ∀ {vs : List Value} {ns : List Str}, vs.map kOf = ns.map (fun n => (.inr n : Key)) → (∀ v ∈ vs, keyIs (kOf v) v = true) → StrsAre vs ns
  | [], [], _, _ => .nil
  | [], _ :: _, h, _ => by simp at h
  | _ :: _, [], h, _ => by simp at h
  | v :: vs, n :: ns, h, hk => by
    rw [List.map_cons, List.map_cons] at h
    obtain ⟨h1, h2⟩ := List.cons.inj h
    have hv := hk v (by simp)
    rw [h1] at hv
    rcases keyIs_shape hv with ⟨i, t, e, _⟩ | ⟨x, t, e, rfl⟩
    · cases e
    · cases e
      exact .cons n t (strs_keys h2 fun u hu => hk u (by simp [hu]))
theorem perm_inl : ∀ {l : List Key} {ns : List Int}, l.Perm (ns.map fun n => (.inl n : Key)) → ∃ ms : List Int, l = ms.map (fun n => (.inl n : Key)) ∧ ms.Perm ns := fun {l ns} h => by
  have hm : ∀ k ∈ l, ∃ n, k = (.inl n : Key) := fun k hk => by
    obtain ⟨n, _, rfl⟩ := List.mem_map.mp (h.mem_iff.mp hk)
    exact ⟨n, rfl⟩
  have e : l = (l.map fun k => match k with | .inl n => n | .inr _ => (0 : Int)).map fun n => (.inl n : Key) := by
    rw [List.map_map]
    conv => lhs; rw [← List.map_id l]
    refine List.map_congr_left fun k hk => ?_
    obtain ⟨n, rfl⟩ := hm k hk
    rfl
  refine ⟨_, e, ?_⟩
  have := h.map fun k => match k with | .inl n => n | .inr _ => (0 : Int)
  rw [List.map_map] at this
  have e2 : ns.map ((fun k : Key => match k with | .inl n => n | .inr _ => (0 : Int)) ∘ fun n => (.inl n : Key)) = ns := by
    conv => rhs; rw [← List.map_id ns]
    exact List.map_congr_left fun y _ => rfl
  rw [e2] at this
  exact this
theorem perm_inr : ∀ {l : List Key} {ns : List Str}, l.Perm (ns.map fun n => (.inr n : Key)) → ∃ ms : List Str, l = ms.map (fun n => (.inr n : Key)) ∧ ms.Perm ns := fun {l ns} h => by
  have hm : ∀ k ∈ l, ∃ n, k = (.inr n : Key) := fun k hk => by
    obtain ⟨n, _, rfl⟩ := List.mem_map.mp (h.mem_iff.mp hk)
    exact ⟨n, rfl⟩
  have e : l = (l.map fun k => match k with | .inr n => n | .inl _ => S []).map fun n => (.inr n : Key) := by
    rw [List.map_map]
    conv => lhs; rw [← List.map_id l]
    refine List.map_congr_left fun k hk => ?_
    obtain ⟨n, rfl⟩ := hm k hk
    rfl
  refine ⟨_, e, ?_⟩
  have := h.map fun k => match k with | .inr n => n | .inl _ => S []
  rw [List.map_map] at this
  have e2 : ns.map ((fun k : Key => match k with | .inr n => n | .inl _ => S []) ∘ fun n => (.inr n : Key)) = ns := by
    conv => rhs; rw [← List.map_id ns]
    exact List.map_congr_left fun y _ => rfl
  rw [e2] at this
  exact this
section
variable {X : Cx} {K : PySem.W.Frag} {w : World}
/-- sorted of a set of ints, of texts -/
def gSortedX (w : World) : RC := fun vs H Q => match vs with
  | [.ref p] => (∃ ns : List Int, H p = some (SetX w p (ns.map fun n => (.inl n : Key))) ∧ ns.length ≤ 4000 ∧ ∀ (ms : List Int) (q : Addr), ms.Perm ns → ms.Pairwise (· ≤ ·) → H q = none → Q (.ref q) (upd H q (.lst (ms.map V.int)))) ∨
      (∃ ts : List (List Nat), H p = some (SetX w p (ts.map txK)) ∧ ts.length ≤ 4000 ∧ ∀ (us : List (List Nat)) (q : Addr), us.Perm ts → us.Pairwise (fun a b => ¬ b < a) → H q = none → Q (.ref q) (upd H q (.lst (us.map txV))))
  | _ => False
theorem cr_sortedX (hc : X.calm = true) (hw : X.w = w := by rfl) : CallR X (.builtin "sorted") (gSortedX w) := by
  subst hw
  intro pins s σ H xs us Q I r h
  unfold gSortedX at h
  have four : (4000 : Nat) ≤ sizeLine := by rw [sizeLine_eq]; decide
  split at h
  · rw [Vals.ref1 r]
    have lay : ∀ (s' : Shared) (p : Addr) (out : Array Value) (c : Nat) (vs : List V), (∀ b o, s.heap.get? b = some o → s'.heap.get? b = some o) → s'.gens = s.gens → s'.os = s.os → s.heap.objs.size ≤ p → s'.heap.get? p = some (seqObj "list" out c) → Vals vs out.toList → vs.length ≤ sizeLine →
        (H p = none → Q (.ref p) (upd H p (.lst vs))) → EP X pins σ Q (.ref p) s' := fun s' p out c vs k g o hp hg hv hlen q => by
      have hn : H p = none := I.hok.fresh hp
      have J : Inv X pins σ (upd H p (.lst vs)) { s with heap := s'.heap, gens := s'.gens, drawn := s'.drawn, toks := s'.toks } :=
        I.call (ch := []) (Un.laid k hp hn) (I.hok.laid k hp ⟨hlen, out.toList, c, hv, hg⟩) (by rw [g]; exact I.bare) (fun _ z => nomatch z)
      have e : s' = { s with heap := s'.heap, gens := s'.gens, drawn := s'.drawn, toks := s'.toks } := by
        cases s'
        cases s
        cases o
        rfl
      rw [e]
      exact ⟨.ref p, _, J, rfl, q hn⟩
    rcases h with ⟨ns, h1, hz, q⟩ | ⟨ts, h1, hz, q⟩
    · refine sorted_setG (setX_get I h1) (I.ok.hd hc) (fun vs => ∃ ms : List Int, IntsAre vs ms ∧ ms.Perm ns ∧ ms.Pairwise (· ≤ ·)) (fun A' s1 vs b n R' hp hk hob hle hR => ?_) fun s' p out c k g o hp hg ⟨ms, a1, a2, a3⟩ => ?_
      · obtain ⟨ms, e1, e2⟩ := perm_inl hp
        exact list_sort_treeAny hob (ints_keys e1 hk) hle fun out ns' a1 a2 a3 => hR out ⟨ns', a1, a2.trans e2, a3⟩
      · exact lay s' p out c _ k g o hp hg (vals_of_ints a1) (by rw [List.length_map, a2.length_eq]; omega) (q ms p a2 a3)
    · have e0 : ts.map txK = (ts.map S).map fun n => (.inr n : Key) := by rw [List.map_map]; rfl
      rw [e0] at h1
      refine sorted_setG (setX_get I h1) (I.ok.hd hc) (fun vs => ∃ ms : List Str, StrsAre vs ms ∧ ms.Perm (ts.map S) ∧ sortedS ms = true) (fun A' s1 vs b n R' hp hk hob hle hR => ?_) fun s' p out c k g o hp hg ⟨ms, a1, a2, a3⟩ => ?_
      · obtain ⟨ms, e1, e2⟩ := perm_inr hp
        have hS := strs_keys e1 hk
        refine list_sort_treeKAny strKind_oneLt hob hS.keysOf (fun v₁ v₂ rest e => keyKind_strs (by rw [← e]; exact hS)) hle fun st' hp' hs => ?_
        obtain ⟨ss', b1, b2, b3⟩ := sorted_out_str hS hp' hs
        exact hR _ ⟨ss', b1, b2.trans e2, b3⟩
      · have eys : ms.map V.str = (ms.map tl).map txV := by
          rw [← map_S_tl ms]
          simp
        have hpp : (ms.map tl).Perm ts := by
          have := a2.map tl
          rw [List.map_map] at this
          have e : ts.map (tl ∘ S) = ts := by
            conv => rhs; rw [← List.map_id ts]
            exact List.map_congr_left fun y _ => rfl
          rw [e] at this
          exact this
        refine lay s' p out c _ k g o hp hg (vals_of_strs a1) (by rw [List.length_map, a2.length_eq, List.length_map]; omega) fun hn => ?_
        rw [eys]
        exact q _ p hpp (List.pairwise_map.mpr (sorted_pw a3)) hn
  · exact h.elim
end
end Pk

namespace Pk
open PySem PySem.Spec PyProof.Rows L2
theorem tuple_mul1 (l : Addr) (items : Array Value) (n : Nat) (sl : Array (Option Value)) (u : Tok) (dd : Option Addr) :
    Meets (Builtin.«tuple.__mul__» ⟨[.ref l, .int 1 u], []⟩) (fun _ R s => s.heap.get? l = some { cls := .type "tuple", dict := dd, data := .seq items n, slots := sl } ∧ R (.ok (.ret (Value.ref l))) s) :=
  .of_wp fun prog w A R s h => by
    obtain ⟨hp, g, d, tk, os⟩ := s
    obtain ⟨hl, h⟩ := h
    have f1 := AutoSeq1.idx_int
    have c1 : (items.isEmpty || (1 : Int) == 1) = true := by simp
    wp_walk using wpAny_loadPart' hl
    exact ⟨_, rfl, h⟩
section
variable {X : Cx} {K : PySem.W.Frag}
/-- a tuple n times, n at least one -/
def gMulT (K : PySem.W.Frag) : R2 := fun x y H Q => match x, y with
  | .ref l, .int k => ∃ xs, SqT K H l xs ∧ xs ≠ [] ∧ (1 ≤ k ∧ k ≤ 1000) ∧ xs.length ≤ 1000 ∧ (k = 1 → Q (.ref l) H) ∧ (2 ≤ k → ∀ p, H p = none → Q (.ref p) (upd H p (.tup (repL k.toNat xs))))
  | _, _ => False
theorem op_mulT0 : OpR X (binaryOp .Mult) (gMulT X.K) := by
  intro pins s σ H x y v u Q I rx ry h
  unfold gMulT at h
  split at h
  · rename_i l k
    obtain ⟨xs, hT, hne, ⟨h1, h2⟩, hz, q1, q2⟩ := h
    by_cases hk : k = 1
    · subst hk
      cases rx
      obtain ⟨t, rfl⟩ := ry
      obtain ⟨its, r, ⟨⟨cls, dd, data, sl⟩, ho, hc, n, hd⟩, hs⟩ := I.tuple hT
      simp only at hc hd
      subst hc hd
      refine wpAny_binaryOp_repeat_ref (T := "tuple") (U := "int") (by decide) ⟨_, ho, rfl⟩ (fun s' => typeIs_int s' 1 t) noFill_tuple_mul F.fills_int_mul F.slot_int_rmul repeat_tuple F.slot_int_index.lookup
        (call_meets F.slot_int_rmul (typeIs_int s 1 t) F.entry_int_rmul (F.args_int_rmul_2 _ _) (int_rmul_tuple 1 t l its.toArray n dd sl) ⟨ho, rfl, ⟨_, ho, rfl⟩, call_meets F.slot_tuple_mul ⟨_, ho, rfl⟩ F.entry_tuple_mul (F.args_tuple_mul_2 _ _) (tuple_mul1 l its.toArray n sl t dd) ⟨ho, ?_⟩⟩)
      exact ⟨.ref l, H, I, rfl, q1 rfl⟩
    · exact op_repT pins s σ H _ _ v u Q I rx ry ⟨l, k, xs, rfl, rfl, hT, hne, by omega, h2, hz, q2 (by omega)⟩
  · exact h.elim
theorem op_mulT (hK : X.K = K := by rfl) : OpR X (binaryOp .Mult) (gMulT K) := hK ▸ op_mulT0
end
end Pk

namespace Pk
open PySem PySem.Spec PyProof.Rows L2
section
variable {X : Cx} {K : PySem.W.Frag}
/-- list(range(n)) -/
def gListRange (ta : TA) : TE := fun σ H Q => ta σ H fun vs H1 => ∃ n : Nat, vs = [.int (n : Nat)] ∧ n ≤ 1000000 ∧ ∀ p, H1 p = none → Q (.ref p) (upd H1 p (.lst ((List.range n).map fun j => V.int ((j : Nat) : Int))))
theorem pe_listRange {e : Expr} {ta : TA} {p pos p2 pos2 : Pos} (hl : X.mg "list" = none) (hm : X.mg "range" = none) (ha : PA X [e] ta) (hc : X.calm = true) (hgl : Gl X "list" := by rfl) (hg : Gl X "range" := by rfl)
    (hs1 : starEach [.Call (.Name "range" p) [e] [] pos] X.env = (false, eval (.Call (.Name "range" p) [e] [] pos) X.env) :: starEach [] X.env := by rfl) (hs : starEach [e] X.env = [(false, eval e X.env)] := by rfl) :
    PE X (.Call (.Name "list" p2) [.Call (.Name "range" p) [e] [] pos] [] pos2) (gListRange ta) := by
  refine ⟨fun pins s σ H Q I h => ?_⟩
  refine wpAny_Call_Name_kw (ld_blt I hgl hl bt_list ?_ (by decide) (by decide))
  refine PyProof.Rows.callWith_type1 ?_ hs1 rfl
  rw [hs1]
  show wpAny _ _ (spliced ((false, eval (.Call (.Name "range" p) [e] [] pos) X.env) :: backTo pos2 (starEach [] X.env))) _ _ s
  refine Calls.spliced_cons ?_
  refine wpAny_Call_Name_kw (ld_blt I hg hm boot_range ?_ (by decide) (by decide))
  refine PyProof.Rows.callWith_type1 (thn (ha.run pos pins s σ H _ I h) fun us s1 ⟨vs, H1, I1, r1, q1⟩ => ?_) hs rfl
  obtain ⟨n, rfl, hn, q⟩ := q1
  obtain ⟨u, rfl, t, rfl⟩ := vals1 r1
  refine call_range_1 ?_
  refine Calls.spliced_nil ?_
  generalize hh0 : s1.heap.push { cls := .type "range", data := .fields #[.int 0 s1.toks, .int ((n : Nat) : Int) t, .int 1 (s1.toks + 1)] } = h0
  have hk0 : ∀ b o, s1.heap.get? b = some o → h0.get? b = some o := fun b o e => by rw [← hh0]; exact Heap.get?_push_of_some _ e
  have hr : h0.get? s1.heap.objs.size = some { cls := .type "range", data := .fields #[.int 0 s1.toks, .int ((n : Nat) : Int) t, .int 1 (s1.toks + 1)] } := by rw [← hh0]; exact Heap.get?_push_size _ rfl
  have I2 : Inv X pins σ H1 { s1 with heap := h0, toks := s1.toks + 1 + 1 } := I1.kept hk0
  refine call_list_range (n := n) (a := 0) (b := ((n : Nat) : Int)) (c := 1) (I.ok.hd hc) hr (small_one (by decide) (by decide) (by omega) (by omega)) (by rw [rangeSize_one]; split <;> omega) (by omega) fun h' tk acc c hk hS hacc => ?_
  have hv : Vals ((List.range n).map fun j => V.int ((j : Nat) : Int)) acc.toList := vals_of_get (by rw [List.length_map, List.length_range]; have := hacc.1; simp [this]) fun j y v h1 h2 => by
    obtain ⟨tt, rfl⟩ := hacc.2 j v (by simpa using h2)
    rw [List.getElem?_map] at h1
    obtain ⟨z, hz, rfl⟩ := Option.map_eq_some_iff.mp h1
    have hj : j < n := by
      have := (List.getElem?_eq_some_iff.mp hz).1
      rw [List.length_range] at this
      exact this
    rw [List.getElem?_range hj] at hz
    cases hz
    exact ⟨tt, by rw [Int.zero_add, Int.mul_one]⟩
  refine ⟨.ref h0.objs.size, upd H1 h0.objs.size (.lst ((List.range n).map fun j => V.int ((j : Nat) : Int))), I2.laid (t' := tk) (o := .lst ((List.range n).map fun j => V.int ((j : Nat) : Int))) hk (Nat.le_refl _) ⟨by rw [List.length_map, List.length_range]; exact Nat.le_trans hn line6, acc.toList, c, hv, by rw [Array.toArray_toList]; exact hS⟩, rfl, q _ (I2.hok.fresh (Nat.le_refl _))⟩
end
end Pk

namespace Pk
open PySem PySem.Spec PyProof.Rows L2
section
variable {X : Cx} {K : PySem.W.Frag}
/-- str of one figure; a text stays -/
def gStr : RC := fun vs H Q => match vs with
  | [.int i] => (0 ≤ i ∧ i ≤ 9) ∧ Q (.str (S [48 + i.toNat])) H
  | _ => False
theorem str_fig {i : Int} (h0 : 0 ≤ i) (h1 : i ≤ 9) : (Str.ofString (toString i)) = S [48 + i.toNat] ∧ i.natAbs.log2 < 1920 := by
  have e : i = 0 ∨ i = 1 ∨ i = 2 ∨ i = 3 ∨ i = 4 ∨ i = 5 ∨ i = 6 ∨ i = 7 ∨ i = 8 ∨ i = 9 := by omega
  rcases e with rfl | rfl | rfl | rfl | rfl | rfl | rfl | rfl | rfl | rfl <;> exact ⟨by decide +kernel, by decide +kernel⟩
theorem cr_strG (hK : X.K = K := by rfl) : CallR X (.type "str") gStr := by
  intro pins s σ H xs us Q I r h
  unfold gStr at h
  split at h
  · obtain ⟨⟨h0, h1⟩, q⟩ := h
    obtain ⟨e1, e2⟩ := str_fig h0 h1
    exact call_str_int pins s σ H _ us Q I r ⟨_, rfl, e2, by rw [show ((toString _ : String) : Str) = _ from e1]; exact q⟩
  · exact h.elim
/-- int of an int, a truth value, a figure -/
def gInt2 : RC := fun vs H Q => match vs with
  | [.int i] => Q (.int i) H
  | [.bl k] => Q (.int (if k then 1 else 0)) H
  | [.str z] => ∃ c, tl z = [c] ∧ (48 ≤ c ∧ c ≤ 57) ∧ Q (.int ((c : Int) - 48)) H
  | _ => False
theorem int_fig {c : Nat} (h0 : 48 ≤ c) (h1 : c ≤ 57) : PySem.intText? (S [c]) = some ((c : Int) - 48) := by
  have e : c = 48 ∨ c = 49 ∨ c = 50 ∨ c = 51 ∨ c = 52 ∨ c = 53 ∨ c = 54 ∨ c = 55 ∨ c = 56 ∨ c = 57 := by omega
  rcases e with rfl | rfl | rfl | rfl | rfl | rfl | rfl | rfl | rfl | rfl <;> decide +kernel
theorem cr_intG2 : CallR X (.type "int") gInt2 := by
  intro pins s σ H xs us Q I r h
  unfold gInt2 at h
  split at h
  · exact call_int1 pins s σ H _ us Q I r (.inl ⟨_, rfl, h⟩)
  · exact call_int1 pins s σ H _ us Q I r (.inr ⟨_, rfl, h⟩)
  · rename_i z
    obtain ⟨c, e, ⟨h0, h1⟩, q⟩ := h
    have ez : z = S [c] := by rw [← S_tl z, e]
    subst ez
    exact call_int_str pins s σ H _ us Q I r ⟨_, _, rfl, int_fig h0 h1, by rw [len_S]; show 1 ≤ 640; decide, q⟩
  · exact h.elim
def gAny (K : PySem.W.Frag) : RC := fun vs H Q => match vs with
  | [.ref p] => ∃ bs : List Bool, SqL K H p (bs.map V.bl) ∧ Q (.bl (bs.any id)) H
  | _ => False
theorem cr_anyG0 (hc : X.calm = true) : CallR X (.builtin "any") (gAny X.K) := by
  intro pins s σ H xs us Q I r h
  unfold gAny at h
  split at h
  · obtain ⟨ys, h1, h2⟩ := h
    exact cr_any hc pins s σ H _ us Q I r ⟨_, ys, rfl, h1, h2⟩
  · exact h.elim
theorem cr_anyG (hc : X.calm = true) (hK : X.K = K := by rfl) : CallR X (.builtin "any") (gAny K) := hK ▸ cr_anyG0 hc
/-- a text split at a sign: its parts -/
def gSplit : RM := fun x vs H Q => match x, vs with
  | .str a, [.str b] => ∃ (c : Nat) (ys : List (List Nat)), tl b = [c] ∧ c < 256 ∧ ys ≠ [] ∧ (∀ y ∈ ys, c ∉ y) ∧ tl a = TL.joinL [c] ys ∧ (tl a).length ≤ 1000000 ∧ ∀ p, H p = none → Q (.ref p) (upd H p (.lst (ys.map txV)))
  | _, _ => False
theorem mt_splitG (hK : X.K = K := by rfl) : MtR X "str.split" gSplit := by
  intro pins s σ H x xs v us Q I rx r h
  unfold gSplit at h
  split at h
  · rename_i a b
    obtain ⟨c, ys, hb, hc, hne, hy, ha, hl, q⟩ := h
    have eb : b = S [c] := by rw [← S_tl b, hb]
    have es : Txt.split a b = ys.map S := by
      have h1 := TL.split_join (y := b) (s := c) (S := []) hb (by rw [eb]; simp [hc]) (parts := ys.map S) (by simpa using hne) (fun p hp => by
        obtain ⟨y, hy', rfl⟩ := List.mem_map.mp hp
        exact hy y hy')
      have ea : a = Txt.join b (ys.map S) := by
        have e2 : tl (Str.join b (ys.map S)) = TL.joinL (tl b) ((ys.map S).map TL.tl) := TL.tl_join b (ys.map S)
        rw [TL.join_eq, ← S_tl (Str.join b (ys.map S)), e2, map_tl_S, hb, ← ha, S_tl]
      rw [ea]
      exact h1
    refine mt_split pins s σ H _ _ v us Q I rx r ⟨a, b, rfl, rfl, by rw [len_S, hb]; rfl, by rw [len_S, sizeLine_eq]; omega, fun p hp => ?_⟩
    rw [es, List.map_map]
    exact q p hp
  · exact h.elim
end
end Pk

namespace Pk
open PySem PySem.Spec PyProof.Rows L2
section
variable {X : Cx} {K : PySem.W.Frag}
/-! ### the own base class's __init__, called with self -/
theorem pe_pkinit {x : Str} {C0 : Addr} {e : Expr} {es : List Expr} {ta : TA} {p1 p2 pos : Pos} {pl : Sem Bool} (hg : Gl X x) (hm : X.mg x = some (.ref C0)) (rd : ClX.CRead X.K C0 (.type "type"))
    (vV : PySem.W.findCls X.K (.ref C0) (.type "type") "__init__" = some (.val (.builtin "ValueError.__init__"))) (ha : PA X (e :: es) ta)
    (hc : eval (.Call (.Attribute (.Name x p1) "__init__" p2) (e :: es) [] pos) X.env = (do
      let ov ← eval (.Name x p1) X.env
      standAt p2.atName
      let (f, first) ← holding [ov] (getMethod ov "__init__" pl)
      callWith pos f first (backTo pos (starEach (e :: es) X.env)) (backToKw pos (keywordEach [] X.env))) := by rfl)
    (he : starEach (e :: es) X.env = (false, eval e X.env) :: starEach es X.env := by rfl) (hpl : (backTo pos (starEach es X.env)).any (·.1) = false := by rfl) (hdb : (x == ("__debug__" : Str)) = false := by decide) :
    PE X (.Call (.Attribute (.Name x p1) "__init__" p2) (e :: es) [] pos) (tVeI X.K ta) := by
  refine ⟨fun pins s σ H Q I h => ?_⟩
  refine PySem.W.methodCall_KW (ld_glob I hg hm ?_ hdb) hc
  refine PySem.W.method_cls I.kIn rd.ga (PySem.W.cls_value I.kIn rd.rd vV (by decide +kernel) ?_)
  show wpAny _ _ (callWith pos (Value.builtin "ValueError.__init__") [] (backTo pos (starEach (e :: es) X.env)) []) _ _ _
  refine PyProof.Rows.callWith_method1 (thn (ha.run pos pins _ σ H _ (I.tok _) h) fun us s1 ⟨vs, H1, I1, r1, a, C, ws, ev, hl, T, ea, q⟩ => ?_) he hpl
  subst ev
  cases r1 with
  | @cons _ u0 _ ur ra rw' =>
    obtain rfl : u0 = Value.ref a := ra
    have hlen : ur.length ≤ sizeLine := by
      rw [← Paired.length rw', sizeLine_eq]
      omega
    exact oinit_ok T I1 ea hlen fun s' J => ⟨.non, H1, J, rfl, q⟩
/-! ### isinstance(e, C) in an except suite, e with or without fields -/
theorem exc_class {prog : Program} {w : World} {A : Around} {E : Value → Shared → Prop} {s : Shared} {K : PySem.W.Frag} {x D : Addr} {ox : Obj} {od : Option Obj} {Q : Option Value → Shared → Prop} (c : ExcC K D) (kin : K.In s.heap) (I : PySem.W.InstAt s.heap x ox D od)
    (h : Q (some (.ref D)) { s with toks := s.toks + 1 }) : wpAny (model prog w) A (getAttr? (.ref x) "__class__") Q E s := by
  have hf : PySem.W.findObj K D od "__class__" = some (.bind (.builtin "getset_descriptor.__get__") (.builtin "object.__class__")) := by
    obtain ⟨cd, hc, _⟩ := PySem.W.any_some c.hd
    unfold PySem.W.findObj
    rw [hc, Option.bind_some, c.ha, Option.bind_some]
    simp [c.hn, c.ht]
  obtain ⟨hp, g, d, t, os⟩ := s
  have L0 := I.type (M := model prog w)
  have sub : PySem.W.Looks (model prog w) hp (isInstance (.ref x) (.type "BaseException")) true := L0.andThen (PySem.W.looks_subIn kin c.hs)
  have hx2 : (Value.builtin "BaseException.__getattribute__" == Value.builtin "object.__getattribute__") = false := by decide +kernel
  unfold getAttr? getAttrBy? getAttrBy
  refine wpAny_bind (wpAny_mkText (wpAny_bind (wpAny_attempt (wpAny_holding (wpAny_bind (L0.at (wpAny_bind ((PySem.W.looks_findIn (M := model prog w) kin c.hg).at ?_))))))))
  show wpAny _ _ (if (onTheHeap (Value.ref D) && Value.builtin "BaseException.__getattribute__" == Value.builtin "object.__getattribute__") = true then _ else _) _ _ _
  rw [hx2, Bool.and_false, if_neg Bool.false_ne_true]
  unfold getAttrByItsOwn hookBefore
  refine wpAny_bind ?_
  rw [if_pos (show onTheHeap (Value.ref D) = true from rfl)]
  refine (PySem.W.looks_findIn (M := model prog w) kin c.hk).at ?_
  refine wpAny_bind (wpAny_attempt (wpAny_holding ?_))
  unfold callGetattribute
  rw [show (false && onTheHeap (Value.builtin "BaseException.__getattribute__")) = false from rfl, if_neg Bool.false_ne_true]
  unfold boundAndCalled
  rw [PySem.F.excAttr_ValueError.ga.bind (.ref x)]
  refine wpAny_bind (wpAny_pure ?_)
  show wpAny _ _ (call (.builtin "BaseException.__getattribute__") [.ref x, .str "__class__" t]) _ _ _
  refine wpAny_call (codeAny_call_builtin PySem.F.excAttr_ValueError.ga.plain PySem.F.entry_bexc_ga ?_)
  refine @PySem.W.check_slot (model prog w) _ _ ⟨hp, g, d, t + 1, os⟩ "BaseException.__getattribute__" "BaseException" "__getattribute__" (.ref x) [.str "__class__" t] [] _ (by decide +kernel) (by decide +kernel) sub (PySem.F.args_bexc_ga (.ref x) (.str "__class__" t)) ?_
  unfold Builtin.«object.__getattribute__»
  refine wpAny_bind (wpAny_of_eq (a := ((Value.ref x : Value), [Value.str "__class__" t])) (by first | rfl | (simp only [slotArgs]; rfl)) ?_)
  refine wpAny_bind (wpAny_pure (wpAny_bind (L0.at (wpAny_bind ((PySem.W.looks_find (M := model prog w) kin I hf).at ?_)))))
  show wpAny _ _ (holding [Value.builtin "object.__class__"] (call (.builtin "getset_descriptor.__get__") [.builtin "object.__class__", .ref x, .ref D]) >>= ret) _ _ _
  refine wpAny_bind (wpAny_holding (wpAny_call (PySem.W.class_get (s := ⟨hp, g, d, t + 1, os⟩) (ox := ox) (od := od) kin I c.hm ?_)))
  refine wpAny_pure ?_
  show wpAny _ _ (handedOut (.ref D)) _ _ _
  rw [PySem.W.handedOut_of (v := .ref D) rfl]
  first
    | exact wpAny_pure (wpAny_pure h)
    | exact wpAny_pure h
    | exact wpAny_pure (wpAny_bind (wpAny_pure (wpAny_pure h)))
theorem exc_kit {K : PySem.W.Frag} {x D : Addr} {ox : Obj} {od : Option Obj} (c : ExcC K D) : PySem.W.KitX K (.ref x) (.ref D) (fun h => PySem.W.InstAt h x ox D od) where
  ty := fun _ _ _ I => I.type
  it := fun _ _ kin _ => by
    obtain ⟨cdD, hcD, _⟩ := PySem.W.any_some c.hd
    unfold PySem.W.clsIn at hcD
    split at hcD
    · rename_i c' d' cd' sl' ho
      intro A' Q' E' s' k q
      unfold isType loadHead
      exact wpAny_bind (wpAny_loadPart (k _ _ (kin _ _ ho)) (wpAny_pure q))
    · cases hcD
  ne := fun h tp dd its n sl kin htp => by
    obtain ⟨cdD, hcD, _⟩ := PySem.W.any_some c.hd
    refine Bool.eq_false_iff.mpr fun q => ?_
    have e : D = tp := Value.ref.inj (beq_iff_eq.mp q)
    subst e
    unfold PySem.W.clsIn at hcD
    split at hcD
    · rename_i c' d' cd' sl' ho
      have z := (kin _ _ ho).symm.trans htp
      cases z
    · cases hcD
  ca := fun kin I k => exc_class c kin I k
/-- what a class or a built-in type stands for -/
def clsV : V → Option Value
  | .ref C => some (.ref C)
  | .ty n => some (.type n)
  | _ => none
/-- isinstance(e, c): a the caught exception, cls its class, d its dict -/
def gIsX (K : PySem.W.Frag) (a : Addr) (cls : Value) (d : Option Addr) : RC := fun xs H Q => ∃ (c : V) (cv : Value) (D : Addr) (b : Bool), xs = [.ref a, c] ∧ clsV c = some cv ∧ cls = .ref D ∧ ExcC K D ∧ (d = none ∨ ∃ dd fs, d = some dd ∧ H dd = some (.xd fs)) ∧ PySem.W.kitOne K (.ref D) cv = some b ∧ Q (.bl b) H
theorem cr_isX {a : Addr} {oe : Obj} {cls : Value} {d : Option Addr} {pn : List (Addr × Obj)} (hz : Zc cls d oe) (hf : ∃ vs, oe.data = .fields vs) (hK : X.K = K := by rfl) : CallR (X.suite a ((a, oe) :: pn)) (.builtin "isinstance") (gIsX K a cls d) := by
  subst hK
  intro pins s σ H xs us Q I r h
  obtain ⟨c, cv, D, b, rfl, hcv, rfl, hC, hd, e, q⟩ := h
  cases r with
  | cons rx rr =>
    cases rr with
    | @cons _ u1 _ _ rt rr =>
      cases rr
      cases rx
      have ec : u1 = cv := by
        cases c <;> simp only [clsV] at hcv <;> cases hcv <;> exact rt
      subst ec
      obtain ⟨hget, _⟩ := I.pin (a, oe) (List.mem_append.mpr (.inl List.mem_cons_self))
      obtain ⟨vs, hv⟩ := hf
      have J : ∃ od, PySem.W.InstAt s.heap a oe D od := by
        rcases hd with rfl | ⟨dd, fs, rfl, hdd⟩
        · exact ⟨none, hget, hz.1, by unfold PySem.W.notCls; rw [hv] <;> rfl, by rw [hz.2]; trivial⟩
        · have hx : ObjOk X.prog X.w H s.heap dd (.xd fs) := I.hok dd _ hdd
          obtain ⟨mA, hns, hr⟩ := hx
          obtain ⟨od, ho, hl⟩ := lookIn_ns hns
          exact ⟨some od, hget, hz.1, by unfold PySem.W.notCls; rw [hv] <;> rfl, by rw [hz.2]; exact ho⟩
      obtain ⟨od, J⟩ := J
      exact PySem.W.kia_one (exc_kit hC) I.kIn J e (fun z => nomatch z) fun tk => ⟨.bl b, H, I.kept (t' := tk) fun _ _ z => z, rfl, q⟩
/-- e.f, whatever the class -/
def gXf (K : PySem.W.Frag) (a : Addr) (cls : Value) (d : Option Addr) (f : Str) (te : TE) : TE := fun σ H Q => te σ H fun x H1 => x = .ref a ∧ ∃ C : Addr, cls = .ref C ∧ XfC K C ∧ PySem.W.findIn K (.ref C) f = some none ∧ ∃ (dd : Addr) (fs : List (Str × V)) (v : V), d = some dd ∧ H1 dd = some (.xd fs) ∧ fs.lookup f = some v ∧ Q v H1
theorem pe_xfG {a : Addr} {oe : Obj} {cls : Value} {d : Option Addr} {pn : List (Addr × Obj)} {e : Expr} {te : TE} {pos : Pos} {n : Str} (hz : Zc cls d oe) (hf : ∃ vs, oe.data = .fields vs) (he : PE (X.suite a ((a, oe) :: pn)) e te)
    (hb : attributeBase e n X.env (eval e X.env) = eval e X.env := by rfl) (hK : X.K = K := by rfl) : PE (X.suite a ((a, oe) :: pn)) (.Attribute e n pos) (gXf K a cls d n te) := by
  subst hK
  refine ⟨fun pins s σ H Q I h => ?_⟩
  refine attr_of hb (thn (he.run pins s σ H _ I h) fun u s1 hh => ?_)
  obtain ⟨x, H1, I1, rx, rfl, C, rfl, T, hno, dd, fs, v, rfl, ea, l, q⟩ := hh
  obtain rfl : u = Value.ref a := rx
  obtain ⟨ha, _⟩ := I1.pin (a, oe) (List.mem_append_left _ List.mem_cons_self)
  obtain ⟨vs, hd⟩ := hf
  have hx : ObjOk X.prog X.w H1 s1.heap dd (.xd fs) := I1.hok dd _ ea
  obtain ⟨mA, hns, hr⟩ := hx
  obtain ⟨od, ho, hl⟩ := lookIn_ns hns
  obtain ⟨u, hu, ru⟩ := RelO.some_of (v := v) (o := mA n) (by rw [← l]; exact hr n)
  have J : PySem.W.InstAt s1.heap a oe C (some od) := ⟨ha, hz.1, by unfold PySem.W.notCls; rw [hd] <;> rfl, by rw [hz.2]; exact ho⟩
  exact HandSPX.exc_get I1.kIn J T.ga T.gg T.exC (PySem.W.findObj_own T.hdC hno rfl (by rw [hl, hu])) (handed_of ru) ⟨v, H1, I1.tok _, ru, q⟩
/-! ### list.count, list.index of flat items -/
def gLCount (K : PySem.W.Frag) : RM := fun x xs H Q => ∃ (a : Addr) (ys : List V) (y : V), x = .ref a ∧ xs = [y] ∧ SqL K H a ys ∧ flatV y = true ∧ ys.all flatV = true ∧ Q (.int (ys.countP (fun z => eqV z y) : Nat)) H
theorem cnt_eqU {x : V} : ∀ {xs : List V} {us : List Value}, Vals xs us → xs.all flatV = true → us.countP (eqU x) = xs.countP fun y => eqV y x
  | _, _, .nil, _ => rfl
  | y :: xs, u :: us, .cons r t, f => by
    rw [List.all_cons, Bool.and_eq_true] at f
    rw [List.countP_cons, List.countP_cons, eqU_of r f.1, cnt_eqU t f.2]
theorem mt_lcntG (hK : X.K = K := by rfl) : MtR X "list.count" (gLCount K) := by
  subst hK
  intro pins s σ H x xs v us Q I rx rxs h
  obtain ⟨p, ys, y, rfl, rfl, hs, fy, fys, q⟩ := h
  cases rx
  obtain ⟨u, rfl, ru⟩ := rxs.one
  obtain ⟨its, rv, ⟨⟨cls, dd, data, sl⟩, n, ho, hc, hdn, hd⟩, hlen⟩ := I.list hs
  simp only at hc hd
  subst hc hd
  refine call_meets PySem.F.slot_list_count ⟨_, ho, rfl⟩ PySem.F.entry_list_count (PySem.F.args_list_count_2 _ _)
    (SeqAt.list_countAt p its.toArray n dd sl u (eqU y)) ⟨ho, fun z hz => mem_eqAt ru fy rv fys z (by simpa using hz), ?_⟩
  have ec : its.toArray.toList.countP (eqU y) = ys.countP fun z => eqV z y := cnt_eqU rv fys
  refine ⟨.int ((ys.countP fun z => eqV z y) : Nat), H, I.tok _, ⟨s.toks, ?_⟩, q⟩
  show Value.int ((its.toArray.toList.countP (eqU y) : Nat) : Int) s.toks = _
  rw [ec]
theorem mt_lidxG (hK : X.K = K := by rfl) : MtR X "list.index" (rIndex K) := by
  subst hK
  exact mt_index
end
end Pk

namespace Pk
open PySem PySem.Spec PyProof.Rows L2
/-- the end of a law whose own def makes lambdas: the table of its code object is told -/
theorem walk_tab {l : PySem.W.OpenLaw} {n k : Nat} {q : Program} {loose : List Str} {XP : (Str → Option Value) → Heap → Prop} {YP : World → Heap → Prop} {d : DefRec} {K : Params → PySem.W.Frag} {CX : World → CXT} {x : Str}
    (hn : l.most = some n) (hn2 : n ≤ sizeLine) (hdf : d.params.defaults = []) (hr : Room k callerA) (hY : ∀ (w : World) (h : Heap), YP w h → (K w.params).In h) (hrec : (recsOf q).find? (fun e => e.name == d.name) = some d)
    (F : ∀ (w : World) (mg : Str → Option Value) (fa : Addr) (h : Heap), YP w h → (K w.params).In h → h.Ns mainGlobals mg → mg d.name = some (.ref fa) → (∀ c P, PySem.W.tabIn (K w.params) d.name = some (c, P) → PySem.W.CodeHd h c P ∧ h.get? P = some (PySem.W.tabObj #[])) → LamX.LawAtS l w (K w.params) (CX w) k n x mg fa h)
    (hCX : ∀ (w : World) (H : Hp) (s : Shared) (e : Value) (s' : Shared), CX w [] H s (fun _ _ _ => False) e s' → False) :
    PySem.W.WalkO q loose XP YP l.row.toRowW d [] (fun f vs => PySem.call f vs) := by
  refine Att.attach_callB hn hdf fun w s₀ s₁ mg mb fa o pm cd doc a vs ns G Y ho hd hcd hmg hobj hints hlen hbits hg => ?_
  have KX := hY w _ Y
  obtain ⟨fd, cs, sp, hT, nT, C, hb, hsp, hF⟩ := F w mg fa _ Y KX G.T.g hmg (fun c P ht => PySem.W.tab_of G.T KX hrec ht)
  exact LamX.law_callTs KX G.T.g G.T.b G.T.builtins G.T.nolimit hg hT nT C G.T.bmain hobj hints (Nat.le_trans hlen hn2) hr hF hb (fun H hH hS => hsp H a ns hlen hbits hH hS) fun H e s' => hCX w H s₁ e s'
end Pk

namespace Pk
open PySem PySem.Spec PyProof.Rows L2
/-! ### cells that are frozen -/
def uT : HO := .ext fun _ => True
/-- the objects that F tells, told as frozen -/
def Fz (F : Addr → Option Obj) (H : Hp) : Hp := fun b => match H b with
  | some o => some o
  | none => (F b).map fun o => .frz o uT
def Uf (F : Addr → Option Obj) (H : Hp) : Hp := fun b => match F b with
  | some _ => none
  | none => H b
section
variable {F : Addr → Option Obj} {H H' : Hp} {b : Addr} {o : Obj} {u : HO}
theorem fz_same : Same H (Fz F H) := fun b o e => by unfold Fz; rw [e]
theorem fz_at (h : H b = none) (f : F b = some o) : Fz F H b = some (.frz o uT) := by unfold Fz; rw [h, f]; rfl
theorem fz_none (h : H b = none) (f : F b = none) : Fz F H b = none := by unfold Fz; rw [h, f]; rfl
theorem of_fz (h : Fz F H b = some u) : H b = some u ∨ (H b = none ∧ ∃ o, F b = some o ∧ u = .frz o uT) := by
  unfold Fz at h
  split at h
  · rename_i e; rw [e]; exact .inl h
  · rename_i e
    cases f : F b with
    | none => rw [f] at h; cases h
    | some o => rw [f] at h; cases h; exact .inr ⟨e, o, rfl, rfl⟩
theorem uf_in (f : F b = some o) : Uf F H b = none := by unfold Uf; rw [f]
theorem uf_out (f : F b = none) : Uf F H b = H b := by unfold Uf; rw [f]
theorem of_uf (h : Uf F H b = some u) : F b = none ∧ H b = some u := by
  unfold Uf at h
  split at h
  · cases h
  · rename_i f; exact ⟨f, h⟩
theorem ok_uT {P : Program} {w : World} {h : Heap} (e : h.get? b = some o) : ObjOk P w H h b (.frz o uT) := ⟨e, trivial, ⟨o, e⟩, fun _ _ _ _ => trivial⟩
/-- what is frozen is apart from what H tells -/
theorem same_uf (hF : ∀ b o, F b = some o → H b = none) (s : Same H H') : Same H (Uf F H') := fun b u e => by
  have f : F b = none := by
    cases f : F b with
    | none => rfl
    | some o => rw [hF b o f] at e; cases e
  rw [uf_out f]
  exact s b u e
section
variable {P : Program} {w : World} {h : Heap}
theorem hok_fz (hok : HOk P w H h) (hF : ∀ b o, F b = some o → h.get? b = some o) : HOk P w (Fz F H) h := fun a u e => by
  rcases of_fz e with e | ⟨n, o, f, rfl⟩
  · exact (hok a u e).stay (fun _ _ _ q => q) (fun c q => fz_same _ _ q) fun c xs q => fz_same _ _ q
  · exact ok_uT (hF _ _ f)
theorem hok_uf (hok : HOk P w H h) (hF : ∀ b o, F b = some o → H b = some (.frz o uT) ∨ H b = none) : HOk P w (Uf F H) h := fun a u e => by
  obtain ⟨f, e⟩ := of_uf e
  have out : ∀ c v, H c = some v → (∀ o, v ≠ .frz o uT) → F c = none := fun c v q n => by
    cases f : F c with
    | none => rfl
    | some o =>
      rcases hF c o f with z | z
      · rw [q] at z; exact (n o (Option.some.inj z)).elim
      · rw [q] at z; cases z
  exact (hok a u e).stay (fun _ _ _ q => q) (fun c q => by rw [uf_out (out c _ q fun o z => by cases z)]; exact q) fun c xs q => by rw [uf_out (out c _ q fun o z => by cases z)]; exact q
end
/-- a call that ran with frozen cells, seen by who does not track them -/
theorem ce_thaw {P : Program} {w : World} {outer : List Env} {s s' : Shared} {Q Q' : VK} {v : Value} (hF : ∀ b o, F b = some o → s.heap.get? b = some o ∧ H b = none) (hfr : ∀ b ∈ frs outer, F b = none)
    (h : CE outer P w (Fz F H) s Q' v s') (hQ : ∀ v H', (∀ b o, F b = some o → H' b = some (.frz o uT)) → Q' v H' → Q v (Uf F H')) : CE outer P w H s Q v s' := by
  obtain ⟨x, H', os, bare, un, hok, r, q⟩ := h
  have nF : ∀ b u, H b = some u → F b = none := fun b u e => by
    cases f : F b with
    | none => rfl
    | some o => rw [(hF b o f).2] at e; cases e
  have fr : ∀ b o, F b = some o → H' b = some (.frz o uT) := fun b o f => un.frzs b o uT (fz_at (hF b o f).2 f)
  refine ⟨x, Uf F H', os, bare, ⟨fun b o e n hb _ => ?_, fun b o e n hb hx => ?_, fun b o e n hx => ?_, fun b o e hx => un.there b o e hx, fun b xs e => ?_, fun b o xs e => ?_, fun b ps e => ?_⟩, hok_uf hok fun b o f => .inl (fr b o f), r, hQ _ _ fr q⟩
  · cases f : F b with
    | none => exact un.keep b o e (fz_none n f) hb (by simp)
    | some o' =>
      have e2 := (hF b o' f).1
      rw [e] at e2
      cases e2
      exact (hok b _ (fr b o f)).1
  · exact un.slot b o e (fz_none n (hfr b hb)) hb hx
  · cases f : F b with
    | none => rw [uf_out f]; exact un.free b o e (fz_none n f) hx
    | some o' => exact uf_in f
  · rw [uf_out (nF _ _ e)]; exact un.tups b xs (fz_same _ _ e)
  · rw [uf_out (nF _ _ e)]; exact un.frzs b o xs (fz_same _ _ e)
  · obtain ⟨m, q⟩ := un.tbls b ps (fz_same _ _ e)
    exact ⟨m, by rw [uf_out (nF _ _ e)]; exact q⟩
/-- a call that ran with its cells thawed, seen by who tracks them as frozen -/
theorem cr_freeze {P : Program} {w : World} {outer : List Env} {s s' : Shared} {Q : VK} {E : XK} {r : Result} (hF : ∀ b o, F b = some o → H b = some (.frz o uT)) (hfr : ∀ b ∈ frs outer, H b = none) (hok0 : HOk P w H s.heap)
    (h : CR (L2.CX P w) outer P w (Uf F H) s (fun v H' => (∀ b o, F b = some o → H' b = none) → Q v (Fz F H')) (fun c d H' => (∀ b o, F b = some o → H' b = none) → E c d (Fz F H')) r s') : CR (L2.CX P w) outer P w H s Q E r s' := by
  have get0 : ∀ b o, F b = some o → s.heap.get? b = some o := fun b o f => (hok0 b _ (hF b o f)).1
  have nfr : ∀ b o, F b = some o → b ∉ frs outer := fun b o f hb => by have := hfr b hb; rw [hF b o f] at this; cases this
  have nF : ∀ b u, H b = some u → (∀ o, u ≠ .frz o uT) → F b = none := fun b u e n => by
    cases f : F b with
    | none => rfl
    | some o => rw [hF b o f] at e; exact (n o (Option.some.inj e).symm).elim
  have nN : ∀ b, H b = none → F b = none := fun b e => by
    cases f : F b with
    | none => rfl
    | some o => rw [hF b o f] at e; cases e
  have frz_case : ∀ (H' : Hp), (∀ b o u, Uf F H b = some (.frz o u) → H' b = some (.frz o u)) → (∀ b o, F b = some o → H' b = none) → ∀ b o u, H b = some (.frz o u) → Fz F H' b = some (.frz o u) := fun H' k n b o u e => by
    cases f : F b with
    | none => exact fz_same _ _ (k b o u (by rw [uf_out f]; exact e))
    | some o' =>
      rw [hF b o' f] at e
      cases e
      exact fz_at (n b _ f) f
  cases r with
  | ok fl =>
    cases fl with
    | ret v =>
      obtain ⟨x, H', os, bare, un, hok, rv, q⟩ := h
      have free : ∀ b o, F b = some o → H' b = none := fun b o f => un.free b o (get0 b o f) (uf_in f) (by simp)
      have keep : ∀ b o, F b = some o → s'.heap.get? b = some o := fun b o f => un.keep b o (get0 b o f) (uf_in f) (nfr b o f) (by simp)
      refine ⟨x, Fz F H', os, bare, ⟨fun b o e n hb hx => ?_, fun b o e n hb hx => ?_, fun b o e n hx => ?_, fun b o e hx => un.there b o e hx, fun b xs e => ?_, fun b o u e => ?_, fun b ps e => ?_⟩, hok_fz hok keep, rv, q free⟩
      · exact un.keep b o e (by rw [uf_out (nN b n)]; exact n) hb hx
      · exact un.slot b o e (by rw [uf_out (nN b n)]; exact n) hb hx
      · exact fz_none (un.free b o e (by rw [uf_out (nN b n)]; exact n) hx) (nN b n)
      · exact fz_same _ _ (un.tups b xs (by rw [uf_out (nF b _ e fun o z => by cases z)]; exact e))
      · exact frz_case H' un.frzs free b o u e
      · obtain ⟨m, q⟩ := un.tbls b ps (by rw [uf_out (nF b _ e fun o z => by cases z)]; exact e)
        exact ⟨m, fz_same _ _ q⟩
    | next => exact h
    | brk => exact h
    | cont => exact h
  | error e =>
    obtain ⟨a, B, H', cls, d, rfl, fly, hok, ub, na, os, bare, q⟩ := h
    have free : ∀ b o, F b = some o → H' b = none := fun b o f => ub.free b o (get0 b o f) (uf_in f)
    have keep : ∀ b o, F b = some o → B.get? b = some o := fun b o f => ub.keep b o (get0 b o f) (uf_in f) (nfr b o f)
    refine ⟨a, B, Fz F H', cls, d, rfl, fly, hok_fz hok keep, ⟨fun b o e n hb => ?_, fun b o e hb => ?_, fun b o e n => ?_, fun b o e hb => ub.there b o e hb, fun b xs e => ?_, fun b o u e => ?_, fun b ps e => ?_⟩, ?_, os, bare, q free⟩
    · exact ub.keep b o e (by rw [uf_out (nN b n)]; exact n) hb
    · exact ub.slot b o e hb
    · exact fz_none (ub.free b o e (by rw [uf_out (nN b n)]; exact n)) (nN b n)
    · exact fz_same _ _ (ub.tups b xs (by rw [uf_out (nF b _ e fun o z => by cases z)]; exact e))
    · exact frz_case H' ub.frzs free b o u e
    · obtain ⟨m, q⟩ := ub.tbls b ps (by rw [uf_out (nF b _ e fun o z => by cases z)]; exact e)
      exact ⟨m, fz_same _ _ q⟩
    · refine fz_none na ?_
      cases f : F a with
      | none => rfl
      | some o => have := keep a o f; rw [fly.2.1] at this; cases this
end
/-- what may be called without arguments, while Z stands: its promise -/
structure LamV (P : Program) (w : World) (K : PySem.W.Frag) (mg : Str → Option Value) (base : Heap) (k : Nat) (f : Addr) (Z : Hp → Prop) (sp : XK → Hp → VK → Prop) : Prop where
  mono : ∀ H H', Same H H' → Z H → Z H'
  fn : ∀ H h, HOk P w H h → Z H → PySem.W.FnAt f h
  run : ∀ (A : Around) (outer : List Env) (s : Shared) (H : Hp) (Q : VK) (E : XK), Room k A → Env0 P w K mg base A outer s H → Z H → sp E H Q → codeAny (model P w) A (.call (.ref f) ⟨[], []⟩) (CR (L2.CX P w) outer P w H s Q E) s
section
variable {X : Cx}
/-- x() where x is such a thing -/
def gAct (P : Program) (w : World) (K : PySem.W.Frag) (mg : Str → Option Value) (base : Heap) (k i : Nat) (E : XK) : TE := fun σ H Q => ∃ f Z sp, σ[i]? = some (some (.ref f)) ∧ LamV P w K mg base k f Z sp ∧ Z H ∧ sp E H Q
theorem pe_actV {k i : Nat} {a : Str} {W : WX} {E : XK} {p1 p2 : Pos} (tk : Takes X W) (hW : ∀ cls d σ' H', E cls d H' → W cls d σ' H') (hr : Room k X.A) (hN : X.N[i]? = some a) (hv : Vis X.env.scope a)
    (hd : (a == ("__debug__" : Str)) = false := by decide) (hcd : (a == ("__classdict__" : Str)) = false := by decide) : PE X (.Call (.Name a p1) [] [] p2) (gAct X.prog X.w X.K X.mg X.base k i E) := by
  refine ⟨fun pins s σ H Q I h => ?_⟩
  obtain ⟨f, Z, sp, hs, L, hZ, q⟩ := h
  refine wpAny_Call_Name_kw (thn ((pe_var (pos := p1) (i := i) hN hv hd hcd).run pins s σ H (fun v H1 => v = .ref f ∧ H1 = H) I ⟨.ref f, hs, rfl, rfl⟩) fun u s1 ⟨v, H1, I1, r1, ev, eH⟩ => ?_)
  subst ev eH
  obtain rfl : u = Value.ref f := r1
  refine PySem.W.callWith_F0 (L.fn _ _ I1.hok hZ) (wpAny_call (codeAny_mono (L.run _ _ _ _ Q E hr I1.env0 hZ q) fun r s' hq => ?_))
  cases r with
  | error e => exact passes_call tk hW pins σ _ s1 e s' I1 hq
  | ok fl =>
    cases fl with
    | ret u => exact I1.after hq
    | next => exact False.elim hq
    | brk => exact False.elim hq
    | cont => exact False.elim hq
end
end Pk

namespace Pk
open PySem PySem.Spec PyProof.Rows L2
/-! ### a lambda, with or without one parameter that has a default -/
abbrev lfn (qual : Str) (params : Arguments) (body : Expr) (scope : Scope) (cl : List (Str × Addr)) (dV pm cdv ct : Value) : FuncData :=
  { name := "<lambda>", qualname := qual, params := params, body := .expr body, scope := scope, globals := mainGlobals, closure := cl, defaults := dV, kwdefaults := .none, doc := .none, pyModule := pm,
    annotations := none, code := cdv, closureTuple := ct, builtins := builtinsNs }
abbrev lob (qual : Str) (params : Arguments) (body : Expr) (scope : Scope) (cl : List (Str × Addr)) (dV pm : Value) (c' : Addr) (ct : Value) : Obj := { cls := .type "function", data := .func (lfn qual params body scope cl dV pm (.ref c') ct) }
section
variable {M : Model} {A : Around} {E : Value → Shared → Prop} {s : Shared} {qual : Str} {params : Arguments} {body : Expr} {scope : Scope} {env : Env} {c P : Addr} {ps : Array Value} {pos : Pos} {fl : Nat} {mg : Str → Option Value} {clos : List (Str × Addr)} {dV : Value} {Q : Value → Shared → Prop}
theorem lam_new (hcl : closureFor scope env = pure clos) (hge0 : env.globals = mainGlobals) (hg : s.heap.Ns mainGlobals mg) (hcode : env.code = .ref c) (C : PySem.W.CodeHd s.heap c P) (hP : s.heap.get? P = some (PySem.W.tabObj ps)) (ht : TriplesOk ps.toList)
    (hnf : codeAmong pos ps.toList = none) (hgP : mainGlobals ≠ P) (hb : s.heap.BuiltinsAt mg P)
    (h : ∀ c' ctv h' tk, Heap.ExtBut P s.heap h' → s.heap.objs.size ≤ c' → c' < h'.objs.size → h'.CodeRec (.ref c') qual → h'.get? P = some (PySem.W.tabObj (ps ++ #[rawInt pos.line, rawInt pos.col, .ref c'])) →
      Q (.ref h'.objs.size) { s with heap := h'.push (lob qual params body scope clos dV ((mg "__name__").getD .none) c' ctv), toks := tk }) :
    wpAny M A (makeTail "<lambda>" qual params (.expr body) scope env dV .none none pos fl) Q E s := by
  obtain ⟨bm, ob, b1, b2, _, b3, b4, b5, b6, b7⟩ := hb
  unfold makeTail
  rw [hcl, hge0]; refine wpAny_bind (wpAny_pure ?_)
  cases clos with
  | nil =>
    simp only [List.isEmpty_nil, if_true]; refine wpAny_bind (wpAny_pure (wpAny_bind (wpAny_functionCodeX hcode (C.code hP ht) (C.tab hP) hnf fun c' h' tk hx hge hlt _ hrec htb _ => ?_)))
    have g' := hg.extBut hx hgP
    exact wpAny_bind (wpAny_builtinsFor g' b1 b2 (hx _ _ b3 b4) b5 b6 b7 (wpAny_bind (wpAny_nsGet g' (wpAny_bind (wpAny_pure (wpAny_newObj_type (h c' .none h' tk hx hge hlt hrec htb.2) (by size_fits)))))))
  | cons q r =>
    have up : ∀ {oT : Obj} {b : Addr} {o : Obj}, s.heap.get? b = some o → (s.heap.push oT).get? b = some o := fun e => Heap.get?_push_of_some _ e
    simp only [List.isEmpty_cons, Bool.false_eq_true, if_false]; refine wpAny_bind (wpAny_newTextTuple (wpAny_bind (wpAny_functionCodeX hcode ((C.keeps fun b o e => up e).code (up hP) ht) ((C.keeps fun b o e => up e).tab (up hP)) hnf fun c' h' tk hx hge hlt _ hrec htb _ => ?_)))
    have g' := (hg.push _).extBut hx hgP
    have x' : Heap.ExtBut P s.heap h' := fun b o hb' e => hx b o hb' (up e)
    have l' : s.heap.objs.size ≤ c' := Nat.le_trans (by rw [Heap.size_push]; omega) hge
    exact wpAny_bind (wpAny_builtinsFor g' b1 b2 (x' _ _ b3 b4) b5 b6 b7 (wpAny_bind (wpAny_nsGet g' (wpAny_bind (wpAny_pure (wpAny_newObj_type (h c' _ h' tk x' l' hlt hrec htb.2) (by size_fits)))))))
theorem lam_hit {cv : Value} (hcl : closureFor scope env = pure clos) (hge0 : env.globals = mainGlobals) (hg : s.heap.Ns mainGlobals mg) (hcode : env.code = .ref c) (C : PySem.W.CodeHd s.heap c P) (hP : s.heap.get? P = some (PySem.W.tabObj ps)) (ht : TriplesOk ps.toList)
    (hf : codeAmong pos ps.toList = some cv) (hb : s.heap.BuiltinsAt mg P)
    (h : ∀ (ctv : Value) (h' : Heap) (tk : Tok), (∀ b o, s.heap.get? b = some o → h'.get? b = some o) → s.heap.objs.size ≤ h'.objs.size →
      Q (.ref h'.objs.size) { s with heap := h'.push { cls := .type "function", data := .func (lfn qual params body scope clos dV ((mg "__name__").getD .none) cv ctv) }, toks := tk }) :
    wpAny M A (makeTail "<lambda>" qual params (.expr body) scope env dV .none none pos fl) Q E s := by
  obtain ⟨bm, ob, b1, b2, _, b3, b4, b5, b6, b7⟩ := hb
  unfold makeTail
  rw [hcl, hge0]; refine wpAny_bind (wpAny_pure ?_)
  cases clos with
  | nil =>
    simp only [List.isEmpty_nil, if_true]
    exact wpAny_bind (wpAny_pure (wpAny_bind (wpAny_functionCode_hit hcode (C.code hP ht) hf (wpAny_bind (wpAny_builtinsFor hg b1 b2 b4 b5 b6 b7 (wpAny_bind (wpAny_nsGet hg (wpAny_bind (wpAny_pure (wpAny_newObj_type (h .none s.heap s.toks (fun _ _ e => e) (Nat.le_refl _)) (by size_fits)))))))))))
  | cons q r =>
    have up : ∀ {oT : Obj} {b : Addr} {o : Obj}, s.heap.get? b = some o → (s.heap.push oT).get? b = some o := fun e => Heap.get?_push_of_some _ e
    have sz : ∀ oT : Obj, s.heap.objs.size ≤ (s.heap.push oT).objs.size := fun oT => by rw [Heap.size_push]; omega
    simp only [List.isEmpty_cons, Bool.false_eq_true, if_false]
    exact wpAny_bind (wpAny_newTextTuple (wpAny_bind (wpAny_functionCode_hit hcode ((C.keeps fun b o e => up e).code (up hP) ht) hf (wpAny_bind (wpAny_builtinsFor (hg.push _) b1 b2 (up b4) b5 b6 b7 (wpAny_bind (wpAny_nsGet (hg.push _) (wpAny_bind (wpAny_pure (wpAny_newObj_type (h _ _ s.toks (fun b o e => up e) (sz _)) (by size_fits)))))))))))
end
/-- the function's object, told as it stands -/
def LamO (f : Addr) (o : Obj) : HO := .ext fun h => h.get? f = some o
theorem ok_lamO {P : Program} {w : World} {H : Hp} {h : Heap} {f : Addr} {o : Obj} (e : h.get? f = some o) : ObjOk P w H h f (LamO f o) := ⟨e, ⟨o, e⟩, fun h1 h2 q k => k _ q⟩
theorem lamO_tbl {f : Addr} {o : Obj} (ps : Array Value) : LamO f o ≠ .tbl ps := fun z => by unfold LamO at z; cases z
section
variable {X : Cx} {pins : List (Addr × Obj)} {σ : L2.St} {H : Hp} {s : Shared}
theorem lam_core {T : List (Addr × Str)} {c P : Addr} {params : Arguments} {body : Expr} {scope : Scope} {pos : Pos} {dV : Value} {fl : Nat} {E : Value → Shared → Prop} {Q : Value → Shared → Prop} (I : Inv X pins σ H s) (TB : LamX.TabB X.base X.mg c P) (hcode : X.env.code = .ref c)
    (hm : (P, X.env.qual ++ "<lambda>") ∈ T) (hu : ∀ p ∈ T, p.1 = P → p.2 = X.env.qual ++ "<lambda>") (hT : LamX.Tabs T H) (hfree : ∀ y ∈ scope.names, y.2 = .free → ∃ c, X.env.cells.lookup y.1 = some c)
    (h : ∀ (f c' : Addr) (pm ctv : Value) (H1 : Hp) (s' : Shared), Inv X pins σ H1 s' → LamX.ExtN H H1 → LamX.Tabs T H1 → H f = none →
      H1 f = some (LamO f (lob (X.env.qual ++ "<lambda>") params body scope (cloFrom X.env.cells scope.names []) dV pm c' ctv)) → H1 c' = some (LamX.CodeO c' (X.env.qual ++ "<lambda>")) → Q (.ref f) s') :
    wpAny (model X.prog X.w) X.A (makeTail "<lambda>" (X.env.qual ++ "<lambda>") params (.expr body) scope X.env dV .none none pos fl) Q E s := by
  obtain ⟨ps, hP, ht, ha⟩ := hT _ hm
  have bP : s.heap.BuiltinsAt X.mg P := TB.bm.keeps I.bk
  have hP' : s.heap.get? P = some { cls := .none, data := .fields ps } := I.hok P _ hP
  cases hc : codeAmong pos ps.toList with
  | none =>
    refine lam_new (mg := X.mg) (c := c) (P := P) (ps := ps) (closure_ok hfree) I.ok.glob (I.mod.glob.keeps I.bk) hcode (TB.code.keeps I.bk) hP' ht hc TB.gP bP fun c' ctv h' tk hx hge hlt hrec htb => ?_
    obtain ⟨c2, oc, vs, t, e2, hoc, hd, hv⟩ := hrec
    cases e2
    have nC : H c' = none := I.hok.fresh hge
    have hsz : s.heap.objs.size ≤ h'.objs.size := Nat.le_trans hge (Nat.le_of_lt hlt)
    have I0 := LamX.inv_table (t' := tk) (more := #[rawInt pos.line, rawInt pos.col, .ref c']) (h' := h') I hP (fun b o hb e => hx b o hb e) htb hge ⟨oc, vs, t, hoc, hd, hv⟩
    have nF := I0.hok.fresh (Nat.le_refl h'.objs.size)
    have I1 := I0.laid (a := h'.objs.size) (t' := tk) (h' := h'.push (lob (X.env.qual ++ "<lambda>") params body scope (cloFrom X.env.cells scope.names []) dV ((X.mg "__name__").getD .none) c' ctv)) (fun b o e => Heap.get?_push_of_some _ e) (Nat.le_refl _) (ok_lamO (Heap.get?_push_size _ rfl))
    have hE : LamX.ExtN H (upd (upd H P (.tbl (ps ++ #[rawInt pos.line, rawInt pos.col, .ref c']))) c' (LamX.CodeO c' (X.env.qual ++ "<lambda>"))) := fun b o e n => by
      rw [upd_ne (ne_of_none e nC), upd_ne (fun z => n ps (Option.some.inj (e.symm.trans (by rw [z]; exact hP)))), e]
    have eL : (ps ++ #[rawInt pos.line, rawInt pos.col, .ref c']).toList = ps.toList ++ [rawInt pos.line, rawInt pos.col, .ref c'] := by simp
    have tb : LamX.Tabs T (upd (upd H P (.tbl (ps ++ #[rawInt pos.line, rawInt pos.col, .ref c']))) c' (LamX.CodeO c' (X.env.qual ++ "<lambda>"))) := fun p hp => by
      by_cases hb : p.1 = P
      · rw [hu p hp hb, hb]
        refine ⟨_, by rw [upd_ne (ne_of_none hP nC), upd_same], by rw [eL]; exact PySem.TriplesOk_snoc _ _ _ _ ht, fun p' cv hcv => ?_⟩
        rw [eL] at hcv; rcases LamX.among_app _ ht hcv with z | z
        · obtain ⟨c0, e1, e2⟩ := ha p' cv z; exact ⟨c0, e1, hE _ _ e2 LamX.codeO_ne⟩
        · exact ⟨c', z, upd_same⟩
      · obtain ⟨ps', a1, a2, a3⟩ := hT p hp; refine ⟨ps', by rw [upd_ne (ne_of_none a1 nC), upd_ne hb, a1], a2, fun p' cv hcv => ?_⟩
        obtain ⟨c0, e1, e2⟩ := a3 p' cv hcv; exact ⟨c0, e1, hE _ _ e2 LamX.codeO_ne⟩
    exact h _ c' _ ctv _ _ I1 (hE.trans (.of (same_upd nF))) (tb.ext (same_upd nF)) (I.hok.fresh hsz) upd_same (same_upd nF _ _ upd_same)
  | some cv =>
    obtain ⟨c', e, hco⟩ := ha pos cv hc
    subst e
    refine lam_hit (mg := X.mg) (c := c) (P := P) (ps := ps) (closure_ok hfree) I.ok.glob (I.mod.glob.keeps I.bk) hcode (TB.code.keeps I.bk) hP' ht hc bP fun ctv h' tk hx hsz => ?_
    have I0 : Inv X pins σ H { s with heap := h', toks := tk } := I.kept hx
    have nF := I0.hok.fresh (Nat.le_refl h'.objs.size)
    have I1 := I0.laid (a := h'.objs.size) (t' := tk) (h' := h'.push (lob (X.env.qual ++ "<lambda>") params body scope (cloFrom X.env.cells scope.names []) dV ((X.mg "__name__").getD .none) c' ctv)) (fun b o e => Heap.get?_push_of_some _ e) (Nat.le_refl _) (ok_lamO (Heap.get?_push_size _ rfl))
    exact h _ c' _ ctv _ _ I1 (.of (same_upd nF)) (hT.ext (same_upd nF)) (I.hok.fresh hsz) upd_same (same_upd nF _ _ hco)
end
/-- the names of a lambda: captured ones, globals, parameters that are no names of the maker -/
structure LamS2 (N : List Str) (sc scope : Scope) : Prop where
  kind : scope.kind = .function
  co : scope.isCoroutine = false
  gen : scope.isGenerator = false
  own : ∀ y ∈ scope.names, y.2 ≠ .cell ∧ (y.2 = .local → y.1 ∉ N)
  free : ∀ y ∈ scope.names, y.2 = .free → sc.names.lookup y.1 = some .cell ∨ sc.names.lookup y.1 = some .free
def lamSB2 (N : List Str) (sc scope : Scope) : Bool :=
  decide (scope.kind = .function) && !scope.isCoroutine && !scope.isGenerator && scope.names.all fun y => !decide (y.2 = .cell) && (!decide (y.2 = .local) || !N.contains y.1) && (!decide (y.2 = .free) || decide (sc.names.lookup y.1 = some .cell) || decide (sc.names.lookup y.1 = some .free))
theorem lamS2_by {N : List Str} {sc scope : Scope} (h : lamSB2 N sc scope = true) : LamS2 N sc scope := by
  unfold lamSB2 at h
  simp only [Bool.and_eq_true, Bool.or_eq_true, Bool.not_eq_true', decide_eq_true_eq, decide_eq_false_iff_not, List.all_eq_true] at h
  obtain ⟨⟨⟨h1, h2⟩, h3⟩, h4⟩ := h
  refine ⟨h1, h2, h3, fun y hy => ⟨(h4 y hy).1.1, fun e => ?_⟩, fun y hy e => ?_⟩
  · rcases (h4 y hy).1.2 with z | z
    · exact absurd e z
    · intro m
      rw [List.contains_iff_mem.mpr m] at z
      cases z
  · rcases (h4 y hy).2 with (z | z) | z
    · exact absurd e z
    · exact .inl z
    · exact .inr z
theorem LamS2.has {X : Cx} {N : List Str} {scope : Scope} (L : LamS2 N X.env.scope scope) (ok : X.Ok) : ∀ y ∈ scope.names, y.2 = .free → ∃ c, X.env.cells.lookup y.1 = some c := fun y hy e =>
  (L.free y hy e).elim (fun k => ok.has _ (.inl k)) fun k => ok.has _ (.inr k)
/-- such a lambda stands at f -/
def LamAt (X : Cx) (H : Hp) (f : Addr) (dn : Bool) (params : Arguments) (body : Expr) (scope : Scope) : Prop := ∃ (pm : Value) (c' : Addr) (ctv dV : Value),
  H f = some (LamO f (lob (X.env.qual ++ "<lambda>") params body scope (cloFrom X.env.cells scope.names []) dV pm c' ctv)) ∧ H c' = some (LamX.CodeO c' (X.env.qual ++ "<lambda>")) ∧
    match dn with
    | false => dV = .none
    | true => ∃ dt, dV = .ref dt ∧ H dt = some (.tup [.int 0])
theorem LamAt.same {X : Cx} {H H' : Hp} {f : Addr} {dn : Bool} {params : Arguments} {body : Expr} {scope : Scope} (h : LamAt X H f dn params body scope) (k : ∀ b o, H b = some o → (∀ xs, o ≠ .lst xs) → (∀ ps, o ≠ .tbl ps) → H' b = some o) : LamAt X H' f dn params body scope := by
  obtain ⟨pm, c', ctv, dV, h1, h2, h3⟩ := h
  refine ⟨pm, c', ctv, dV, k _ _ h1 (fun xs z => by unfold LamO at z; cases z) lamO_tbl, k _ _ h2 (fun xs z => by unfold LamX.CodeO at z; cases z) LamX.codeO_ne, ?_⟩
  cases dn with
  | false => exact h3
  | true =>
    obtain ⟨dt, e, h3⟩ := h3
    exact ⟨dt, e, k _ _ h3 (fun xs z => by cases z) fun ps z => by cases z⟩
def gLam (X : Cx) (T : List (Addr × Str)) (dn : Bool) (params : Arguments) (body : Expr) (scope : Scope) : TE := fun _ H Q => LamX.Tabs T H ∧ ∀ H1 f, LamX.ExtN H H1 → LamX.Tabs T H1 → H f = none → LamAt X H1 f dn params body scope → Q (.ref f) H1
section
variable {X : Cx} {T : List (Addr × Str)} {c P : Addr} {params : Arguments} {body e0 : Expr} {scope : Scope} {pos : Pos}
theorem pe_lam0 (TB : LamX.TabB X.base X.mg c P) (hcode : X.env.code = .ref c) (hm : (P, X.env.qual ++ "<lambda>") ∈ T) (hu : ∀ p ∈ T, p.1 = P → p.2 = X.env.qual ++ "<lambda>") (L : LamS2 X.N X.env.scope scope) (hdef : defaultsOf params X.env = ([], []) := by rfl) :
    PE X (.Lambda params body scope pos) (gLam X T false params body scope) := by
  refine ⟨fun pins s σ H Q I h => PySem.W.kla_eval hdef ?_⟩
  obtain ⟨hT, h⟩ := h
  rw [makeFunction_eq]; simp only [List.zip_nil_right, List.filterMap_nil, List.isEmpty_nil, if_true, pure_bind]
  exact lam_core I TB hcode hm hu hT (L.has I.ok) fun f c' pm ctv H1 s' I1 eN T1 nf hf hc => ⟨.ref f, H1, I1, rfl, h H1 f eN T1 nf ⟨pm, c', ctv, .none, hf, hc, rfl⟩⟩
theorem pe_lam1 {j : Nat} {p0 : Pos} (TB : LamX.TabB X.base X.mg c P) (hcode : X.env.code = .ref c) (hm : (P, X.env.qual ++ "<lambda>") ∈ T) (hu : ∀ p ∈ T, p.1 = P → p.2 = X.env.qual ++ "<lambda>") (L : LamS2 X.N X.env.scope scope)
    (hdef : defaultsOf params X.env = ([eval (.Constant (.int 0) j p0) X.env], []) := by rfl) : PE X (.Lambda params body scope pos) (gLam X T true params body scope) := by
  refine ⟨fun pins s σ H Q I h => ?_⟩
  obtain ⟨hT, h⟩ := h
  rw [arm_eval_Lambda, hdef]
  refine wpAny_bind (wpAny_evalAll_cons (thn ((pe_int (X := X)).run pins s σ H (fun v H1 => v = .int 0 ∧ H1 = H) I ⟨rfl, rfl⟩) fun u s1 ⟨v, H1, I1, r1, ev, eH⟩ => wpAny_evalAll_nil (wpAny_bind (wpAny_holding (wpAny_pure ?_)))))
  subst ev eH
  rw [makeFunction_eq]; simp only [List.zip_nil_right, List.filterMap_nil, List.isEmpty_nil, List.isEmpty_cons, Bool.false_eq_true, if_false, if_true, pure_bind]
  have nD := I1.hok.fresh (Nat.le_refl s1.heap.objs.size)
  have I2 := I1.laid (a := s1.heap.objs.size) (t' := s1.toks) (o := .tup [.int 0]) (h' := s1.heap.push { cls := .type "tuple", data := .seq [u].toArray }) (fun b o e => Heap.get?_push_of_some _ e) (Nat.le_refl _) ⟨by show 1 ≤ sizeLine; decide, [u], .cons r1 .nil, _, Heap.get?_push_size _ rfl, rfl, _, rfl⟩
  refine wpAny_bind (wpAny_newTextTuple (lam_core I2 TB hcode hm hu (hT.ext (same_upd nD)) (L.has I.ok) fun f c' pm ctv H3 s' I3 eN T1 nf hf hc => ⟨.ref f, H3, I3, rfl, h H3 f ((LamX.ExtN.of (same_upd nD)).trans eN) T1 ((same_upd nD).free nf) ⟨pm, c', ctv, _, hf, hc, _, rfl, eN _ _ upd_same fun ps z => by cases z⟩⟩))
end
end Pk

namespace Pk
open PySem PySem.Spec PyProof.Rows L2
/-! ### a lambda called -/
section
variable {X : Cx} {σ : L2.St} {HZ : Hp} {s1 : Shared}
theorem lam_in {A : Around} {outer : List Env} {E : XK} {scope : Scope} {f c' : Addr} {h₁ : Heap} {tk : Nat} {binds : List (Str × Value)} (ok : X.Ok) (hl : σ.length = X.N.length) (L : LamS2 X.N X.env.scope scope) (e0 : Env0 X.prog X.w X.K X.mg X.base A outer s1 HZ) (hd : A.handled = none)
    (hc : ∀ y c, X.env.cells.lookup y = some c → HZ c = none ∧ ∃ v, s1.heap.IsCell c v)
    (hv : ∀ (i : Nat) y v, X.N[i]? = some y → σ[i]? = some (some v) → (X.env.scope.names.lookup y = some .cell ∨ X.env.scope.names.lookup y = some .free) → ∃ u c, RelV v u ∧ X.env.cells.lookup y = some c ∧ s1.heap.IsCell c (some u))
    (hns : h₁.Ns s1.heap.objs.size fun y => binds.reverse.lookup y) (kp : ∀ b o, s1.heap.get? b = some o → h₁.get? b = some o) :
    Inv (LamX.lamCx X A outer s1 HZ E scope f c') [] σ HZ { s1 with heap := h₁, toks := tk } := by
  have hfree := L.has ok
  have cm : ∀ {y c}, (cloFrom X.env.cells scope.names []).lookup y = some c → X.env.cells.lookup y = some c := fun {y c} e => by
    rcases cloFrom_mem (PySem.mem_of_lookup e) with hm | ⟨h1, h2⟩
    · cases hm
    · obtain ⟨c1, hc1⟩ := hfree _ h1 rfl
      have hc1 : X.env.cells.lookup y = some c1 := hc1
      have e2 : c = c1 := by rw [h2, hc1] <;> rfl
      rw [e2, hc1]
  have look : ∀ {y}, scope.names.lookup y = some .free → ∃ c, (cloFrom X.env.cells scope.names []).lookup y = some c := fun {y} hl => mem_lookup (cloFrom_has (cells := X.env.cells) (acc := []) (PySem.mem_of_lookup hl))
  have up : ∀ {c : Addr} {v : Option Value}, s1.heap.IsCell c v → h₁.IsCell c v := fun {c v} ⟨o, ho, q⟩ => ⟨o, kp _ _ ho, q⟩
  have noA : ∀ b : Addr, b ∉ (LamX.lamCx X A outer s1 HZ E scope f c').ex := fun b z => absurd (show b ∈ ([] : List Addr) from z) (by simp)
  refine ⟨⟨e0.mod, L.kind, rfl, rfl, Nat.le_refl _, fun y z c e1 e2 => ok.inj y z c (cm e1) (cm e2), fun y hy => ?_, fun y c z _ => (by cases (show false = true from z)), fun _ => hd, Around.frames_deeper e0.frames, .inr ⟨rfl, rfl⟩,
      fun b z => absurd z (noA b), e0.bs, e0.bsz, fun b _ _ => noA b, fun b z => absurd z (noA b), e0.funs, e0.frf⟩,
    rfl, e0.bare, Un.kept kp, ⟨_, hns, fun i y v e1 e2 e3 => ?_⟩, fun y c e => ?_, e0.hok.fresh (Nat.le_refl _), fun y c e => (hc y c (cm e)).1, fun q hq => absurd (show q ∈ ([] : List (Addr × Obj)) ++ [] from hq) (by simp), e0.hok.kept kp, hl⟩
  · rcases (show scope.names.lookup y = some .cell ∨ scope.names.lookup y = some .free from hy) with hy | hy
    · exact absurd rfl (L.own _ (PySem.mem_of_lookup hy)).1
    · exact look hy
  · rcases (show Vis scope y from e3) with k | k | k
    · exact absurd (List.mem_of_getElem? e1) ((L.own _ (PySem.mem_of_lookup k)).2 rfl)
    · exact absurd rfl (L.own _ (PySem.mem_of_lookup k)).1
    · obtain ⟨u, c, r, q1, q2⟩ := hv i y v e1 e2 (L.free _ (PySem.mem_of_lookup k) rfl)
      obtain ⟨c2, h2⟩ := look k
      have q3 := cm h2
      rw [q1] at q3
      cases q3
      exact ⟨u, r, .inr ⟨.inr k, c, h2, up q2⟩⟩
  · obtain ⟨v, z⟩ := (hc y c (cm e)).2
    exact ⟨v, up z⟩
/-- what a lambda's parameters bind -/
def LamB (dn : Bool) (params : Arguments) (body : Expr) (scope : Scope) : Prop := match dn with
  | false => ∀ (q : Str) (cl : List (Str × Addr)) (pm cv ctv : Value), bindArgs (lfn q params body scope cl .none pm cv ctv) ⟨[], []⟩ = pure []
  | true => ∃ y, scope.names.lookup y = some .local ∧ ∀ (q : Str) (cl : List (Str × Addr)) (pm cv ctv : Value) (dt : Addr), ∃ k, bindArgs (lfn q params body scope cl (.ref dt) pm cv ctv) ⟨[], []⟩ = seqItems? (.ref dt) >>= k ∧ ∀ u, k (some #[u]) = pure [(y, u)]
/-- all that stands while the lambda at f may be called: F tells the cells -/
def LamZ (X : Cx) (F : Addr → Option Obj) (f : Addr) (dn : Bool) (params : Arguments) (body : Expr) (scope : Scope) (H : Hp) : Prop := LamAt X H f dn params body scope ∧ ∀ b o, F b = some o → H b = some (.frz o uT)
theorem lamV_of {F : Addr → Option Obj} {k : Nat} {f : Addr} {dn : Bool} {params : Arguments} {body : Expr} {scope : Scope} {t : XK → TE} (ok : X.Ok) (hl : σ.length = X.N.length) (L : LamS2 X.N X.env.scope scope) (LB : LamB dn params body scope)
    (hF : ∀ y c, X.env.cells.lookup y = some c → ∃ o v, F c = some o ∧ o.data = .cell v)
    (hv : ∀ (i : Nat) y v, X.N[i]? = some y → σ[i]? = some (some v) → (X.env.scope.names.lookup y = some .cell ∨ X.env.scope.names.lookup y = some .free) → ∃ u c o, RelV v u ∧ X.env.cells.lookup y = some c ∧ F c = some o ∧ o.data = .cell (some u))
    (hbody : ∀ (A : Around) (outer : List Env) (s : Shared) (H : Hp) (E : XK) (f c' : Addr), Room k (A.deeper (LamX.lamEnv X scope s.heap.objs.size f c')) → PE (LamX.lamCx X A outer s H E scope f c') body (t E)) :
    LamV X.prog X.w X.K X.mg X.base (k + 1) f (LamZ X F f dn params body scope) (fun E H Q => t (fun c d H' => (∀ b o, F b = some o → H' b = none) → E c d (Fz F H')) σ (Uf F H) (fun v H' => (∀ b o, F b = some o → H' b = none) → Q v (Fz F H'))) := by
  refine ⟨fun H H' s z => ⟨z.1.same fun b o e _ _ => s b o e, fun b o e => s _ _ (z.2 b o e)⟩, fun H h hok z => ?_, fun A outer s H Q E hr e0 z q => ?_⟩
  · obtain ⟨⟨pm, c', ctv, dV, h1, _⟩, _⟩ := z
    have x : h.get? f = some _ := (hok f _ h1).1
    exact ⟨_, _, _, _, x⟩
  · obtain ⟨⟨pm, c', ctv, dV, h1, h2, h3⟩, hZ⟩ := z
    have of1 : s.heap.get? f = some _ := (e0.hok f _ h1).1
    obtain ⟨⟨oc, vs, tq, hoc, hdc, hvc⟩, _, _⟩ := e0.hok c' _ h2
    have get : ∀ b o, F b = some o → s.heap.get? b = some o := fun b o e => (e0.hok b _ (hZ b o e)).1
    have hokU : HOk X.prog X.w (Uf F H) s.heap := hok_uf e0.hok fun b o e => .inl (hZ b o e)
    have nU : ∀ b, H b = none → Uf F H b = none := fun b e => by
      cases f : F b with
      | none => rw [uf_out f]; exact e
      | some o => exact uf_in f
    have eU : Env0 X.prog X.w X.K X.mg X.base A outer s (Uf F H) := ⟨e0.frames, e0.mod, fun b o e => ⟨(e0.bs b o e).1, nU b (e0.bs b o e).2⟩, e0.bsz, e0.funs, fun b hb => nU b (e0.frf b hb), hokU, e0.bare⟩
    have fin : ∀ (binds : List (Str × Value)), (∀ y ∈ binds, scope.names.lookup y.1 = some .local) → wpAny (model X.prog X.w) A.in1 (newFunctionEnv scope mainGlobals (cloFrom X.env.cells scope.names []) binds ((X.env.qual ++ "<lambda>") ++ ".<locals>.") (some f) (.ref c') none builtinsNs)
        (fun env s₂ => s₂.heap.NoLimit ∧ codeAny (model X.prog X.w) A (.expr body env) (CR (L2.CX X.prog X.w) outer X.prog X.w (Uf F H) s (fun v H' => (∀ b o, F b = some o → H' b = none) → Q v (Fz F H')) (fun c d H' => (∀ b o, F b = some o → H' b = none) → E c d (Fz F H'))) s₂) (fun e s' => CR (L2.CX X.prog X.w) outer X.prog X.w (Uf F H) s (fun v H' => (∀ b o, F b = some o → H' b = none) → Q v (Fz F H')) (fun c d H' => (∀ b o, F b = some o → H' b = none) → E c d (Fz F H')) (.error e) s') s := fun binds hb => by
      refine wpAny_newFunctionEnv (fun y hy => (L.own y hy).1) hb (fun h₁ hns hsb => ⟨(e0.mod.nolimit.keeps fun b o e => (e0.bs b o e).1).fresh _ hsb, ?_⟩) L.kind
      show codeAny _ _ (.expr body (LamX.lamEnv X scope s.heap.objs.size f c')) _ _
      have kp : ∀ b o, s.heap.get? b = some o → h₁.get? b = some o := fun b o e => hsb.extBut b o (Nat.ne_of_lt (Heap.lt_size e)) (Heap.get?_push_of_some _ e)
      have J := lam_in (tk := s.toks + binds.length) (E := fun c d H' => (∀ b o, F b = some o → H' b = none) → E c d (Fz F H')) (f := f) (c' := c') ok hl L eU hr.hd (fun y c e => by
          obtain ⟨o, v, e1, e2⟩ := hF y c e
          exact ⟨uf_in e1, v, o, get _ _ e1, e2⟩) (fun i y v e1 e2 e3 => by
          obtain ⟨u, c, o, r, q1, q2, q3⟩ := hv i y v e1 e2 e3
          exact ⟨u, c, r, q1, o, get _ _ q2, q3⟩) hns kp
      refine PySem.W.kla_codeExpr (wpAny_mono ((hbody A outer s (Uf F H) _ f c' (hr.deeper _)).run [] _ _ (Uf F H) _ J q) (fun v s' hq => ?_) fun e s' hq => hq)
      obtain ⟨w', H', J', rv, q'⟩ := hq
      exact ⟨w', H', J'.os, J'.bare, J'.base, J'.hok, rv, q'⟩
    refine codeAny_mono (?_ : codeAny _ _ _ (CR (L2.CX X.prog X.w) outer X.prog X.w (Uf F H) s (fun v H' => (∀ b o, F b = some o → H' b = none) → Q v (Fz F H')) (fun c d H' => (∀ b o, F b = some o → H' b = none) → E c d (Fz F H'))) s) fun r s' hq => cr_freeze hZ e0.frf e0.hok hq
    refine PySem.W.kla_callFunE hr.depth of1 rfl L.co L.gen rfl ⟨c', oc, vs, tq, rfl, hoc, hdc, hvc⟩ ?_
    cases dn with
    | false =>
      obtain rfl : dV = .none := h3
      rw [LB]
      exact wpAny_pure (fin [] fun y hy => absurd hy (by simp))
    | true =>
      obtain ⟨dt, rfl, h3⟩ := h3
      obtain ⟨y, hy, hb⟩ := LB
      obtain ⟨kk, e1, e2⟩ := hb (X.env.qual ++ "<lambda>") (cloFrom X.env.cells scope.names []) pm (.ref c') ctv dt
      obtain ⟨_, its, rv, od, hod, _, n, hdd⟩ := e0.hok dt _ h3
      obtain ⟨u, rfl, _⟩ := vals1 rv
      rw [e1]
      refine wpAny_bind (wpAny_seqItems hod hdd ?_)
      rw [e2]
      exact wpAny_pure (fin [(y, u)] fun z hz => by rw [List.mem_singleton.mp hz]; exact hy)
end
end Pk

namespace Pk
open PySem PySem.Spec PyProof.Rows L2
/-- F tells the cells of X's frame, as they stand with the slots σ; H does not track them -/
structure CellsF (X : Cx) (σ : L2.St) (H : Hp) (F : Addr → Option Obj) : Prop where
  ok : X.Ok
  len : σ.length = X.N.length
  no : ∀ b o, F b = some o → H b = none
  cell : ∀ y c, X.env.cells.lookup y = some c → ∃ o v, F c = some o ∧ o.data = .cell v
  val : ∀ (i : Nat) y v, X.N[i]? = some y → σ[i]? = some (some v) → (X.env.scope.names.lookup y = some .cell ∨ X.env.scope.names.lookup y = some .free) → ∃ u c o, RelV v u ∧ X.env.cells.lookup y = some c ∧ F c = some o ∧ o.data = .cell (some u)
open Classical in
noncomputable def cellF (X : Cx) (h : Heap) : Addr → Option Obj := fun b => if ∃ x, X.env.cells.lookup x = some b then h.get? b else none
theorem cellF_in {X : Cx} {h : Heap} {x : Str} {c : Addr} (e : X.env.cells.lookup x = some c) : cellF X h c = h.get? c := by
  unfold cellF
  rw [if_pos ⟨x, e⟩]
theorem of_cellF {X : Cx} {h : Heap} {b : Addr} {o : Obj} (e : cellF X h b = some o) : (∃ x, X.env.cells.lookup x = some b) ∧ h.get? b = some o := by
  unfold cellF at e
  split at e
  · rename_i z; exact ⟨z, e⟩
  · cases e
section
variable {X : Cx} {pins : List (Addr × Obj)} {σ : L2.St} {H : Hp} {s : Shared}
theorem cellsF_of (I : Inv X pins σ H s) : CellsF X σ H (cellF X s.heap) := by
  refine ⟨I.ok, I.len, fun b o e => ?_, fun y c e => ?_, fun i y v e1 e2 e3 => ?_⟩
  · obtain ⟨⟨x, e⟩, _⟩ := of_cellF e
    exact I.freeC x b e
  · obtain ⟨v, o, ho, hd⟩ := I.cell y c e
    exact ⟨o, v, by rw [cellF_in e]; exact ho, hd⟩
  · obtain ⟨m, hn, hl⟩ := I.loc
    obtain ⟨u, r, k⟩ := hl i y v e1 e2 (.inr e3)
    rcases k with ⟨k, _⟩ | ⟨_, c, e, o, ho, hd⟩
    · have k : X.env.scope.names.lookup y = some .local := k
      rcases e3 with e3 | e3 <;> rw [k] at e3 <;> cases e3
    · exact ⟨u, c, o, r, e, by rw [cellF_in e]; exact ho, hd⟩
theorem cellF_nofr (I : Inv X pins σ H s) (hfn : ∀ x, X.fn x = true) : ∀ b ∈ frs X.stack, cellF X s.heap b = none := fun b hb => by
  cases f : cellF X s.heap b with
  | none => rfl
  | some o =>
    exfalso
    obtain ⟨⟨x, e⟩, _⟩ := of_cellF f
    rcases List.mem_cons.mp (I.stkSub b hb) with z | z
    · exact I.cne x b e z
    · obtain ⟨_, o', ho', _⟩ := I.ok.funs.mem z
      exact absurd (Heap.lt_size ho') (Nat.not_lt.mpr (I.ok.cab x b (hfn x) e))
theorem cellF_env0 (I : Inv X pins σ H s) (hfn : ∀ x, X.fn x = true) : Env0 X.prog X.w X.K X.mg X.base X.A X.stack s (Fz (cellF X s.heap) H) := by
  have e0 := I.env0
  refine ⟨e0.frames, e0.mod, fun b o e => ⟨(e0.bs b o e).1, fz_none (e0.bs b o e).2 ?_⟩, e0.bsz, e0.funs, fun b hb => fz_none (e0.frf b hb) (cellF_nofr I hfn b hb), hok_fz e0.hok fun b o e => (of_cellF e).2, e0.bare⟩
  cases f : cellF X s.heap b with
  | none => rfl
  | some o' =>
    exfalso
    obtain ⟨⟨x, e'⟩, _⟩ := of_cellF f
    have h1 := Heap.lt_size e
    have h2 := I.ok.cab x b (hfn x) e'
    exact absurd h1 (Nat.not_lt.mpr (Nat.le_trans I.ok.bsz h2))
end
section
variable {X : Cx} {k : Nat} {ps : List Str} {sp : Sp} {x : Str} {p pos : Pos} {e : Expr} {es : List Expr} {t : TA}
/-- a def called while the cells of this frame are frozen -/
theorem pe_calZ {R : L2.St → List V → Hp → VK → Prop} (C : Cal X.prog X.w X.K X.mg X.base CX0 k x ps sp) (hr : Room k X.A) (hfn : ∀ x, X.fn x = true) (ha : PA X (e :: es) t)
    (hR : ∀ σ vs H1 Q, R σ vs H1 Q → ∀ F, CellsF X σ H1 F → sp vs (Fz F H1) (fun v H' => (∀ b o, F b = some o → H' b = some (.frz o uT)) → Q v (Uf F H')) fun _ _ _ => False) (hg : Gl X x := by rfl) (hdb : (x == ("__debug__" : Str)) = false := by decide)
    (he : starEach (e :: es) X.env = (false, eval e X.env) :: starEach es X.env := by rfl) (hpl : (backTo pos (starEach es X.env)).any (·.1) = false := by rfl) : PE X (.Call (.Name x p) (e :: es) [] pos) (fun σ H Q => t σ H fun vs H1 => R σ vs H1 Q) := by
  obtain ⟨f, fd, hm, hk, hb, F⟩ := C.ex
  refine ⟨fun pins s σ H Q I h => ?_⟩
  refine wpAny_Call_Name_kw (ld_glob I hg hm ?_ hdb)
  refine PySem.W.callWith_K (h₀ := X.base) I.ok.mod.kin hk (thn (ha.run pos pins s σ H _ I h) fun us s1 ⟨vs, H1, I1, r, q⟩ => ⟨I1.kIn, ?_⟩) he hpl
  have q := hR _ _ _ _ q _ (cellsF_of I1)
  have hl : us.length = ps.length := by rw [← r.length]; exact F.len _ _ _ _ q
  have bb := hb s1 us I1.kIn (by rw [List.append_nil]; exact hl)
  rw [List.append_nil] at bb
  refine wpAny_call (codeAny_mono (F.run X.A X.stack s1 _ ⟨us, []⟩ us vs _ _ hr (cellF_env0 I1 hfn) bb r q) fun r' s' hq => ?_)
  cases r' with
  | error e => exact False.elim hq
  | ok fl =>
    cases fl with
    | ret u => exact I1.after (ce_thaw (fun b o e => ⟨(of_cellF e).2, (cellsF_of I1).no b o e⟩) (cellF_nofr I1 hfn) hq fun v H' a h => h a)
    | next => exact False.elim hq
    | brk => exact False.elim hq
    | cont => exact False.elim hq
end
/-! ### what _law_error_of and _law_all_raise promise -/
/-- a class of exceptions -/
structure Xk (K : PySem.W.Frag) (D : Addr) : Prop where
  ga : PySem.W.findIn K (.ref D) "__getattribute__" = some (some (.builtin "BaseException.__getattribute__"))
  gt : PySem.W.findIn K (.ref D) "__getattr__" = some none
  sb : PySem.W.subIn K (.ref D) (.type "BaseException") = some true
  sv : PySem.W.subIn K (.ref D) (.type "ValueError") = some true
  hd : PySem.W.hasDictIn K D = true
  cl : PySem.W.findIn K (.ref D) "__class__" = some (some (.builtin "object.__class__"))
  cg : PySem.W.specialIn K (.builtin "object.__class__") "__get__" = some (some (.builtin "getset_descriptor.__get__"))
  ct : PySem.W.takesIn K (.builtin "object.__class__") = some true
  mr : PySem.W.mroIn K D (.type "object") = some true
  ty : PySem.W.typeIn K (.ref D) = some (.type "type")
theorem Xk.exc {K : PySem.W.Frag} {D : Addr} (x : Xk K D) : ExcC K D := ⟨x.ga, x.gt, x.sb, x.hd, x.cl, x.cg, x.ct, x.mr⟩
theorem Xk.xf {K : PySem.W.Frag} {D : Addr} (x : Xk K D) : XfC K D := ⟨x.ga, x.gt, x.sb, x.hd⟩
theorem Xk.kitV {K : PySem.W.Frag} {D : Addr} (y : Xk K D) : PySem.W.kitOne K (.ref D) (.type "ValueError") = some true := by
  unfold PySem.W.kitOne
  rw [if_neg (by intro z; exact absurd (beq_iff_eq.mp z) (by intro z; cases z))]
  show (if PySem.W.kitMeta "ValueError" = true then PySem.W.subIn K (.ref D) (.type "ValueError") else none) = _
  rw [if_pos (by decide +kernel), y.sv]
/-- the attribute n of the exception is v -/
def Fld (K : PySem.W.Frag) (D : Addr) (d : Option Addr) (H : Hp) (n : Str) (v : V) : Prop := PySem.W.findIn K (.ref D) n = some none ∧ ∃ dd fs, d = some dd ∧ H dd = some (.xd fs) ∧ fs.lookup n = some v
theorem Fld.same {K : PySem.W.Frag} {D : Addr} {d : Option Addr} {H H' : Hp} {n : Str} {v : V} (h : Fld K D d H n v) (s : Same H H') : Fld K D d H' n v := by
  obtain ⟨h1, dd, fs, h2, h3, h4⟩ := h
  exact ⟨h1, dd, fs, h2, s _ _ h3, h4⟩
/-- what is told of such an exception: the name of its kind and its attributes -/
inductive ErrIs (K : PySem.W.Frag) (D : Addr) (d : Option Addr) (H : Hp) (nm : List Nat) : Nat → PyData → Prop
  | plain : (d = none ∨ ∃ dd fs, d = some dd ∧ H dd = some (.xd fs)) → ErrIs K D d H nm 0 (.tuple [.str (S nm), .int 0])
  | place (i : Int) : Fld K D d H "position" (.int i) → ErrIs K D d H nm 1 (.tuple [.str (S nm), .int i])
  | move (i : Int) (r : List Nat) : Fld K D d H "position" (.int i) → Fld K D d H "reason" (.str (S r)) → ErrIs K D d H nm 2 (.tuple [.str (S nm), .tuple [.int i, .str (S r)]])
  | line (i : Int) : Fld K D d H "line" (.int i) → ErrIs K D d H nm 3 (.tuple [.str (S nm), .int i])
theorem ErrIs.dict {K : PySem.W.Frag} {D : Addr} {d : Option Addr} {H : Hp} {nm : List Nat} {st : Nat} {e : PyData} (h : ErrIs K D d H nm st e) : d = none ∨ ∃ dd fs, d = some dd ∧ H dd = some (.xd fs) := by
  cases h with
  | plain h => exact h
  | place i h => obtain ⟨_, dd, fs, h2, h3, _⟩ := h; exact .inr ⟨dd, fs, h2, h3⟩
  | move i r h _ => obtain ⟨_, dd, fs, h2, h3, _⟩ := h; exact .inr ⟨dd, fs, h2, h3⟩
  | line i h => obtain ⟨_, dd, fs, h2, h3, _⟩ := h; exact .inr ⟨dd, fs, h2, h3⟩
theorem ErrIs.same {K : PySem.W.Frag} {D : Addr} {d : Option Addr} {H H' : Hp} {nm : List Nat} {st : Nat} {e : PyData} (h : ErrIs K D d H nm st e) (s : Same H H') : ErrIs K D d H' nm st e := by
  cases h with
  | plain h => exact .plain (h.elim .inl fun ⟨dd, fs, h2, h3⟩ => .inr ⟨dd, fs, h2, s _ _ h3⟩)
  | place i h => exact .place i (h.same s)
  | move i r h h2 => exact .move i r (h.same s) (h2.same s)
  | line i h => exact .line i (h.same s)
/-- the kinds: their classes, their names and how they are told -/
structure Kinds where
  cs : List Addr
  nm : List (List Nat × Nat)
/-- the class D is the j-th kind -/
def Kd2 (K : PySem.W.Frag) (ks : Kinds) (D : Addr) (j : Nat) : Prop := ∀ i C, ks.cs[i]? = some C → PySem.W.kitOne K (.ref D) (.ref C) = some (decide (i = j))
/-- such an exception is told as e -/
def ErrX (K : PySem.W.Frag) (ks : Kinds) (pe : Addr) (cls : Value) (d : Option Addr) (H : Hp) (e : PyData) : Prop := ∃ D j nm st, cls = .ref D ∧ Xk K D ∧ PySem.W.exmOne K (.ref D) (.ref pe) = some true ∧ Kd2 K ks D j ∧ ks.nm[j]? = some (nm, st) ∧ ErrIs K D d H nm st e
theorem ErrX.same {K : PySem.W.Frag} {ks : Kinds} {pe : Addr} {cls : Value} {d : Option Addr} {H H' : Hp} {e : PyData} (h : ErrX K ks pe cls d H e) (s : Same H H') : ErrX K ks pe cls d H' e := by
  obtain ⟨D, j, nm, st, h1, h2, h3, h4, h5, h6⟩ := h
  exact ⟨D, j, nm, st, h1, h2, h3, h4, h5, h6.same s⟩
def Err2 (K : PySem.W.Frag) (ks : Kinds) (pe : Addr) (Q : VK) : XK := fun cls d H => ∃ e, ErrX K ks pe cls d H e ∧ ∀ H' v, Same H H' → Dp K H' v e → Q v H'
def sp_errof (P : Program) (w : World) (mg : Str → Option Value) (base : Heap) (k : Nat) (ks : Kinds) (pe : Addr) (K : PySem.W.Frag) : Sp := fun vs H Q _ => ∃ f Z sp, vs = [.ref f] ∧ LamV P w K mg base k f Z sp ∧ Z H ∧ sp (Err2 K ks pe Q) H (fun _ H' => Q .non H')
def DEq (K : PySem.W.Frag) (v u : V) (H : Hp) : Prop := ∃ d e, Dp K H v d ∧ Dp K H u e ∧ SeqAt.shaped d = true ∧ SeqAt.shaped e = true ∧ PyData.eqv d e = true
def sp_allraise (P : Program) (w : World) (mg : Str → Option Value) (base : Heap) (k : Nat) (ks : Kinds) (pe : Addr) (K : PySem.W.Frag) : Sp := fun vs H Q _ => ∃ (l x : Addr) (fs : List Addr), vs = [.ref l, .ref x] ∧ SqL K H l (fs.map V.ref) ∧
  (∀ f ∈ fs, ∃ Z sp, LamV P w K mg base k f Z sp ∧ Z H ∧ ∀ (H' : Hp) (Q' N : VK), Same H H' → (∀ v H3, Same H' H3 → (∃ a, v = .ref a) → DEq K v (.ref x) H3 → Q' v H3) → sp (Err2 K ks pe Q') H' N) ∧ ∀ H', Same H H' → Q (.bl true) H'
/-! ### the same, seen by the maker of the lambdas -/
section
variable {X : Cx} {T : List (Addr × Str)} {c Pt : Addr} {k m : Nat} {ks : Kinds} {pe : Addr}
/-- a lambda of X: its reading -/
structure LamR (X : Cx) (k : Nat) (dn : Bool) (params : Arguments) (body : Expr) (scope : Scope) (t : XK → TE) : Prop where
  L : LamS2 X.N X.env.scope scope
  B : LamB dn params body scope
  body : ∀ (A : Around) (outer : List Env) (s : Shared) (H : Hp) (E : XK) (f c' : Addr), Room k (A.deeper (LamX.lamEnv X scope s.heap.objs.size f c')) → PE (LamX.lamCx X A outer s H E scope f c') body (t E)
/-- _law_error_of(a lambda): t its reading -/
def rErr (X : Cx) (dn : Bool) (params : Arguments) (body : Expr) (scope : Scope) (ks : Kinds) (pe : Addr) (t : XK → TE) : L2.St → List V → Hp → VK → Prop := fun σ vs H1 Q => (∃ f, vs = [.ref f] ∧ LamAt X H1 f dn params body scope) ∧ ∀ (W : XK) (N : VK),
  (∀ cls d H2 e, Same H1 H2 → ErrX X.K ks pe cls d H2 e → (∀ v H3, Same H1 H3 → Dp X.K H3 v e → Q v H3) → W cls d H2) → (∀ v H2, Same H1 H2 → (∀ H3, Same H1 H3 → Q .non H3) → N v H2) → ∀ H2, Same H1 H2 → t W σ H2 N
theorem dp_uf {K : PySem.W.Frag} {F : Addr → Option Obj} {H : Hp} (hF : ∀ b o, F b = some o → H b = some (.frz o uT)) : (∀ (d : PyData) (v : V), Dp K H v d → Dp K (Uf F H) v d) := by
  have out : ∀ b u, H b = some u → (∀ o, u ≠ .frz o uT) → F b = none := fun b u e n => by
    cases f : F b with
    | none => rfl
    | some o => rw [hF b o f] at e; exact (n o (Option.some.inj e).symm).elim
  have sL : ∀ {a xs}, SqL K H a xs → SqL K (Uf F H) a xs := fun {a xs} h => by
    rcases h with (h | ⟨o, h⟩) | h
    · exact .inl (.inl (by rw [uf_out (out _ _ h fun o z => by cases z)]; exact h))
    · exact .inl (.inr ⟨o, by rw [uf_out (out _ _ h fun o z => by unfold uT at z; cases z)]; exact h⟩)
    · exact .inr h
  have sT : ∀ {a xs}, SqT K H a xs → SqT K (Uf F H) a xs := fun {a xs} h => by
    rcases h with (h | ⟨o, h⟩) | h
    · exact .inl (.inl (by rw [uf_out (out _ _ h fun o z => by cases z)]; exact h))
    · exact .inl (.inr ⟨o, by rw [uf_out (out _ _ h fun o z => by unfold uT at z; cases z)]; exact h⟩)
    · exact .inr h
  intro d v h
  exact Dp.rec (motive_1 := fun v d _ => Dp K (Uf F H) v d) (motive_2 := fun vs ds _ => DpAll K (Uf F H) vs ds) .non (fun b => .bl b) (fun i => .int i) (fun x => .str x) (fun h _ ih => .lst (sL h) ih) (fun h _ ih => .tup (sT h) ih) .nil (fun _ _ i1 i2 => .cons i1 i2) h
theorem _root_.L2.Same.dp {K : PySem.W.Frag} {H H' : Hp} (s : Same H H') {d : PyData} {v : V} (h : Dp K H v d) : Dp K H' v d :=
  Dp.rec (motive_1 := fun v d _ => Dp K H' v d) (motive_2 := fun vs ds _ => DpAll K H' vs ds) .non (fun b => .bl b) (fun i => .int i) (fun x => .str x) (fun h _ ih => .lst (s.seq h) ih) (fun h _ ih => .tup (s.tup h) ih) .nil (fun _ _ i1 i2 => .cons i1 i2) h
theorem dp_ref {K : PySem.W.Frag} {D : Addr} {d : Option Addr} {H H' : Hp} {nm : List Nat} {st : Nat} {e : PyData} {v : V} (h : ErrIs K D d H nm st e) (q : Dp K H' v e) : ∃ a, v = .ref a := by
  cases h <;> (cases q; exact ⟨_, rfl⟩)
theorem pe_err2 {dn : Bool} {params : Arguments} {body : Expr} {scope : Scope} {t : XK → TE} {e : Expr} {ta : TA} {p pos : Pos} (C : Cal X.prog X.w X.K X.mg X.base CX0 m "_law_error_of" ["_law_call"] (sp_errof X.prog X.w X.mg X.base (k + 1) ks pe X.K)) (hr : Room m X.A) (hfn : ∀ x, X.fn x = true)
    (R : LamR X k dn params body scope t) (ha : PA X [e] ta) (hg : Gl X "_law_error_of" := by rfl) (he : starEach [e] X.env = (false, eval e X.env) :: starEach [] X.env := by rfl) (hpl : (backTo pos (starEach [] X.env)).any (·.1) = false := by rfl) :
    PE X (.Call (.Name "_law_error_of" p) [e] [] pos) (fun σ H Q => ta σ H fun vs H1 => rErr X dn params body scope ks pe t σ vs H1 Q) := by
  refine pe_calZ C hr hfn ha (fun σ vs H1 Q h F cf => ?_) hg (by decide) he hpl
  obtain ⟨⟨f, rfl, hf⟩, h⟩ := h
  have nfz : ∀ b o, F b = some o → Fz F H1 b = some (.frz o uT) := fun b o e => fz_at (cf.no b o e) e
  refine ⟨f, _, _, rfl, lamV_of cf.ok cf.len R.L R.B cf.cell cf.val R.body, ⟨hf.same fun b o e _ _ => fz_same _ _ e, nfz⟩, ?_⟩
  refine h _ _ (fun cls d H2 e s2 he q hn => ⟨e, he.same fz_same, fun H' v s' hv hF3 => ?_⟩) (fun v H2 s2 q _ _ => q _ (same_uf cf.no (s2.trans fz_same))) _ (same_uf cf.no fz_same)
  exact q v _ (same_uf cf.no ((s2.trans fz_same).trans s')) (dp_uf hF3 e v hv)
/-- _law_all_raise(calls, expected) -/
def rAll (X : Cx) (k : Nat) (ks : Kinds) (pe : Addr) : L2.St → List V → Hp → VK → Prop := fun σ vs H1 Q => ∃ (l x : Addr) (fs : List Addr) (ex : PyData), vs = [.ref l, .ref x] ∧ SqL X.K H1 l (fs.map V.ref) ∧ Dp X.K H1 (.ref x) ex ∧ SeqAt.shaped ex = true ∧
  (∀ f ∈ fs, ∃ dn params body scope t, LamR X k dn params body scope t ∧ LamAt X H1 f dn params body scope ∧ ∀ (W : XK) (N : VK) H2, Same H1 H2 → (∀ cls d H3 e, Same H2 H3 → ErrX X.K ks pe cls d H3 e → SeqAt.shaped e = true → PyData.eqv e ex = true → W cls d H3) → t W σ H2 N) ∧
  ∀ H2, Same H1 H2 → Q (.bl true) H2
theorem pe_all2 {e e2 : Expr} {ta : TA} {p pos : Pos} (C : Cal X.prog X.w X.K X.mg X.base CX0 m "_law_all_raise" ["_law_calls", "_law_expected"] (sp_allraise X.prog X.w X.mg X.base (k + 1) ks pe X.K)) (hr : Room m X.A) (hfn : ∀ x, X.fn x = true)
    (ha : PA X [e, e2] ta) (hg : Gl X "_law_all_raise" := by rfl) (he : starEach [e, e2] X.env = (false, eval e X.env) :: starEach [e2] X.env := by rfl) (hpl : (backTo pos (starEach [e2] X.env)).any (·.1) = false := by rfl) :
    PE X (.Call (.Name "_law_all_raise" p) [e, e2] [] pos) (fun σ H Q => ta σ H fun vs H1 => rAll X k ks pe σ vs H1 Q) := by
  refine pe_calZ C hr hfn ha (fun σ vs H1 Q h F cf => ?_) hg (by decide) he hpl
  obtain ⟨l, x, fs, ex, rfl, hl, hx, hsx, hf, hq⟩ := h
  have nfz : ∀ b o, F b = some o → Fz F H1 b = some (.frz o uT) := fun b o e => fz_at (cf.no b o e) e
  refine ⟨l, x, fs, rfl, fz_same.seq hl, fun f hm => ?_, fun H' s' hF3 => hq _ (same_uf cf.no (fz_same.trans s'))⟩
  obtain ⟨dn, params, body, scope, t, R, hA, ht⟩ := hf f hm
  refine ⟨_, _, lamV_of cf.ok cf.len R.L R.B cf.cell cf.val R.body, ⟨hA.same fun b o e _ _ => fz_same _ _ e, nfz⟩, fun H' Q' N s' hQ' => ?_⟩
  refine ht _ _ _ (same_uf cf.no (fz_same.trans s')) (fun cls d H3 e s3 he he1 he2 hn => ⟨e, he.same fz_same, fun H4 v s4 hv => ?_⟩)
  have back : Same H' (Fz F H3) := fun b u q => by
    cases f : F b with
    | none => exact fz_same _ _ (s3 b u (by rw [uf_out f]; exact q))
    | some o =>
      have z := s' _ _ (nfz b o f)
      rw [q] at z
      cases z
      exact fz_at (hn b o f) f
  obtain ⟨D, j, nm, st, _, _, _, _, _, h6⟩ := he
  exact hQ' v H4 (back.trans s4) (dp_ref h6 hv) ⟨e, ex, hv, ((fz_same.trans s').trans (back.trans s4)).dp hx, he1, hsx, he2⟩
end
end Pk

namespace Pk
open PySem PySem.Spec PyProof.Rows L2
section
variable {X : Cx} {K : PySem.W.Frag}
/-- as gAdd, tuples of any length (the empty one too) -/
def gAdd2 (K : PySem.W.Frag) : R2 := fun x y H Q => match x, y with
  | .int i, .int j => Q (.int (i + j)) H
  | .str a, .str b => (tl a).length + (tl b).length ≤ 1000000 ∧ Q (.str (S (tl a ++ tl b))) H
  | .ref a, .ref b => (∃ xs zs, H a = some (.lst xs) ∧ H b = some (.lst zs) ∧ xs.length + zs.length ≤ 1000000 ∧ ∀ p, H p = none → Q (.ref p) (upd H p (.lst (xs ++ zs)))) ∨
      (∃ xs ys, SqT K H a xs ∧ SqT K H b ys ∧ xs.length + ys.length ≤ 1000000 ∧ ∀ p H', Same H H' → SqT K H' p (xs ++ ys) → (H p = none ∨ p = a ∨ p = b) → Q (.ref p) H')
  | _, _ => False
theorem op_addG20 : OpR X (binaryOp .Add) (gAdd2 X.K) := by
  intro pins s σ H x y v u Q I rx ry h
  unfold gAdd2 at h
  split at h
  · exact op_add pins s σ H _ _ v u Q I rx ry ⟨_, _, rfl, rfl, h⟩
  · refine op_add_str pins s σ H _ _ v u Q I rx ry ⟨_, _, rfl, rfl, ?_, ?_⟩
    · rw [len_S, len_S]; exact Nat.le_trans h.1 line6
    · rw [app_S]; exact h.2
  · rename_i a b
    rcases h with ⟨xs, zs, h1, h2, h3, h4⟩ | ⟨xs, ys, h1, h2, h3, h4⟩
    · exact op_cat pins s σ H _ _ v u Q I rx ry ⟨_, _, _, _, rfl, rfl, h1, h2, Nat.le_trans h3 line6, h4⟩
    · refine op_catA pins s σ H _ _ v u Q I rx ry ⟨a, b, xs, ys, rfl, rfl, h1, h2, Nat.le_trans h3 line6, fun e => ?_, fun _ e => ?_, fun _ _ p hp => h4 p _ (same_upd hp) (SqT.of upd_same) (.inl hp)⟩
      · subst e
        exact h4 b H (Same.refl _) h2 (.inr (.inr rfl))
      · subst e
        exact h4 a H (Same.refl _) (by rw [List.append_nil]; exact h1) (.inr (.inl rfl))
  · exact h.elim
theorem op_addG2 (hK : X.K = K := by rfl) : OpR X (binaryOp .Add) (gAdd2 K) := hK ▸ op_addG20
/-- as gSl, the whole of a tuple too -/
def gSl2 (K : PySem.W.Frag) : V → Option Int → Option Int → Hp → VK → Prop := fun x lo hi H Q => match x with
  | .str z => (tl z).length ≤ 1000000 ∧ Q (.str (S (cutL (tl z) lo hi))) H
  | .ref p => (∃ xs, SqL K H p xs ∧ ∀ q, H q = none → Q (.ref q) (upd H q (.lst (cutL xs lo hi)))) ∨ (∃ xs, SqT K H p xs ∧ ∀ q H', Same H H' → SqT K H' q (cutL xs lo hi) → (H q = none ∨ q = p) → Q (.ref q) H')
  | _ => False
theorem cut_whole {xs : List V} {lo hi : Option Int} (h : HT.sIx xs.length 0 lo = 0 ∧ HT.sIx xs.length xs.length hi = xs.length) : cutL xs lo hi = xs := by
  unfold cutL
  rw [h.1, h.2, List.drop_zero, Nat.sub_zero, List.take_length]
theorem slG20 : SlR X (gSl2 X.K) := by
  intro pins s σ H x v vl vu lo hi sl Q I rx hs pl pu h
  unfold gSl2 at h
  split at h
  · exact sl_str pins s σ H _ v vl vu lo hi sl Q I rx hs pl pu ⟨_, rfl, by rw [len_S]; exact Nat.le_trans h.1 line6, by rw [cutS_S]; exact h.2⟩
  · rename_i p
    rcases h with ⟨xs, h1, h2⟩ | ⟨xs, h1, h2⟩
    · exact sl_list pins s σ H _ v vl vu lo hi sl Q I rx hs pl pu ⟨_, xs, rfl, h1, h2⟩
    · refine sl_tupA pins s σ H _ v vl vu lo hi sl Q I rx hs pl pu ⟨p, xs, rfl, h1, fun e => ?_, fun _ q hq => h2 q _ (same_upd hq) (SqT.of upd_same) (.inl hq)⟩
      exact h2 p H (Same.refl _) (by rw [cut_whole e]; exact h1) (.inr rfl)
  · exact h.elim
theorem slG2 (hK : X.K = K := by rfl) : SlR X (gSl2 K) := hK ▸ slG20
end
end Pk

namespace Pk
open PySem PySem.Spec PyProof.Rows L2
section
variable {P : Program} {w : World} {K : PySem.W.Frag} {mg : Str → Option Value} {base : Heap}
/-! ### dicts whose keys are states: a tuple of numbers and a text -/
abbrev SK := List Int × List Nat
abbrev kN (k : SK) : NestedKey := .tup [.tup (k.1.map .num), .text (S k.2)]
/-- the tuple at a is the state k -/
def StAt (K : PySem.W.Frag) (H : Hp) (k : SK) (a : Addr) : Prop := ∃ b, SqT K H a [.ref b, .str (S k.2)] ∧ SqT K H b (k.1.map V.int)
theorem StAt.same {H H' : Hp} {k : SK} {a : Addr} (h : StAt K H k a) (s : Same H H') : StAt K H' k a := by
  obtain ⟨b, h1, h2⟩ := h
  exact ⟨b, s.tup h1, s.tup h2⟩
/-- an entry: its key, where the key stands, its value -/
abbrev NE := SK × Addr × V
abbrev entN (P : Program) (w : World) (x : NestedKey × Addr × Value) : DictEntry := entryOfKey (nestedKind P w) x
/-- a dict by its entries -/
def DN (P : Program) (w : World) (a : Addr) (kvs : List NE) : HO := .ext fun h => (a == sysModules) = false ∧ ∃ xs : List (NestedKey × Addr × Value), Paired (fun (p : NE) (q : NestedKey × Addr × Value) => q.1 = kN p.1 ∧ q.2.1 = p.2.1 ∧ RelV p.2.2 q.2.2) kvs xs ∧
  ∃ o es ep, h.get? a = some o ∧ o.ExactDict ∧ o.data = .dict es ep ∧ es.toList = xs.map (entryOfKey (nestedKind P w)) ∧ (xs.map (·.1)).Nodup
def getN : List NE → SK → Option V
  | [], _ => none
  | e :: r, k => if e.1 = k then some e.2.2 else getN r k
/-- k is stored: in its place, or at the end -/
def putN (kvs : List NE) (k : SK) (a : Addr) (v : V) : List NE := if (getN kvs k).isSome then kvs.map fun e => if e.1 = k then (e.1, e.2.1, v) else e else kvs ++ [(k, a, v)]
theorem kN_inj {j k : SK} (h : kN j = kN k) : j = k := by
  obtain ⟨a, b⟩ := j
  obtain ⟨c, d⟩ := k
  simp only [kN, NestedKey.tup.injEq, List.cons.injEq, NestedKey.text.injEq, and_true] at h
  obtain ⟨h1, h2⟩ := h
  have e : a = c := (List.map_inj_right (f := NestedKey.num) (fun x y z => NestedKey.num.inj z)).mp h1
  rw [e, S_inj h2]
theorem depth_nums (l : List Int) : NestedKey.depthAll (l.map .num) ≤ 1 := by
  induction l with
  | nil => simp [NestedKey.depthAll]
  | cons x r ih =>
    simp only [List.map_cons, NestedKey.depthAll, NestedKey.depth]
    omega
theorem depth_kN (k : SK) : (kN k).depth ≤ 8 := by
  have := depth_nums k.1
  simp only [kN, NestedKey.depth, NestedKey.depthAll]
  omega
section
variable {X : Cx} {pins : List (Addr × Obj)} {σ : L2.St} {H : Hp} {s : Shared}
theorem nums_is {h : Heap} : ∀ {l : List Int} {us : List Value}, Vals (l.map V.int) us → NestedAll h (l.map .num) us
  | [], _, .nil => .nil
  | x :: r, _, .cons a b => by
    obtain ⟨t, rfl⟩ := a
    exact .cons (.int _ _) (nums_is b)
theorem StAt.is (I : Inv X pins σ H s) {k : SK} {a : Addr} (h : StAt X.K H k a) : (nestedKind X.prog X.w).is s.heap (kN k) a := by
  obtain ⟨b, h1, h2⟩ := h
  obtain ⟨its, r1, ⟨o1, g1, c1, n1, e1⟩, _⟩ := I.tuple h1
  obtain ⟨its2, r2, ⟨o2, g2, c2, n2, e2⟩, _⟩ := I.tuple h2
  refine ⟨.tup g1 c1 e1 ?_, depth_kN k⟩
  cases r1 with
  | cons ra rb =>
    cases rb with
    | cons rb rc =>
      cases rc
      cases ra
      obtain ⟨t, rfl⟩ := rb
      exact .cons (.tup g2 c2 e2 (by simpa using nums_is r2)) (.cons (.text _ _) .nil)
theorem at_N {k : SK} : ∀ {kvs : List NE} {xs : List (NestedKey × Addr × Value)}, Paired (fun (p : NE) (q : NestedKey × Addr × Value) => q.1 = kN p.1 ∧ q.2.1 = p.2.1 ∧ RelV p.2.2 q.2.2) kvs xs → RelO (getN kvs k) ((atKey xs (kN k)).map (·.2))
  | _, _, .nil => trivial
  | p :: kvs, q :: xs, .cons r t => by
    obtain ⟨e1, e2, e3⟩ := r
    unfold getN
    by_cases h : p.1 = k
    · rw [if_pos h]
      have : q.1 = kN k := by rw [e1, h]
      simp only [atKey, List.find?_cons, this, decide_true, Option.map_some]
      exact e3
    · rw [if_neg h]
      have : ¬ q.1 = kN k := fun z => h (kN_inj (e1.symm.trans z))
      have ih := at_N (k := k) t
      simp only [atKey, List.find?_cons, this, decide_false] at ih ⊢
      exact ih
theorem relO_some {a : Option V} {b : Option Value} (h : RelO a b) : a.isSome = b.isSome := by
  cases a <;> cases b <;> first | rfl | exact h.elim
theorem dictN (I : Inv X pins σ H s) {c : Addr} {kvs : List NE} (h : H c = some (DN X.prog X.w c kvs)) (hk : ∀ e ∈ kvs, StAt X.K H e.1 e.2.1) :
    (c == sysModules) = false ∧ ∃ xs : List (NestedKey × Addr × Value), Paired (fun (p : NE) (q : NestedKey × Addr × Value) => q.1 = kN p.1 ∧ q.2.1 = p.2.1 ∧ RelV p.2.2 q.2.2) kvs xs ∧ s.heap.DictOfH (nestedKind X.prog X.w) c xs := by
  obtain ⟨⟨h0, xs, hp, o, es, ep, h1, h2, h3, h4, h5⟩, _⟩ := I.hok c _ h
  refine ⟨h0, xs, hp, o, es, ep, h1, h2, h3, h4, fun x hx => ?_, h5⟩
  have : ∀ {kvs : List NE} {xs : List (NestedKey × Addr × Value)}, Paired (fun (p : NE) (q : NestedKey × Addr × Value) => q.1 = kN p.1 ∧ q.2.1 = p.2.1 ∧ RelV p.2.2 q.2.2) kvs xs → ∀ x ∈ xs, ∃ p ∈ kvs, x.1 = kN p.1 ∧ x.2.1 = p.2.1 := by
    intro kvs xs hp
    induction hp with
    | nil => intro x hx; cases hx
    | cons r t ih =>
      intro x hx
      rcases List.mem_cons.mp hx with rfl | hx
      · exact ⟨_, List.mem_cons_self, r.1, r.2.1⟩
      · obtain ⟨p, hp, e⟩ := ih x hx
        exact ⟨p, List.mem_cons_of_mem _ hp, e⟩
  obtain ⟨p, hp', e1, e2⟩ := this hp x hx
  rw [e1, e2]
  exact (hk p hp').is I
/-- what a rule over such a dict asks -/
def AskN (P : Program) (w : World) (K : PySem.W.Frag) (H : Hp) (c a : Addr) (kvs : List NE) (k : SK) : Prop := H c = some (DN P w c kvs) ∧ StAt K H k a ∧ (∀ e ∈ kvs, StAt K H e.1 e.2.1)
theorem roomN (hu : X.A.units + 64 < cLine) : (nestedKind X.prog X.w).room X.A.in1 := by
  show X.A.in1.units + 8 < cLine
  have : X.A.in1.units = X.A.units + 1 := rfl
  omega
def gNotInN (P : Program) (w : World) (K : PySem.W.Frag) : R2 := fun x y H Q => ∃ a c kvs k, x = .ref a ∧ y = .ref c ∧ AskN P w K H c a kvs k ∧ Q (.bl (!(getN kvs k).isSome)) H
theorem op_notInN (hu : X.A.units + 64 < cLine) : OpR X (compareOp .NotIn) (gNotInN X.prog X.w X.K) := by
  intro pins s σ H x y v u Q I rx ry h
  obtain ⟨a, c, kvs, k, rfl, rfl, ⟨h1, h2, h3⟩, q⟩ := h
  cases rx
  cases ry
  obtain ⟨h0, xs, hp, hd⟩ := dictN I h1 h3
  refine notIn_keyed (roomN hu) (h2.is I) h0 ⟨xs, hd, rfl⟩ ⟨.bl (!(getN kvs k).isSome), H, I.tok _, ?_, q⟩
  rw [valueAt_pairsH, relO_some (at_N (k := k) hp)]
  rfl
def gIxN (P : Program) (w : World) (K : PySem.W.Frag) : R2 := fun x y H Q => ∃ a c kvs k v, x = .ref c ∧ y = .ref a ∧ AskN P w K H c a kvs k ∧ getN kvs k = some v ∧ Q v H
theorem ixN_ (hu : X.A.units + 64 < cLine) : IxR X (gIxN X.prog X.w X.K) := by
  intro vl sl pins s σ H x y v u Q I rx ry h hs
  obtain ⟨a, c, kvs, k, z, rfl, rfl, ⟨h1, h2, h3⟩, hg, q⟩ := h
  cases rx
  cases ry
  obtain ⟨h0, xs, hp, hd⟩ := dictN I h1 h3
  have hv := at_N (k := k) hp
  rw [hg] at hv
  obtain ⟨u, hu', ru⟩ := RelO.some_of hv
  obtain ⟨p, hp', rfl⟩ := Option.map_eq_some_iff.mp hu'
  exact tail_any hd.typeIs slot_dict_getitem.lookup (wpAny_getItem_heap (roomN hu) (h2.is I) hd hp' ⟨z, H, I.tok _, ru, q⟩) hs
theorem put_N {k : SK} {a : Addr} {v : V} {u : Value} (rv : RelV v u) {kvs : List NE} {xs : List (NestedKey × Addr × Value)} (hp : Paired (fun (p : NE) (q : NestedKey × Addr × Value) => q.1 = kN p.1 ∧ q.2.1 = p.2.1 ∧ RelV p.2.2 q.2.2) kvs xs) :
    Paired (fun (p : NE) (q : NestedKey × Addr × Value) => q.1 = kN p.1 ∧ q.2.1 = p.2.1 ∧ RelV p.2.2 q.2.2) (putN kvs k a v) (storedH xs (kN k) a u) := by
  have hs := relO_some (at_N (k := k) hp)
  rw [Option.isSome_map] at hs
  unfold putN storedH
  rw [hs]
  split
  · rename_i hh
    clear hs hh
    induction hp with
    | nil => exact .nil
    | @cons p q _ _ r t ih =>
      refine .cons ?_ ih
      obtain ⟨e1, e2, e3⟩ := r
      unfold putAt
      dsimp only
      by_cases h : p.1 = k
      · rw [if_pos h, if_pos (by rw [e1, h])]
        exact ⟨e1, e2, rv⟩
      · rw [if_neg h, if_neg (fun z => h (kN_inj (e1.symm.trans z)))]
        exact ⟨e1, e2, e3⟩
  · rename_i hh
    clear hs hh
    induction hp with
    | nil => exact .cons ⟨rfl, rfl, rv⟩ .nil
    | cons r t ih => exact .cons r ih
theorem paired_len {α β : Type} {R : α → β → Prop} : ∀ {l : List α} {m : List β}, Paired R l m → l.length = m.length
  | _, _, .nil => rfl
  | _, _, .cons _ t => by rw [List.length_cons, List.length_cons, paired_len t]
def gSetN (P : Program) (w : World) (K : PySem.W.Frag) : TSet := fun o i v H Q => ∃ a c kvs k, o = .ref c ∧ i = .ref a ∧ AskN P w K H c a kvs k ∧ kvs.length < 16000000 ∧ Q (upd H c (DN P w c (putN kvs k a v)))
theorem set_N (hu : X.A.units + 64 < cLine) : PSet X (gSetN X.prog X.w X.K) := by
  intro pins s σ H o i v ov iv u Q I ro ri rv h
  obtain ⟨a, c, kvs, k, rfl, rfl, ⟨h1, h2, h3⟩, hl, q⟩ := h
  cases ro
  cases ri
  obtain ⟨h0, xs, hp, hd⟩ := dictN I h1 h3
  have hlen := paired_len hp
  have hline := sizeLine_eq
  refine wpAny_setItem_heap (hsz := by omega) (roomN hu) (h2.is I) hd fun h' hm' hs => ?_
  obtain ⟨o', es, ep, g1, g2, g3, g4, _, g6⟩ := hm'
  refine ⟨_, I.write (x := c) (e := c) (o := DN X.prog X.w c (putN kvs k a v)) (t' := s.toks + (nestedKind X.prog X.w).draws (kN k)) (h' := h') (by rw [h1]; trivial) (.inl rfl) (fun b u' hb e => (hs.2 b hb).trans e) ⟨o', g1⟩ ?_, q⟩
  refine ⟨⟨h0, _, put_N rv hp, o', es, ep, g1, g2, g3, g4, g6⟩, ⟨o', g1⟩, fun h1 h2 ⟨a0, xs', b1, o2, es2, ep2, b2, b3⟩ kk => ⟨a0, xs', b1, o2, es2, ep2, kk _ b2, b3⟩⟩
/-- {} -/
def gNewN (P : Program) (w : World) : TE := fun _ H Q => ∀ p, H p = none → Q (.ref p) (upd H p (DN P w p []))
theorem pe_newN {pos : Pos} : PE X (.Dict [] [] pos) (gNewN X.prog X.w) := ⟨fun pins s σ H Q I h => by
  refine wpAny_Dict_empty ⟨.ref s.heap.objs.size, _, I.laid (a := s.heap.objs.size) (o := DN X.prog X.w s.heap.objs.size []) (t' := s.toks) (fun _ _ q => Heap.get?_push_of_some _ q) (Nat.le_refl _) ?_, rfl, h _ (I.hok.fresh (Nat.le_refl _))⟩
  have hb := I.big
  have g := Heap.get?_push_size s.heap (o := { cls := .type "dict", data := .dict #[] }) rfl
  refine ⟨⟨?_, [], .nil, _, #[], _, g, ⟨rfl, rfl, rfl⟩, rfl, rfl, List.nodup_nil⟩, ⟨_, g⟩, fun h1 h2 ⟨a0, xs', b1, o2, es2, ep2, b2, b3⟩ kk => ⟨a0, xs', b1, o2, es2, ep2, kk _ b2, b3⟩⟩
  exact beq_eq_false_iff_ne.mpr (Nat.ne_of_gt hb)⟩
end
end
end Pk

namespace Pk
open PySem PySem.Spec PyProof.Rows L2
/-- a method of the class at C, by its promise -/
structure MCal (P : Program) (w : World) (K : PySem.W.Frag) (mg : Str → Option Value) (base : Heap) (CX : CXT) (k : Nat) (C : Addr) (m : Str) (ps : List Str) (sp : Sp) : Prop where
  cl : Cls K C
  ex : ∃ f fd, Meth K C m f ∧ Binds K fd ps [] ∧ FnOk P w K mg base CX k f fd ps sp
/-- the class x, made by its __init__ -/
structure KCal (P : Program) (w : World) (K : PySem.W.Frag) (mg : Str → Option Value) (base : Heap) (CX : CXT) (k : Nat) (x : Str) (C : Addr) (ps : List Str) (sp : Sp) : Prop where
  ex : ∃ f fd, Mk K C f ∧ mg x = some (.ref C) ∧ Binds K fd ps [] ∧ FnOk P w K mg base CX k f fd ps sp
section
variable {X : Cx} {CX : CXT} {k : Nat} {C : Addr} {x m : Str} {ps : List Str} {sp : Sp} {E : XK} {o e : Expr} {es : List Expr} {ta : TE} {t : TA} {p apos pos : Pos} {K : PySem.W.Frag} {f : Str}
def gMeth (C : Addr) (m : Str) (sp : Sp) (E : XK) (ta : TE) (t : TA) : TE := fun σ H Q => ta σ H fun x H1 => match x with
  | .ref a => ∃ dx fs, H1 a = some (.ins C dx fs) ∧ fs.lookup m = none ∧ t σ H1 fun vs H2 => sp (.ref a :: vs) H2 Q E
  | _ => False
theorem pe_mcal {pl : Sem Bool} (he : PE X o ta) (M : MCal X.prog X.w X.K X.mg X.base CX k C m ps sp) (hr : Room k X.A) (hx : Passes CX X E) (ha : PA X (e :: es) t)
    (hst : starEach (e :: es) X.env = (false, eval e X.env) :: starEach es X.env := by rfl) (hpl : (backTo pos (starEach es X.env)).any (·.1) = false := by rfl)
    (ht : eval (.Call (.Attribute o m apos) (e :: es) [] pos) X.env = (do
      let ov ← eval o X.env
      standAt apos.atName
      let (f, first) ← holding [ov] (getMethod ov m pl)
      callWith pos f first (backTo pos (starEach (e :: es) X.env)) (backToKw pos (keywordEach [] X.env))) := by rfl) :
    PE X (.Call (.Attribute o m apos) (e :: es) [] pos) (gMeth C m sp E ta t) := by
  obtain ⟨f, fd, h1, h2, h3⟩ := M.ex
  refine ⟨fun pins s σ H Q I h => ?_⟩
  refine PySem.W.methodCall_KW (pl := pl) (thn (he.run pins s σ H _ I h) fun u s1 ⟨x, H1, I1, rx, q1⟩ => ?_) ht
  cases x with
  | ref a =>
    obtain ⟨dx, fs, ea, l, q⟩ := q1
    obtain rfl : u = Value.ref a := rx
    refine getmeth_ok I1 ea M.cl h1 l ?_
    refine PySem.W.callWith_K (first := [.ref a]) (h₀ := X.base) I.ok.mod.kin h1.kp (thn (ha.run pos pins s1 σ H1 _ I1 q) fun us s2 ⟨vs, H2, I2, r, q2⟩ => ⟨I2.kIn, ?_⟩) hst hpl
    exact run_fn (us := .ref a :: us) (vs := .ref a :: vs) (dvs := []) h3 hr h2 .nil hx I2 (.cons rfl r) (by rw [List.append_nil]; exact q2)
  | _ => exact q1.elim
def gMeth0 (C : Addr) (m : Str) (sp : Sp) (E : XK) (ta : TE) : TE := fun σ H Q => ta σ H fun x H1 => match x with
  | .ref a => ∃ dx fs, H1 a = some (.ins C dx fs) ∧ fs.lookup m = none ∧ sp [.ref a] H1 Q E
  | _ => False
theorem pe_mcal0 {pl : Sem Bool} (he : PE X o ta) (M : MCal X.prog X.w X.K X.mg X.base CX k C m ps sp) (hr : Room k X.A) (hx : Passes CX X E)
    (ht : eval (.Call (.Attribute o m apos) [] [] pos) X.env = (do
      let ov ← eval o X.env
      standAt apos.atName
      let (f, first) ← holding [ov] (getMethod ov m pl)
      callWith pos f first (backTo pos (starEach [] X.env)) (backToKw pos (keywordEach [] X.env))) := by rfl) : PE X (.Call (.Attribute o m apos) [] [] pos) (gMeth0 C m sp E ta) := by
  obtain ⟨f, fd, h1, h2, h3⟩ := M.ex
  refine ⟨fun pins s σ H Q I h => ?_⟩
  refine PySem.W.methodCall_KW (pl := pl) (thn (he.run pins s σ H _ I h) fun u s1 ⟨x, H1, I1, rx, q1⟩ => ?_) ht
  cases x with
  | ref a =>
    obtain ⟨dx, fs, ea, l, q⟩ := q1
    obtain rfl : u = Value.ref a := rx
    refine getmeth_ok I1 ea M.cl h1 l ?_
    exact PySem.W.callWith_K0 (first := [.ref a]) I1.kIn h1.kp (run_fn (us := [.ref a]) (vs := [.ref a]) (dvs := []) h3 hr h2 .nil hx I1 (.cons rfl .nil) q)
  | _ => exact q1.elim
/-- C(e, ..) -/
def gMake (C : Addr) (sp : Sp) (E : XK) (t : TA) : TE := fun σ H Q => t σ H fun vs H1 => ∀ x dx, H1 x = none → H1 dx = none → dx ≠ x → sp (.ref x :: vs) (upd (upd H1 dx (.own x)) x (.ins C dx [])) (fun v H2 => v = .non ∧ Q (.ref x) H2) E
theorem pe_kcal (M : KCal X.prog X.w X.K X.mg X.base CX k x C ps sp) (hr : Room (k + 1) X.A) (hx : Passes CX X E) (ha : PA X (e :: es) t) (hg : Gl X x := by rfl) (hdb : (x == ("__debug__" : Str)) = false := by decide)
    (he : starEach (e :: es) X.env = (false, eval e X.env) :: starEach es X.env := by rfl) (hpl : (backTo pos (starEach es X.env)).any (·.1) = false := by rfl) : PE X (.Call (.Name x p) (e :: es) [] pos) (gMake C sp E t) := by
  obtain ⟨f, fd, h1, hm, h2, h3⟩ := M.ex
  have h : gMake C sp E t = tMake C sp [] E t := by
    funext σ H Q
    unfold gMake tMake
    congr
    funext vs H1
    rw [List.append_nil]
  rw [h]
  exact pe_make h1 h3 hr hg hm h2 .nil hx ha hdb he hpl
/-- o.f -/
def gFld (K : PySem.W.Frag) (f : Str) (ta : TE) : TE := fun σ H Q => ta σ H fun x H1 => match x with
  | .ref a => ∃ C dx fs v, H1 a = some (.ins C dx fs) ∧ Cls K C ∧ NoAttr K C f ∧ fs.lookup f = some v ∧ Q v H1
  | _ => False
theorem pe_fldG (he : PE X e ta) (hb : attributeBase e f X.env (eval e X.env) = eval e X.env := by rfl) (hK : X.K = K := by rfl) : PE X (.Attribute e f pos) (gFld K f ta) := by
  subst hK
  refine ⟨fun pins s σ H Q I h => ?_⟩
  refine attr_of hb (thn (he.run pins s σ H _ I h) fun u s1 ⟨x, H1, I1, rx, q1⟩ => ?_)
  cases x with
  | ref a =>
    obtain ⟨C, dx, fs, v, ea, c, n, l, q⟩ := q1
    obtain rfl : u = Value.ref a := rx
    exact getattr_ok I1 ea c n l fun w' s' I' rw' => ⟨v, H1, I', rw', q⟩
  | _ => exact q1.elim
/-- o.f = e -/
def gSetF (K : PySem.W.Frag) (f : Str) (ta tv : TE) : TS := fun D σ H => tv σ H fun y H1 => ta σ H1 fun x H2 => match x with
  | .ref a => ∃ C dx fs, H2 a = some (.ins C dx fs) ∧ Cls K C ∧ NoAttr K C f ∧ fs.length < 1000 ∧ D.nx σ (upd H2 a (.ins C dx (putF f y fs)))
  | _ => False
theorem ps_setF {value : Expr} {tv : TE} {pos' : Pos} (ha : PE X o ta) (hv : PE X value tv) (hs : swapsWith value (some (.Attribute o f pos')) pos.line X.env = pure false := by rfl) (hK : X.K = K := by rfl) : PS X (.Assign [.Attribute o f pos'] value pos) (gSetF K f ta tv) := by
  subst hK
  refine ⟨fun pins s σ H D I h => ?_⟩
  refine plainObj_wpAny_Assign_Attribute (thn (hv.run pins s σ H _ I h) fun u s1 ⟨y, H1, I1, ry, q⟩ => thn (ha.run pins s1 σ H1 _ I1 q) fun ov s2 ⟨x, H2, I2, rx, q2⟩ => ?_) hs
  cases x with
  | ref a =>
    obtain ⟨C, dx, fs, ea, c, n, l, q2⟩ := q2
    obtain rfl : ov = Value.ref a := rx
    exact setattr_ok I2 ea c n l ry fun s3 I3 => ⟨σ, _, I3, q2⟩
  | _ => exact q2.elim
end
end Pk

namespace Pk
open PySem PySem.Spec PyProof.Rows L2
/-- n positional values and one keyword's -/
def gK {α : Type} : Nat → List α → List α → List α
  | 0, [], [d] => [d]
  | n + 1, a :: us, ws => a :: gK n us ws
  | _, _, _ => []
theorem gK_le {α : Type} : ∀ (n : Nat) (us ws : List α), (gK n us ws).length ≤ n + 1
  | 0, [], [] => by simp [gK]
  | 0, [], [_] => by simp [gK]
  | 0, [], _ :: _ :: _ => by simp [gK]
  | 0, _ :: _, _ => by simp [gK]
  | n + 1, [], _ => by simp [gK]
  | n + 1, a :: us, ws => by
    have := gK_le n us ws
    simp only [gK, List.length_cons]
    omega
theorem gK_inv {α : Type} : ∀ (n : Nat) (us ws : List α), (gK n us ws).length = n + 1 → us.length = n ∧ ∃ d, ws = [d]
  | 0, [], [], h => by simp [gK] at h
  | 0, [], [d], _ => ⟨rfl, d, rfl⟩
  | 0, [], _ :: _ :: _, h => by simp [gK] at h
  | 0, _ :: _, _, h => by simp [gK] at h
  | n + 1, [], _, h => by simp [gK] at h
  | n + 1, a :: us, ws, h => by
    have := gK_inv n us ws (by simpa [gK] using h)
    exact ⟨by rw [List.length_cons, this.1], this.2⟩
theorem gK_rel : ∀ (n : Nat) {vs : List V} {us : List Value} {zs : List V} {ws : List Value}, Vals vs us → Vals zs ws → Vals (gK n vs zs) (gK n us ws)
  | 0, _, _, _, _, .nil, .nil => .nil
  | 0, _, _, _, _, .nil, .cons h .nil => .cons h .nil
  | 0, _, _, _, _, .nil, .cons _ (.cons _ _) => .nil
  | 0, _, _, _, _, .cons _ _, _ => by simp only [gK]; exact .nil
  | n + 1, _, _, _, _, .nil, _ => by simp only [gK]; exact .nil
  | n + 1, _, _, _, _, .cons h t, r => .cons h (gK_rel n t r)
/-- a def with n parameters and one that is told by its name alone -/
structure CalK (P : Program) (w : World) (K : PySem.W.Frag) (mg : Str → Option Value) (base : Heap) (CX : CXT) (k : Nat) (x : Str) (n : Nat) (ps : List Str) (y : Str) (sp : Sp) : Prop where
  ex : ∃ f fd, mg x = some (.ref f) ∧ PySem.W.keepIn K (.ref f) = true ∧ (∀ (s : Shared) (us : List Value) (d : Value), us.length = n → BindsTo s fd ⟨us, [(y, d)]⟩ (ps.zip (us ++ [d]))) ∧ ps.length = n + 1 ∧ FnOk P w K mg base CX k f fd ps sp
theorem gK_app {α : Type} (d : α) : ∀ (us : List α), gK us.length us [d] = us ++ [d]
  | [] => rfl
  | a :: us => by rw [List.length_cons, gK, gK_app d us, List.cons_append]
section
variable {X : Cx} {CX : CXT} {k n : Nat} {x y : Str} {ps : List Str} {sp : Sp} {E : XK} {e : Expr} {es : List Expr} {kws : List Keyword} {t tk : TA} {p pos : Pos}
def gCalK (sp : Sp) (n : Nat) (E : XK) (t tk : TA) : TE := fun σ H Q => t σ H fun vs H1 => tk σ H1 fun zs H2 => sp (gK n vs zs) H2 Q E
theorem pe_calK (C : CalK X.prog X.w X.K X.mg X.base CX k x n ps y sp) (hr : Room k X.A) (hx : Passes CX X E) (ha : PA X (e :: es) t) (hkw : PK X kws tk) (hg : Gl X x := by rfl)
    (hall : (backToKw pos (keywordEach kws X.env)).all (·.1.isSome) = true := by rfl) (hks : (backToKw pos (keywordEach kws X.env)).filterMap (·.1) = [y] := by rfl)
    (hdb : (x == ("__debug__" : Str)) = false := by decide) (he : starEach (e :: es) X.env = (false, eval e X.env) :: starEach es X.env := by rfl)
    (hpl : ((backTo pos (starEach (e :: es) X.env)).any (·.1) || (backToKw pos (keywordEach kws X.env)).any (·.1.isNone)) = false := by rfl) : PE X (.Call (.Name x p) (e :: es) kws pos) (gCalK sp n E t tk) := by
  obtain ⟨f, fd, hm, hk, hb, hn, F⟩ := C.ex
  refine pe_callK F hr hg hm hk (g := gK n) (gV := gK n) ⟨fun s us ws _ hl => ?_, fun r1 r2 => gK_rel n r1 r2⟩ hx ha hkw hall hks hdb he hpl
  rw [hn] at hl
  obtain ⟨h1, d, rfl⟩ := gK_inv n us ws hl
  have := hb s us d h1
  subst h1
  rw [gK_app]
  exact this
/-- a test: a if c else b -/
def gTIf (t ta tb : TT) : TT := fun σ H Q => t σ H fun c H1 => if c = true then ta σ H1 Q else tb σ H1 Q
theorem pt_ifExp {c a b : Expr} {tA ta tb : TT} (hc : PT X c tA) (ha : PT X a ta) (hb : PT X b tb) : PT X (.IfExp c a b pos) (gTIf tA ta tb) := by
  refine ⟨fun pins s σ H Q I h => ?_⟩
  refine isTrue_IfExp (thn (hc.run pins s σ H _ I h) fun d s1 ⟨H1, I1, q1⟩ => ?_)
  cases d with
  | true => exact ha.run pins s1 σ H1 Q I1 q1
  | false => exact hb.run pins s1 σ H1 Q I1 q1
end
end Pk

namespace Pk
open PySem PySem.Spec PyProof.Rows L2
section
variable {X : Cx} {K : PySem.W.Frag} {pos : Pos}
/-! ### dicts whose keys are texts or numbers -/
def gInK (neg : Bool) : R2 := fun x y H Q => ∃ a kvs k, y = .ref a ∧ H a = some (.dK kvs) ∧ x = kV k ∧ Q (.bl (if neg then !(valV kvs k).isSome else (valV kvs k).isSome)) H
theorem op_inK (hu : X.A.units + 64 < cLine) : OpR X (compareOp .In) (gInK false) := by
  intro pins s σ H x y v u Q I rx ry h
  obtain ⟨a, kvs, k, rfl, ha, rfl, q⟩ := h
  cases ry
  exact d_in (by omega) I (DGet.k (k := k) ha) rx fun s3 I3 => ⟨.bl (valV kvs k).isSome, H, I3, rfl, q⟩
theorem op_notInK (hu : X.A.units + 64 < cLine) : OpR X (compareOp .NotIn) (gInK true) := by
  intro pins s σ H x y v u Q I rx ry h
  obtain ⟨a, kvs, k, rfl, ha, rfl, q⟩ := h
  cases ry
  exact d_notIn (by omega) I (DGet.k (k := k) ha) rx fun s3 I3 => ⟨.bl (!(valV kvs k).isSome), H, I3, rfl, q⟩
def gIxK : R2 := fun x y H Q => ∃ a kvs k v, x = .ref a ∧ H a = some (.dK kvs) ∧ y = kV k ∧ valV kvs k = some v ∧ Q v H
theorem ixK (hu : X.A.units + 64 < cLine) : IxR X gIxK := by
  intro vl sl pins s σ H x y v u Q I rx ry h hs
  obtain ⟨a, kvs, k, z, rfl, ha, rfl, hv, q⟩ := h
  cases rx
  have g : DGet H a (kV k) (some z) := by rw [← hv]; exact DGet.k ha
  have hu' : X.A.in1.units + 1 < cLine := by
    have : X.A.in1.units = X.A.units + 1 := rfl
    omega
  exact tail_any (dict_typeIs I g) PySem.F.slot_dict_getitem.lookup (d_getItem (by omega) I g ry fun w' s3 I3 rw' => ⟨z, H, I3, rw', q⟩) hs
def gSetK : TSet := fun o i v H Q => ∃ a kvs k, o = .ref a ∧ H a = some (.dK kvs) ∧ i = kV k ∧ kvs.length < 1000000 ∧ Q (upd H a (.dK (putK kvs k v)))
theorem set_K (hu : X.A.units + 64 < cLine) : PSet X gSetK := by
  intro pins s σ H o i v ov iv u Q I ro ri rv h
  obtain ⟨a, kvs, k, rfl, ha, rfl, hl, q⟩ := h
  exact set_dict (by omega) pins s σ H _ _ v ov iv u Q I ro ri rv ⟨a, _, rfl, DPut.k ha (Nat.lt_of_lt_of_le hl line6), q⟩
/-- {k: v} -/
theorem pe_disp1 {k v : Expr} {tk tv : TE} (hk : PE X k tk) (hv : PE X v tv) : PE X (.Dict [some k] [v] pos) (tDisp [(tk, tv)]) :=
  pe_disp (pps_cons hk hv pps_nil) rfl rfl (by simp) (by show 1 ≤ 15; decide)
/-- sorted(a dict), its keys texts -/
def gSortedD : RC := fun vs H Q => match vs with
  | [.ref a] => ∃ (kvs : List (Key × V)) (ts : List (List Nat)), H a = some (.dK kvs) ∧ kvs.map (·.1) = ts.map txK ∧ ts.length ≤ 1000000 ∧ ∀ (us : List (List Nat)) (q : Addr), us.Perm ts → us.Pairwise (fun a b => ¬ b < a) → H q = none → Q (.ref q) (upd H q (.lst (us.map txV)))
  | _ => False
theorem cr_sortedD (hcalm : X.calm = true) : CallR X (.builtin "sorted") gSortedD := by
  intro pins s σ H xs us Q I r h
  unfold gSortedD at h
  split at h
  · rename_i a
    obtain ⟨kvs, ts, hd, hks0, hl6, q⟩ := h
    obtain ⟨u, eu, rx⟩ := vals1 r
    subst eu
    cases rx
    obtain ⟨ks, hks, hkl⟩ : ∃ ks : List Str, kvs.map (·.1) = ks.map Sum.inr ∧ ks = ts.map S := ⟨ts.map S, by rw [hks0, List.map_map]; rfl, rfl⟩
    have h6 : ks.length ≤ 1000000 := by rw [hkl, List.length_map]; exact hl6
    have hsz : ks.length ≤ sizeLine := Nat.le_trans h6 line6
    obtain ⟨z, lo, vs, rel, dd⟩ := dk_rd I.hok (.inl hd)
    obtain ⟨ep, hat⟩ := dd.dictAt
    have hkeys : vs.map (·.1) = ks.map Sum.inr := rel.keys.symm.trans hks
    have hl : vs.length = ks.length := by
      have e := congrArg List.length hkeys
      rw [List.length_map, List.length_map] at e
      exact e
    have h16 : vs.length ≤ sizeLine := by rw [hl]; exact hsz
    refine Calls.call_function_entry PyProof.Rows.kind_sorted PyProof.Rows.plain_sorted PyProof.Rows.entry_sorted (PyProof.Rows.args_sorted1 _) ?_
    unfold Builtin.«sorted»
    refine wpAny_bind (m := checkCount "sorted" 1 1 _) (wpAny_pure ?_)
    refine wpAny_bind (PySem.W.kdu_collect (A := X.A.in1) (PySem.W.kdl_dict (knd := mixKind X.prog X.w) (kvs := vs) (ep := ep) lo) (I.ok.hd hcalm) hat h16 fun h' tk acc hk hacc => ?_)
    have hal : acc.toList.length = ks.length := by rw [Array.length_toList, hacc.1, hl]
    have hS : StrsAre acc.toList ks := strs_at hal fun j v e => by
      obtain ⟨k, x, e1, e2⟩ := hacc.2 j v (by rw [← Array.getElem?_toList]; exact e)
      have e3 : (vs.map (·.1))[j]? = some k := by rw [List.getElem?_map, e1]; all_goals rfl
      rw [hkeys, List.getElem?_map] at e3
      cases e4 : ks[j]? with
      | none => rw [e4] at e3; cases e3
      | some y =>
        rw [e4] at e3
        have e5 : Sum.inr y = k := Option.some.inj e3
        subst e5
        obtain ⟨t, ev⟩ := Value.isStrOf_shape (x := y) (v := v) e2
        exact ⟨y, t, rfl, ev⟩
    have I1 : Inv X pins σ H { s with heap := h', toks := tk } := I.kept hk
    refine wpAny_bind (wpAny_newList ?_ (by rw [hal]; exact hsz))
    have hoL : (h'.push (seqObj "list" acc.toList.toArray 0)).get? h'.objs.size = some (seqObj "list" acc.toList.toArray 0) := Heap.get?_push_size _ rfl
    show wpAny _ _ _ _ _ { s with heap := h'.push (seqObj "list" acc.toList.toArray 0), toks := tk }
    refine wpAny_bind (wpAny_holding (wpAny_call_entry PyProof.Rows.slot_list_sort ⟨_, hoL, rfl⟩ PyProof.Rows.entry_list_sort
      (list_sort_treeKAny strKind_oneLt (s := { s with heap := h'.push (seqObj "list" acc.toList.toArray 0), toks := tk }) hoL hS.keysOf (fun v₁ v₂ rest e => keyKind_strs (by rw [← e]; exact hS)) (by rw [hal]; exact hsz) fun st' hp hs => ⟨_, rfl, ?_⟩)
      (PyProof.Rows.args_list_sort _)))
    obtain ⟨ys, g1, g2, g3⟩ := sorted_out_str hS hp hs
    obtain ⟨e', he'⟩ := PyProof.Rows.sortedHeap_at (vs := acc.toList) (out := (arrOf st').map (·.2)) hoL
    have hlen : (ys.map V.str).length ≤ sizeLine := by
      rw [List.length_map, g2.length_eq]
      exact hsz
    have eys : ys.map V.str = (ys.map tl).map txV := by
      rw [← map_S_tl ys]
      simp
    have hpp : (ys.map tl).Perm ts := by
      have := g2.map tl
      rw [hkl, List.map_map] at this
      have e : ts.map (tl ∘ S) = ts := by
        conv => rhs; rw [← List.map_id ts]
        exact List.map_congr_left fun y _ => rfl
      rw [e] at this
      exact this
    refine wpAny_pure ⟨_, rfl, .ref h'.objs.size, upd H h'.objs.size (.lst (ys.map V.str)), I1.laid (t' := tk) (fun b u e => ?_) (Nat.le_refl _)
      (show ObjOk X.prog X.w _ _ _ (.lst (ys.map V.str)) from ⟨hlen, ((arrOf st').map (·.2)).toList, e', vals_of_strs g1, by rw [Array.toArray_toList]; exact he'⟩), rfl, ?_⟩
    · have hb : b < h'.objs.size := Heap.lt_size e
      rw [PyProof.Rows.sortedHeap_old (Nat.ne_of_lt hb) (by rw [size_push']; exact Nat.lt_succ_of_lt hb)]
      exact Heap.get?_push_of_some _ e
    · rw [eys]
      exact q _ _ hpp (List.pairwise_map.mpr (sorted_pw g3)) (I1.hok.fresh (Nat.le_refl _))
  · exact h.elim
end
end Pk

namespace Pk
open PySem PySem.Spec PyProof.Rows L2
section
variable {X : Cx} {k m : Nat} {ks : Kinds} {pe : Addr}
/-- _law_error_of(lambda: ..) -/
theorem pe_err3 {dn : Bool} {params : Arguments} {body : Expr} {scope : Scope} {t : XK → TE} {ta : TA} {p pos pos' : Pos} (C : Cal X.prog X.w X.K X.mg X.base CX0 m "_law_error_of" ["_law_call"] (sp_errof X.prog X.w X.mg X.base (k + 1) ks pe X.K)) (hr : Room m X.A) (hfn : ∀ x, X.fn x = true)
    (R : LamR X k dn params body scope t) (ha : PA X [.Lambda params body scope pos'] ta) (hg : Gl X "_law_error_of" := by rfl) (he : starEach [.Lambda params body scope pos'] X.env = (false, eval (.Lambda params body scope pos') X.env) :: starEach [] X.env := by rfl) (hpl : (backTo pos (starEach [] X.env)).any (·.1) = false := by rfl) :
    PE X (.Call (.Name "_law_error_of" p) [.Lambda params body scope pos'] [] pos) (fun σ H Q => ta σ H fun vs H1 => rErr X dn params body scope ks pe t σ vs H1 Q) :=
  pe_err2 C hr hfn R ha hg he hpl
end
end Pk

namespace Pk
open PySem PySem.Spec PyProof.Rows L2 PpSet
section
variable {P : Program} {w : World} {A : Around} {E : Value → Shared → Prop} {s : Shared} {a : Addr} {ks : List Key}
theorem setG_type (R : SetG w s.heap a ks) : s.TypeIs (.ref a) "set" := by
  obtain ⟨o, es, ep, t, ho, hex, _⟩ := R
  exact ⟨o, ho, hex.1⟩
/-- found.add(k) -/
theorem setG_addC {k : Key} {u : Value} {Q : Value → Shared → Prop} (hk : keyIs k u = true) (R : SetG w s.heap a ks) (room : ks.length + 1 < scanBound)
    (hQ : ∀ (h' : Heap), Heap.SameBut a s.heap h' → SetG w h' a (addK ks k) → Q .none { s with heap := h', toks := s.toks + 1 }) : wpAny (model P w) A (call (.builtin "set.add") [.ref a, u]) Q E s := by
  refine wpAny_call_entry F.slot_set_add (setG_type R) F.entry_set_add ?_ (F.args_set_add_2 _ _)
  unfold Builtin.«set.add» Builtin.Frozenset.oneOther
  simp only [List.isEmpty_nil, bind_assoc]
  unfold Builtin.Frozenset.addrOf setAdd
  refine wpAny_bind (wpAny_pure ?_)
  try dsimp only
  refine wpAny_bind (wpAny_pure ?_)
  try dsimp only
  refine wpAny_bind ?_
  refine wpAny_holding ?_
  refine wpAny_bind ((mixKind P w).pyHash (k := k) hk ?_)
  refine setG_add (s := { s with toks := s.toks + 1 }) hk R room fun b h' sb r => ?_
  show wpAny _ _ (ret Value.none) _ _ _
  exact wpAny_pure ⟨_, rfl, hQ h' sb r⟩
end
section
variable {X : Cx}
theorem addG_ok {pins : List (Addr × Obj)} {σ : L2.St} {H : Hp} {s : Shared} {E : Value → Shared → Prop} {D : Addr} {ks : List Key} {k : Key} {u : Value} {Q : Value → Shared → Prop} (I : Inv X pins σ H s) (hD : H D = some (SetX X.w D ks)) (room : ks.length + 1 < scanBound) (ru : RelV (kV k) u)
    (h : ∀ s', Inv X pins σ (upd H D (SetX X.w D (addK ks k))) s' → Q .none s') : wpAny (model X.prog X.w) X.A (call (.builtin "set.add") [.ref D, u]) Q E s := by
  refine setG_addC (kV_is (P := X.prog) (w := X.w) ru) (setX_get I hD) room fun h' sb new => ?_
  have he : ∃ u, h'.get? D = some u := by
    have ⟨o, _, _, _, ho, _⟩ := new
    exact ⟨o, ho⟩
  exact h _ (I.write (e := D) (t' := s.toks + 1) (by rw [hD]; trivial) (.inl rfl) (fun b u hb hu => (sb.2 b hb).trans hu) he (setX_ok new))
/-- {elt for target in iter if ..}, elt a number or a text: D the new set -/
def gSc (w : World) (wi : TI) (g : TG) (tt : TT) (te : TE) (vs : List Nat) : TE := fun σ H Q => wi σ H fun J H1 => ∀ D, H1 D = none → ∃ W : Nat → Nat → Hp → Prop, (∃ m, W 0 m (upd H1 D (SetX w D []))) ∧ ∀ i m H, W i m H →
  (J.stop i H ∧ Q (.ref D) H) ∨ (J.go i H ∧ ∃ Nx : Hp → Prop, (∀ H', Nx H' → ∃ m', m' < m ∧ W (i + 1) m' H') ∧ ∀ x H', J.yld i H x H' → g x (wipe σ vs) H' fun σ2 H2 => wipe σ2 vs = wipe σ vs ∧ tt σ2 H2 fun b H3 =>
    if b = true then te σ2 H3 fun y H4 => ∃ (k : Key) (ks : List Key), y = kV k ∧ H4 D = some (SetX w D ks) ∧ ks.length + 1 < scanBound ∧ Nx (upd H4 D (SetX w D (addK ks k))) else Nx H3)
theorem sc_coreG {pins : List (Addr × Obj)} {s : Shared} {σ : L2.St} {H : Hp} {Q : VK} {elt tg iter : Expr} {ifs : List Expr} {scope : Scope} {own : List (PySem.Str × Nat)} {pos pos' : Pos} {wi : TI} {g : TG} {tt : TT} {te : TE} {use : Option (Value → Sem Unit)} {Qf : Value → Shared → Prop}
    (hc : X.calm = true) (hN : X.N.Nodup) (I : Inv X pins σ H s) (hi : PI X tg iter wi) (ok : BlkOk X.N X.env.scope scope own)
    (hg : ∀ (s : Shared) (H : Hp) (C : Addr) (cl : List (PySem.Str × Addr)) (fp : List Addr), PG (X.blk s H scope (compEnvC scope cl C X.env) fp) tg g) (ht : ∀ (s : Shared) (H : Hp) (C : Addr) (cl : List (PySem.Str × Addr)) (fp : List Addr), PTs (X.blk s H scope (compEnvC scope cl C X.env) fp) ifs tt)
    (he : ∀ (s : Shared) (H : Hp) (C : Addr) (cl : List (PySem.Str × Addr)) (fp : List Addr), PE (X.blk s H scope (compEnvC scope cl C X.env) fp) elt te) (hs : ∀ x, foldedSetIterable iter X.env x = pure x)
    (h : gSc X.w wi g tt te (own.map (·.2)) σ H Q)
    (hRR : ∀ D C s' m H', Inv X pins σ H' s' → Q (.ref D) H' → s'.heap.Ns C m → FpOk X pins H' C → compPost (model X.prog X.w) X.A X.xe use Qf (.ref D) C (.ok .next) s') :
    wpAny (model X.prog X.w) X.A (comprehension (.SetComp elt [⟨tg, iter, ifs, 0⟩] scope pos) scope X.env pos' (newSet (.type "set")) false (eval iter X.env) use) Qf X.xe s := by
  have hfree : ∀ y ∈ scope.names, y.2 = .free → ∃ c, X.env.cells.lookup y.1 = some c := fun y hy e => by
    rcases ok.free y hy e with k | k
    · exact I.ok.has _ (.inl k)
    · exact I.ok.has _ (.inr k)
  refine wpAny_comprehension_free (use := use) rfl hs (closure_ok hfree) ok.kind (fun y hy e => by rw [ok.uniq y hy, e])
    (thn (hi.run pins s σ H _ I h) fun xv s1 hx => thn hx fun itv s2 h2 => ?_)
  obtain ⟨it, fp, tn, J, H2, e, I2, T, st2, f2, q⟩ := h2
  subst e
  refine newSet_ok (newEnv_comp ?_)
  generalize hD : s2.heap.objs.size = D
  have hDn : H2 D = none := I2.hok.fresh (Nat.le_of_eq hD)
  obtain ⟨W, ⟨m0, w0⟩, turn⟩ := q D hDn
  -- the new list
  generalize hs3 : ({ s2 with heap := s2.heap.push { cls := .type "set", dict := none, data := .set #[] 0 (.fresh 0 0 (!X.w.params.followText "set-order")) } } : Shared) = s3
  have I3 : Inv X pins σ (upd H2 D (SetX X.w D [])) s3 := by
    rw [← hs3]
    refine I2.laid (t' := s2.toks) (fun b o e => Heap.get?_push_of_some _ e) (Nat.le_of_eq hD) ?_
    rw [← hD]
    exact setX_ok (setG_new (Heap.get?_push_size _ rfl))
  have h3 : s3.heap = s2.heap.push { cls := .type "set", dict := none, data := .set #[] 0 (.fresh 0 0 (!X.w.params.followText "set-order")) } := by rw [← hs3]
  have sz : ∀ b ∈ fp, b < s2.heap.objs.size := fun b hb => by
    obtain ⟨o, e, _⟩ := T.obj _ _ st2 b hb
    exact Heap.lt_size e
  have f3 : ∀ b ∈ fp, FpOk X pins (upd H2 D (SetX X.w D [])) b ∧ b < s3.heap.objs.size := fun b hb => by
    have hlt := sz b hb
    refine ⟨⟨?_, (f2 b hb).2⟩, by rw [h3, Heap.size_push]; exact Nat.lt_succ_of_lt hlt⟩
    rw [upd_ne (by rw [← hD]; exact Nat.ne_of_lt hlt)]
    exact (f2 b hb).1
  have st3 : tn 0 s3.heap := T.keep _ _ _ st2 fun b _ o e => by rw [h3]; exact Heap.get?_push_of_some _ e
  have I4 := block_start I3 ok hN f3
  have pg := hg s3 (upd H2 D (SetX X.w D [])) s3.heap.objs.size (cellsFrom (s3.heap.objs.size + 1) scope.names (cloFrom X.env.cells scope.names [])) fp
  have pt := ht s3 (upd H2 D (SetX X.w D [])) s3.heap.objs.size (cellsFrom (s3.heap.objs.size + 1) scope.names (cloFrom X.env.cells scope.names [])) fp
  have pe := he s3 (upd H2 D (SetX X.w D [])) s3.heap.objs.size (cellsFrom (s3.heap.objs.size + 1) scope.names (cloFrom X.env.cells scope.names [])) fp
  show codeAny _ _ (.compStart (.SetComp elt [⟨tg, iter, ifs, 0⟩] scope pos) 0 (.ref it) (.ref D) (compEnvC scope (cellsFrom (s3.heap.objs.size + 1) scope.names (cloFrom X.env.cells scope.names [])) s3.heap.objs.size X.env)) (compPost (model X.prog X.w) X.A X.xe use Qf (.ref D) s3.heap.objs.size) { s3 with heap := pushCells (s3.heap.push { cls := .type "dict", data := .dict #[] }) scope.names }
  have nfp : ∀ b ∈ fp, (upd H2 D (SetX X.w D [])) b = none := fun b hb => (f3 b hb).1.1
  generalize hce : compEnvC scope (cellsFrom (s3.heap.objs.size + 1) scope.names (cloFrom X.env.cells scope.names [])) s3.heap.objs.size X.env = ce at I4 pg pt pe ⊢
  have cL : ce.locals = s3.heap.objs.size := by subst hce; rfl
  generalize hH3 : upd H2 D (SetX X.w D []) = H3 at I3 I4 pg pt pe w0 nfp f3
  generalize hs4 : ({ s3 with heap := pushCells (s3.heap.push { cls := .type "dict", data := .dict #[] }) scope.names } : Shared) = s4 at I4 ⊢
  have st4 : tn 0 s4.heap := T.keep _ _ _ st3 fun b _ o e => by rw [← hs4]; exact pushCells_keeps _ _ _ _ (Heap.get?_push_of_some _ e)
  have stat : ∀ {σ' : L2.St} {H' : Hp} {s' : Shared}, Inv (X.blk s3 H3 scope ce fp) [] σ' H' s' → (∀ b ∈ fp, H' b = none) → ∀ b ∈ fp, FpOk (X.blk s3 H3 scope ce fp) [] H' b := fun {σ' H' s'} I' hn b hb =>
    ⟨hn b hb, (I'.ok.exf b hb).1, I'.ok.exfs b hb, .inl hb, fun x c e => (I'.ok.exf b hb).2 x c e, fun p hp => absurd (show p ∈ ([] : List (Addr × Obj)) ++ [] from hp) (by simp)⟩
  have loop : codeAny (model X.prog X.w) X.A (.compLoop (.SetComp elt [⟨tg, iter, ifs, 0⟩] scope pos) 0 (.ref it) (.ref D) ce) (compPost (model X.prog X.w) X.A X.xe use Qf (.ref D) s3.heap.objs.size) s4 := by
    refine compLoopS_any (fun n s' => ∃ i H', Inv (X.blk s3 H3 scope ce fp) [] (wipe σ (own.map (·.2))) H' s' ∧ tn i s'.heap ∧ (∀ b ∈ fp, H' b = none) ∧ W i n H') ?_ m0 ⟨0, H3, I4, st4, nfp, w0⟩
    rintro n s5 ⟨i, H5, I5, st5, n5, w5⟩
    rcases turn i n H5 w5 with ⟨stop, qq⟩ | ⟨go, Nx, hNx, step⟩
    · have td := T.done (X.blk s3 H3 scope ce fp) rfl rfl rfl hc i [] s5 _ H5 (fun _ _ => False) I5 (stat I5 n5) st5 stop
      refine thnF td fun r s6 ⟨hr, I6⟩ => ?_
      subst hr
      -- back in the def's context
      have I7 : Inv X pins σ H5 s6 := I3.call' (ch := fp) I6.os I6.base I6.hok I6.bare fun b hb => ⟨(f3 b hb).1.2.2.2.1, (f3 b hb).1.2.1, (f3 b hb).1.2.2.2.2.1, (f3 b hb).1.2.2.2.2.2⟩
      have nC : H5 s3.heap.objs.size = none := by
        have z : H5 ce.locals = none := I6.free
        rw [cL] at z
        exact z
      obtain ⟨m, hn, _⟩ := I6.loc
      have hn : s6.heap.Ns ce.locals m := hn
      rw [cL] at hn
      exact hRR D s3.heap.objs.size s6 m H5 I7 qq hn (I3.fpOk (Nat.le_refl _) nC)
    · have ti := T.item (X.blk s3 H3 scope ce fp) rfl rfl rfl hc i [] s5 _ H5 (fun _ _ => False) I5 (stat I5 n5) st5 go
      refine thnF ti fun r s6 ⟨u, hr, h6⟩ => ?_
      subst hr
      refine thnF h6 fun _ s7 ⟨x, H7, I7, r7, y7, st7, n7⟩ => ?_
      have I7' := I7.pinned (stat I7 n7) (T.obj _ _ st7)
      refine thnF (pg.run _ s7 _ H7 x u _ I7' r7 (step x H7 y7)) fun _ s8 ⟨σ8, H8, I8, hw8, q8⟩ => ?_
      refine thnF (pt.run _ s8 σ8 H8 _ I8 q8) fun b s9 ⟨H9, I9, q9⟩ => ?_
      -- the turn's end
      have fin : ∀ {s' : Shared} {H' : Hp}, Inv (X.blk s3 H3 scope ce fp) ([] ++ pinsAt fp s7.heap) σ8 H' s' → Nx H' → ∃ m, m < n ∧ ∃ i H', Inv (X.blk s3 H3 scope ce fp) [] (wipe σ (own.map (·.2))) H' s' ∧ tn i s'.heap ∧ (∀ b ∈ fp, H' b = none) ∧ W i m H' := fun {s' H'} I' nx => by
        obtain ⟨m', hm, w'⟩ := hNx H' nx
        have pin' : ∀ b ∈ fp, ∀ o, s7.heap.get? b = some o → s'.heap.get? b = some o ∧ H' b = none := fun b hb o e =>
          let z := I'.pin (b, o) (List.mem_append_right _ (List.mem_append_right _ (mem_pinsAt hb e)))
          ⟨z.1, z.2.1⟩
        have hl : (wipe σ (own.map (·.2))).length = σ8.length := by rw [← hw8, wipe_length]
        refine ⟨m', hm, i + 1, H', (I'.unpinned (pins := [])).weak hl (fun j v e => ?_), T.keep _ _ _ st7 fun b hb o e => (pin' b hb o e).1, fun b hb => ?_, w'⟩
        · rw [← hw8] at e
          exact (wipe_some e).1
        · obtain ⟨o, e, _⟩ := T.obj _ _ st7 b hb
          exact (pin' b hb o e).2
      cases b with
      | false =>
        simp only [Bool.false_eq_true, if_false] at q9 ⊢
        exact fin I9 q9
      | true =>
        simp only [if_true] at q9 ⊢
        refine thnF (pe.run _ s9 σ8 H9 _ I9 q9) fun z s10 ⟨yv, H10, I10, r10, kk, ks0, ey, hD10, hz10, nx⟩ => ?_
        subst ey
        exact addG_ok (X := X.blk s3 H3 scope ce fp) I10 hD10 hz10 r10 fun s11 I11 => fin I11 nx
  exact codeAny_compStart_set loop (T.self X.A 0 _ _ _ st4 loop)
theorem pe_scG {w : World} {elt tg iter : Expr} {ifs : List Expr} {scope : Scope} {own : List (PySem.Str × Nat)} {pos : Pos} {wi : TI} {g : TG} {tt : TT} {te : TE} (hc : X.calm = true) (hN : X.N.Nodup) (hi : PI X tg iter wi) (ok : BlkOk X.N X.env.scope scope own)
    (hg : ∀ (s : Shared) (H : Hp) (C : Addr) (cl : List (PySem.Str × Addr)) (fp : List Addr), PG (X.blk s H scope (compEnvC scope cl C X.env) fp) tg g) (ht : ∀ (s : Shared) (H : Hp) (C : Addr) (cl : List (PySem.Str × Addr)) (fp : List Addr), PTs (X.blk s H scope (compEnvC scope cl C X.env) fp) ifs tt)
    (he : ∀ (s : Shared) (H : Hp) (C : Addr) (cl : List (PySem.Str × Addr)) (fp : List Addr), PE (X.blk s H scope (compEnvC scope cl C X.env) fp) elt te) (hs : ∀ x, foldedSetIterable iter X.env x = pure x := by intro _; rfl) (hw : X.w = w := by rfl) :
    PE X (.SetComp elt [⟨tg, iter, ifs, 0⟩] scope pos) (gSc w wi g tt te (own.map (·.2))) := by
  subst hw
  refine ⟨fun pins s σ H Q I h => ?_⟩
  rw [eval_SetComp]
  refine sc_coreG hc hN I hi ok hg ht he hs h fun D C s' m H' I' q hn f => ⟨m, hn, fun h'' sb => ?_⟩
  obtain ⟨f0, f1, f2, f3, f4, f5⟩ := f
  exact ⟨.ref D, H', I'.turned (t' := s'.toks) (fun b o hb e => (sb.2 b hb).trans e) f0 f1 f3 f4 f5, rfl, q⟩

/-- over a list that the block leaves as it is -/
theorem sc_list {w : World} {K : PySem.W.Frag} {a : Addr} {xs : List V} {g : TG} {tt : TT} {te : TE} {vs : List Nat} {σ : L2.St} {H1 : Hp} {D : Addr} {Qd : Hp → Prop} {J : It} {n : Nat} {G : Hp → Prop} {Y : Nat → Hp → V → Hp → Prop} (wk : Walk J n G Y) (Pv : Nat → Hp → Prop) (h0 : Pv 0 (upd H1 D (SetX w D []))) (hl : ∀ i H, i ≤ n → Pv i H → G H)
    (hs : ∀ i x H H', i < n → Pv i H → Y i H x H' → g x (wipe σ vs) H' fun σ2 H2 => wipe σ2 vs = wipe σ vs ∧ tt σ2 H2 fun b H3 =>
      if b = true then te σ2 H3 fun y H4 => ∃ (k : Key) (ks : List Key), y = kV k ∧ H4 D = some (SetX w D ks) ∧ ks.length + 1 < scanBound ∧ Pv (i + 1) (upd H4 D (SetX w D (addK ks k))) else Pv (i + 1) H3) (hd : ∀ H, Pv n H → Qd H) :
    ∃ W : Nat → Nat → Hp → Prop, (∃ m, W 0 m (upd H1 D (SetX w D []))) ∧ ∀ i m H, W i m H →
      (J.stop i H ∧ Qd H) ∨ (J.go i H ∧ ∃ Nx : Hp → Prop, (∀ H', Nx H' → ∃ m', m' < m ∧ W (i + 1) m' H') ∧ ∀ x H', J.yld i H x H' → g x (wipe σ vs) H' fun σ2 H2 => wipe σ2 vs = wipe σ vs ∧ tt σ2 H2 fun b H3 =>
        if b = true then te σ2 H3 fun y H4 => ∃ (k : Key) (ks : List Key), y = kV k ∧ H4 D = some (SetX w D ks) ∧ ks.length + 1 < scanBound ∧ Nx (upd H4 D (SetX w D (addK ks k))) else Nx H3) := by
  refine ⟨fun i m H => m = n - i ∧ i ≤ n ∧ Pv i H, ⟨n, by simp, Nat.zero_le _, h0⟩, ?_⟩
  rintro i m H ⟨rfl, hi, p⟩
  have q := hl i H hi p
  by_cases hlt : i < n
  · exact .inr ⟨wk.goes i H hlt q, Pv (i + 1), fun H' p' => ⟨n - (i + 1), by omega, rfl, hlt, p'⟩, fun x H' y => hs i x H H' hlt p (wk.yields i H x H' hlt q y)⟩
  · have e : i = n := by omega
    subst e
    exact .inl ⟨wk.stops H q, hd H p⟩
end
end Pk

namespace Pk
open PySem PySem.Spec PyProof.Rows L2
section
variable {X : Cx} {K : PySem.W.Frag} {pos : Pos}
/-- sorted(a text) -/
def gSortedT : RC := fun vs H Q => match vs with
  | [.str x] => (tl x).length ≤ 1000000 ∧ ∀ (us : List (List Nat)) (q : Addr), us.Perm ((tl x).map fun c => [c]) → us.Pairwise (fun a b => ¬ b < a) → H q = none → Q (.ref q) (upd H q (.lst (us.map txV)))
  | _ => False
theorem cr_sortedT (hcalm : X.calm = true) : CallR X (.builtin "sorted") gSortedT := by
  intro pins s σ H xs us Q I r h
  unfold gSortedT at h
  split at h
  · rename_i x
    obtain ⟨hl6, q⟩ := h
    obtain ⟨u, rfl, tk0, rfl⟩ := vals1 r
    obtain ⟨ts, hts⟩ : ∃ ts : List (List Nat), ts = (tl x).map fun c => [c] := ⟨_, rfl⟩
    rw [← hts] at q
    obtain ⟨ks, hkl⟩ : ∃ ks : List Str, ks = ts.map S := ⟨ts.map S, rfl⟩
    have hx : x.cps.size = ks.length := by rw [hkl, hts, List.length_map, List.length_map]; exact Array.length_toList.symm
    have h6 : ks.length ≤ 1000000 := by rw [hkl, hts, List.length_map, List.length_map]; exact hl6
    have hsz : ks.length ≤ sizeLine := Nat.le_trans h6 line6
    refine Calls.call_function_entry PyProof.Rows.kind_sorted PyProof.Rows.plain_sorted PyProof.Rows.entry_sorted (PyProof.Rows.args_sorted1 _) ?_
    unfold Builtin.«sorted»
    refine wpAny_bind (m := checkCount "sorted" 1 1 _) (wpAny_pure ?_)
    refine wpAny_bind (wpAny_collect_str (A := X.A.in1) (I.ok.hd hcalm) x tk0 (fun s' acc hk hg hdr ho hacc => ?_) (by rw [hx]; exact hsz))
    obtain ⟨h', tk, rfl⟩ : ∃ h' tk, s' = { s with heap := h', toks := tk } := ⟨s'.heap, s'.toks, by cases s'; cases s; cases hg; cases hdr; cases ho; rfl⟩
    have hal : acc.toList.length = ks.length := by rw [Array.length_toList, hacc.1, hx]
    have hS : StrsAre acc.toList ks := strs_at hal fun j v e => by
      obtain ⟨c, t, e1, e2⟩ := hacc.2 j v (by rw [← Array.getElem?_toList]; exact e)
      refine ⟨⟨#[c]⟩, t, ?_, e2⟩
      rw [hkl, hts, List.getElem?_map, List.getElem?_map]
      have e3 : (tl x)[j]? = some c := by rw [← e1]; exact Array.getElem?_toList
      rw [e3]
      rfl
    have I1 : Inv X pins σ H { s with heap := h', toks := tk } := I.kept hk
    refine wpAny_bind (wpAny_newList ?_ (by rw [hal]; exact hsz))
    have hoL : (h'.push (seqObj "list" acc.toList.toArray 0)).get? h'.objs.size = some (seqObj "list" acc.toList.toArray 0) := Heap.get?_push_size _ rfl
    show wpAny _ _ _ _ _ { s with heap := h'.push (seqObj "list" acc.toList.toArray 0), toks := tk }
    refine wpAny_bind (wpAny_holding (wpAny_call_entry PyProof.Rows.slot_list_sort ⟨_, hoL, rfl⟩ PyProof.Rows.entry_list_sort
      (list_sort_treeKAny strKind_oneLt (s := { s with heap := h'.push (seqObj "list" acc.toList.toArray 0), toks := tk }) hoL hS.keysOf (fun v₁ v₂ rest e => keyKind_strs (by rw [← e]; exact hS)) (by rw [hal]; exact hsz) fun st' hp hs => ⟨_, rfl, ?_⟩)
      (PyProof.Rows.args_list_sort _)))
    obtain ⟨ys, g1, g2, g3⟩ := sorted_out_str hS hp hs
    obtain ⟨e', he'⟩ := PyProof.Rows.sortedHeap_at (vs := acc.toList) (out := (arrOf st').map (·.2)) hoL
    have hlen : (ys.map V.str).length ≤ sizeLine := by
      rw [List.length_map, g2.length_eq]
      exact hsz
    have eys : ys.map V.str = (ys.map tl).map txV := by
      rw [← map_S_tl ys]
      simp
    have hpp : (ys.map tl).Perm ts := by
      have := g2.map tl
      rw [hkl, List.map_map] at this
      have e : ts.map (tl ∘ S) = ts := by
        conv => rhs; rw [← List.map_id ts]
        exact List.map_congr_left fun y _ => rfl
      rw [e] at this
      exact this
    refine wpAny_pure ⟨_, rfl, .ref h'.objs.size, upd H h'.objs.size (.lst (ys.map V.str)), I1.laid (t' := tk) (fun b u e => ?_) (Nat.le_refl _)
      (show ObjOk X.prog X.w _ _ _ (.lst (ys.map V.str)) from ⟨hlen, ((arrOf st').map (·.2)).toList, e', vals_of_strs g1, by rw [Array.toArray_toList]; exact he'⟩), rfl, ?_⟩
    · have hb : b < h'.objs.size := Heap.lt_size e
      rw [PyProof.Rows.sortedHeap_old (Nat.ne_of_lt hb) (by rw [size_push']; exact Nat.lt_succ_of_lt hb)]
      exact Heap.get?_push_of_some _ e
    · rw [eys]
      exact q _ _ hpp (List.pairwise_map.mpr (sorted_pw g3)) (I1.hok.fresh (Nat.le_refl _))
  · exact h.elim
end
end Pk

namespace Pk
open PySem PySem.Spec PyProof.Rows L2
/-- a method with n parameters (the object among them) and one that is told by its name alone -/
structure MCalK (P : Program) (w : World) (K : PySem.W.Frag) (mg : Str → Option Value) (base : Heap) (CX : CXT) (k : Nat) (C : Addr) (m : Str) (n : Nat) (ps : List Str) (y : Str) (sp : Sp) : Prop where
  cl : Cls K C
  ex : ∃ f fd, Meth K C m f ∧ (∀ (s : Shared) (us : List Value) (d : Value), us.length = n → BindsTo s fd ⟨us, [(y, d)]⟩ (ps.zip (us ++ [d]))) ∧ ps.length = n + 1 ∧ FnOk P w K mg base CX k f fd ps sp
section
variable {X : Cx} {CX : CXT} {k n : Nat} {C : Addr} {m y : Str} {ps : List Str} {sp : Sp} {E : XK} {o e : Expr} {es : List Expr} {kws : List Keyword} {ta : TE} {t tk : TA} {p apos pos : Pos}
def gMethK (C : Addr) (m : Str) (sp : Sp) (n : Nat) (E : XK) (ta : TE) (t tk : TA) : TE := fun σ H Q => ta σ H fun x H1 => match x with
  | .ref a => ∃ dx fs, H1 a = some (.ins C dx fs) ∧ fs.lookup m = none ∧ t σ H1 fun vs H2 => tk σ H2 fun zs H3 => sp (gK n (.ref a :: vs) zs) H3 Q E
  | _ => False
theorem pe_mcalK {pl : Sem Bool} (he : PE X o ta) (M : MCalK X.prog X.w X.K X.mg X.base CX k C m n ps y sp) (hr : Room k X.A) (hx : Passes CX X E) (ha : PA X (e :: es) t) (hkw : PK X kws tk)
    (hall : (backToKw pos (keywordEach kws X.env)).all (·.1.isSome) = true := by rfl) (hks : (backToKw pos (keywordEach kws X.env)).filterMap (·.1) = [y] := by rfl)
    (hst : starEach (e :: es) X.env = (false, eval e X.env) :: starEach es X.env := by rfl)
    (hpl : ((backTo pos (starEach (e :: es) X.env)).any (·.1) || (backToKw pos (keywordEach kws X.env)).any (·.1.isNone)) = false := by rfl)
    (ht : eval (.Call (.Attribute o m apos) (e :: es) kws pos) X.env = (do
      let ov ← eval o X.env
      standAt apos.atName
      let (f, first) ← holding [ov] (getMethod ov m pl)
      callWith pos f first (backTo pos (starEach (e :: es) X.env)) (backToKw pos (keywordEach kws X.env))) := by rfl) :
    PE X (.Call (.Attribute o m apos) (e :: es) kws pos) (gMethK C m sp n E ta t tk) := by
  obtain ⟨f, fd, h1, hb, hn, F⟩ := M.ex
  refine ⟨fun pins s σ H Q I h => ?_⟩
  refine PySem.W.methodCall_KW (pl := pl) (thn (he.run pins s σ H _ I h) fun u s1 ⟨x, H1, I1, rx, q1⟩ => ?_) ht
  cases x with
  | ref a =>
    obtain ⟨dx, fs, ea, l, q⟩ := q1
    obtain rfl : u = Value.ref a := rx
    refine getmeth_ok I1 ea M.cl h1 l ?_
    refine PySem.W.callWith_KW (first := [.ref a]) (h₀ := X.base) I.ok.mod.kin h1.kp hall (thn (ha.run pos pins s1 σ H1 _ I1 q) fun us s2 ⟨vs, H2, I2, r, q2⟩ => ?_) hpl hst
    refine thn (hkw.run pos pins s2 σ H2 _ I2 q2) fun ws s3 ⟨zs, H3, I3, rz, q3⟩ => ⟨I3.kIn, ?_⟩
    rw [hks]
    refine run_fnk (us := .ref a :: us) (vs := .ref a :: vs) F hr (g := gK n) (gV := gK n) ⟨fun s us ws _ hl => ?_, fun r1 r2 => gK_rel n r1 r2⟩ hx I3 (.cons rfl r) rz q3
    rw [hn] at hl
    obtain ⟨h1, d, rfl⟩ := gK_inv n us ws hl
    have := hb s us d h1
    subst h1
    rw [gK_app]
    exact this
  | _ => exact q1.elim
end
end Pk

namespace Pk
open PySem PySem.Spec PyProof.Rows L2
/-! dict(zip(a text, a tuple)) -/
def ZOK (b0 t : Addr) (x : Str) (tk : Tok) (its : Array Value) (h : Heap) : Prop := IsZip h (b0 + 4) (b0 + 2) (b0 + 3) .none ∧ IsTupOf2 h (b0 + 2) (.ref b0) (.ref (b0 + 1)) ∧ IsTupOf2 h (b0 + 3) .none .none ∧ h.IsStrIter b0 (strIterType x) x tk 0 ∧ h.IsTupleIter (b0 + 1) t 0 ∧ h.IsTuple t its
abbrev zfp (b0 t : Addr) : List Addr := [b0 + 4, b0 + 2, b0 + 3, b0, b0 + 1, t]
abbrev zwr (b0 : Addr) : List Addr := [b0 + 4, b0 + 3, b0, b0 + 1]
def ZRel (x : Str) (its : Array Value) (i : Nat) (k v : Value) : Prop := (∃ c u, x.cps[i]? = some c ∧ k = .str ⟨#[c]⟩ u) ∧ its[i]? = some v
/-- the state after i draws; d is the dict -/
def ZSt (b0 t d : Addr) (x : Str) (tk : Tok) (its : Array Value) (i : Nat) (h : Heap) : Prop :=
  (IsZip h (b0 + 4) (b0 + 2) (b0 + 3) .none ∨ ∃ T f oT, ZipF h (b0 + 4) (b0 + 2) (b0 + 3) T f ∧ T ≠ d ∧ T ∉ zwr b0 ∧ h.get? T = some oT) ∧ IsTupOf2 h (b0 + 2) (.ref b0) (.ref (b0 + 1)) ∧ (∃ a1 a2, IsTupOf2 h (b0 + 3) a1 a2) ∧ h.IsStrIter b0 (strIterType x) x tk i ∧ (h.IsTupleIter (b0 + 1) t i ∧ h.IsTuple t its)
theorem zsepT {b0 t : Addr} (ht : ∀ b, b0 ≤ b → t ≠ b) : ZipSep2 (b0 + 4) (b0 + 2) (b0 + 3) b0 (b0 + 1) [b0] [b0 + 1, t] := by
  have h := zsep (S1 := .txt ⟨#[]⟩) (S2 := .tup t []) (b0 := b0) (fun _ _ => trivial) ht
  exact h
theorem zsrc {prog : Program} {w : World} {A : Around} (hh : A.handled = none) {b0 t d : Addr} {x : Str} {tk : Tok} {its : Array Value} (ht : ∀ b, b0 ≤ b → t ≠ b) (hd : d ∉ zfp b0 t) :
    PairSrc prog w A (b0 + 4) d (zwr b0) (min x.cps.size its.size) (ZRel x its) (ZSt b0 t d x tk its) := by
  have sep := zsepT ht
  have D1 : Draws prog w A.in1 b0 [b0] x.cps.size _ _ := Draws.text (prog := prog) (w := w) (A := A.in1) hh b0 x tk
  have D2 : Draws prog w A.in1 (b0 + 1) [b0 + 1, t] its.size _ _ := Draws.tuple (prog := prog) (w := w) (A := A.in1) hh (b0 + 1) t (ht _ (Nat.le_add_right _ _)) its
  have dz : ∀ b ∈ zfp b0 t, b ≠ d := fun b hb z => hd (z ▸ hb)
  have tw : t ∉ zwr b0 := fun z => by
    have e' : t = b0 + 4 ∨ t = b0 + 3 ∨ t = b0 ∨ t = b0 + 1 := by simpa using z
    rcases e' with z | z | z | z
    all_goals first | exact ht _ (Nat.le_add_right _ _) z | exact ht _ (Nat.le_refl _) z
  have w2 : b0 + 2 ∉ zwr b0 := fun z => by
    have e' : b0 + 2 = b0 + 4 ∨ b0 + 2 = b0 + 3 ∨ b0 + 2 = b0 ∨ b0 + 2 = b0 + 1 := by simpa [zwr] using z
    rcases e' with z | z | z | z
    · exact sep.TIz z
    · exact sep.TITO z
    · exact sep.TIi1 z
    · exact sep.TIi2 z
  refine ⟨fun z => hd ?_, fun i h h' st k => ?_, fun i s Q E hi st hds hQ => ?_, fun s Q E st hQ => ?_⟩
  · have e' : d = b0 + 4 ∨ d = b0 + 3 ∨ d = b0 ∨ d = b0 + 1 := by simpa using z
    rcases e' with z | z | z | z <;> simp [z]
  · obtain ⟨hz, hTI, ⟨a1, a2, hTO⟩, s1, s2, s3⟩ := st
    refine ⟨?_, k _ _ (dz _ (by simp)) hTI, ⟨a1, a2, k _ _ (dz _ (by simp)) hTO⟩, ?_, ?_, ?_⟩
    · rcases hz with hz | ⟨T, f, oT, hz, h1, h2, h3⟩
      · exact .inl (k _ _ (dz _ (by simp)) hz)
      · exact .inr ⟨T, f, oT, k _ _ (dz _ (by simp)) hz, h1, h2, k _ _ h1 h3⟩
    · obtain ⟨o, ho, r⟩ := s1
      exact ⟨o, k _ _ (dz _ (by simp)) ho, r⟩
    · obtain ⟨o, ho, r⟩ := s2
      exact ⟨o, k _ _ (dz _ (by simp)) ho, r⟩
    · obtain ⟨o, ho, r⟩ := s3
      exact ⟨o, k _ _ (dz _ (by simp)) ho, r⟩
  · obtain ⟨hz, hTI, ⟨a1, a2, hTO⟩, s1, s2, s3⟩ := st
    have hi1 : i < x.cps.size := Nat.lt_of_lt_of_le hi (Nat.min_le_left _ _)
    have hi2 : i < its.size := Nat.lt_of_lt_of_le hi (Nat.min_le_right _ _)
    have fresh : ∀ {b o}, s.heap.get? b = some o → s.heap.objs.size ≠ b := fun {b o} e => Nat.ne_of_gt (Heap.lt_size e)
    have ndT : s.heap.objs.size ≠ d := Nat.ne_of_gt hds
    have nw : s.heap.objs.size ∉ zwr b0 := fun z => by
      have e' : s.heap.objs.size = b0 + 4 ∨ s.heap.objs.size = b0 + 3 ∨ s.heap.objs.size = b0 ∨ s.heap.objs.size = b0 + 1 := by simpa using z
      obtain ⟨o1, ho1, _⟩ := s1
      obtain ⟨o2, ho2, _⟩ := s2
      rcases e' with z | z | z | z
      · rcases hz with hz | ⟨_, _, _, hz, _⟩
        · exact fresh hz z
        · exact fresh hz z
      · exact fresh hTO z
      · exact fresh ho1 z
      · exact fresh ho2 z
    have m1 : b0 + 4 ∈ zwr b0 := by simp
    have m2 : b0 + 3 ∈ zwr b0 := by simp
    have m3 : b0 ∈ zwr b0 := by simp
    have m4 : b0 + 1 ∈ zwr b0 := by simp
    rcases hz with hz | ⟨T, f, oT, hz, h1, h2, h3⟩
    · refine wpAny_pyNext_zipD2_item sep D1 D2 hz hTI hTO s1 ⟨s2, s3⟩ hi1 hi2 fun x1 x2 h' tk p1 p2 b1 b2 d1 d2 b5 b6 hk => ?_
      refine hQ _ x1 x2 h' tk ⟨p1, p2⟩ (.inl ⟨_, b5, rfl, 0, rfl⟩) ⟨.inr ⟨_, false, _, b1, ndT, nw, b5⟩, hk _ _ sep.TIz sep.TITO sep.TIi1 sep.TIi2 hTI, ⟨_, _, b2⟩, d1, d2⟩ ?_
      exact fun c o hc e => hk c o (fun q => hc (q ▸ m1)) (fun q => hc (q ▸ m2)) (fun q => hc (q ▸ m3)) (fun q => hc (q ▸ m4)) e
    · refine pyNext_zip2_out_item sep D1 D2 hz h3 hTI s1 ⟨s2, s3⟩ hi1 hi2 fun x1 x2 h' tk p1 p2 b1 d1 d2 b5 hk => ?_
      refine hQ _ x1 x2 h' tk ⟨p1, p2⟩ (.inl ⟨_, b5, rfl, 0, rfl⟩) ⟨.inr ⟨T, true, oT, b1, h1, h2, hk _ _ (fun q => h2 (q ▸ m1)) (fun q => h2 (q ▸ m3)) (fun q => h2 (q ▸ m4)) h3⟩, hk _ _ sep.TIz sep.TIi1 sep.TIi2 hTI, ⟨_, _, hk _ _ sep.TOz (fun q => sep.Tf1 (by rw [q]; simp)) (fun q => sep.Tf2 (by rw [q]; simp)) hTO⟩, d1, d2⟩ ?_
      exact fun c o hc e => hk c o (fun q => hc (q ▸ m1)) (fun q => hc (q ▸ m3)) (fun q => hc (q ▸ m4)) e
  · obtain ⟨hz, hTI, ⟨a1, a2, hTO⟩, s1, s2, s3⟩ := st
    have hle1 : min x.cps.size its.size ≤ x.cps.size := Nat.min_le_left _ _
    have hle2 : min x.cps.size its.size ≤ its.size := Nat.min_le_right _ _
    have hend : min x.cps.size its.size = x.cps.size ∨ min x.cps.size its.size = its.size := by omega
    have m1 : b0 + 4 ∈ zwr b0 := by simp
    have m2 : b0 + 3 ∈ zwr b0 := by simp
    have m3 : b0 ∈ zwr b0 := by simp
    have m4 : b0 + 1 ∈ zwr b0 := by simp
    rcases hz with hz | ⟨T, f, oT, hz, h1, h2, h3⟩
    · exact wpAny_pyNext_zipD2_end sep D1 D2 hz hTI hTO s1 ⟨s2, s3⟩ hle1 hle2 hend fun h' tk hk => hQ h' tk fun c o hc e => hk c o (fun q => hc (q ▸ m1)) (fun q => hc (q ▸ m2)) (fun q => hc (q ▸ m3)) (fun q => hc (q ▸ m4)) e
    · exact pyNext_zip2_out_end sep D1 D2 hz h3 hTI s1 ⟨s2, s3⟩ hle1 hle2 hend fun h' tk hk => hQ h' tk fun c o hc e => hk c o (fun q => hc (q ▸ m1)) (fun q => hc (q ▸ m3)) (fun q => hc (q ▸ m4)) e
theorem zarg {prog : Program} {w : World} {b0 t : Addr} {x : Str} {tk : Tok} {its : Array Value} (ht : ∀ b, b0 ≤ b → t ≠ b) :
    PairArg prog w "zip" (b0 + 4) (zfp b0 t) (zwr b0) (min x.cps.size its.size) (ZRel x its) (ZOK b0 t x tk its) := by
  refine ⟨fun s ok => ⟨_, ok.1, rfl⟩, by decide, fun h h' ok k => ?_, fun h ok b hb => ?_, fun b hb => ?_, fun A s Q E hh ok hQ => ?_, fun A s d Q E hh ok hd hdf hQ => ?_⟩
  · obtain ⟨hz, hTI, hTO, ⟨o1, h1, r1⟩, ⟨o2, h2, r2⟩, ⟨o3, h3, r3⟩⟩ := ok
    exact ⟨k _ _ hz, k _ _ hTI, k _ _ hTO, ⟨o1, k _ _ h1, r1⟩, ⟨o2, k _ _ h2, r2⟩, ⟨o3, k _ _ h3, r3⟩⟩
  · obtain ⟨hz, hTI, hTO, ⟨o1, h1, r1⟩, ⟨o2, h2, r2⟩, ⟨o3, h3, r3⟩⟩ := ok
    have e' : b = b0 + 4 ∨ b = b0 + 2 ∨ b = b0 + 3 ∨ b = b0 ∨ b = b0 + 1 ∨ b = t := by simpa using hb
    rcases e' with z | z | z | z | z | z
    · rw [z]; exact ⟨_, hz⟩
    · rw [z]; exact ⟨_, hTI⟩
    · rw [z]; exact ⟨_, hTO⟩
    · rw [z]; exact ⟨_, h1⟩
    · rw [z]; exact ⟨_, h2⟩
    · rw [z]; exact ⟨_, h3⟩
  · have e' : b = b0 + 4 ∨ b = b0 + 3 ∨ b = b0 ∨ b = b0 + 1 := by simpa using hb
    rcases e' with z | z | z | z <;> simp [z]
  · exact getAttrOr_miss_zip ok.1 rfl rfl rfl zip_no_keys (by decide) hh hQ
  · obtain ⟨hz, hTI, hTO, s1, s2, s3⟩ := ok
    exact wpAny_pyIter_zip hz (hQ (b0 + 4) (zwr b0) (ZSt b0 t d x tk its) s.heap s.toks (zsrc hh ht hdf) ⟨.inl hz, hTI, ⟨_, _, hTO⟩, s1, s2, s3⟩ (fun _ _ e => e) (fun b hb => .inl hb))
def zipK (l : List Nat) (xs : List V) : List (Key × V) := (l.map fun c => txK [c]).zip xs
section
variable {X : Cx}
def gDictZip (K : PySem.W.Frag) (ta : TA) : TE := fun σ H Q => ta σ H fun vs H1 => ∃ (x : Str) (t : Addr) (xs : List V), vs = [.str x, .ref t] ∧ SqT K H1 t xs ∧ xs.length ≤ 1000 ∧ ∀ p, H1 p = none → Q (.ref p) (upd H1 p (.dK (mergeK [] (zipK (tl x) xs))))
theorem pe_dictZip0 {e e2 : Expr} {ta : TA} {p pos p2 pos2 : Pos} (hl : X.mg "dict" = none) (hm : X.mg "zip" = none) (ha : PA X [e, e2] ta) (hc : X.calm = true) (hgl : Gl X "dict" := by rfl) (hg : Gl X "zip" := by rfl)
    (hs1 : starEach [.Call (.Name "zip" p) [e, e2] [] pos] X.env = (false, eval (.Call (.Name "zip" p) [e, e2] [] pos) X.env) :: starEach [] X.env := by rfl)
    (hs : starEach [e, e2] X.env = (false, eval e X.env) :: starEach [e2] X.env := by rfl) (hpl : (backTo pos (starEach [e2] X.env)).any (·.1) = false := by rfl) :
    PE X (.Call (.Name "dict" p2) [.Call (.Name "zip" p) [e, e2] [] pos] [] pos2) (gDictZip X.K ta) := by
  refine ⟨fun pins s σ H Q I h => ?_⟩
  refine wpAny_Call_Name_kw (ld_blt I hgl hl bt_dict ?_ (by decide) (by decide))
  refine PyProof.Rows.callWith_type1 ?_ hs1 rfl
  rw [hs1]
  show wpAny _ _ (spliced ((false, eval (.Call (.Name "zip" p) [e, e2] [] pos) X.env) :: backTo pos2 (starEach [] X.env))) _ _ s
  refine Calls.spliced_cons ?_
  refine wpAny_Call_Name_kw (ld_blt I hg hm PyProof.Rows.boot_zip ?_ (by decide) (by decide))
  refine PyProof.Rows.callWith_type1 (thn (ha.run pos pins s σ H _ I h) fun us s1 ⟨vs, H1, I1, r1, q1⟩ => ?_) hs hpl
  obtain ⟨x, t, xs, rfl, k2, hlen, q⟩ := q1
  cases r1 with
  | cons r1 rr =>
  cases rr with
  | cons r2 rr =>
  cases rr
  cases r2
  obtain ⟨tk, rfl⟩ := r1
  obtain ⟨its, rv, htI, hz⟩ := I1.tuple k2
  have off : ∀ b, s1.heap.objs.size ≤ b → t ≠ b := fun b hb z => by
    obtain ⟨o, ho, _⟩ := htI
    exact absurd (Heap.lt_size ho) (by rw [z]; exact Nat.not_lt.mpr hb)
  refine zip_begins2 (begins_text x tk) (begins_tuple t its.toArray) trivial htI fun h' hz hTI hTO h1 h2 hsz hk => ?_
  have I2 : Inv X pins σ H1 { s1 with heap := h' } := I1.kept (t' := s1.toks) hk
  have hf : ∀ b ∈ zwr s1.heap.objs.size, FpOk X pins H1 b := fun c hcm => by
    have e' : c = s1.heap.objs.size + 4 ∨ c = s1.heap.objs.size + 3 ∨ c = s1.heap.objs.size ∨ c = s1.heap.objs.size + 1 := by simpa using hcm
    have hle : s1.heap.objs.size ≤ c := by
      rcases e' with z | z | z | z
      all_goals first | (rw [z]; exact Nat.le_add_right _ _) | (rw [z]; exact Nat.le_refl _)
    exact I1.fpOk hle (I1.hok.fresh hle)
  refine Calls.spliced_nil ?_
  have htI' : h'.IsTuple t its.toArray := by
    obtain ⟨o, ho, r⟩ := htI
    exact ⟨o, hk _ _ ho, r⟩
  have hxl : its.length = xs.length := rv.length.symm
  -- the pairs
  have hprs : ∃ prs : List (Key × Value), KV (zipK (tl x) xs) prs ∧ prs.length = min x.cps.size its.toArray.size ∧ ∀ i k v, ZRel x its.toArray i k v → ∃ kk, prs[i]? = some (kk, v) ∧ keyIs kk k = true := by
    refine ⟨((tl x).map fun c => txK [c]).zip its, ?_, ?_, ?_⟩
    · have : ∀ (ks : List Key) (xs : List V) (us : List Value), Vals xs us → KV (ks.zip xs) (ks.zip us) := by
        intro ks
        induction ks with
        | nil => intro xs us _; exact .nil
        | cons k r ih =>
          intro xs us h
          cases h with
          | nil => exact .nil
          | cons h1 h2 => exact .cons ⟨rfl, h1⟩ (ih _ _ h2)
      exact this _ _ _ rv
    · rw [List.length_zip, List.length_map, List.size_toArray]
      rfl
    · rintro i k v ⟨⟨c, u, hx, rfl⟩, hv⟩
      have hx' : (tl x)[i]? = some c := by simpa using hx
      have hv' : its[i]? = some v := by simpa using hv
      refine ⟨txK [c], ?_, ?_⟩
      · rw [List.getElem?_zip_eq_some]
        exact ⟨by rw [List.getElem?_map, hx']; rfl, hv'⟩
      · show Value.isStrOf (S [c]) (.str ⟨#[c]⟩ u) = true
        simp [Value.isStrOf, S]
  obtain ⟨prs, hKV, hpl2, hrel⟩ := hprs
  refine call_dict_pairs (knd := mixKind X.prog X.w) (kvs := prs) (zarg (x := x) (tk := tk) (its := its.toArray) off) (I1.ok.hd hc) ⟨hz, hTI, hTO, ⟨_, h1, rfl, rfl⟩, ⟨_, h2, rfl, rfl⟩, htI'⟩ ⟨hpl2, hrel⟩ ?_ fun h2' tk2 hd' hk2 => ?_
  · refine Nat.le_trans (Nat.min_le_right _ _) ?_
    rw [List.size_toArray, hxl]
    exact Nat.le_of_lt (small1000 (by omega))
  have hf2 : ∀ b ∈ zwr s1.heap.objs.size, FpOk X pins H1 b := hf
  have hbig := I2.big
  have hm2 : ((h'.objs.size : Addr) == sysModules) = false := beq_eq_false_iff_ne.mpr (Nat.ne_of_gt hbig)
  have hlm : (mergeK [] (zipK (tl x) xs)).length ≤ sizeLine := by
    refine Nat.le_trans (length_mergeK _ _) ?_
    have : (zipK (tl x) xs).length ≤ xs.length := by unfold zipK; rw [List.length_zip]; exact Nat.min_le_right _ _
    show 0 + _ ≤ _
    exact Nat.le_of_lt (small1000 (by omega))
  refine ⟨.ref h'.objs.size, _, I2.turnedNew (ch := zwr s1.heap.objs.size) (h' := h2') (t' := tk2) (T := h'.objs.size) (ob := .dK (mergeK [] (zipK (tl x) xs))) hk2 hf2 (Nat.le_refl _) ⟨hlm, hm2, merged [] prs, hKV.merge .nil, hd'⟩, rfl, q _ (I2.hok.fresh (Nat.le_refl _))⟩
theorem pe_dictZip {K : PySem.W.Frag} {e e2 : Expr} {ta : TA} {p pos p2 pos2 : Pos} (hl : X.mg "dict" = none) (hm : X.mg "zip" = none) (ha : PA X [e, e2] ta) (hK : X.K = K := by rfl) (hc : X.calm = true := by rfl) (hgl : Gl X "dict" := by rfl) (hg : Gl X "zip" := by rfl)
    (hs1 : starEach [.Call (.Name "zip" p) [e, e2] [] pos] X.env = (false, eval (.Call (.Name "zip" p) [e, e2] [] pos) X.env) :: starEach [] X.env := by rfl)
    (hs : starEach [e, e2] X.env = (false, eval e X.env) :: starEach [e2] X.env := by rfl) (hpl : (backTo pos (starEach [e2] X.env)).any (·.1) = false := by rfl) :
    PE X (.Call (.Name "dict" p2) [.Call (.Name "zip" p) [e, e2] [] pos] [] pos2) (gDictZip K ta) := hK ▸ pe_dictZip0 hl hm ha hc hgl hg hs1 hs hpl
end
end Pk

namespace Pk
open PySem PySem.Spec PyProof.Rows L2
/-- the class x, made by its __init__ of n parameters (the object among them) and one that is told by its name alone -/
structure KCalK (P : Program) (w : World) (K : PySem.W.Frag) (mg : Str → Option Value) (base : Heap) (CX : CXT) (k : Nat) (x : Str) (C : Addr) (n : Nat) (ps : List Str) (y : Str) (sp : Sp) : Prop where
  ex : ∃ f fd, Mk K C f ∧ mg x = some (.ref C) ∧ (∀ (s : Shared) (us : List Value) (d : Value), us.length = n → BindsTo s fd ⟨us, [(y, d)]⟩ (ps.zip (us ++ [d]))) ∧ ps.length = n + 1 ∧ FnOk P w K mg base CX k f fd ps sp
section
variable {X : Cx} {CX : CXT} {k n : Nat} {C : Addr} {x y : Str} {ps : List Str} {sp : Sp} {E : XK} {e : Expr} {es : List Expr} {kws : List Keyword} {t tk : TA} {p pos : Pos}
theorem pe_kcalK (M : KCalK X.prog X.w X.K X.mg X.base CX k x C (n + 1) ps y sp) (hr : Room (k + 1) X.A) (hx : Passes CX X E) (ha : PA X (e :: es) t) (hkw : PK X kws tk) (hg : Gl X x := by rfl)
    (hall : (backToKw pos (keywordEach kws X.env)).all (·.1.isSome) = true := by rfl) (hks : (backToKw pos (keywordEach kws X.env)).filterMap (·.1) = [y] := by rfl)
    (hdb : (x == ("__debug__" : Str)) = false := by decide) (he : starEach (e :: es) X.env = (false, eval e X.env) :: starEach es X.env := by rfl)
    (hpl : ((backTo pos (starEach (e :: es) X.env)).any (·.1) || (backToKw pos (keywordEach kws X.env)).any (·.1.isNone)) = false := by rfl) : PE X (.Call (.Name x p) (e :: es) kws pos) (tMakeK C n 1 sp (gK (n + 1)) E t tk) := by
  obtain ⟨f, fd, h1, hm, hb, hn, F⟩ := M.ex
  refine pe_makeK (ks := [y]) h1 F hr hg hm (g := gK (n + 1)) (gV := gK (n + 1)) ⟨fun s us ws _ hl hw => ?_, fun r1 r2 => gK_rel (n + 1) r1 r2⟩ hx ha hkw hall hks hdb he hpl
  match ws, hw with
  | [d], _ =>
    have := hb s us d hl
    rw [← hl, gK_app]
    exact this
end
end Pk

namespace Pk
open PySem PySem.Spec PyProof.Rows L2
section
variable {X : Cx} {K : PySem.W.Frag} {pos : Pos}
/-! ### dicts whose keys are tuples of numbers and texts -/
def gInT (neg : Bool) : R2 := fun x y H Q => ∃ a b kvs k, x = .ref b ∧ y = .ref a ∧ H a = some (.dT kvs) ∧ H b = some (.tup (k.map kV)) ∧ Q (.bl (if neg then !(valV kvs k).isSome else (valV kvs k).isSome)) H
theorem op_notInT (hu : X.A.units + 64 < cLine) : OpR X (compareOp .NotIn) (gInT true) := by
  intro pins s σ H x y v u Q I rx ry h
  obtain ⟨a, b, kvs, k, rfl, rfl, ha, hb, q⟩ := h
  cases ry
  exact d_notIn (by omega) I (DGet.t (k := k) ha hb) rx fun s3 I3 => ⟨.bl (!(valV kvs k).isSome), H, I3, rfl, q⟩
def gIxT : R2 := fun x y H Q => ∃ a b kvs k v, x = .ref a ∧ y = .ref b ∧ H a = some (.dT kvs) ∧ H b = some (.tup (k.map kV)) ∧ valV kvs k = some v ∧ Q v H
theorem ixT (hu : X.A.units + 64 < cLine) : IxR X gIxT := by
  intro vl sl pins s σ H x y v u Q I rx ry h hs
  obtain ⟨a, b, kvs, k, z, rfl, rfl, ha, hb, hv, q⟩ := h
  cases rx
  have g : DGet H a (.ref b) (some z) := by rw [← hv]; exact DGet.t ha hb
  have hu' : X.A.in1.units + 1 < cLine := by
    have : X.A.in1.units = X.A.units + 1 := rfl
    omega
  exact tail_any (dict_typeIs I g) PySem.F.slot_dict_getitem.lookup (d_getItem (by omega) I g ry fun w' s3 I3 rw' => ⟨z, H, I3, rw', q⟩) hs
def gSetT : TSet := fun o i v H Q => ∃ a b kvs k, o = .ref a ∧ i = .ref b ∧ H a = some (.dT kvs) ∧ H b = some (.tup (k.map kV)) ∧ kvs.length < 1000000 ∧ Q (upd H a (.dT (putK kvs k v)))
theorem set_T (hu : X.A.units + 64 < cLine) : PSet X gSetT := by
  intro pins s σ H o i v ov iv u Q I ro ri rv h
  obtain ⟨a, b, kvs, k, rfl, rfl, ha, hb, hl, q⟩ := h
  exact set_dict (by omega) pins s σ H _ _ v ov iv u Q I ro ri rv ⟨a, _, rfl, DPut.t ha hb (Nat.lt_of_lt_of_le hl line6), q⟩
/-! ### min of a list of tuples -/
def gMinD (K : PySem.W.Frag) : RC := fun vs H Q => match vs with
  | [.ref p] => ∃ (ys : List V) (x : PyData) (xs : List PyData), SqL K H p ys ∧ DpAll K H ys (x :: xs) ∧ PySem.W.AlikeAll (x :: xs) ∧ PyData.depthAll (x :: xs) ≤ 8 ∧ ∀ (i : Nat) (v : V), ys[i]? = some v → (x :: xs)[i]? = some (PySem.W.minD x xs) → Q v H
  | _ => False
theorem cr_minD0 (hc : X.calm = true) (hu : X.A.units + 64 < cLine) : CallR X (.builtin "min") (gMinD X.K) := by
  intro pins s σ H xs us Q I r h
  unfold gMinD at h
  split at h
  · rename_i p
    obtain ⟨ys, x, xs, h1, h2, ha, hd, h3⟩ := h
    obtain ⟨its, rv, hl, _⟩ := I.list h1
    rw [Vals.ref1 r]
    obtain ⟨as, hr⟩ := Dp.readsAll I (x :: xs) ys its h2 rv
    have hr' : ReadsAll s.heap its.toArray.toList (x :: xs) as := hr
    have hn : its.toArray.size = xs.length + 1 := PySem.W.readsAll_len hr'
    refine PySem.call_min_walkH (PySem.W.iter_listW (A := X.A.in1) (I.ok.hd hc) hl.isList fun s₂ e W st hfp hw hk => ?_)
    refine ⟨_, _, _, _, _, _, _, s.heap, _, rfl, W, st, hfp, by omega, hw, hk, PySem.W.cmpIn_lt (A := X.A.in1) hr' ha (by show X.A.in1.units + _ < _; rw [Around.in1_units]; omega), fun v s' hP m => ?_⟩
    obtain ⟨h', tk, rfl, hk'⟩ := PySem.W.moved_old e rfl m
    have e2 := (PySem.W.argBest_fold PySem.W.dataLt PyData.none x xs xs.length (Nat.le_refl _))
    rw [List.take_length] at e2
    have e1 : its.toArray.size - 1 = xs.length := by omega
    rw [e1] at hP
    have hi := e2.1
    have hg := e2.2
    generalize argBest (fun i j => PySem.W.dataLt ((x :: xs).getD i PyData.none) ((x :: xs).getD j PyData.none)) xs.length = i at *
    have hlen : its.length = ys.length := rv.length.symm
    have hil : i < its.length := by rw [List.size_toArray] at hn; omega
    have hv : its[i] = v := by
      have : its.toArray[i]? = some its[i] := by simp [hil]
      rw [this] at hP
      exact Option.some.inj hP
    have hiy : i < ys.length := by omega
    have hR : RelV ys[i] its[i] := by
      obtain ⟨u, hu1, hu2⟩ := rv.get (List.getElem?_eq_getElem hiy)
      rw [List.getElem?_eq_getElem hil] at hu1
      cases hu1
      exact hu2
    refine ⟨ys[i], H, I.kept hk', by rw [← hv]; exact hR, h3 i _ (List.getElem?_eq_getElem hiy) ?_⟩
    have : i < (x :: xs).length := by rw [List.length_cons]; omega
    rw [List.getElem?_eq_getElem this]
    rw [List.getD_eq_getElem?_getD, List.getElem?_eq_getElem this] at hg
    exact congrArg some hg
  · exact h.elim
theorem cr_minD (hc : X.calm = true) (hu : X.A.units + 64 < cLine) (hK : X.K = K := by rfl) : CallR X (.builtin "min") (gMinD K) := hK ▸ cr_minD0 hc hu
end
end Pk

namespace Pk
open PySem PySem.Spec PyProof.Rows L2
section
variable {P : Program} {w : World} {A : Around} {E : Value → Shared → Prop} {s : Shared}
/-- what is put into a new set, from a tuple -/
theorem set_fromT {l : Addr} {items : Array Value} (xs : List Key) {R : Unit → Shared → Prop} (hh : A.handled = none) (hl : s.heap.IsTuple l items) (hn : items.size = xs.length) (hit : ∀ (i : Nat) (v : Value), items[i]? = some v → ∃ k, xs[i]? = some k ∧ keyIs k v = true) (hb : xs.length + 1 < scanBound)
    (h : ∀ h' tk ds, SetG w h' s.heap.objs.size ds → (∀ k, k ∈ ds ↔ k ∈ xs) → (∀ b o, s.heap.get? b = some o → h'.get? b = some o) → R () { s with heap := h', toks := tk }) :
    wpAny (model P w) A (Builtin.Frozenset.updateFrom "set.__init__" s.heap.objs.size (.ref l)) R E { s with heap := s.heap.push (set0 w) } := by
  obtain ⟨ol, hol, hcl, nl, hdl⟩ := hl
  obtain ⟨ocls, odict, odata, oslots⟩ := ol
  simp only at hcl hdl
  subst hcl; subst hdl
  have hol' : (s.heap.push (set0 w)).get? l = some { cls := .type "tuple", dict := odict, data := .seq items nl, slots := oslots } := Heap.get?_push_of_some _ hol
  have f1 := F.sub_tuple_set
  have f2 := F.sub_tuple_frozenset
  have f3 : (Value.type "tuple" == Value.type "dict") = false := by decide
  have hl1 : (s.heap.push (set0 w)).IsTuple l items := ⟨_, hol', rfl, nl, rfl⟩
  unfold Builtin.Frozenset.updateFrom
  generalize hPI : pyIter = PI
  wp_walk
  subst hPI
  refine wpAny_pyIter_tuple hl1 (wpAny_bind (wpAny_runValue ?_))
  have hlS : l < s.heap.objs.size := Heap.lt_size hol
  have hz1 : (s.heap.push (set0 w)).objs.size = s.heap.objs.size + 1 := Heap.size_push ..
  have hneI : l ≠ (s.heap.push (set0 w)).objs.size := by rw [hz1]; exact Nat.ne_of_lt (Nat.lt_succ_of_lt hlS)
  have hTf : s.heap.objs.size ∉ [(s.heap.push (set0 w)).objs.size, l] := by
    rw [hz1]
    simp only [List.mem_cons, List.mem_singleton, List.not_mem_nil, or_false, not_or]
    exact ⟨Nat.ne_of_lt (Nat.lt_succ_self _), Nat.ne_of_gt hlS⟩
  refine setG_loop ((Walks.tuple (A := A.in1) (by simp [hh]) _ l hneI items).toS) s.heap.objs.size hTf xs hn hb hit (items.size - 0) 0 _ (by omega) (Nat.zero_le _) ⟨⟨_, Heap.get?_push_size _ rfl, rfl, rfl⟩, hl1.push _⟩
    ⟨[], setG_new (Heap.get?_push_of_some _ (Heap.get?_push_size _ rfl)), Nat.le_refl _, fun k => by simp⟩ fun s' ds hm hS hd => ?_
  obtain ⟨h', g2, d', tk', os'⟩ := s'
  cases (show g2 = s.gens from hm.gens)
  cases (show d' = s.drawn from hm.drawn)
  cases (show os' = s.os from hm.os)
  refine wpAny_pure (h h' tk' ds hS hd fun b o e => ?_)
  have hb0 : b < s.heap.objs.size := Heap.lt_size e
  refine hm.heap b o ?_ (Heap.get?_push_of_some _ (Heap.get?_push_of_some _ e))
  simp only [List.mem_cons, List.mem_singleton, List.not_mem_nil, or_false, not_or]
  exact ⟨Nat.ne_of_lt hb0, by rw [hz1]; exact Nat.ne_of_lt (Nat.lt_succ_of_lt hb0)⟩
end
section
variable {X : Cx} {K : PySem.W.Frag} {w : World}
/-- set(a tuple) -/
def gSetTu (K : PySem.W.Frag) (w : World) : RC := fun vs H Q => match vs with
  | [.ref l] => ∃ ks : List Key, SqT K H l (ks.map kV) ∧ ks.length ≤ 4000 ∧ ∀ p ds, H p = none → ds.Nodup → (∀ k, k ∈ ds ↔ k ∈ ks) → Q (.ref p) (upd H p (SetX w p ds))
  | _ => False
theorem cr_setT0 (hc : X.calm = true) : CallR X (.type "set") (gSetTu X.K X.w) := by
  intro pins s σ H xs us Q I r h
  have fin : ∀ (h' : Heap) (tk : Nat) (ds : List Key), SetG X.w h' s.heap.objs.size ds → (∀ b o, s.heap.get? b = some o → h'.get? b = some o) → (∀ p ds', H p = none → ds'.Nodup → ds' = ds → Q (.ref p) (upd H p (SetX X.w p ds'))) → EP X pins σ Q (.ref s.heap.objs.size) { s with heap := h', toks := tk } := fun h' tk ds hS hk q => by
    have nd : ds.Nodup := by obtain ⟨_, _, _, _, _, _, _, _, _, nd, _⟩ := hS; exact nd
    exact ⟨.ref _, upd H s.heap.objs.size (SetX X.w s.heap.objs.size ds), I.laid (t' := tk) hk (Nat.le_refl _) (setX_ok hS), rfl, q _ ds (I.hok.fresh (Nat.le_refl _)) nd rfl⟩
  unfold gSetTu at h
  split at h
  · obtain ⟨ks, h1, hl, q⟩ := h
    obtain ⟨its, rv, hL, _⟩ := I.tuple h1
    rw [Vals.ref1 r]
    have hlen := rv.length
    rw [List.length_map] at hlen
    refine call_setG _ fun A' E' R hA hR => set_fromT ks (by rw [hA]; exact I.ok.hd hc) hL (by rw [List.size_toArray]; exact hlen.symm) (fun i v hv => kV_vals X.prog X.w rv (by simpa using hv)) (by unfold scanBound; omega) fun h' tk ds hS hd hk => hR h' tk ⟨ds, hS⟩ (fin h' tk ds hS hk fun p ds' hp nd e => ?_)
    subst e
    exact q p _ hp nd hd
  · exact h.elim
theorem cr_setT (hc : X.calm = true) (hK : X.K = K := by rfl) (hw : X.w = w := by rfl) : CallR X (.type "set") (gSetTu K w) := hK ▸ hw ▸ cr_setT0 hc
end
end Pk

namespace Pk
open PySem PySem.Spec PyProof.Rows L2
section
variable {X : Cx}
theorem un1 (h : X.A.units + 64 < cLine) : X.A.units + 1 < cLine := by omega
/-- d[k], d may be locked -/
def gIxKr : R2 := fun x y H Q => ∃ a kvs k v, x = .ref a ∧ Rd H a (.dK kvs) ∧ y = kV k ∧ valV kvs k = some v ∧ Q v H
theorem ixKr (hu : X.A.units + 64 < cLine) : IxR X gIxKr := by
  intro vl sl pins s σ H x y v u Q I rx ry h hs
  obtain ⟨a, kvs, k, z, rfl, ha, rfl, hv, q⟩ := h
  cases rx
  have g : DGet H a (kV k) (some z) := by rw [← hv]; exact .inl ⟨kvs, k, ha, rfl, rfl⟩
  have hu' : X.A.in1.units + 1 < cLine := by
    have : X.A.in1.units = X.A.units + 1 := rfl
    omega
  exact tail_any (dict_typeIs I g) PySem.F.slot_dict_getitem.lookup (d_getItem (by omega) I g ry fun w' s3 I3 rw' => ⟨z, H, I3, rw', q⟩) hs
end
end Pk

namespace Pk
open PySem PySem.Spec PyProof.Rows L2
section
variable {X : Cx} {K : PySem.W.Frag}
theorem dpIntsG {K : PySem.W.Frag} {H : Hp} : ∀ (ns : List Int), DpAll K H (ns.map V.int) (ns.map PyData.int)
  | [] => .nil
  | n :: r => .cons (.int _) (dpIntsG r)
/-- max of a tuple of numbers -/
def gMaxT (K : PySem.W.Frag) : RC := fun vs H Q => match vs with
  | [.ref p] => ∃ (n : Int) (ns : List Int), SqT K H p ((n :: ns).map V.int) ∧ Q (.int (ns.foldl max n)) H
  | _ => False
theorem cr_maxT0 (hc : X.calm = true) (hu : X.A.units + 64 < cLine) : CallR X (.builtin "max") (gMaxT X.K) := by
  intro pins s σ H xs us Q I r h
  unfold gMaxT at h
  split at h
  · obtain ⟨n, ns, h1, q⟩ := h
    obtain ⟨its, rv, hl, _⟩ := I.tuple h1
    rw [Vals.ref1 r]
    obtain ⟨as, hr⟩ := Dp.readsAll I ((n :: ns).map PyData.int) _ its (dpIntsG (n :: ns)) rv
    have dep : ∀ ns : List Int, PyData.depthAll (ns.map PyData.int) ≤ 1 := fun ns => by
      induction ns with
      | nil => simp [PyData.depthAll]
      | cons z zs ih =>
        simp only [List.map_cons, PyData.depthAll, PyData.depth]
        omega
    have dp := dep (n :: ns)
    have al : PySem.W.AlikeAll ((n :: ns).map PyData.int) := ⟨fun x hx y hy => by
      obtain ⟨i, _, rfl⟩ := List.mem_map.mp hx
      obtain ⟨j, _, rfl⟩ := List.mem_map.mp hy
      rfl, fun x hx => by
      obtain ⟨i, _, rfl⟩ := List.mem_map.mp hx
      intro z
      cases z⟩
    have hr' : ReadsAll s.heap its.toArray.toList (PyData.int n :: ns.map PyData.int) as := hr
    refine PySem.W.max_tuple_data (I.ok.hd hc) hl hr' al (by
      have : PyData.depthAll (PyData.int n :: ns.map PyData.int) ≤ 1 := dp
      omega) fun i v h' tk bs hv hrd hk => ?_
    rw [PySem.W.maxD_ints] at hrd
    cases hrd
    exact ⟨.int _, H, I.kept hk, ⟨_, rfl⟩, q⟩
  · exact h.elim
theorem cr_maxT (hc : X.calm = true) (hu : X.A.units + 64 < cLine) (hK : X.K = K := by rfl) : CallR X (.builtin "max") (gMaxT K) := hK ▸ cr_maxT0 hc hu
end
end Pk

namespace Pk
open PySem PySem.Spec PyProof.Rows L2
def topS (i : Nat) : Stmt := PySem.Challenge.pw_packrow_k20_whole_completion.main.body.getD i (.Pass ⟨0, 0, 0, 0⟩)
section
variable {P : Program} {w : World} {K : PySem.W.Frag} {mg : Str → Option Value} {base : Heap}
abbrev s_size_of : Stmt := topS 12
theorem sc_size_of : FnScope ["sizes", "color"] ["sizes", "color"] (defScope s_size_of) := ⟨rfl, rfl, rfl, by decide +kernel, rfl, by decide +kernel, by decide +kernel⟩

/-- the size of a color -/
def szI (zs : List Int) (k : Nat) : Int := zs.getD (k - 97) 1
theorem at_szI {zs : List Int} {k : Nat} (h1 : 97 ≤ k) (h2 : k < 97 + zs.length) : atI (zs.map V.int) ((k : Int) - 97) = some (V.int (szI zs k)) := by
  rw [show (k : Int) - 97 = ((k - 97 : Nat) : Int) by omega]
  refine atI_nat ?_
  unfold szI
  rw [List.getElem?_map, List.getD_eq_getElem?_getD, List.getElem?_eq_getElem (by omega)]
  rfl
def sp_size_of (K : PySem.W.Frag) : Sp := fun vs H Q _ => ∃ a zs k, vs = [.ref a, .str (S [k])] ∧ SqT K H a (zs.map V.int) ∧ 97 ≤ k ∧ k < 97 + zs.length ∧ zs.length ≤ 6 ∧ Q (.int (szI zs k)) H
theorem ok_size_of {f : Addr} {fd : FuncData} (F : Fun K "size_of" "size_of" s_size_of f fd) (B : Bi mg) (m_COLORS : ∃ t, mg "COLORS" = some (.str (S abc) t)) : FnOk P w K mg base CX0 1 f fd ["sizes", "color"] (sp_size_of K) := by
  refine F.ok sc_size_of (fun vs H Q E h => ?_) (fun cdv A outer s H vs Q E hr h => ?_)
  · obtain ⟨a, zs, k, rfl, _⟩ := h
    rfl
  · obtain ⟨a, zs, k, rfl, hT, h1, h2, h3, q⟩ := h
    refine ⟨_, (pss_one (ps_ret (pe_ix (ixG (K := K)) (gv 0) (pe_bmG (K := K) PySem.F.plainAttrs_str PySem.F.slot_str_index PySem.F.type_str_index mt_indexG (g_str m_COLORS) (pa_cons (gv 1) pa_nil)) (fun _ _ => rfl)))), ?_⟩
    exact ⟨rfl, k, rfl, rfl, ⟨h1, by omega⟩, zs.map V.int, _, .inr hT, at_szI h1 h2, q⟩

theorem dpInts {K : PySem.W.Frag} {H : Hp} : ∀ (ns : List Int), DpAll K H (ns.map V.int) (ns.map PyData.int)
  | [] => .nil
  | n :: r => .cons (.int _) (dpInts r)
theorem layInts : ∀ ns : List Int, PyData.canLayAll0 (ns.map PyData.int) = true
  | [] => by simp [PyData.canLayAll0]
  | z :: zs => by simp [PyData.canLayAll0, PyData.canLay0, layInts zs]
theorem depInts : ∀ ns : List Int, PyData.depthAll (ns.map PyData.int) ≤ 1
  | [] => by simp [PyData.depthAll]
  | z :: zs => by
    have h1 := depInts zs
    simp only [List.map_cons, PyData.depthAll, PyData.depth]
    omega
theorem shpL (ns : List Int) : SeqAt.shaped (.list (ns.map PyData.int)) = true := by
  have h1 := depInts ns
  have h2 : PyData.depth (.list (ns.map PyData.int)) ≤ 64 := by
    simp only [PyData.depth]
    omega
  show (PyData.canLay0 (.list (ns.map PyData.int)) && decide (PyData.depth (.list (ns.map PyData.int)) ≤ 64)) = true
  rw [Bool.and_eq_true]
  exact ⟨by simp only [PyData.canLay0]; exact layInts ns, decide_eq_true h2⟩
theorem shpT (ns : List Int) : SeqAt.shaped (.tuple (ns.map PyData.int)) = true := by
  have h1 := depInts ns
  have h2 : PyData.depth (.tuple (ns.map PyData.int)) ≤ 64 := by
    simp only [PyData.depth]
    omega
  show (PyData.canLay0 (.tuple (ns.map PyData.int)) && decide (PyData.depth (.tuple (ns.map PyData.int)) ≤ 64)) = true
  rw [Bool.and_eq_true]
  exact ⟨by simp only [PyData.canLay0]; exact layInts ns, decide_eq_true h2⟩
theorem eqvInts : ∀ ns ms : List Int, PyData.eqvAll (ns.map PyData.int) (ms.map PyData.int) = decide (ns = ms)
  | [], [] => by simp [PyData.eqvAll]
  | [], _ :: _ => by simp [PyData.eqvAll]
  | _ :: _, [] => by simp [PyData.eqvAll]
  | n :: ns, m :: ms => by
    have ih := eqvInts ns ms
    simp only [List.map_cons, PyData.eqvAll, PyData.eqv]
    rw [ih, Bool.eq_iff_iff]
    simp
theorem eqvL (ns ms : List Int) : PyData.eqv (.list (ns.map PyData.int)) (.list (ms.map PyData.int)) = decide (ns = ms) := by rw [PyData.eqv]; exact eqvInts ns ms
theorem eqvT (ns ms : List Int) : PyData.eqv (.tuple (ns.map PyData.int)) (.tuple (ms.map PyData.int)) = decide (ns = ms) := by rw [PyData.eqv]; exact eqvInts ns ms
/-- two lists of ints compared -/
theorem eqLs {K : PySem.W.Frag} {H : Hp} {a b : Addr} {ns ms : List Int} {ng : Bool → Bool} {Q : VK} (ha : SqL K H a (ns.map V.int)) (hb : SqL K H b (ms.map V.int)) (q : Q (.bl (ng (decide (ns = ms)))) H) : gEqW K ng (.ref a) (.ref b) H Q :=
  .inr ⟨_, _, .lst ha (dpInts ns), .lst hb (dpInts ms), shpL ns, shpL ms, by rw [eqvL]; exact q⟩
theorem eqTs {K : PySem.W.Frag} {H : Hp} {a b : Addr} {ns ms : List Int} {ng : Bool → Bool} {Q : VK} (ha : SqT K H a (ns.map V.int)) (hb : SqT K H b (ms.map V.int)) (q : Q (.bl (ng (decide (ns = ms)))) H) : gEqW K ng (.ref a) (.ref b) H Q :=
  .inr ⟨_, _, .tup ha (dpInts ns), .tup hb (dpInts ms), shpT ns, shpT ms, by rw [eqvT]; exact q⟩

abbrev s__law_below : Stmt := topS 30
theorem sc__law_below : FnScope ["_law_d", "_law_limit", "_law_result"] ["_law_d", "_law_limit"] (defScope s__law_below) := ⟨rfl, rfl, rfl, by decide +kernel, rfl, by decide +kernel, by decide +kernel⟩

/-- the law's source of numbers -/
structure Rnd (xs : List V) : Prop where
  ex : ∃ (sd cur : Int) (r : List Int), xs = .int sd :: .int cur :: r.map V.int ∧ 0 ≤ sd ∧ sd < 2147483647 ∧ 0 ≤ cur ∧ (∀ z ∈ r, 0 ≤ z) ∧ r.length ≤ 100
def sp__law_below (K : PySem.W.Frag) : Sp := fun vs H Q _ => ∃ d n xs, vs = [.ref d, .int n] ∧ H d = some (.lst xs) ∧ Rnd xs ∧ 1 ≤ n ∧ n ≤ 1000000000 ∧
  ∀ r ys, 0 ≤ r → r < n → Rnd ys → Q (.int r) (upd H d (.lst ys))
theorem ok__law_below {f : Addr} {fd : FuncData} (F : Fun K "_law_below" "_law_below" s__law_below f fd) (B : Bi mg) : FnOk P w K mg base CX0 1 f fd ["_law_d", "_law_limit"] (sp__law_below K) := by
  refine F.ok sc__law_below (fun vs H Q E h => ?_) (fun cdv A outer s H vs Q E hr h => ?_)
  · obtain ⟨d, n, xs, rfl, _⟩ := h
    rfl
  · obtain ⟨d, n, xs, rfl, hd, hR, h1, h2, q⟩ := h
    refine ⟨_, (pss_cutG (ps_if (pw_and (pt_cmpG (op_eqG (K := K) hr.units) (pe_ix (ixG (K := K)) (gv 0) pe_int (fun _ _ => rfl)) pe_int (nomark _)) (pw_and1 (pt_cmpG op_gtG (pe_callB (cr_lenG (K := K)) (by rfl) B.len bt_len (pa_cons (gv 0) pa_nil)) pe_int (nomark _)))).pt
      (pss_one (ps_asg (pe_bmG (K := K) PySem.F.plainAttrs_list PySem.F.slot_list_pop PySem.F.type_list_pop mt_popG (gv 0) (pa_cons pe_int pa_nil)) (pg_sub (gv 0) pe_int set_listG)))
      pss_nil)
      (pss_cons (ps_if (pt_cmpG op_gtG (pe_ix (ixG (K := K)) (gv 0) pe_int (fun _ _ => rfl)) pe_int (nomark _))
      (pss_cons (ps_set (i := 2) sc__law_below.nd rfl (.inl rfl) (pe_op op_modG (pe_ix (ixG (K := K)) (gv 0) pe_int (fun _ _ => rfl)) (gv 1)))
      (pss_cons (ps_asg (pe_op op_divG (pe_ix (ixG (K := K)) (gv 0) pe_int (fun _ _ => rfl)) (gv 1)) (pg_sub (gv 0) pe_int set_listG))
      (pss_one (ps_ret (gv 2)))))
      pss_nil)
      (pss_cons (ps_asg (pe_op op_modG (pe_op (op_addG (K := K)) (pe_op (op_mulG (K := K)) (pe_ix (ixG (K := K)) (gv 0) pe_int (fun _ _ => rfl)) pe_int) pe_int) pe_int) (pg_sub (gv 0) pe_int set_listG))
      (pss_one (ps_ret (pe_op op_modG (pe_op op_divG (pe_ix (ixG (K := K)) (gv 0) pe_int (fun _ _ => rfl)) pe_int) (gv 1))))))), ?_⟩
    obtain ⟨sd, cur, r, rfl, hs0, hs1, hc0, hr0, hrl⟩ := hR.ex
    -- the number at hand is used up
    refine ⟨fun σ' H' => σ' = [some (.ref d), some (.int n), none] ∧ ∃ (sd cur : Int) (r : List Int), H' = upd H d (.lst (.int sd :: .int cur :: r.map V.int)) ∧ 0 ≤ sd ∧ sd < 2147483647 ∧ 0 ≤ cur ∧ (∀ z ∈ r, 0 ≤ z) ∧ r.length ≤ 100, ?_, ?_⟩
    · have same : [some (V.ref d), some (V.int n), none] = [some (V.ref d), some (V.int n), none] ∧ ∃ (sd' cur' : Int) (r' : List Int), H = upd H d (.lst (.int sd' :: .int cur' :: r'.map V.int)) ∧ 0 ≤ sd' ∧ sd' < 2147483647 ∧ 0 ≤ cur' ∧ (∀ z ∈ r', 0 ≤ z) ∧ r'.length ≤ 100 :=
        ⟨rfl, sd, cur, r, (upd_self hd).symm, hs0, hs1, hc0, hr0, hrl⟩
      refine ⟨_, _, .inl (SqL.of hd), atI_nat (j := 1) rfl, iteB ⟨fun e => ?_, fun e => iteB ⟨fun z => Bool.noConfusion z, fun _ => same⟩⟩⟩
      refine ⟨_, .inl (SqL.of hd), iteB ⟨fun e2 => ?_, fun e2 => same⟩⟩
      cases r with
      | nil => exact absurd (of_decide_eq_true e2) (by show ¬ (2 : Int) < 2; omega)
      | cons z r =>
        refine ⟨.inl ⟨rfl, _, SqL.of hd⟩, _, 2, .int z, hd, rfl, by decide, rfl, ?_⟩
        refine ⟨_, 1, upd_same, ixN_nat (k := 1) (by simp [List.eraseIdx]), rfl, sd, z, r, ?_, hs0, hs1, hr0 z (by simp), fun y hy => hr0 y (by simp [hy]), by simp at hrl; omega⟩
        rw [upd_upd]
        rfl
    · rintro σ' H' ⟨rfl, sd, cur, r, rfl, hs0, hs1, hc0, hr0, hrl⟩
      have hd1 : upd H d (.lst (.int sd :: .int cur :: r.map V.int)) d = some (.lst (.int sd :: .int cur :: r.map V.int)) := upd_same
      refine ⟨_, _, .inl (SqL.of hd1), atI_nat (j := 1) rfl, iteB ⟨fun e => ?_, fun e => ?_⟩⟩
      · refine ⟨_, _, .inl (SqL.of hd1), atI_nat (j := 1) rfl, by omega, ?_⟩
        refine ⟨_, _, .inl (SqL.of hd1), atI_nat (j := 1) rfl, ⟨by omega, by omega⟩, _, 1, hd1, ixN_nat (k := 1) (by simp), ?_⟩
        have fin := q (cur % n) (.int sd :: .int (cur / n) :: r.map V.int) (Int.emod_nonneg _ (by omega)) (Int.emod_lt_of_pos _ (by omega)) ⟨sd, cur / n, r, rfl, hs0, hs1, Int.ediv_nonneg hc0 (by omega), hr0, hrl⟩
        show Q (.int (cur % n)) (upd (upd H d _) d _)
        rw [upd_upd]
        exact fin
      · refine ⟨_, _, .inl (SqL.of hd1), atI_nat (j := 0) rfl, .inl ⟨by omega, by omega⟩, by decide, _, 0, hd1, ixN_nat (k := 0) (by simp), ?_⟩
        have hs2 : 0 ≤ (sd * 48271 + 11) % 2147483647 := Int.emod_nonneg _ (by decide)
        have hs3 : (sd * 48271 + 11) % 2147483647 < 2147483647 := Int.emod_lt_of_pos _ (by decide)
        refine ⟨_, _, .inl (SqL.of upd_same), atI_nat (j := 0) rfl, ⟨by decide, by decide⟩, by omega, ?_⟩
        have fin := q ((sd * 48271 + 11) % 2147483647 / 64 % n) (.int ((sd * 48271 + 11) % 2147483647) :: .int cur :: r.map V.int) (Int.emod_nonneg _ (by omega)) (Int.emod_lt_of_pos _ (by omega)) ⟨_, cur, r, rfl, hs2, hs3, hc0, hr0, hrl⟩
        show Q (.int ((sd * 48271 + 11) % 2147483647 / 64 % n)) (upd (upd H d _) d _)
        rw [upd_upd]
        exact fin

abbrev s__law_random : Stmt := topS 29
theorem sc__law_random : FnScope ["_law_script", "_law_salt", "_law_seed", "_law_cell"] ["_law_script", "_law_salt"] (defScope s__law_random) := ⟨rfl, rfl, rfl, by decide +kernel, rfl, by decide +kernel, by decide +kernel⟩

def sp__law_random (K : PySem.W.Frag) : Sp := fun vs H Q _ => ∃ (a : Addr) (salt : Int) (ns : List Int), vs = [.ref a, .int salt] ∧ SqL K H a (ns.map V.int) ∧ ns.length ≤ 63 ∧ 0 ≤ salt ∧ salt < 2147483647 ∧
  ∀ H' d ys, Same H H' → H d = none → H' d = some (.lst ys) → Rnd ys → Q (.ref d) H'
theorem ok__law_random {f : Addr} {fd : FuncData} (F : Fun K "_law_random" "_law_random" s__law_random f fd) (B : Bi mg) : FnOk P w K mg base CX0 1 f fd ["_law_script", "_law_salt"] (sp__law_random K) := by
  refine F.ok sc__law_random (fun vs H Q E h => ?_) (fun cdv A outer s H vs Q E hr h => ?_)
  · obtain ⟨d, n, xs, rfl, _⟩ := h
    rfl
  · obtain ⟨a, salt, ns, rfl, hS, hl, h1, h2, q⟩ := h
    refine ⟨_, (pss_cons (ps_set (i := 2) sc__law_random.nd rfl (.inl rfl) (gv 1))
      (pss_cons (ps_for PassesOwn.never rfl (pi_seqG (K := K) (gv 0)) (pg_name (i := 3) sc__law_random.nd rfl (.inl rfl))
      (pss_one (ps_set (i := 2) sc__law_random.nd rfl (.inl rfl) (pe_op op_modG (pe_op (op_addG (K := K)) (pe_op (op_mulG (K := K)) (gv 2) pe_int) (pe_callB cr_absG (by rfl) B.abs bt_abs (pa_cons (gv 3) pa_nil))) pe_int))))
      (pss_one (ps_ret (pe_op (op_addG (K := K)) (pe_lst (pa_cons (gv 2) (pa_cons pe_int pa_nil))) (pe_lc (own := [("_law_cell", 3)]) (by rfl) sc__law_random.nd (pi_seqG (K := K) (gv 0)) (blkOk_by (N := ["_law_script", "_law_salt", "_law_seed", "_law_cell"]) (sc := defScope s__law_random) (by decide +kernel)) (fun _ _ _ _ _ => (pg_name (i := 3) sc__law_random.nd rfl (.inl rfl))) (fun _ _ _ _ _ => pts_one (pt_cmpG op_geG (gv 3) (pe_op op_powG pe_int pe_int) (nomark _))) (fun _ _ _ _ _ => (gv 3)))))))), ?_⟩
    refine .inl ⟨_, hS, for_list (xs := ns.map V.int) (fun i σ H' => ∃ sd y, σ = [some (.ref a), some (.int salt), some (.int sd), y] ∧ H' = H ∧ 0 ≤ sd ∧ sd < 2147483647) ⟨salt, none, rfl, rfl, h1, h2⟩ ?_ ?_ ?_⟩
    · rintro i σ H' hi ⟨sd, y, rfl, rfl, _⟩
      exact hS
    · rintro i x σ H' hx ⟨sd, y, rfl, rfl, hs0, hs1⟩
      rw [List.getElem?_map] at hx
      obtain ⟨z, hz, rfl⟩ := Option.map_eq_some_iff.mp hx
      refine ⟨.inl ⟨by omega, by omega⟩, by decide, _, _, rfl, rfl, Int.emod_nonneg _ (by decide), Int.emod_lt_of_pos _ (by decide)⟩
    · rintro σ H' ⟨sd, y, rfl, rfl, hs0, hs1⟩
      refine ⟨by show 2 ≤ sizeLine; decide, fun p hp => .inl ⟨_, (same_upd hp).seq hS, fun D hD => ?_⟩⟩
      have hpD : p ≠ D := fun e => by rw [← e, upd_same] at hD; cases hD
      refine lc_list (xs := ns.map V.int) (fun i H1 => Same H' H1 ∧ H1 p = some (.lst [.int sd, .int 0]) ∧ ∃ r : List Int, H1 D = some (.lst (r.map V.int)) ∧ (∀ z ∈ r, 0 ≤ z) ∧ r.length ≤ i) ?_ ?_ ?_ ?_
      · exact ⟨(same_upd hp).trans (same_upd hD), by rw [upd_ne hpD]; exact upd_same, [], upd_same, by simp, by simp⟩
      · rintro i H1 hi ⟨hsm, _⟩
        exact hsm.seq hS
      · rintro i x H1 hx ⟨hsm, hp1, r, hD1, hr0, hrl⟩
        rw [List.getElem?_map] at hx
        obtain ⟨z, hz, rfl⟩ := Option.map_eq_some_iff.mp hx
        have hi : i < ns.length := (List.getElem?_eq_some_iff.mp hz).1
        refine ⟨rfl, ⟨by decide, by decide, by decide⟩, iteB ⟨fun e => ?_, fun e => ⟨hsm, hp1, r, hD1, hr0, by omega⟩⟩⟩
        refine ⟨_, hD1, small1000 (by rw [List.length_map]; omega), fun b o e1 => ?_, ?_, r ++ [z], ?_, ?_, ?_⟩
        · have hb : b ≠ D := fun e2 => by
            have : H' D = none := (same_upd hp).free hD
            rw [← e2, e1] at this; cases this
          rw [upd_ne hb]
          exact hsm b o e1
        · rw [upd_ne hpD]; exact hp1
        · rw [upd_same, List.map_append]; rfl
        · intro y hy
          rcases List.mem_append.mp hy with hy | hy
          · exact hr0 y hy
          · rw [List.mem_singleton.mp hy]
            have e3 := of_decide_eq_true e
            have e4 : (10 : Int) ^ (18 : Int).toNat ≤ z := e3
            have e5 : (10 : Int) ^ (18 : Int).toNat = 1000000000000000000 := by decide
            omega
        · simp; omega
      · rintro H1 ⟨hsm, hp1, r, hD1, hr0, hrl⟩
        refine .inl ⟨_, _, hp1, hD1, ?_, fun g hg => ?_⟩
        · rw [List.length_map]
          rw [List.length_map] at hrl
          show 2 + r.length ≤ 1000000
          omega
        · refine q _ g _ (hsm.trans (same_upd hg)) (hsm.free hg) upd_same ⟨sd, 0, r, rfl, hs0, hs1, by decide, hr0, ?_⟩
          rw [List.length_map] at hrl
          omega

abbrev s__law_sizes : Stmt := topS 31
theorem sc__law_sizes : FnScope ["_law_d", "_law_limit", "_law_largest", "_law_color"] ["_law_d", "_law_limit"] (defScope s__law_sizes) := ⟨rfl, rfl, rfl, by decide +kernel, rfl, by decide +kernel, by decide +kernel⟩

/-- sizes that are valid -/
structure OkZ (zs : List Int) : Prop where
  pos : 1 ≤ zs.length
  six : zs.length ≤ 6
  all : ∀ z ∈ zs, 1 ≤ z ∧ z ≤ 4
theorem at_234 {r : Int} (h0 : 0 ≤ r) (h1 : r < 3) : atI [V.int 2, V.int 3, V.int 4] r = some (.int (r + 2)) := by
  have e : r = 0 ∨ r = 1 ∨ r = 2 := by omega
  rcases e with rfl | rfl | rfl <;> rfl
def sp__law_sizes (K : PySem.W.Frag) : Sp := fun vs H Q _ => ∃ (d : Addr) (n : Int) (xs : List V), vs = [.ref d, .int n] ∧ H d = some (.lst xs) ∧ Rnd xs ∧ 1 ≤ n ∧ n ≤ 6 ∧
  ∀ (H' : Hp) (a : Addr) (ys : List V) (zs : List Int), SameB d H H' → H' d = some (.lst ys) → Rnd ys → H a = none → H' a = some (.tup (zs.map V.int)) → OkZ zs → (zs.length : Int) ≤ n → Q (.ref a) H'
theorem ok__law_sizes {f : Addr} {fd : FuncData} (F : Fun K "_law_sizes" "_law_sizes" s__law_sizes f fd) (B : Bi mg) (C__law_below : Cal P w K mg base CX0 1 "_law_below" ["_law_d", "_law_limit"] (sp__law_below K)) : FnOk P w K mg base CX0 2 f fd ["_law_d", "_law_limit"] (sp__law_sizes K) := by
  refine F.ok sc__law_sizes (fun vs H Q E h => ?_) (fun cdv A outer s H vs Q E hr h => ?_)
  · obtain ⟨d, n, xs, rfl, _⟩ := h
    rfl
  · obtain ⟨d, n, xs, rfl, hd, hR, h1, h2, q⟩ := h
    refine ⟨_, (pss_cons (ps_set (i := 2) sc__law_sizes.nd rfl (.inr rfl) (pe_ix (ixG (K := K)) (pe_lst (pa_cons pe_int (pa_cons pe_int (pa_cons pe_int pa_nil)))) (pe_cal C__law_below (hr.mono (by decide)) pass0 (pa_cons (gv 0) (pa_cons pe_int pa_nil))) (fun _ _ => rfl)))
      (pss_one (ps_ret (pe_callTy (cr_tupleG (K := K)) (by rfl) B.tuple bt_tuple (pa_cons (pe_lc (own := [("_law_color", 3)]) (by rfl) sc__law_sizes.nd (pi_range1 (by rfl) B.range (pa_cons (pe_op (op_addG (K := K)) pe_int (pe_cal C__law_below (hr.mono (by decide)) pass0 (pa_cons (gv 0) (pa_cons (gv 1) pa_nil)))) pa_nil)) (blkOk_by (N := ["_law_d", "_law_limit", "_law_largest", "_law_color"]) (sc := defScope s__law_sizes) (by decide +kernel)) (fun _ _ _ _ _ => (pg_name (i := 3) sc__law_sizes.nd rfl (.inl rfl))) (fun _ _ _ _ _ => pts_nil) (fun _ _ _ _ _ => (pe_op (op_addG (K := K)) pe_int (pe_cal C__law_below (hr.mono (by decide)) pass0 (pa_cons (gv 0) (pa_cons (gv 2) pa_nil)))))) pa_nil))))), ?_⟩
    refine ⟨by show 3 ≤ sizeLine; decide, fun p hp => ?_⟩
    have hdp : d ≠ p := ne_of_none hd hp
    refine ⟨d, 3, xs, rfl, by rw [upd_ne hdp]; exact hd, hR, by decide, by decide, fun r ys hr0 hr1 hR1 => ?_⟩
    have s1 : SameB d H (upd (upd H p (.lst [.int 2, .int 3, .int 4])) d (.lst ys)) := (SameB.of (same_upd hp)).d
    refine ⟨_, _, .inl (SqL.of (by rw [upd_ne hdp.symm]; exact upd_same)), at_234 hr0 hr1, ?_⟩
    refine ⟨d, n, ys, rfl, upd_same, hR1, h1, by omega, fun r2 ys2 hr2 hr3 hR2 => ?_⟩
    refine ⟨_, rfl, by omega, by omega, fun D hD => ?_⟩
    have hDd : D ≠ d := fun e => by rw [e, upd_same] at hD; cases hD
    have hD0 : H D = none := (s1.d).free hD hDd
    refine lc_range (fun i H1 => SameB d H H1 ∧ (∃ zs, H1 d = some (.lst zs) ∧ Rnd zs) ∧ ∃ zs : List Int, H1 D = some (.lst (zs.map V.int)) ∧ zs.length = i ∧ ∀ z ∈ zs, 1 ≤ z ∧ z ≤ 4) ?_ ?_ ?_
    · exact ⟨s1.d.at hD0, ⟨ys2, by rw [upd_ne hDd.symm]; exact upd_same, hR2⟩, [], upd_same, rfl, by simp⟩
    · rintro i H1 hi ⟨hsm, ⟨ws, hd1, hR3⟩, zs, hD1, hl, hz⟩
      refine ⟨rfl, ?_⟩
      refine ⟨d, r + 2, ws, rfl, hd1, hR3, by omega, by omega, fun r3 ys3 hr4 hr5 hR4 => ?_⟩
      refine ⟨_, by rw [upd_ne hDd]; exact hD1, small1000 (by rw [List.length_map]; omega), hsm.d.at hD0, ⟨ys3, by rw [upd_ne hDd.symm]; exact upd_same, hR4⟩, zs ++ [1 + r3], by rw [upd_same, List.map_append]; rfl, by simp [hl], fun z hz2 => ?_⟩
      rcases List.mem_append.mp hz2 with hz3 | hz3
      · exact hz z hz3
      · rw [List.mem_singleton.mp hz3]; omega
    · rintro H1 ⟨hsm, ⟨ws, hd1, hR3⟩, zs, hD1, hl, hz⟩
      refine ⟨_, SqL.of hD1, fun l hl2 => ?_⟩
      have hld : d ≠ l := ne_of_none hd1 hl2
      have hl0 : H l = none := hsm.free hl2 hld.symm
      exact q _ l ws zs (hsm.at hl0) (by rw [upd_ne hld]; exact hd1) hR3 hl0 upd_same ⟨by omega, by omega, hz⟩ (by omega)

abbrev s__law_row : Stmt := topS 32
theorem sc__law_row : FnScope ["_law_d", "_law_sizes_here", "_law_limit", "_law_colors", "_law_row_here", "_law_style", "_law_step", "_law_bead", "_law_at", "_law_some"] ["_law_d", "_law_sizes_here", "_law_limit"] (defScope s__law_row) := ⟨rfl, rfl, rfl, by decide +kernel, rfl, by decide +kernel, by decide +kernel⟩

/-- a row over the colors of zs -/
def OkR (zs : List Int) (l : List Nat) : Prop := ∀ k ∈ l, 97 ≤ k ∧ k < 97 + zs.length
theorem OkR.app {zs : List Int} {l m : List Nat} (h : OkR zs l) (h2 : OkR zs m) : OkR zs (l ++ m) := fun k hk => (List.mem_append.mp hk).elim (h k) (h2 k)
theorem OkR.take {zs : List Int} {l : List Nat} (h : OkR zs l) (n : Nat) : OkR zs (l.take n) := fun k hk => h k (List.mem_of_mem_take hk)
theorem OkR.drop {zs : List Int} {l : List Nat} (h : OkR zs l) (n : Nat) : OkR zs (l.drop n) := fun k hk => h k (List.mem_of_mem_drop hk)
theorem at_abc {r : Int} {m : Nat} (h0 : 0 ≤ r) (h1 : r < m) (h2 : m ≤ 6) : atI (abc.take m) r = some (97 + r.toNat) := by
  obtain ⟨j, rfl⟩ := Int.eq_ofNat_of_zero_le h0
  refine atI_nat ?_
  have hj : j < m := by omega
  rw [List.getElem?_take_of_lt hj]
  have e : j = 0 ∨ j = 1 ∨ j = 2 ∨ j = 3 ∨ j = 4 ∨ j = 5 := by omega
  rcases e with rfl | rfl | rfl | rfl | rfl | rfl <;> rfl
theorem abc_len {m : Nat} (h : m ≤ 6) : (abc.take m).length = m := by
  rw [List.length_take]
  show min m 6 = m
  omega
def sp__law_row (K : PySem.W.Frag) : Sp := fun vs H Q _ => ∃ (d a : Addr) (n : Int) (xs : List V) (zs : List Int), vs = [.ref d, .ref a, .int n] ∧ H d = some (.lst xs) ∧ Rnd xs ∧ SqT K H a (zs.map V.int) ∧ OkZ zs ∧ 0 ≤ n ∧ n ≤ 60 ∧
  ∀ (H' : Hp) (ys : List V) (l : List Nat), SameB d H H' → H' d = some (.lst ys) → Rnd ys → OkR zs l → (l.length : Int) ≤ n → Q (.str (S l)) H'
theorem ok__law_row {f : Addr} {fd : FuncData} (F : Fun K "_law_row" "_law_row" s__law_row f fd) (B : Bi mg) (C__law_below : Cal P w K mg base CX0 1 "_law_below" ["_law_d", "_law_limit"] (sp__law_below K)) : FnOk P w K mg base CX0 2 f fd ["_law_d", "_law_sizes_here", "_law_limit"] (sp__law_row K) := by
  refine F.ok sc__law_row (fun vs H Q E h => ?_) (fun cdv A outer s H vs Q E hr h => ?_)
  · obtain ⟨d, a, n, xs, zs, rfl, _⟩ := h
    rfl
  · obtain ⟨d, a, n, xs, zs, rfl, hd, hR, hT, hZ, h1, h2, q⟩ := h
    refine ⟨_, (pss_cons (ps_par (i := 3) (j := 4) rfl sc__law_row.nd rfl rfl (by decide) rfl rfl (pa_cons (pe_slice (slG (K := K)) (pe_strC [97, 98, 99, 100, 101, 102] (by decide +kernel)) po_none (po_someG (pe_callB (cr_lenG (K := K)) (by rfl) B.len bt_len (pa_cons (gv 1) pa_nil)))) (pa_cons (pe_strC [] (by decide +kernel)) pa_nil)) rfl)
      (pss_cons (ps_set (i := 5) sc__law_row.nd rfl (.inl rfl) (pe_cal C__law_below (hr.mono (by decide)) pass0 (pa_cons (gv 0) (pa_cons pe_int pa_nil))))
      (pss_cons (ps_for PassesOwn.never rfl (pi_range1 (by rfl) B.range (pa_cons (pe_cal C__law_below (hr.mono (by decide)) pass0 (pa_cons (gv 0) (pa_cons (pe_op (op_addG (K := K)) (gv 2) pe_int) pa_nil))) pa_nil)) (pg_name (i := 6) sc__law_row.nd rfl (.inl rfl))
      (pss_cons (ps_set (i := 7) sc__law_row.nd rfl (.inl rfl) (pe_ix (ixG (K := K)) (gv 3) (pe_cal C__law_below (hr.mono (by decide)) pass0 (pa_cons (gv 0) (pa_cons (pe_callB (cr_lenG (K := K)) (by rfl) B.len bt_len (pa_cons (gv 3) pa_nil)) pa_nil))) (fun _ _ => rfl)))
      (pss_cutG (ps_if (pw_and (pt_cmpG (op_eqG (K := K) hr.units) (gv 5) pe_int (nomark _)) (pw_and (pt_cmpG (op_neG (K := K) hr.units) (gv 4) (pe_strC [] (by decide +kernel)) (nomark _)) (pw_and1 (pt_cmpG (op_eqG (K := K) hr.units) (pe_cal C__law_below (hr.mono (by decide)) pass0 (pa_cons (gv 0) (pa_cons pe_int pa_nil))) pe_int (nomark _))))).pt
      (pss_one (ps_set (i := 7) sc__law_row.nd rfl (.inl rfl) (pe_ix (ixG (K := K)) (gv 4) (pe_un un_negG pe_int) (fun _ _ => rfl))))
      pss_nil)
      (pss_cutG (ps_set (i := 8) sc__law_row.nd rfl (.inl rfl) (pe_ifExp (pt_cmpG (op_eqG (K := K) hr.units) (gv 5) pe_int (nomark _)) (pe_cal C__law_below (hr.mono (by decide)) pass0 (pa_cons (gv 0) (pa_cons (pe_op (op_addG (K := K)) (pe_callB (cr_lenG (K := K)) (by rfl) B.len bt_len (pa_cons (gv 4) pa_nil)) pe_int) pa_nil))) (pe_callB (cr_lenG (K := K)) (by rfl) B.len bt_len (pa_cons (gv 4) pa_nil))))
      (pss_cutG (ps_set (i := 9) sc__law_row.nd rfl (.inl rfl) (pe_op (op_mulG (K := K)) (gv 7) (pe_ifExp (pw_and (pt_cmpG (op_eqG (K := K) hr.units) (gv 5) pe_int (nomark _)) (pw_and1 (pt_cmpG op_gtG (pe_cal C__law_below (hr.mono (by decide)) pass0 (pa_cons (gv 0) (pa_cons pe_int pa_nil))) pe_int (nomark _)))).pt (pe_ix (ixG (K := K)) (gv 1) (pe_bmG (K := K) PySem.F.plainAttrs_str PySem.F.slot_str_index PySem.F.type_str_index mt_indexG (pe_strC [97, 98, 99, 100, 101, 102] (by decide +kernel)) (pa_cons (gv 7) pa_nil)) (fun _ _ => rfl)) pe_int)))
      (pss_one (ps_set (i := 4) sc__law_row.nd rfl (.inl rfl) (pe_op (op_addG (K := K)) (pe_op (op_addG (K := K)) (pe_slice (slG (K := K)) (gv 4) po_none (po_someG (gv 8))) (gv 9)) (pe_slice (slG (K := K)) (gv 4) (po_someG (gv 8)) po_none)))))))))
      (pss_one (ps_ret (pe_slice (slG (K := K)) (gv 4) po_none (po_someG (gv 2)))))))), ?_⟩
    have hp := hZ.pos
    have h6 := hZ.six
    refine ⟨_, .inr hT, by decide, _, _, rfl, ?_⟩
    rw [List.length_map, cutL_to _ (by omega), Int.toNat_natCast]
    refine ⟨d, 3, xs, rfl, hd, hR, by decide, by decide, fun st ys hs0 hs1 hR1 => ?_⟩
    refine ⟨d, n + 1, ys, rfl, upd_same, hR1, by omega, by omega, fun r ys2 hr0 hr1 hR2 => ?_⟩
    refine ⟨_, rfl, by omega, by omega, for_range (fun i σ H' => ∃ l y6 y7 y8 y9, σ = [some (.ref d), some (.ref a), some (.int n), some (.str (S (abc.take zs.length))), some (.str (S l)), some (.int st), y6, y7, y8, y9] ∧
      SameB d H H' ∧ (∃ ys, H' d = some (.lst ys) ∧ Rnd ys) ∧ OkR zs l ∧ l.length ≤ 4 * i) ⟨[], none, none, none, none, rfl, (SameB.refl d H).d.d, ⟨ys2, upd_same, hR2⟩, by simp [OkR], by simp⟩ ?_ ?_⟩
    · rintro i σ H' hi ⟨l, y6, y7, y8, y9, rfl, hsm, ⟨ws, hd1, hR3⟩, hl, hll⟩
      have hlen : l.length ≤ 400 := by omega
      -- the bead
      refine ⟨by rw [tl_S, abc_len h6]; omega, d, _, ws, rfl, hd1, hR3, ?_, ?_, fun b ys3 hb0 hb1 hR4 => ?_⟩
      · show 1 ≤ (((abc.take zs.length).length : Nat) : Int)
        rw [abc_len h6]; omega
      · show (((abc.take zs.length).length : Nat) : Int) ≤ 1000000000
        rw [abc_len h6]; omega
      have hb2 : b < (zs.length : Nat) := by
        have : b < (((abc.take zs.length).length : Nat) : Int) := hb1
        rwa [abc_len h6] at this
      refine ⟨_, by rw [tl_S, abc_len h6]; omega, at_abc hb0 hb2 h6, ?_⟩
      -- behind the first if
      refine ⟨fun σ2 H2 => ∃ k y6 y8 y9, σ2 = [some (.ref d), some (.ref a), some (.int n), some (.str (S (abc.take zs.length))), some (.str (S l)), some (.int st), y6, some (.str (S [k])), y8, y9] ∧
        SameB d H H2 ∧ (∃ ys, H2 d = some (.lst ys) ∧ Rnd ys) ∧ 97 ≤ k ∧ k < 97 + zs.length, ?_, ?_⟩
      · refine iteB ⟨fun e1 => iteB ⟨fun e2 => ?_, fun e2 => ⟨_, _, _, _, rfl, hsm.d, ⟨_, upd_same, hR4⟩, by omega, by omega⟩⟩, fun e1 => ⟨_, _, _, _, rfl, hsm.d, ⟨_, upd_same, hR4⟩, by omega, by omega⟩⟩
        refine ⟨d, 2, ys3, rfl, upd_same, hR4, by decide, by decide, fun r3 ys4 hr3 hr4 hR5 => iteB ⟨fun e3 => ?_, fun e3 => ⟨_, _, _, _, rfl, hsm.d.d, ⟨_, upd_same, hR5⟩, by omega, by omega⟩⟩⟩
        have hne : l ≠ [] := fun e => by subst e; simp at e2
        obtain ⟨l', k, rfl⟩ : ∃ l' k, l = l' ++ [k] := ⟨l.dropLast, l.getLast hne, (List.dropLast_concat_getLast hne).symm⟩
        have hk := hl k (by simp)
        exact ⟨k, by rw [tl_S]; omega, atI_last l' k, k, _, _, _, rfl, hsm.d.d, ⟨_, upd_same, hR5⟩, hk.1, hk.2⟩
      · rintro σ2 H2 ⟨k, y6, y8, y9, rfl, hsm2, ⟨ws2, hd2, hR5⟩, hk0, hk1⟩
        -- the place
        refine ⟨fun σ3 H3 => ∃ (pl : Int) (y6 y9 : Option V), σ3 = [some (.ref d), some (.ref a), some (.int n), some (.str (S (abc.take zs.length))), some (.str (S l)), some (.int st), y6, some (.str (S [k])), some (.int pl), y9] ∧
          SameB d H H3 ∧ (∃ ys, H3 d = some (.lst ys) ∧ Rnd ys) ∧ 0 ≤ pl ∧ pl ≤ l.length, ?_, ?_⟩
        · refine iteB ⟨fun e1 => ?_, fun e1 => ⟨by rw [tl_S]; omega, _, _, _, rfl, hsm2, ⟨_, hd2, hR5⟩, by omega, Int.le_refl _⟩⟩
          refine ⟨by rw [tl_S]; omega, d, _, ws2, rfl, hd2, hR5, ?_, ?_, fun r3 ys4 hr3 hr4 hR6 => ⟨_, _, _, rfl, hsm2.d, ⟨_, upd_same, hR6⟩, hr3, ?_⟩⟩
          · rw [tl_S]; omega
          · rw [tl_S]; omega
          · rw [tl_S] at hr4; omega
        · rintro σ3 H3 ⟨pl, y6, y9, rfl, hsm3, ⟨ws3, hd3, hR6⟩, hp0, hp1⟩
          -- what is put in
          refine ⟨fun σ4 H4 => ∃ (j : Nat) (y6 : Option V), σ4 = [some (.ref d), some (.ref a), some (.int n), some (.str (S (abc.take zs.length))), some (.str (S l)), some (.int st), y6, some (.str (S [k])), some (.int pl), some (.str (S (repL j [k])))] ∧
            SameB d H H4 ∧ (∃ ys, H4 d = some (.lst ys) ∧ Rnd ys) ∧ j ≤ 4, ?_, ?_⟩
          · have one : ∀ H4 ys4, SameB d H H4 → H4 d = some (.lst ys4) → Rnd ys4 → gMul K (.str (S [k])) (.int 1) H4 (fun x H1 => gName 9 x [some (.ref d), some (.ref a), some (.int n), some (.str (S (abc.take zs.length))), some (.str (S l)), some (.int st), y6, some (.str (S [k])), some (.int pl), y9] H1 fun σ4 H4 => ∃ (j : Nat) (y6 : Option V), σ4 = [some (.ref d), some (.ref a), some (.int n), some (.str (S (abc.take zs.length))), some (.str (S l)), some (.int st), y6, some (.str (S [k])), some (.int pl), some (.str (S (repL j [k])))] ∧
                SameB d H H4 ∧ (∃ ys, H4 d = some (.lst ys) ∧ Rnd ys) ∧ j ≤ 4) := fun H4 ys4 a1 a2 a3 =>
              ⟨⟨by decide, by decide, by show 1 * 1 ≤ 1000000; decide⟩, 1, _, rfl, a1, ⟨_, a2, a3⟩, by decide⟩
            refine iteB ⟨fun e1 => ?_, fun e1 => one _ _ hsm3 hd3 hR6⟩
            refine ⟨d, 3, ws3, rfl, hd3, hR6, by decide, by decide, fun r3 ys4 hr3 hr4 hR7 => iteB ⟨fun e2 => ?_, fun e2 => one _ _ hsm3.d upd_same hR7⟩⟩
            have hz := hZ.all (szI zs k) (by
              unfold szI
              rw [List.getD_eq_getElem?_getD, List.getElem?_eq_getElem (by omega)]
              exact List.getElem_mem _)
            refine ⟨rfl, k, rfl, rfl, ⟨hk0, by omega⟩, _, _, .inr (hsm3.d.tup hd hT), at_szI hk0 hk1, ⟨by omega, by omega, ?_⟩, (szI zs k).toNat, _, rfl, hsm3.d, ⟨_, upd_same, hR7⟩, by omega⟩
            show 1 * (szI zs k).toNat ≤ 1000000
            omega
          · rintro σ4 H4 ⟨j, y6, rfl, hsm4, hd4, hj⟩
            have e1 : cutL l none (some pl) = l.take pl.toNat := cutL_to l hp0
            have e2 : cutL l (some pl) none = l.drop pl.toNat := cutL_from l hp0
            have e3 : repL j [k] = List.replicate j k := repL_one j k
            refine ⟨by rw [tl_S]; omega, ?_, by rw [tl_S]; omega, ?_, ?_⟩
            · show (cutL l none (some pl)).length + (repL j [k]).length ≤ 1000000
              rw [e1, e3, List.length_take, List.length_replicate]; omega
            · show (cutL l none (some pl) ++ repL j [k]).length + (cutL l (some pl) none).length ≤ 1000000
              rw [e1, e2, e3, List.length_append, List.length_take, List.length_replicate, List.length_drop]; omega
            · refine ⟨cutL l none (some pl) ++ repL j [k] ++ cutL l (some pl) none, _, _, _, _, rfl, hsm4, hd4, ?_, ?_⟩
              · rw [e1, e2, e3]
                exact ((hl.take _).app fun y hy => by rw [List.eq_of_mem_replicate hy]; exact ⟨hk0, hk1⟩).app (hl.drop _)
              · rw [e1, e2, e3, List.length_append, List.length_append, List.length_take, List.length_replicate, List.length_drop]; omega
    · rintro σ H' ⟨l, y6, y7, y8, y9, rfl, hsm, ⟨ws, hd1, hR3⟩, hl, hll⟩
      refine ⟨by rw [tl_S]; omega, ?_⟩
      show Q (.str (S (cutL l none (some n)))) H'
      rw [cutL_to l h1]
      exact q H' ws _ hsm hd1 hR3 (hl.take _) (by rw [List.length_take]; omega)

-- NEEDS size_of _law_sizes _law_row
abbrev s_is_int_in : Stmt := topS 9
theorem sc_is_int_in : FnScope ["value", "low", "high"] ["value", "low", "high"] (defScope s_is_int_in) := ⟨rfl, rfl, rfl, by decide +kernel, rfl, by decide +kernel, by decide +kernel⟩

/-- values that are no integers -/
def NoInt (K : PySem.W.Frag) (H : Hp) (v : V) : Prop := match v with
  | .bl _ => True
  | .str _ => True
  | .non => True
  | .ref p => (∃ xs, SqL K H p xs) ∨ (∃ xs, SqT K H p xs)
  | _ => False
def sp_is_int_in (K : PySem.W.Frag) : Sp := fun vs H Q _ => ∃ (v : V) (lo hi : Int), vs = [v, .int lo, .int hi] ∧ ((∃ i, v = .int i ∧ Q (.bl (decide (lo ≤ i ∧ i ≤ hi))) H) ∨ (NoInt K H v ∧ Q (.bl false) H))
theorem ok_is_int_in {f : Addr} {fd : FuncData} (F : Fun K "is_int_in" "is_int_in" s_is_int_in f fd) (B : Bi mg) : FnOk P w K mg base CX0 1 f fd ["value", "low", "high"] (sp_is_int_in K) := by
  refine F.ok sc_is_int_in (fun vs H Q E h => ?_) (fun cdv A outer s H vs Q E hr h => ?_)
  · obtain ⟨v, lo, hi, rfl, _⟩ := h
    rfl
  · obtain ⟨v, lo, hi, rfl, h⟩ := h
    refine ⟨_, (pss_one (ps_ret (pe_andG (pe_callB (cr_isiG (K := K) .kint) (by rfl) B.isinstance bt_isinstance (pa_cons (gv 0) (pa_cons (pe_bltn (v := .ty "int") (by rfl) B.int bt_int rfl) pa_nil))) (pe_andG (pe_notG (pe_callB (cr_isiG (K := K) .kbool) (by rfl) B.isinstance bt_isinstance (pa_cons (gv 0) (pa_cons (pe_bltn (v := .ty "bool") (by rfl) B.bool bt_bool rfl) pa_nil)))) (pe_one (pe_chainG op_leG op_leG (gv 1) (gv 0) (gv 2))))))), ?_⟩
    rcases h with ⟨i, rfl, q⟩ | ⟨hn, q⟩
    · refine ⟨rfl, rfl, iteB ⟨fun e => ?_, fun e => ?_⟩⟩
      · have e' : lo ≤ i := of_decide_eq_true e
        have e2 : decide (lo ≤ i ∧ i ≤ hi) = decide (i ≤ hi) := by rw [Bool.eq_iff_iff]; simp [e']
        rw [e2] at q
        exact q
      · have e' : ¬ lo ≤ i := fun z => e (decide_eq_true z)
        have e2 : decide (lo ≤ i ∧ i ≤ hi) = false := decide_eq_false fun z => e' z.1
        rw [e2] at q
        exact q
    · cases v with
      | bl b => exact ⟨rfl, rfl, q⟩
      | str z => exact ⟨rfl, q⟩
      | non => exact ⟨rfl, q⟩
      | ref p =>
        rcases hn with hn | hn
        · exact ⟨rfl, .inl ⟨hn, q⟩⟩
        · exact ⟨rfl, .inr ⟨hn, q⟩⟩
      | int i => exact hn.elim
      | _ => exact hn.elim
abbrev s_check_sizes : Stmt := topS 10
theorem sc_check_sizes : FnScope ["sizes", "position", "size"] ["sizes"] (defScope s_check_sizes) := ⟨rfl, rfl, rfl, by decide +kernel, rfl, by decide +kernel, by decide +kernel⟩

def sp_check_sizes (K : PySem.W.Frag) : Sp := fun vs H Q _ => ∃ (a : Addr) (zs : List Int), vs = [.ref a] ∧ SqT K H a (zs.map V.int) ∧ OkZ zs ∧ ∀ H', Same H H' → Q .non H'
theorem ok_check_sizes {f : Addr} {fd : FuncData} (F : Fun K "check_sizes" "check_sizes" s_check_sizes f fd) (B : Bi mg) (C_is_int_in : Cal P w K mg base CX0 1 "is_int_in" ["value", "low", "high"] (sp_is_int_in K)) (m_COLORS : ∃ t, mg "COLORS" = some (.str (S abc) t)) (m_MAX_SIZE : ∃ t, mg "MAX_SIZE" = some (.int 4 t)) : FnOk P w K mg base CX0 2 f fd ["sizes"] (sp_check_sizes K) := by
  refine F.ok sc_check_sizes (fun vs H Q E h => ?_) (fun cdv A outer s H vs Q E hr h => ?_)
  · obtain ⟨v, lo, rfl, _⟩ := h
    rfl
  · obtain ⟨a, zs, rfl, hT, hZ, q⟩ := h
    refine ⟨_, (pss_cons (ps_if (pw_or (pt_not (pt_truG (K := K) (pe_callB (cr_isiG (K := K) .ktuple) (by rfl) B.isinstance bt_isinstance (pa_cons (gv 0) (pa_cons (pe_bltn (v := .ty "tuple") (by rfl) B.tuple bt_tuple rfl) pa_nil))))) (pw_or1 (pt_cmpG (op_eqG (K := K) hr.units) (gv 0) (pe_tup pa_nil) (nomark _)))).pt
      (pss_one ps_never)
      pss_nil)
      (pss_one (ps_for PassesOwn.never rfl (pi_enumG (K := K) B.enumerate (pa_cons (gv 0) pa_nil)) (pg_nm (K := K) (is := [1, 2]) (pgs_cons (pg_name (i := 1) sc_check_sizes.nd rfl (.inl rfl)) (pgs_cons (pg_name (i := 2) sc_check_sizes.nd rfl (.inl rfl)) pgs_nil)) nm2)
      (pss_one (ps_if (pw_or (pt_cmpG (op_eqG (K := K) hr.units) (gv 1) (pe_callB (cr_lenG (K := K)) (by rfl) B.len bt_len (pa_cons (g_str m_COLORS) pa_nil)) (nomark _)) (pw_or1 (pt_not (pt_truG (K := K) (pe_cal C_is_int_in (hr.mono (by decide)) pass0 (pa_cons (gv 2) (pa_cons pe_int (pa_cons (g_int m_MAX_SIZE) pa_nil)))))))).pt
      (pss_one ps_never)
      pss_nil))))), ?_⟩
    refine ⟨rfl, .inr ⟨⟨_, hT⟩, by decide, fun p hp => ?_⟩⟩
    have hne : zs ≠ [] := fun e => by have := hZ.pos; rw [e] at this; simp at this
    have s1 : Same H (upd H p (.tup [])) := same_upd hp
    refine .inl ⟨a, p, rfl, rfl, zs.map V.int, .inr ⟨s1.tup hT, SqT.of upd_same⟩, ?_⟩
    have e0 : (zs.map V.int).isEmpty = false := by cases zs with
      | nil => exact absurd rfl hne
      | cons z r => rfl
    rw [e0]
    refine ⟨_, s1.tup hT, for_it walk_jt (fun i σ H' => ∃ y1 y2, σ = [some (.ref a), y1, y2] ∧ Same H H') ⟨none, none, rfl, s1⟩ ?_ ?_ ?_⟩
    · rintro i σ H' hi ⟨y1, y2, rfl, hs⟩
      exact hs.tup hT
    · rintro i x σ H1 H2 hi ⟨y1, y2, rfl, hs⟩ ⟨T, xs, rfl, hTn, rfl, v, hv, rfl⟩
      rw [List.length_map] at hi
      have h6 := hZ.six
      rw [List.getElem?_map] at hv
      obtain ⟨z, hz, rfl⟩ := Option.map_eq_some_iff.mp hv
      have hz1 := hZ.all z (List.mem_of_getElem? hz)
      refine ⟨_, SqT.of upd_same, by decide, iteB ⟨fun e => ?_, fun e => ?_⟩⟩
      · have e' : (i : Int) = 6 := of_decide_eq_true e
        omega
      · refine ⟨_, _, _, rfl, .inl ⟨z, rfl, ?_⟩⟩
        rw [decide_eq_true hz1]
        exact ⟨_, _, rfl, hs.trans (same_upd hTn)⟩
    · rintro σ H' ⟨y1, y2, rfl, hs⟩
      exact q H' hs
abbrev s_colors_of : Stmt := topS 11
theorem sc_colors_of : FnScope ["sizes"] ["sizes"] (defScope s_colors_of) := ⟨rfl, rfl, rfl, by decide +kernel, rfl, by decide +kernel, by decide +kernel⟩

def sp_colors_of (K : PySem.W.Frag) : Sp := fun vs H Q _ => ∃ (a : Addr) (zs : List V), vs = [.ref a] ∧ SqT K H a zs ∧ Q (.str (S (abc.take zs.length))) H
theorem ok_colors_of {f : Addr} {fd : FuncData} (F : Fun K "colors_of" "colors_of" s_colors_of f fd) (B : Bi mg) (m_COLORS : ∃ t, mg "COLORS" = some (.str (S abc) t)) : FnOk P w K mg base CX0 1 f fd ["sizes"] (sp_colors_of K) := by
  refine F.ok sc_colors_of (fun vs H Q E h => ?_) (fun cdv A outer s H vs Q E hr h => ?_)
  · obtain ⟨v, lo, rfl, _⟩ := h
    rfl
  · obtain ⟨a, zs, rfl, hT, q⟩ := h
    refine ⟨_, (pss_one (ps_ret (pe_slice (slG (K := K)) (g_str m_COLORS) po_none (po_someG (pe_callB (cr_lenG (K := K)) (by rfl) B.len bt_len (pa_cons (gv 0) pa_nil)))))), ?_⟩
    refine ⟨_, .inr hT, by decide, ?_⟩
    show Q (.str (S (cutL abc none (some _)))) H
    rw [cutL_to _ (by omega), Int.toNat_natCast]
    exact q
abbrev s_check_row : Stmt := topS 13
theorem sc_check_row : FnScope ["sizes", "row", "position", "bead"] ["sizes", "row"] (defScope s_check_row) := ⟨rfl, rfl, rfl, by decide +kernel, rfl, by decide +kernel, by decide +kernel⟩

theorem mem_abc {k m : Nat} (h : 97 ≤ k) (h2 : k < 97 + m) (h3 : m ≤ 6) : k ∈ abc.take m := by
  have e := at_abc (r := ((k - 97 : Nat) : Int)) (m := m) (by omega) (by omega) h3
  obtain ⟨j, _, hj, _⟩ := atI_get e
  have := List.mem_of_getElem? hj
  rw [show 97 + ((k - 97 : Nat) : Int).toNat = k by omega] at this
  exact this
def sp_check_row (K : PySem.W.Frag) : Sp := fun vs H Q _ => ∃ (a : Addr) (zs : List Int) (l : List Nat), vs = [.ref a, .str (S l)] ∧ SqT K H a (zs.map V.int) ∧ OkZ zs ∧ OkR zs l ∧ l.length ≤ 40 ∧ ∀ H', Same H H' → Q .non H'
theorem ok_check_row {f : Addr} {fd : FuncData} (F : Fun K "check_row" "check_row" s_check_row f fd) (B : Bi mg) (C_colors_of : Cal P w K mg base CX0 1 "colors_of" ["sizes"] (sp_colors_of K)) (m_MAX_BEADS : ∃ t, mg "MAX_BEADS" = some (.int 40 t)) : FnOk P w K mg base CX0 2 f fd ["sizes", "row"] (sp_check_row K) := by
  refine F.ok sc_check_row (fun vs H Q E h => ?_) (fun cdv A outer s H vs Q E hr h => ?_)
  · obtain ⟨v, lo, l, rfl, _⟩ := h
    rfl
  · obtain ⟨a, zs, l, rfl, hT, hZ, hR, hl, q⟩ := h
    refine ⟨_, (pss_cons (ps_if (pt_not (pt_truG (K := K) (pe_callB (cr_isiG (K := K) .kstr) (by rfl) B.isinstance bt_isinstance (pa_cons (gv 1) (pa_cons (pe_bltn (v := .ty "str") (by rfl) B.str bt_str rfl) pa_nil)))))
      (pss_one ps_never)
      pss_nil)
      (pss_one (ps_for PassesOwn.never rfl (pi_enumG (K := K) B.enumerate (pa_cons (gv 1) pa_nil)) (pg_nm (K := K) (is := [2, 3]) (pgs_cons (pg_name (i := 2) sc_check_row.nd rfl (.inl rfl)) (pgs_cons (pg_name (i := 3) sc_check_row.nd rfl (.inl rfl)) pgs_nil)) nm2)
      (pss_one (ps_if (pw_or (pt_cmpG (op_eqG (K := K) hr.units) (gv 2) (g_int m_MAX_BEADS) (nomark _)) (pw_or1 (pt_cmpG (op_notInG (K := K)) (gv 3) (pe_cal C_colors_of (hr.mono (by decide)) pass0 (pa_cons (gv 0) pa_nil)) rfl))).pt
      (pss_one ps_never)
      pss_nil))))), ?_⟩
    refine ⟨rfl, ?_⟩
    refine for_it walk_jt (fun i σ H' => ∃ y1 y2, σ = [some (.ref a), some (.str (S l)), y1, y2] ∧ Same H H') ⟨none, none, rfl, Same.refl H⟩ ?_ ?_ ?_
    · rintro i σ H' hi ⟨y1, y2, rfl, hs⟩
      trivial
    · rintro i x σ H1 H2 hi ⟨y1, y2, rfl, hs⟩ ⟨T, xs, rfl, hTn, rfl, v, hv, rfl⟩
      have h6 := hZ.six
      have hi' : i < l.length := hi
      unfold sgs at hv
      rw [List.getElem?_map] at hv
      obtain ⟨k, hk, rfl⟩ := Option.map_eq_some_iff.mp hv
      have hk1 := hR k (List.mem_of_getElem? hk)
      have s2 : Same H (upd H1 T (.tup [.int (i : Nat), .str (S [k])])) := hs.trans (same_upd hTn)
      refine ⟨_, SqT.of upd_same, iteB ⟨fun e => ?_, fun e => ?_⟩⟩
      · have e' : (i : Int) = 40 := of_decide_eq_true e
        omega
      · refine ⟨a, _, rfl, s2.tup hT, k, rfl, ?_⟩
        rw [List.length_map]
        have hm : k ∈ abc.take zs.length := mem_abc hk1.1 hk1.2 h6
        refine iteB ⟨fun e => ?_, fun e => ⟨_, _, rfl, s2⟩⟩
        exfalso
        have e2 : (!decide (k ∈ abc.take zs.length)) = true := e
        rw [decide_eq_true hm] at e2
        cases e2
    · rintro σ H' ⟨y1, y2, rfl, hs⟩
      exact q H' hs

/-! ### the scan with a stack of runs, over plain lists -/
abbrev Runs := List (Nat × List Nat)
def pre (runs : Runs) (k : Nat) : Runs := match runs with
  | [] => [(k, [])]
  | (d, ps) :: r => if d = k then (d, ps) :: r else (k, []) :: (d, ps) :: r
def addTop (p : Nat) : Runs → Runs
  | [] => []
  | (d, ps) :: r => (d, ps ++ [p]) :: r
structure Sc where
  runs : Runs
  nums : List (Option Nat)
  tot : Nat
def fill (nums : List (Option Nat)) (t : Nat) (ps : List Nat) : List (Option Nat) := ps.foldl (fun n p => n.set p (some t)) nums
def closeTop (sz : Nat → Nat) (runs : Runs) (nums : List (Option Nat)) (tot : Nat) : Sc := match runs with
  | [] => ⟨[], nums, tot⟩
  | (d, ps) :: r => if ps.length = sz d then ⟨r, fill nums tot ps, tot + 1⟩ else ⟨(d, ps) :: r, nums, tot⟩
def stepS (sz : Nat → Nat) (s : Sc) (p k : Nat) : Sc := closeTop sz (addTop p (pre s.runs k)) s.nums s.tot
def scan (sz : Nat → Nat) (n : Nat) (l : List Nat) : Sc := l.zipIdx.foldl (fun s x => stepS sz s x.2 x.1) ⟨[], List.replicate n none, 0⟩
theorem scan_take {sz : Nat → Nat} {n i k : Nat} {l : List Nat} (h : l[i]? = some k) : scan sz n (l.take (i + 1)) = stepS sz (scan sz n (l.take i)) i k := by
  have hi : i < l.length := (List.getElem?_eq_some_iff.mp h).1
  unfold scan
  rw [List.take_add_one, h, List.zipIdx_append, List.foldl_append]
  have e : (l.take i).length = i := by rw [List.length_take]; omega
  rw [e]
  simp
theorem pre_top (runs : Runs) (k : Nat) : ∃ ps r, pre runs k = (k, ps) :: r := by
  unfold pre
  split
  · exact ⟨_, _, rfl⟩
  · split
    · rename_i h
      subst h
      exact ⟨_, _, rfl⟩
    · exact ⟨_, _, rfl⟩
def Below (n : Nat) (runs : Runs) : Prop := ∀ x ∈ runs, ∀ p ∈ x.2, p < n
theorem Below.pre {n k : Nat} {runs : Runs} (h : Below n runs) : Below n (pre runs k) := by
  unfold Pk.pre
  split
  · intro x hx p hp
    rw [List.mem_singleton.mp hx] at hp
    simp at hp
  · split
    · exact h
    · intro x hx p hp
      rcases List.mem_cons.mp hx with e | hx
      · rw [e] at hp; simp at hp
      · exact h x hx p hp
theorem Below.addTop {n p : Nat} {runs : Runs} (h : Below n runs) (hp : n ≤ p) : Below (p + 1) (addTop p runs) := by
  cases runs with
  | nil => intro x hx; simp [Pk.addTop] at hx
  | cons y r =>
    intro x hx q hq
    rcases List.mem_cons.mp hx with e | hx
    · rw [e] at hq
      rcases List.mem_append.mp hq with hq | hq
      · have := h y (by simp) q hq; omega
      · rw [List.mem_singleton.mp hq]; omega
    · have := h x (by simp [hx]) q hq; omega
theorem closeTop_runs {sz : Nat → Nat} {runs : Runs} {nums : List (Option Nat)} {tot : Nat} : ∀ x ∈ (closeTop sz runs nums tot).runs, x ∈ runs := by
  unfold closeTop
  split
  · intro x hx; simp at hx
  · split
    · intro x hx; exact List.mem_cons_of_mem _ hx
    · intro x hx; exact hx
theorem scan_below {sz : Nat → Nat} {n : Nat} {l : List Nat} : ∀ i, i ≤ l.length → Below i (scan sz n (l.take i)).runs
  | 0, _ => by intro x hx; simp [scan] at hx
  | i + 1, hi => by
    have ih := scan_below (sz := sz) (n := n) (l := l) i (by omega)
    rw [scan_take (List.getElem?_eq_getElem (by omega : i < l.length))]
    intro x hx p hp
    exact (ih.pre.addTop (Nat.le_refl _)) x (closeTop_runs x hx) p hp
theorem fill_len (t : Nat) : ∀ (ps : List Nat) (nums : List (Option Nat)), (fill nums t ps).length = nums.length
  | [], _ => rfl
  | p :: ps, nums => by
    show (fill (nums.set p (some t)) t ps).length = nums.length
    rw [fill_len t ps, List.length_set]
theorem scan_len {sz : Nat → Nat} {n : Nat} {l : List Nat} : ∀ i, i ≤ l.length → (scan sz n (l.take i)).nums.length = n
  | 0, _ => by simp [scan]
  | i + 1, hi => by
    have ih := scan_len (sz := sz) (n := n) (l := l) i (by omega)
    rw [scan_take (List.getElem?_eq_getElem (by omega : i < l.length))]
    unfold stepS closeTop
    split
    · exact ih
    · split
      · rw [fill_len]; exact ih
      · exact ih
theorem fill_take (t : Nat) (nums : List (Option Nat)) {ps : List Nat} {i p : Nat} (h : ps[i]? = some p) : fill nums t (ps.take (i + 1)) = (fill nums t (ps.take i)).set p (some t) := by
  unfold fill
  rw [List.take_add_one, h, List.foldl_append]
  rfl
theorem pre_len (runs : Runs) (k : Nat) : (pre runs k).length ≤ runs.length + 1 := by
  unfold pre
  split
  · simp
  · split <;> simp
theorem scan_runs_len {sz : Nat → Nat} {n : Nat} {l : List Nat} : ∀ i, i ≤ l.length → (scan sz n (l.take i)).runs.length ≤ i
  | 0, _ => by simp [scan]
  | i + 1, hi => by
    have ih := scan_runs_len (sz := sz) (n := n) (l := l) i (by omega)
    rw [scan_take (List.getElem?_eq_getElem (by omega : i < l.length))]
    have h := pre_len (scan sz n (l.take i)).runs l[i]
    unfold stepS
    cases e : pre (scan sz n (l.take i)).runs l[i] with
    | nil => simp [addTop, closeTop]
    | cons x r =>
      rw [e] at h
      simp only [addTop, closeTop, List.length_cons] at h ⊢
      split <;> simp <;> omega
def Short (n : Nat) (runs : Runs) : Prop := ∀ x ∈ runs, x.2.length ≤ n
theorem Short.pre {n k : Nat} {runs : Runs} (h : Short n runs) : Short n (pre runs k) := by
  unfold Pk.pre
  split
  · intro x hx
    rw [List.mem_singleton.mp hx]; simp
  · split
    · exact h
    · intro x hx
      rcases List.mem_cons.mp hx with e | hx
      · rw [e]; simp
      · exact h x hx
theorem Short.addTop {n p : Nat} {runs : Runs} (h : Short n runs) : Short (n + 1) (addTop p runs) := by
  cases runs with
  | nil => intro x hx; simp [Pk.addTop] at hx
  | cons y r =>
    intro x hx
    rcases List.mem_cons.mp hx with e | hx
    · rw [e]
      have := h y (by simp)
      simp; omega
    · have := h x (by simp [hx]); omega
theorem scan_short {sz : Nat → Nat} {n : Nat} {l : List Nat} : ∀ i, i ≤ l.length → Short i (scan sz n (l.take i)).runs
  | 0, _ => by intro x hx; simp [scan] at hx
  | i + 1, hi => by
    have ih := scan_short (sz := sz) (n := n) (l := l) i (by omega)
    rw [scan_take (List.getElem?_eq_getElem (by omega : i < l.length))]
    intro x hx
    exact ih.pre.addTop (p := i) x (closeTop_runs x hx)

-- NEEDS m_scan
abbrev s_split_runs : Stmt := topS 15
theorem sc_split_runs : FnScope ["sizes", "row", "stack", "pack_numbers", "total", "position", "bead", "color", "positions", "member"] ["sizes", "row"] (defScope s_split_runs) := ⟨rfl, rfl, rfl, by decide +kernel, rfl, by decide +kernel, by decide +kernel⟩

abbrev szN (zs : List Int) (k : Nat) : Nat := (szI zs k).toNat
abbrev iv (n : Nat) : V := V.int ((n : Nat) : Int)
abbrev ov : Option Nat → V
  | none => V.non
  | some n => iv n
/-- the runs as they lie in the heap, the last one first -/
inductive RunsRep (H : Hp) : Runs → List (Addr × Addr) → Prop
  | nil : RunsRep H [] []
  | cons {k : Nat} {ps : List Nat} {r : Runs} {a b : Addr} {as : List (Addr × Addr)} : H a = some (.tup [.str (S [k]), .ref b]) → H b = some (.lst (ps.map iv)) → (∀ x ∈ as, x.2 ≠ b) → RunsRep H r as → RunsRep H ((k, ps) :: r) ((a, b) :: as)
theorem RunsRep.frame {H H' : Hp} {r : Runs} {as : List (Addr × Addr)} (h : RunsRep H r as) (hk : ∀ x ∈ as, H' x.1 = H x.1 ∧ H' x.2 = H x.2) : RunsRep H' r as := by
  induction h with
  | nil => exact .nil
  | cons h1 h2 h3 h4 ih =>
    have e := hk _ List.mem_cons_self
    exact .cons (e.1.trans h1) (e.2.trans h2) h3 (ih fun x hx => hk x (List.mem_cons_of_mem _ hx))
theorem RunsRep.there {H : Hp} {r : Runs} {as : List (Addr × Addr)} (h : RunsRep H r as) : ∀ x ∈ as, (∃ xs, H x.1 = some (.tup xs)) ∧ ∃ xs, H x.2 = some (.lst xs) := by
  induction h with
  | nil => intro x hx; simp at hx
  | cons h1 h2 h3 h4 ih =>
    intro x hx
    rcases List.mem_cons.mp hx with e | hx
    · subst e; exact ⟨⟨_, h1⟩, _, h2⟩
    · exact ih x hx
theorem RunsRep.new {H : Hp} {r : Runs} {as : List (Addr × Addr)} {y : Addr} {o : HO} (h : RunsRep H r as) (hy : H y = none) : RunsRep (upd H y o) r as :=
  h.frame fun x hx => by
    obtain ⟨⟨_, h1⟩, _, h2⟩ := h.there x hx
    exact ⟨upd_ne (ne_of_none h1 hy), upd_ne (ne_of_none h2 hy)⟩
theorem RunsRep.lst {H : Hp} {r : Runs} {as : List (Addr × Addr)} {y : Addr} {o : HO} {xs : List V} (h : RunsRep H r as) (hy : H y = some (.lst xs)) (hn : ∀ x ∈ as, x.2 ≠ y) : RunsRep (upd H y o) r as :=
  h.frame fun x hx => by
    obtain ⟨⟨_, h1⟩, _, h2⟩ := h.there x hx
    exact ⟨upd_ne (ne_of h1 hy (by intro z; cases z)), upd_ne (hn x hx)⟩
/-- what split_runs has made: the stack at st, the numbers at pn -/
structure SrAt (H H' : Hp) (st pn : Addr) (s : Sc) (as : List (Addr × Addr)) : Prop where
  same : Same H H'
  fst : H st = none
  fpn : H pn = none
  ne : st ≠ pn
  hst : H' st = some (.lst ((as.map fun x => V.ref x.1).reverse))
  hpn : H' pn = some (.lst (s.nums.map ov))
  rep : RunsRep H' s.runs as
  apart : ∀ x ∈ as, x.2 ≠ st ∧ x.2 ≠ pn ∧ H x.2 = none
theorem RunsRep.len {H : Hp} {r : Runs} {as : List (Addr × Addr)} (h : RunsRep H r as) : as.length = r.length := by
  induction h with
  | nil => rfl
  | cons _ _ _ _ ih => simp [ih]
theorem SrAt.new {H H1 : Hp} {st pn y : Addr} {s : Sc} {as : List (Addr × Addr)} {o : HO} (h : SrAt H H1 st pn s as) (hy : H1 y = none) : SrAt H (upd H1 y o) st pn s as :=
  ⟨h.same.trans (same_upd hy), h.fst, h.fpn, h.ne, by rw [upd_ne (ne_of_none h.hst hy)]; exact h.hst, by rw [upd_ne (ne_of_none h.hpn hy)]; exact h.hpn, h.rep.new hy, h.apart⟩
theorem rev_ref (x : Addr × Addr) (as : List (Addr × Addr)) : (((x :: as).map fun x => V.ref x.1).reverse) = ((as.map fun x => V.ref x.1).reverse) ++ [V.ref x.1] := by
  rw [List.map_cons, List.reverse_cons]
def sp_split_runs (K : PySem.W.Frag) : Sp := fun vs H Q _ => ∃ (a : Addr) (zs : List Int) (l : List Nat), vs = [.ref a, .str (S l)] ∧ SqT K H a (zs.map V.int) ∧ OkZ zs ∧ OkR zs l ∧ l.length ≤ 1000 ∧
  ∀ (H' : Hp) (p st pn : Addr) (as : List (Addr × Addr)), SrAt H H' st pn (scan (szN zs) l.length l) as → H p = none → H' p = some (.tup [.ref st, .ref pn]) → Q (.ref p) H'
theorem szI_ok {zs : List Int} {k : Nat} (hZ : OkZ zs) (h : 97 ≤ k ∧ k < 97 + zs.length) : 1 ≤ szI zs k ∧ szI zs k ≤ 4 := hZ.all (szI zs k) (by
  unfold szI
  rw [List.getD_eq_getElem?_getD, List.getElem?_eq_getElem (by omega)]
  exact List.getElem_mem _)
theorem ok_split_runs {f : Addr} {fd : FuncData} (F : Fun K "split_runs" "split_runs" s_split_runs f fd) (B : Bi mg) (C_size_of : Cal P w K mg base CX0 1 "size_of" ["sizes", "color"] (sp_size_of K)) : FnOk P w K mg base CX0 2 f fd ["sizes", "row"] (sp_split_runs K) := by
  refine F.ok sc_split_runs (fun vs H Q E h => ?_) (fun cdv A outer s H vs Q E hr h => ?_)
  · obtain ⟨v, lo, l, rfl, _⟩ := h
    rfl
  · obtain ⟨a, zs, l, rfl, hT, hZ, hR, hl, q⟩ := h
    refine ⟨_, (pss_cons (ps_par3 (i := 2) (j := 3) (l := 4) rfl sc_split_runs.nd rfl rfl rfl (by decide) (by decide) (by decide) rfl rfl rfl (pa_cons (pe_lst pa_nil) (pa_cons (pe_op (op_mulG (K := K)) (pe_lst (pa_cons pe_non pa_nil)) (pe_callB (cr_lenG (K := K)) (by rfl) B.len bt_len (pa_cons (gv 1) pa_nil))) (pa_cons pe_int pa_nil))) rfl)
      (pss_cons (ps_for PassesOwn.never rfl (pi_enumG (K := K) B.enumerate (pa_cons (gv 1) pa_nil)) (pg_nm (K := K) (is := [5, 6]) (pgs_cons (pg_name (i := 5) sc_split_runs.nd rfl (.inl rfl)) (pgs_cons (pg_name (i := 6) sc_split_runs.nd rfl (.inl rfl)) pgs_nil)) nm2)
      (pss_cutG (ps_if (pw_or (pt_cmpG (op_eqG (K := K) hr.units) (gv 2) (pe_lst pa_nil) (nomark _)) (pw_or1 (pt_cmpG (op_neG (K := K) hr.units) (pe_ix (ixG (K := K)) (pe_ix (ixG (K := K)) (gv 2) (pe_un un_negG pe_int) (fun _ _ => rfl)) pe_int (fun _ _ => rfl)) (gv 6) (nomark _)))).pt
      (pss_one (ps_expr (pe_bmG (K := K) PySem.F.plainAttrs_list PySem.F.slot_list_append PySem.F.type_list_append mt_appendG (gv 2) (pa_cons (pe_tup (pa_cons (gv 6) (pa_cons (pe_lst pa_nil) pa_nil))) pa_nil))))
      pss_nil)
      (pss_cons (ps_expr (pe_bmG (K := K) PySem.F.plainAttrs_list PySem.F.slot_list_append PySem.F.type_list_append mt_appendG (pe_ix (ixG (K := K)) (pe_ix (ixG (K := K)) (gv 2) (pe_un un_negG pe_int) (fun _ _ => rfl)) pe_int (fun _ _ => rfl)) (pa_cons (gv 5) pa_nil)))
      (pss_one (ps_if (pt_cmpG (op_eqG (K := K) hr.units) (pe_callB (cr_lenG (K := K)) (by rfl) B.len bt_len (pa_cons (pe_ix (ixG (K := K)) (pe_ix (ixG (K := K)) (gv 2) (pe_un un_negG pe_int) (fun _ _ => rfl)) pe_int (fun _ _ => rfl)) pa_nil)) (pe_cal C_size_of (hr.mono (by decide)) pass0 (pa_cons (gv 0) (pa_cons (gv 6) pa_nil))) (nomark _))
      (pss_cons (ps_asg (pe_bm0G (K := K) PySem.F.plainAttrs_list PySem.F.slot_list_pop PySem.F.type_list_pop mt_popG (gv 2)) (pg_nm (K := K) (is := [7, 8]) (pgs_cons (pg_name (i := 7) sc_split_runs.nd rfl (.inl rfl)) (pgs_cons (pg_name (i := 8) sc_split_runs.nd rfl (.inl rfl)) pgs_nil)) nm2))
      (pss_cons (ps_for PassesOwn.never rfl (pi_seqG (K := K) (gv 8)) (pg_name (i := 9) sc_split_runs.nd rfl (.inl rfl))
      (pss_one (ps_asg (gv 4) (pg_sub (gv 3) (gv 9) set_listG))))
      (pss_one (ps_augG (i := 4) sc_split_runs.nd rfl (.inl rfl) pe_int (iop_addG (K := K))))))
      pss_nil)))))
      (pss_one (ps_ret (pe_tup (pa_cons (gv 2) (pa_cons (gv 3) pa_nil))))))), ?_⟩
    refine ⟨Nat.zero_le _, fun st hst => ⟨by show 1 ≤ sizeLine; decide, fun g hg => ⟨by rw [tl_S]; omega, _, upd_same, ⟨by omega, by rw [tl_S]; omega, by show 1 * _ ≤ _; rw [tl_S, Int.toNat_natCast]; omega⟩, fun pn hpn => ?_⟩⟩⟩
    have s1 : Same H (upd H st (.lst [])) := same_upd hst
    have s2 := s1.trans (same_upd (o := .lst [V.non]) hg)
    have nst : st ≠ pn := ne_of_none ((same_upd (o := .lst [V.non]) hg) st _ upd_same) hpn
    have e0 : repL ((((tl (S l)).length : Nat) : Int).toNat) [V.non] = (scan (szN zs) l.length (l.take 0)).nums.map ov := by
      rw [repL_one, Int.toNat_natCast, tl_S]
      show _ = (List.replicate l.length none).map ov
      rw [List.map_replicate]
    refine ⟨_, _, _, rfl, ?_⟩
    refine for_it walk_jt (fun i σ H' => ∃ as y5 y6 y7 y8 y9, σ = [some (.ref a), some (.str (S l)), some (.ref st), some (.ref pn), some (iv (scan (szN zs) l.length (l.take i)).tot), y5, y6, y7, y8, y9] ∧ SrAt H H' st pn (scan (szN zs) l.length (l.take i)) as) ?_ ?_ ?_ ?_
    · refine ⟨[], none, none, none, none, none, rfl, ⟨s2.trans (same_upd hpn), hst, s2.free hpn, nst, ?_, by rw [upd_same, e0], .nil, by simp⟩⟩
      rw [upd_ne nst, upd_ne (ne_of_none upd_same hg), upd_same]; rfl
    · intros; trivial
    · rintro i x σ H1 H2 hi ⟨as, y5, y6, y7, y8, y9, rfl, hsr⟩ ⟨T, xs, rfl, hTn, rfl, v, hv, rfl⟩
      have hi' : i < l.length := hi
      unfold sgs at hv
      rw [List.getElem?_map] at hv
      obtain ⟨k, hk, rfl⟩ := Option.map_eq_some_iff.mp hv
      have hk1 := hR k (List.mem_of_getElem? hk)
      have hst4 := scan_take (sz := szN zs) (n := l.length) hk
      have hbel := scan_below (sz := szN zs) (n := l.length) (l := l) i (by omega)
      have hnl := scan_len (sz := szN zs) (n := l.length) (l := l) i (by omega)
      have hz := szI_ok hZ hk1
      have h6 := hZ.six
      have hsh := scan_short (sz := szN zs) (n := l.length) (l := l) i (by omega)
      have hrl := scan_runs_len (sz := szN zs) (n := l.length) (l := l) i (by omega)
      rw [hst4]
      generalize scan (szN zs) l.length (l.take i) = sc at *
      obtain ⟨runs, nums, tot⟩ := sc
      have hbel' : Below i runs := hbel
      have hsh' : Short i runs := hsh
      have hnl' : nums.length = l.length := hnl
      have hrl' : runs.length ≤ i := hrl
      have hsr2 := hsr.new (o := .tup [.int (i : Nat), .str (S [k])]) hTn
      refine ⟨_, SqT.of upd_same, ?_⟩
      refine ⟨fun σ3 H3 => ∃ as y7 y8 y9, σ3 = [some (.ref a), some (.str (S l)), some (.ref st), some (.ref pn), some (iv tot), some (iv i), some (.str (S [k])), y7, y8, y9] ∧ SrAt H H3 st pn ⟨pre runs k, nums, tot⟩ as, ?_, ?_⟩
      · -- a new run
        have app : ∀ (H3 : Hp) (D : Ends), SrAt H H3 st pn ⟨runs, nums, tot⟩ as → (∀ H4 as2, SrAt H H4 st pn ⟨(k, []) :: runs, nums, tot⟩ as2 → D.nx [some (.ref a), some (.str (S l)), some (.ref st), some (.ref pn), some (iv tot), some (iv i), some (.str (S [k])), y7, y8, y9] H4) →
            tDrop (gBM K "list" gAppend (gV 2) (tCons (tTup (tCons (gV 6) (tCons (tLst tNil) tNil))) tNil)) D [some (.ref a), some (.str (S l)), some (.ref st), some (.ref pn), some (iv tot), some (iv i), some (.str (S [k])), y7, y8, y9] H3 := fun H3 D h3 hD => by
          refine ⟨.inl ⟨rfl, _, SqL.of h3.hst⟩, Nat.zero_le _, fun b hb => ⟨by show 2 ≤ sizeLine; decide, fun t ht => ?_⟩⟩
          have h4 := (h3.new (o := .lst []) hb).new (o := .tup [.str (S [k]), .ref b]) ht
          have hbt : b ≠ t := ne_of_none upd_same ht
          have htst : t ≠ st := fun e => by
            have := (h3.new (o := .lst []) hb).hst
            rw [← e, ht] at this; cases this
          have hbst : b ≠ st := fun e => by rw [e, h3.hst] at hb; cases hb
          have hbpn : b ≠ pn := fun e => by rw [e, h3.hpn] at hb; cases hb
          have hn : ∀ x ∈ as, x.2 ≠ b := fun x hx e => by
            obtain ⟨_, _, h2⟩ := h3.rep.there x hx
            rw [e, hb] at h2; cases h2
          refine ⟨_, h4.hst, ?_, ?_⟩
          · have e1 := h3.rep.len
            have e2 : as.length = runs.length := e1
            rw [List.length_reverse, List.length_map]; omega
          · refine hD _ ((t, b) :: as) ⟨h4.same.at h4.fst, h4.fst, h4.fpn, h4.ne, ?_, ?_, ?_, ?_⟩
            · rw [upd_same, rev_ref]
            · rw [upd_ne h4.ne.symm]; exact h4.hpn
            · refine .cons ?_ ?_ hn (h4.rep.lst h4.hst fun x hx => (h4.apart x hx).1)
              · rw [upd_ne htst, upd_same]
              · rw [upd_ne hbst, upd_ne hbt, upd_same]; rfl
            · intro x hx
              rcases List.mem_cons.mp hx with e | hx
              · subst e
                exact ⟨hbst, hbpn, h3.same.free hb⟩
              · exact h4.apart x hx
        refine ⟨Nat.zero_le _, fun e he => .inl ⟨st, e, rfl, rfl, _, .inl ⟨SqL.of (hsr2.new he).hst, SqL.of upd_same⟩, ?_⟩⟩
        have hsr3 := hsr2.new (o := .lst []) he
        cases hrep : hsr.rep with
        | nil => exact app _ _ hsr3 fun H4 as2 h4 => ⟨as2, _, _, _, rfl, h4⟩
        | @cons d ps r a1 b1 as' h1 h2 h3 h4 =>
          rw [rev_ref]
          have e1 : id (((as'.map fun x => V.ref x.1).reverse ++ [V.ref a1]).isEmpty) = false := by
            cases as'.map (fun x => V.ref x.1) |>.reverse <;> rfl
          rw [e1]
          have h1' := (hsr3.same) -- the run on top
          cases hrep3 : hsr3.rep with
          | cons g1 g2 g3 g4 =>
            have hst3 := hsr3.hst
            rw [rev_ref] at hst3
            refine ⟨_, _, .inl (SqL.of hst3), atI_last _ _, _, _, .inr (SqT.of g1), atI_nat (j := 0) rfl, ?_⟩
            by_cases hd : d = k
            · subst hd
              refine iteB ⟨fun e2 => ?_, fun _ => ⟨(a1, b1) :: as', _, _, _, rfl, ?_⟩⟩
              · have e3 : (!decide (tl (S [d]) = tl (S [d]))) = true := e2
                rw [decide_eq_true rfl] at e3; cases e3
              · have e3 : pre ((d, ps) :: r) d = (d, ps) :: r := if_pos rfl
                rw [e3]; exact hsr3
            · refine iteB ⟨fun e2 => app _ _ hsr3 fun H4 as2 h4 => ⟨as2, _, _, _, rfl, ?_⟩, fun e2 => ?_⟩
              · have e3 : pre ((d, ps) :: r) k = (k, []) :: (d, ps) :: r := if_neg hd
                rw [e3]; exact h4
              · refine absurd ?_ e2
                show (!decide (([d] : List Nat) = [k])) = true
                rw [decide_eq_false (fun e => hd (by simpa using e))]; rfl
      · rintro σ3 H3 ⟨as, y7, y8, y9, rfl, h3⟩
        obtain ⟨ps, r, epre⟩ := pre_top runs k
        have hpl := pre_len runs k
        have hb2 := hbel'.pre (k := k)
        have hb3 := hb2.addTop (Nat.le_refl i)
        have hb4 := hsh'.pre (k := k)
        have estep : stepS (szN zs) ⟨runs, nums, tot⟩ i k = closeTop (szN zs) (addTop i (pre runs k)) nums tot := rfl
        rw [estep]
        rw [epre] at h3 hb3 hb4 ⊢
        obtain ⟨sm, f1, f2, nst2, hs1, hp1, rep, apart⟩ := h3
        have hs1 : H3 st = some (.lst ((as.map fun x => V.ref x.1).reverse)) := hs1
        have hp1 : H3 pn = some (.lst (nums.map ov)) := hp1
        cases rep with
        | @cons _ _ _ a1 b1 as' g1 g2 g3 g4 =>
          rw [rev_ref] at hs1
          have ab := apart (a1, b1) (by simp)
          have apart' : ∀ x ∈ as', x.2 ≠ st ∧ x.2 ≠ pn ∧ H x.2 = none := fun x hx => apart x (by simp [hx])
          have hpslen : ps.length ≤ i := hb4 (k, ps) (by simp)
          refine ⟨_, _, .inl (SqL.of hs1), atI_last _ _, _, _, .inr (SqT.of g1), atI_nat (j := 1) rfl, .inl ⟨rfl, _, SqL.of g2⟩, _, g2, by rw [List.length_map]; omega, ?_⟩
          have ea1 : a1 ≠ b1 := ne_of g1 g2 (by intro z; cases z)
          generalize hH4 : upd H3 b1 (.lst (ps.map iv ++ [iv i])) = H4
          have eb : H4 b1 = some (.lst ((ps ++ [i]).map iv)) := by rw [← hH4, upd_same, List.map_append]; rfl
          have es : H4 st = some (.lst ((as'.map fun x => V.ref x.1).reverse ++ [V.ref a1])) := by rw [← hH4, upd_ne ab.1.symm]; exact hs1
          have ep : H4 pn = some (.lst (nums.map ov)) := by rw [← hH4, upd_ne ab.2.1.symm]; exact hp1
          have ea : H4 a1 = some (.tup [.str (S [k]), .ref b1]) := by rw [← hH4, upd_ne ea1]; exact g1
          have er : RunsRep H4 r as' := by rw [← hH4]; exact g4.lst g2 g3
          have sm4 : Same H H4 := by rw [← hH4]; exact sm.at ab.2.2
          refine ⟨_, _, .inl (SqL.of es), atI_last _ _, _, _, .inr (SqT.of ea), atI_nat (j := 1) rfl, _, .inl (SqL.of eb), a, zs, k, rfl, sm4.tup hT, hk1.1, hk1.2, h6, iteB ⟨fun e => ?_, fun e => ?_⟩⟩
          · have e' : (((ps ++ [i]).map iv).length : Int) = szI zs k := of_decide_eq_true e
            have e2 : (ps ++ [i]).length = szN zs k := by
              rw [List.length_map] at e'
              show _ = (szI zs k).toNat
              omega
            refine ⟨.inl ⟨rfl, _, SqL.of es⟩, _, _, es, _, SqT.of (by rw [upd_ne (ne_of ea es (by intro z; cases z))]; exact ea), ?_⟩
            have hb5 : (upd H4 st (.lst (as'.map fun x => V.ref x.1).reverse)) b1 = some (.lst ((ps ++ [i]).map iv)) := by rw [upd_ne ab.1]; exact eb
            refine .inl ⟨_, SqL.of hb5, for_list (xs := (ps ++ [i]).map iv) (fun j σ5 H5 => ∃ y9, σ5 = [some (.ref a), some (.str (S l)), some (.ref st), some (.ref pn), some (iv tot), some (iv i), some (.str (S [k])), some (.str (S [k])), some (.ref b1), y9] ∧
              SrAt H H5 st pn ⟨r, fill nums tot ((ps ++ [i]).take j), tot⟩ as' ∧ H5 b1 = some (.lst ((ps ++ [i]).map iv))) ⟨y9, rfl, ⟨sm4.at f1, f1, f2, nst2, upd_same, by rw [upd_ne nst2.symm]; exact ep, er.lst es fun x hx => (apart' x hx).1, apart'⟩, hb5⟩ ?_ ?_ ?_⟩
            · rintro j σ5 H5 hj ⟨y9, rfl, _, hb6⟩
              exact SqL.of hb6
            · rintro j x σ5 H5 hx ⟨y9, rfl, h5, hb6⟩
              rw [List.getElem?_map] at hx
              obtain ⟨m, hm, rfl⟩ := Option.map_eq_some_iff.mp hx
              have hm2 : m < i + 1 := hb3 (k, ps ++ [i]) (by simp [addTop]) m (List.mem_of_getElem? hm)
              have hlen : ((fill nums tot ((ps ++ [i]).take j)).map ov).length = l.length := by rw [List.length_map, fill_len, hnl']
              refine ⟨_, m, h5.hpn, by rw [hlen]; exact ixN_nat (by omega), _, rfl, ⟨h5.same.at f2, f1, f2, nst2, by rw [upd_ne nst2]; exact h5.hst, ?_, h5.rep.lst h5.hpn fun x hx => (apart' x hx).2.1, apart'⟩, by rw [upd_ne ab.2.1]; exact hb6⟩
              rw [upd_same, fill_take tot nums hm, List.map_set]
            · rintro σ5 H5 ⟨y9, rfl, h5, hb6⟩
              rw [List.length_map, List.take_length] at h5
              have e3 : closeTop (szN zs) (addTop i ((k, ps) :: r)) nums tot = ⟨r, fill nums tot (ps ++ [i]), tot + 1⟩ := if_pos e2
              rw [e3]
              exact ⟨as', some (iv i), some (.str (S [k])), some (.str (S [k])), some (.ref b1), y9, rfl, h5.same, h5.fst, h5.fpn, h5.ne, h5.hst, h5.hpn, h5.rep, h5.apart⟩
          · have e2 : ¬ (ps ++ [i]).length = szN zs k := fun e3 => by
              refine e (decide_eq_true ?_)
              rw [List.length_map, e3]
              show ((szI zs k).toNat : Int) = szI zs k
              omega
            have e3 : closeTop (szN zs) (addTop i ((k, ps) :: r)) nums tot = ⟨(k, ps ++ [i]) :: r, nums, tot⟩ := if_neg e2
            rw [e3]
            exact ⟨(a1, b1) :: as', _, _, _, _, _, rfl, sm4, f1, f2, nst2, by rw [rev_ref]; exact es, ep, .cons ea eb g3 er, apart⟩
    · rintro σ H1 ⟨as, y5, y6, y7, y8, y9, rfl, hsr⟩
      have e1 : l.take (tl (S l)).length = l := List.take_length
      rw [e1] at hsr
      refine ⟨by show 2 ≤ sizeLine; decide, fun p hp => ?_⟩
      exact q _ p st pn as (hsr.new hp) (hsr.same.free hp) upd_same

-- NEEDS m_scan
/-! ### the residue, over plain lists: a stack of (color, number), the top first -/
abbrev Stk := List (Nat × Nat)
def psh (sz : Nat → Nat) (st : Stk) (k : Nat) : Stk := match st with
  | [] => if 1 = sz k then [] else [(k, 1)]
  | (d, n) :: r => if d = k then (if n + 1 = sz k then r else (k, n + 1) :: r) else (if 1 = sz k then (d, n) :: r else (k, 1) :: (d, n) :: r)
theorem psh_cons (sz : Nat → Nat) (d n k : Nat) (r : Stk) : psh sz ((d, n) :: r) k = if d = k then (if n + 1 = sz k then r else (k, n + 1) :: r) else (if 1 = sz k then (d, n) :: r else (k, 1) :: (d, n) :: r) := rfl
theorem psh_nil (sz : Nat → Nat) (k : Nat) : psh sz [] k = if 1 = sz k then [] else [(k, 1)] := rfl
def stk (sz : Nat → Nat) (l : List Nat) : Stk := l.foldl (psh sz) []
def flatS (st : Stk) : List Nat := match st with
  | [] => []
  | (k, n) :: r => flatS r ++ List.replicate n k
/-- neighbors differ, no run is full -/
def Vld (sz : Nat → Nat) : Stk → Prop
  | [] => True
  | [(k, n)] => 1 ≤ n ∧ n < sz k
  | (k, n) :: (d, m) :: r => 1 ≤ n ∧ n < sz k ∧ k ≠ d ∧ Vld sz ((d, m) :: r)
theorem Vld.tail {sz : Nat → Nat} {x : Nat × Nat} {r : Stk} (h : Vld sz (x :: r)) : Vld sz r := by
  cases r with
  | nil => trivial
  | cons y r => exact h.2.2.2
theorem Vld.head {sz : Nat → Nat} {k n : Nat} {r : Stk} (h : Vld sz ((k, n) :: r)) : 1 ≤ n ∧ n < sz k := by
  cases r with
  | nil => exact h
  | cons y r => exact ⟨h.1, h.2.1⟩
theorem Vld.ne {sz : Nat → Nat} {k n d m : Nat} {r : Stk} (h : Vld sz ((k, n) :: (d, m) :: r)) : k ≠ d := h.2.2.1
theorem Vld.cons {sz : Nat → Nat} {k n : Nat} {r : Stk} (h1 : 1 ≤ n) (h2 : n < sz k) (h3 : ∀ d m r', r = (d, m) :: r' → k ≠ d) (h4 : Vld sz r) : Vld sz ((k, n) :: r) := by
  cases r with
  | nil => exact ⟨h1, h2⟩
  | cons y r => exact ⟨h1, h2, h3 y.1 y.2 r rfl, h4⟩
theorem psh_vld {sz : Nat → Nat} {st : Stk} {k : Nat} (hs : 1 ≤ sz k) (h : Vld sz st) : Vld sz (psh sz st k) := by
  unfold psh
  split
  · split
    · trivial
    · exact ⟨Nat.le_refl _, by omega⟩
  · rename_i d n r
    split
    · rename_i hd
      subst hd
      split
      · exact h.tail
      · have hh := h.head
        refine Vld.cons (by omega) (by omega) (fun d' m r' e => ?_) h.tail
        subst e
        exact h.ne
    · rename_i hd
      split
      · exact h
      · exact Vld.cons (Nat.le_refl _) (by omega) (fun d' m r' e => by cases e; exact fun e2 => hd e2.symm) h
theorem stk_snoc (sz : Nat → Nat) (l : List Nat) (k : Nat) : stk sz (l ++ [k]) = psh sz (stk sz l) k := by
  unfold stk
  rw [List.foldl_append]
  rfl
theorem foldl_vld {sz : Nat → Nat} : ∀ (l : List Nat) (st : Stk), (∀ k ∈ l, 1 ≤ sz k) → Vld sz st → Vld sz (l.foldl (psh sz) st)
  | [], _, _, h => h
  | k :: l, st, hs, h => foldl_vld l (psh sz st k) (fun y hy => hs y (by simp [hy])) (psh_vld (hs k (by simp)) h)
theorem stk_vld {sz : Nat → Nat} {l : List Nat} (hs : ∀ k ∈ l, 1 ≤ sz k) : Vld sz (stk sz l) := foldl_vld l [] hs trivial
/-- n beads of the color on top -/
theorem psh_same {sz : Nat → Nat} {k : Nat} {r : Stk} : ∀ (j n : Nat), n + j < sz k → (List.replicate j k).foldl (psh sz) ((k, n) :: r) = (k, n + j) :: r
  | 0, n, _ => rfl
  | j + 1, n, h => by
    show (List.replicate j k).foldl (psh sz) (psh sz ((k, n) :: r) k) = _
    have e : psh sz ((k, n) :: r) k = (k, n + 1) :: r := by
      rw [psh_cons, if_pos rfl, if_neg (by omega)]
    rw [e, psh_same j (n + 1) (by omega)]
    congr 2
    omega
/-- the stack lets beads of another color begin a run -/
def NoTop (k : Nat) (st : Stk) : Prop := ∀ d m r, st = (d, m) :: r → d ≠ k
theorem psh_new {sz : Nat → Nat} {k : Nat} {st : Stk} (h : NoTop k st) (h1 : 1 ≠ sz k) : psh sz st k = (k, 1) :: st := by
  unfold psh
  split
  · rw [if_neg h1]
  · rw [if_neg (h _ _ _ rfl), if_neg h1]
theorem psh_run {sz : Nat → Nat} {k : Nat} {st : Stk} (h : NoTop k st) {n : Nat} (h0 : 1 ≤ n) (h1 : n < sz k) : (List.replicate n k).foldl (psh sz) st = (k, n) :: st := by
  cases n with
  | zero => omega
  | succ n =>
    show (List.replicate n k).foldl (psh sz) (psh sz st k) = _
    rw [psh_new h (by omega), psh_same n 1 (by omega)]
    congr 2
    omega
theorem psh_full {sz : Nat → Nat} {k : Nat} {st : Stk} (h : NoTop k st) (h1 : 1 ≤ sz k) : (List.replicate (sz k) k).foldl (psh sz) st = st := by
  by_cases e : sz k = 1
  · rw [e]
    show psh sz st k = st
    unfold psh
    split
    · rw [if_pos e.symm]
    · rw [if_neg (h _ _ _ rfl), if_pos e.symm]
  · obtain ⟨m, hm⟩ : ∃ m, sz k = m + 1 := ⟨sz k - 1, by omega⟩
    rw [hm, List.replicate_succ', List.foldl_append, psh_run h (by omega) (by omega)]
    show psh sz ((k, m) :: st) k = st
    rw [psh_cons, if_pos rfl, if_pos hm.symm]
/-- a pack leaves no trace -/
theorem psh_pack {sz : Nat → Nat} {k : Nat} {st : Stk} (h : Vld sz st) (h1 : 1 ≤ sz k) : (List.replicate (sz k) k).foldl (psh sz) st = st := by
  cases st with
  | nil => exact psh_full (fun d m r e => by cases e) h1
  | cons x r =>
    obtain ⟨d, n⟩ := x
    by_cases hd : d = k
    · subst hd
      have hh := h.head
      have hr : NoTop d r := fun d' m r' e => by subst e; exact h.ne.symm
      -- fill the run up, then begin anew
      have e1 : List.replicate (sz d) d = List.replicate (sz d - 1 - n) d ++ (d :: List.replicate n d) := by
        rw [← List.replicate_succ, List.replicate_append_replicate]
        congr 1
        omega
      rw [e1, List.foldl_append, psh_same (sz d - 1 - n) n (by omega)]
      show (List.replicate n d).foldl (psh sz) (psh sz ((d, n + (sz d - 1 - n)) :: r) d) = _
      have e2 : psh sz ((d, n + (sz d - 1 - n)) :: r) d = r := by
        rw [psh_cons, if_pos rfl, if_pos (by omega)]
      rw [e2, psh_run hr hh.1 hh.2]
    · exact psh_full (fun d' m r' e => by cases e; exact hd) h1
theorem stk_pack {sz : Nat → Nat} {u v : List Nat} {k : Nat} (hs : ∀ y ∈ u, 1 ≤ sz y) (h1 : 1 ≤ sz k) : stk sz (u ++ (List.replicate (sz k) k ++ v)) = stk sz (u ++ v) := by
  have e := psh_pack (k := k) (stk_vld hs) h1
  unfold stk at e ⊢
  rw [List.foldl_append, List.foldl_append, List.foldl_append, e]
/-- what remains, read again -/
theorem stk_flat {sz : Nat → Nat} : ∀ {st : Stk}, Vld sz st → stk sz (flatS st) = st
  | [], _ => rfl
  | (k, n) :: r, h => by
    have ih := stk_flat h.tail
    have hh := h.head
    unfold flatS
    unfold stk at ih ⊢
    rw [List.foldl_append, ih]
    refine psh_run (fun d m r' e => ?_) hh.1 hh.2
    subst e
    exact h.ne.symm
theorem flatS_mem {st : Stk} {y : Nat} (h : y ∈ flatS st) : ∃ n, (y, n) ∈ st := by
  induction st with
  | nil => simp [flatS] at h
  | cons x r ih =>
    obtain ⟨k, n⟩ := x
    unfold flatS at h
    rcases List.mem_append.mp h with h | h
    · obtain ⟨m, hm⟩ := ih h
      exact ⟨m, by simp [hm]⟩
    · rw [List.eq_of_mem_replicate h]
      exact ⟨n, by simp⟩
theorem psh_mem {sz : Nat → Nat} {st : Stk} {k y n : Nat} (h : (y, n) ∈ psh sz st k) : y = k ∨ ∃ m, (y, m) ∈ st := by
  unfold psh at h
  split at h
  · split at h
    · simp at h
    · simp at h; exact .inl h.1
  · split at h
    · split at h
      · exact .inr ⟨n, by simp [h]⟩
      · rcases List.mem_cons.mp h with e | h
        · cases e; exact .inl rfl
        · exact .inr ⟨n, by simp [h]⟩
    · split at h
      · exact .inr ⟨n, h⟩
      · rcases List.mem_cons.mp h with e | h
        · cases e; exact .inl rfl
        · exact .inr ⟨n, h⟩
theorem foldl_mem {sz : Nat → Nat} : ∀ (l : List Nat) (st : Stk) {y n : Nat}, (y, n) ∈ l.foldl (psh sz) st → y ∈ l ∨ ∃ m, (y, m) ∈ st
  | [], _, _, n, h => .inr ⟨n, h⟩
  | k :: l, st, y, n, h => by
    rcases foldl_mem l (psh sz st k) h with h | ⟨m, h⟩
    · exact .inl (by simp [h])
    · rcases psh_mem h with e | h
      · exact .inl (by simp [e])
      · exact .inr h
theorem stk_mem {sz : Nat → Nat} {l : List Nat} {y : Nat} (h : y ∈ flatS (stk sz l)) : y ∈ l := by
  obtain ⟨n, hn⟩ := flatS_mem h
  rcases foldl_mem l [] hn with h | ⟨m, h⟩
  · exact h
  · simp at h
theorem flatS_len_psh {sz : Nat → Nat} (st : Stk) (k : Nat) : (flatS (psh sz st k)).length ≤ (flatS st).length + 1 := by
  unfold psh
  split
  · split <;> simp [flatS]
  · split
    · split
      · simp [flatS]; omega
      · simp [flatS]; omega
    · split
      · simp [flatS]
      · simp [flatS]; omega
theorem foldl_flat_len {sz : Nat → Nat} : ∀ (l : List Nat) (st : Stk), (flatS (l.foldl (psh sz) st)).length ≤ (flatS st).length + l.length
  | [], _ => by simp
  | k :: l, st => by
    have := foldl_flat_len (sz := sz) l (psh sz st k)
    have := flatS_len_psh (sz := sz) st k
    simp only [List.foldl_cons, List.length_cons]
    omega
theorem stk_len {sz : Nat → Nat} (l : List Nat) : (flatS (stk sz l)).length ≤ l.length := by
  have h := foldl_flat_len (sz := sz) l []
  have e : (flatS ([] : Stk)).length = 0 := rfl
  rw [e, Nat.zero_add] at h
  exact h
/-- the residue -/
def res (sz : Nat → Nat) (l : List Nat) : List Nat := flatS (stk sz l)
theorem res_snoc {sz : Nat → Nat} {l : List Nat} {k : Nat} (hs : ∀ y ∈ l, 1 ≤ sz y) : res sz (res sz l ++ [k]) = res sz (l ++ [k]) := by
  unfold res
  rw [stk_snoc, stk_snoc, stk_flat (stk_vld hs)]
/-- a pack starts at i -/
def PackAt (sz : Nat → Nat) (l : List Nat) (i : Nat) : Prop := ∃ k, l[i]? = some k ∧ (l.drop i).take (sz k) = List.replicate (sz k) k
theorem packAt_split {sz : Nat → Nat} {l : List Nat} {i : Nat} (h : PackAt sz l i) : ∃ k, l[i]? = some k ∧ l = l.take i ++ (List.replicate (sz k) k ++ l.drop (i + sz k)) := by
  obtain ⟨k, hk, hp⟩ := h
  refine ⟨k, hk, ?_⟩
  rw [← hp, ← List.drop_drop, List.take_append_drop, List.take_append_drop]
theorem stk_remove {sz : Nat → Nat} {l : List Nat} {i k : Nat} (hs : ∀ y ∈ l, 1 ≤ sz y) (hk : l[i]? = some k) (h : PackAt sz l i) : stk sz (l.take i ++ l.drop (i + sz k)) = stk sz l := by
  obtain ⟨k', hk', e⟩ := packAt_split h
  rw [hk] at hk'
  cases hk'
  have h1 : 1 ≤ sz k := hs k (List.mem_of_getElem? hk)
  have e2 := stk_pack (sz := sz) (u := l.take i) (v := l.drop (i + sz k)) (k := k) (fun y hy => hs y (List.mem_of_mem_take hy)) h1
  rw [← e2, ← e]
/-- a row without packs is its own residue -/
theorem flat_irred {sz : Nat → Nat} : ∀ {l : List Nat}, (∀ y ∈ l, 1 ≤ sz y) → (∀ i, i < l.length → ¬ PackAt sz l i) → flatS (stk sz l) = l := by
  intro l hs hp
  -- from the left, bead by bead
  have key : ∀ n, n ≤ l.length → flatS (stk sz (l.take n)) = l.take n := by
    intro n
    induction n with
    | zero => intro _; rfl
    | succ n ih =>
      intro hn
      have hn' : n < l.length := by omega
      have ih' := ih (by omega)
      obtain ⟨x, hx⟩ : ∃ x, l[n]? = some x := ⟨_, List.getElem?_eq_getElem hn'⟩
      have e1 : l.take (n + 1) = l.take n ++ [x] := by rw [List.take_add_one, hx]; rfl
      rw [e1, stk_snoc]
      have hv : Vld sz (stk sz (l.take n)) := stk_vld fun y hy => hs y (List.mem_of_mem_take hy)
      generalize hst : stk sz (l.take n) = st at ih' hv
      have hk1 : 1 ≤ sz x := hs x (List.mem_of_getElem? hx)
      have full : ∀ (m : Nat), m + 1 = sz x → (∃ u, l.take n = u ++ List.replicate m x) → False := by
        rintro m hm ⟨u, hu⟩
        have hul : u.length + m = n := by
          have := congrArg List.length hu
          rw [List.length_take, List.length_append, List.length_replicate] at this
          omega
        have e2 : l = u ++ (List.replicate (sz x) x ++ l.drop (n + 1)) := by
          rw [← hm, List.replicate_succ', List.append_assoc, ← List.append_assoc u, ← hu, ← List.append_assoc, ← e1, List.take_append_drop]
        have hi : u.length < l.length := by omega
        refine hp u.length hi ⟨x, ?_, ?_⟩
        · rw [e2, List.getElem?_append_right (Nat.le_refl _), Nat.sub_self, ← hm]; rfl
        · have e3 : l.drop u.length = List.replicate (sz x) x ++ l.drop (n + 1) := by
            conv => lhs; rw [e2]
            rw [List.drop_append_of_le_length (Nat.le_refl _), List.drop_length, List.nil_append]
          rw [e3, List.take_append_of_le_length (by rw [List.length_replicate]; exact Nat.le_refl _), List.take_of_length_le (by rw [List.length_replicate]; exact Nat.le_refl _)]
      unfold psh
      split
      · split
        · rename_i h
          exact (full 0 h ⟨l.take n, by simp⟩).elim
        · rw [← ih']; rfl
      · rename_i d m r
        split
        · rename_i hd
          subst hd
          split
          · rename_i h
            exact (full m h ⟨flatS r, ih'.symm⟩).elim
          · rw [← ih']
            show flatS r ++ List.replicate (m + 1) d = flatS r ++ List.replicate m d ++ [d]
            rw [List.replicate_succ', List.append_assoc]
        · split
          · rename_i h
            exact (full 0 h ⟨l.take n, by simp⟩).elim
          · rw [← ih']; rfl
  have := key l.length (Nat.le_refl _)
  rwa [List.take_length] at this
/-! the scan's runs are this stack -/
def cntR (runs : Runs) : Stk := runs.map fun x => (x.1, x.2.length)
theorem flatR_eq (runs : Runs) : (runs.reverse.map fun x => List.replicate x.2.length x.1).flatten = flatS (cntR runs) := by
  induction runs with
  | nil => rfl
  | cons x r ih =>
    rw [List.reverse_cons, List.map_append, List.flatten_append, ih]
    simp [cntR, flatS]
theorem step_cnt (sz : Nat → Nat) (s : Sc) (p k : Nat) : cntR (stepS sz s p k).runs = psh sz (cntR s.runs) k := by
  obtain ⟨runs, nums, tot⟩ := s
  show cntR (closeTop sz (addTop p (pre runs k)) nums tot).runs = psh sz (cntR runs) k
  cases runs with
  | nil =>
    show cntR (if ([] ++ [p]).length = sz k then Sc.mk [] (fill nums tot ([] ++ [p])) (tot + 1) else Sc.mk [(k, [] ++ [p])] nums tot).runs = if 1 = sz k then [] else [(k, 1)]
    simp only [List.nil_append, List.length_singleton]
    split <;> rfl
  | cons x r =>
    obtain ⟨d, ps⟩ := x
    show cntR (closeTop sz (addTop p (if d = k then (d, ps) :: r else (k, []) :: (d, ps) :: r)) nums tot).runs = psh sz ((d, ps.length) :: cntR r) k
    rw [psh_cons]
    by_cases hd : d = k
    · subst hd
      rw [if_pos rfl, if_pos rfl]
      show cntR (if (ps ++ [p]).length = sz d then Sc.mk r (fill nums tot (ps ++ [p])) (tot + 1) else Sc.mk ((d, ps ++ [p]) :: r) nums tot).runs = _
      rw [List.length_append, List.length_singleton]
      split
      · rfl
      · show (d, (ps ++ [p]).length) :: cntR r = (d, ps.length + 1) :: cntR r
        rw [List.length_append, List.length_singleton]
    · rw [if_neg hd, if_neg hd]
      show cntR (if ([] ++ [p]).length = sz k then Sc.mk ((d, ps) :: r) (fill nums tot ([] ++ [p])) (tot + 1) else Sc.mk ((k, [] ++ [p]) :: (d, ps) :: r) nums tot).runs = _
      simp only [List.nil_append, List.length_singleton]
      split <;> rfl
theorem scan_cnt {sz : Nat → Nat} {n : Nat} {l : List Nat} : ∀ i, i ≤ l.length → cntR (scan sz n (l.take i)).runs = stk sz (l.take i)
  | 0, _ => rfl
  | i + 1, hi => by
    have ih := scan_cnt (sz := sz) (n := n) (l := l) i (by omega)
    have hk := List.getElem?_eq_getElem (by omega : i < l.length)
    have e : l.take (i + 1) = l.take i ++ [l[i]] := by rw [List.take_add_one, hk]; rfl
    rw [scan_take hk, step_cnt, ih, e, stk_snoc]
theorem scan_stk (sz : Nat → Nat) (n : Nat) (l : List Nat) : cntR (scan sz n l).runs = stk sz l := by
  have := scan_cnt (sz := sz) (n := n) (l := l) l.length (Nat.le_refl _)
  rwa [List.take_length] at this

-- NEEDS m_res
/-! ### rows up to packs: a group -/
section grp
variable {sz : Nat → Nat}
/-- a row acts as its residue does -/
theorem act_res (hs : ∀ k, 1 ≤ sz k) : ∀ (a : List Nat) {st : Stk}, Vld sz st → a.foldl (psh sz) st = (res sz a).foldl (psh sz) st := by
  intro a
  -- from the right
  have key : ∀ n, n ≤ a.length → ∀ {st : Stk}, Vld sz st → (a.take n).foldl (psh sz) st = (res sz (a.take n)).foldl (psh sz) st := by
    intro n
    induction n with
    | zero => intro _ st _; rfl
    | succ n ih =>
      intro hn st hv
      obtain ⟨x, hx⟩ : ∃ x, a[n]? = some x := ⟨_, List.getElem?_eq_getElem (by omega)⟩
      have e1 : a.take (n + 1) = a.take n ++ [x] := by rw [List.take_add_one, hx]; rfl
      have ih' := ih (by omega) hv
      rw [e1, List.foldl_append, ih']
      show psh sz ((res sz (a.take n)).foldl (psh sz) st) x = _
      unfold res
      rw [stk_snoc]
      generalize stk sz (a.take n) = t
      cases t with
      | nil =>
        rw [psh_nil]
        split
        · rename_i h
          -- a pack of one bead
          have e := psh_pack (sz := sz) (k := x) (st := st) hv (hs x)
          rw [← h] at e
          exact e
        · rfl
      | cons y r =>
        obtain ⟨d, m⟩ := y
        rw [psh_cons]
        by_cases hd : d = x
        · subst hd
          rw [if_pos rfl]
          split
          · rename_i h
            show psh sz ((flatS r ++ List.replicate m d).foldl (psh sz) st) d = (flatS r).foldl (psh sz) st
            have hv2 : Vld sz ((flatS r).foldl (psh sz) st) := foldl_vld _ _ (fun k _ => hs k) hv
            have e := psh_pack (sz := sz) (k := d) hv2 (hs d)
            rw [← h, List.replicate_succ', List.foldl_append] at e
            rw [List.foldl_append]
            exact e
          · show psh sz ((flatS r ++ List.replicate m d).foldl (psh sz) st) d = (flatS r ++ List.replicate (m + 1) d).foldl (psh sz) st
            rw [List.replicate_succ', ← List.append_assoc, List.foldl_append (l' := [d])]
            rfl
        · rw [if_neg hd]
          split
          · rename_i h
            have hv2 : Vld sz ((flatS ((d, m) :: r)).foldl (psh sz) st) := foldl_vld _ _ (fun k _ => hs k) hv
            have e := psh_pack (sz := sz) (k := x) hv2 (hs x)
            rw [← h] at e
            exact e
          · show psh sz ((flatS ((d, m) :: r)).foldl (psh sz) st) x = (flatS ((d, m) :: r) ++ List.replicate 1 x).foldl (psh sz) st
            rw [List.foldl_append]
            rfl
  intro st hv
  have := key a.length (Nat.le_refl _) hv
  rwa [List.take_length] at this
theorem vld0 : Vld sz ([] : Stk) := trivial
theorem stk_app (u v : List Nat) : stk sz (u ++ v) = v.foldl (psh sz) (stk sz u) := by
  unfold stk
  rw [List.foldl_append]
theorem vld_of (hs : ∀ k, 1 ≤ sz k) (l : List Nat) : Vld sz (stk sz l) := stk_vld fun k _ => hs k
theorem stk_cong (hs : ∀ k, 1 ≤ sz k) {a b : List Nat} (h : stk sz a = stk sz b) (u v : List Nat) : stk sz (u ++ (a ++ v)) = stk sz (u ++ (b ++ v)) := by
  have e : res sz a = res sz b := by unfold res; rw [h]
  rw [stk_app, stk_app, List.foldl_append, List.foldl_append, act_res hs a (vld_of hs u), act_res hs b (vld_of hs u), e]
theorem stk_congR (hs : ∀ k, 1 ≤ sz k) {a b : List Nat} (h : stk sz a = stk sz b) (u : List Nat) : stk sz (u ++ a) = stk sz (u ++ b) := by
  have := stk_cong hs h u []
  rwa [List.append_nil, List.append_nil] at this
theorem stk_congL (hs : ∀ k, 1 ≤ sz k) {a b : List Nat} (h : stk sz a = stk sz b) (v : List Nat) : stk sz (a ++ v) = stk sz (b ++ v) := stk_cong hs h [] v
theorem stk_res (hs : ∀ k, 1 ≤ sz k) (l : List Nat) : stk sz (res sz l) = stk sz l := stk_flat (vld_of hs l)
theorem res_res (hs : ∀ k, 1 ≤ sz k) (l : List Nat) : res sz (res sz l) = res sz l := by
  show flatS (stk sz (res sz l)) = _
  rw [stk_res hs]
  rfl
theorem res_eq_of {a b : List Nat} (h : stk sz a = stk sz b) : res sz a = res sz b := by unfold res; rw [h]
theorem stk_of_res (hs : ∀ k, 1 ≤ sz k) {a b : List Nat} (h : res sz a = res sz b) : stk sz a = stk sz b := by rw [← stk_res hs a, ← stk_res hs b, h]
/-! the inverse -/
def invS (sz : Nat → Nat) (st : Stk) : List Nat := (st.map fun x => List.replicate (sz x.1 - x.2) x.1).flatten
def inv (sz : Nat → Nat) (l : List Nat) : List Nat := invS sz (stk sz l)
theorem psh_fillup {k n : Nat} {r : Stk} (h0 : 1 ≤ n) (h1 : n < sz k) : (List.replicate (sz k - n) k).foldl (psh sz) ((k, n) :: r) = r := by
  obtain ⟨m, hm⟩ : ∃ m, sz k - n = m + 1 := ⟨sz k - n - 1, by omega⟩
  rw [hm, List.replicate_succ', List.foldl_append, psh_same m n (by omega)]
  show psh sz ((k, n + m) :: r) k = r
  rw [psh_cons, if_pos rfl, if_pos (by omega)]
theorem act_inv : ∀ {st : Stk}, Vld sz st → (invS sz st).foldl (psh sz) st = []
  | [], _ => rfl
  | (k, n) :: r, h => by
    have hh := h.head
    show (List.replicate (sz k - n) k ++ invS sz r).foldl (psh sz) ((k, n) :: r) = []
    rw [List.foldl_append, psh_fillup hh.1 hh.2]
    exact act_inv h.tail
theorem inv_right (hs : ∀ k, 1 ≤ sz k) (l : List Nat) : stk sz (l ++ inv sz l) = [] := by
  rw [stk_app]
  exact act_inv (vld_of hs l)
theorem inv_left (hs : ∀ k, 1 ≤ sz k) (l : List Nat) : stk sz (inv sz l ++ l) = [] := by
  have h1 := inv_right hs l
  have h2 := inv_right hs (inv sz l)
  -- l is as good as inv (inv l)
  have h3 : stk sz l = stk sz (inv sz (inv sz l)) := by
    have a1 : stk sz (l ++ (inv sz l ++ inv sz (inv sz l))) = stk sz (l ++ []) := stk_congR hs h2 l
    rw [List.append_nil] at a1
    have a2 : stk sz ((l ++ inv sz l) ++ inv sz (inv sz l)) = stk sz ([] ++ inv sz (inv sz l)) := stk_congL hs h1 _
    rw [List.append_assoc, List.nil_append] at a2
    rw [← a1, a2]
  rw [stk_congR hs h3 (inv sz l), h2]
theorem inv_uniq (hs : ∀ k, 1 ≤ sz k) {l b : List Nat} (h : stk sz (l ++ b) = []) : stk sz b = stk sz (inv sz l) := by
  have a1 : stk sz ((inv sz l ++ l) ++ b) = stk sz ([] ++ b) := stk_congL hs (inv_left hs l) b
  have a2 : stk sz (inv sz l ++ (l ++ b)) = stk sz (inv sz l ++ []) := stk_congR hs h _
  rw [List.append_assoc, List.nil_append] at a1
  rw [List.append_nil] at a2
  rw [← a1, a2]
/-! neighbors differ, read from either end -/
def Adj : Stk → Prop
  | [] => True
  | [_] => True
  | x :: y :: r => x.1 ≠ y.1 ∧ Adj (y :: r)
theorem vld_iff {st : Stk} : Vld sz st ↔ (∀ x ∈ st, 1 ≤ x.2 ∧ x.2 < sz x.1) ∧ Adj st := by
  induction st with
  | nil => simp [Vld, Adj]
  | cons x r ih =>
    cases r with
    | nil => simp [Vld, Adj]
    | cons y r =>
      constructor
      · intro h
        obtain ⟨h1, h2⟩ := ih.mp h.tail
        exact ⟨fun z hz => by
          rcases List.mem_cons.mp hz with e | hz
          · subst e; exact h.head
          · exact h1 z hz, h.ne, h2⟩
      · rintro ⟨h1, h2, h3⟩
        have hx := h1 x (by simp)
        exact ⟨hx.1, hx.2, h2, ih.mpr ⟨fun z hz => h1 z (by simp [List.mem_cons.mp hz]), h3⟩⟩
theorem adj_snoc : ∀ (a : Stk) (x y : Nat × Nat), Adj (a ++ [x]) → x.1 ≠ y.1 → Adj (a ++ [x] ++ [y])
  | [], x, y, _, h => ⟨h, trivial⟩
  | [z], x, y, h1, h => ⟨h1.1, h, trivial⟩
  | z :: w :: r, x, y, h1, h => ⟨h1.1, adj_snoc (w :: r) x y h1.2 h⟩
theorem adj_rev : ∀ {a : Stk}, Adj a → Adj a.reverse
  | [], _ => trivial
  | [x], _ => trivial
  | x :: y :: r, h => by
    have ih := adj_rev h.2
    rw [List.reverse_cons] at ih ⊢
    rw [List.reverse_cons]
    exact adj_snoc r.reverse y x ih h.1.symm
theorem flatS_flat (st : Stk) : flatS st = (st.reverse.map fun x => List.replicate x.2 x.1).flatten := by
  induction st with
  | nil => rfl
  | cons x r ih =>
    obtain ⟨k, n⟩ := x
    rw [List.reverse_cons, List.map_append, List.flatten_append, ← ih]
    simp [flatS]
theorem invS_flat (st : Stk) : invS sz st = flatS ((st.map fun x => (x.1, sz x.1 - x.2)).reverse) := by
  rw [flatS_flat, List.reverse_reverse, List.map_map]
  rfl
theorem adj_map {f : Nat × Nat → Nat × Nat} (hf : ∀ x, (f x).1 = x.1) : ∀ {a : Stk}, Adj a → Adj (a.map f)
  | [], _ => trivial
  | [_], _ => trivial
  | x :: y :: r, h => ⟨by rw [hf, hf]; exact h.1, adj_map hf h.2⟩
theorem inv_vld {st : Stk} (h : Vld sz st) : Vld sz ((st.map fun x => (x.1, sz x.1 - x.2)).reverse) := by
  obtain ⟨h1, h2⟩ := vld_iff.mp h
  refine vld_iff.mpr ⟨fun x hx => ?_, adj_rev (adj_map (f := fun x => (x.1, sz x.1 - x.2)) (fun _ => rfl) h2)⟩
  rw [List.mem_reverse] at hx
  obtain ⟨y, hy, rfl⟩ := List.mem_map.mp hx
  have := h1 y hy
  exact ⟨by show 1 ≤ sz y.1 - y.2; omega, by show sz y.1 - y.2 < sz y.1; omega⟩
theorem stk_inv (hs : ∀ k, 1 ≤ sz k) (l : List Nat) : stk sz (inv sz l) = ((stk sz l).map fun x => (x.1, sz x.1 - x.2)).reverse := by
  unfold inv
  rw [invS_flat]
  exact stk_flat (inv_vld (vld_of hs l))
theorem res_inv (hs : ∀ k, 1 ≤ sz k) (l : List Nat) : res sz (inv sz l) = inv sz l := by
  unfold res
  rw [stk_inv hs]
  unfold inv
  rw [invS_flat]
theorem inv_of_stk {a b : List Nat} (h : stk sz a = stk sz b) : inv sz a = inv sz b := by unfold inv; rw [h]
theorem inv_inv (hs : ∀ k, 1 ≤ sz k) (l : List Nat) : inv sz (inv sz l) = res sz l := by
  have h : stk sz l = stk sz (inv sz (inv sz l)) := inv_uniq hs (inv_left hs l)
  rw [← res_inv hs (inv sz l)]
  exact (res_eq_of h).symm
theorem inv_app (hs : ∀ k, 1 ≤ sz k) (a b : List Nat) : res sz (inv sz b ++ inv sz a) = inv sz (a ++ b) := by
  have h : stk sz ((a ++ b) ++ (inv sz b ++ inv sz a)) = [] := by
    have e : (a ++ b) ++ (inv sz b ++ inv sz a) = a ++ ((b ++ inv sz b) ++ inv sz a) := by simp
    rw [e, stk_cong hs (b := []) (inv_right hs b) a (inv sz a), List.nil_append, inv_right hs a]
  rw [← res_inv hs (a ++ b)]
  exact res_eq_of (inv_uniq hs h)
theorem inv_nil_iff {l : List Nat} (hs : ∀ k, 1 ≤ sz k) : inv sz l = [] ↔ res sz l = [] := by
  constructor
  · intro h
    have := inv_inv hs l
    rw [h] at this
    rw [← this]
    rfl
  · intro h
    have h2 : stk sz l = stk sz [] := stk_of_res hs h
    rw [inv_of_stk h2]
    rfl
/-! induction by packs -/
theorem pack_ind (hs : ∀ k, 1 ≤ sz k) {P : List Nat → Prop} (h0 : ∀ l, res sz l = l → P l) (h1 : ∀ u k v, P (u ++ v) → P (u ++ (List.replicate (sz k) k ++ v))) : ∀ l, P l := by
  have : ∀ n l, l.length ≤ n → P l := by
    intro n
    induction n with
    | zero =>
      intro l hl
      have : l = [] := List.length_eq_zero_iff.mp (by omega)
      subst this
      exact h0 [] rfl
    | succ n ih =>
      intro l hl
      by_cases hp : ∃ i, i < l.length ∧ PackAt sz l i
      · obtain ⟨i, hi, hp⟩ := hp
        obtain ⟨k, hk, e⟩ := packAt_split hp
        rw [e]
        refine h1 _ k _ (ih _ ?_)
        have el := congrArg List.length e
        rw [List.length_append, List.length_append, List.length_replicate] at el
        have := hs k
        rw [List.length_append]
        omega
      · exact h0 l (flat_irred (fun k _ => hs k) fun i hi hp2 => hp ⟨i, hi, hp2⟩)
  exact fun l => this l.length l (Nat.le_refl _)
/-- the row read from the other end -/
theorem flatS_rev (st : Stk) : (flatS st).reverse = flatS st.reverse := by
  rw [flatS_flat, flatS_flat, List.reverse_reverse, List.reverse_flatten, List.map_map, ← List.map_reverse, List.reverse_reverse]
  congr 1
  refine List.map_congr_left fun x _ => ?_
  show (List.replicate x.2 x.1).reverse = _
  rw [List.reverse_replicate]
theorem vld_rev {st : Stk} (h : Vld sz st) : Vld sz st.reverse := by
  obtain ⟨h1, h2⟩ := vld_iff.mp h
  exact vld_iff.mpr ⟨fun x hx => h1 x (List.mem_reverse.mp hx), adj_rev h2⟩
theorem stk_rev (hs : ∀ k, 1 ≤ sz k) : ∀ l : List Nat, stk sz l.reverse = (stk sz l).reverse := by
  refine pack_ind hs (fun l h => ?_) (fun u k v ih => ?_)
  · have hv := vld_of hs l
    have e : flatS (stk sz l) = l := h
    rw [← e, flatS_rev, stk_flat hv, stk_flat (vld_rev hv)]
  · rw [List.reverse_append, List.reverse_append, List.reverse_replicate, List.append_assoc]
    rw [stk_pack (fun y _ => hs y) (hs k), stk_pack (fun y _ => hs y) (hs k), ← List.reverse_append, ih]
theorem res_rev (hs : ∀ k, 1 ≤ sz k) (l : List Nat) : res sz l.reverse = (res sz l).reverse := by
  unfold res
  rw [stk_rev hs, flatS_rev]
theorem inv_rev (hs : ∀ k, 1 ≤ sz k) (l : List Nat) : inv sz l.reverse = (inv sz l).reverse := by
  unfold inv
  rw [stk_rev hs, invS_flat, invS_flat, flatS_rev, List.map_reverse, List.reverse_reverse]
theorem inv_mem {l : List Nat} {y : Nat} (h : y ∈ inv sz l) : y ∈ l := by
  unfold inv invS at h
  rw [List.mem_flatten] at h
  obtain ⟨z, hz, hy⟩ := h
  obtain ⟨x, hx, rfl⟩ := List.mem_map.mp hz
  rw [List.eq_of_mem_replicate hy]
  rcases foldl_mem l [] (n := x.2) (y := x.1) hx with h | ⟨m, h⟩
  · exact h
  · simp at h
end grp

-- NEEDS m_res split_runs checks
abbrev s_reduce_row : Stmt := topS 16
theorem sc_reduce_row : FnScope ["sizes", "row", "runs", "pack_numbers", "color", "positions"] ["sizes", "row"] (defScope s_reduce_row) := ⟨rfl, rfl, rfl, by decide +kernel, rfl, by decide +kernel, by decide +kernel⟩

abbrev txtR (x : Nat × List Nat) : List Nat := List.replicate x.2.length x.1
theorem RunsRep.get {H : Hp} {r : Runs} {as : List (Addr × Addr)} (h : RunsRep H r as) : ∀ {j : Nat} {x : V}, ((as.map fun x => V.ref x.1).reverse)[j]? = some x →
    ∃ k ps t b, x = .ref t ∧ H t = some (.tup [.str (S [k]), .ref b]) ∧ H b = some (.lst (ps.map iv)) ∧ r.reverse[j]? = some (k, ps) := by
  induction h with
  | nil => intro j x hx; simp at hx
  | @cons k ps r a b as h1 h2 h3 h4 ih =>
    intro j x hx
    rw [rev_ref] at hx
    have hl : ((as.map fun x => V.ref x.1).reverse).length = r.length := by rw [List.length_reverse, List.length_map, h4.len]
    rw [List.reverse_cons]
    by_cases hj : j < r.length
    · rw [List.getElem?_append_left (by omega)] at hx
      obtain ⟨k', ps', t, b', e1, e2, e3, e4⟩ := ih hx
      exact ⟨k', ps', t, b', e1, e2, e3, by rw [List.getElem?_append_left (by rw [List.length_reverse]; exact hj)]; exact e4⟩
    · rw [List.getElem?_append_right (by omega), hl] at hx
      have ej : j - r.length = 0 := by
        have := (List.getElem?_eq_some_iff.mp hx).1
        simp at this
        omega
      rw [ej] at hx
      cases hx
      refine ⟨k, ps, a, b, rfl, h1, h2, ?_⟩
      rw [List.getElem?_append_right (by rw [List.length_reverse]; omega), List.length_reverse, ej]; rfl
theorem sum_short {n : Nat} : ∀ (ys : List (List Nat)), (∀ y ∈ ys, y.length ≤ n) → (ys.map List.length).sum ≤ ys.length * n
  | [], _ => by simp
  | y :: r, h => by
    have ih := sum_short r fun z hz => h z (by simp [hz])
    have := h y (by simp)
    rw [List.map_cons, List.sum_cons, List.length_cons, Nat.succ_mul]
    omega
theorem OkR.szpos {zs : List Int} {l : List Nat} (hZ : OkZ zs) (h : OkR zs l) : ∀ y ∈ l, 1 ≤ szN zs y := fun y hy => by
  have := szI_ok hZ (h y hy)
  show 1 ≤ (szI zs y).toNat
  omega
theorem OkR.res {zs : List Int} {l : List Nat} (h : OkR zs l) : OkR zs (res (szN zs) l) := fun y hy => h y (stk_mem hy)
theorem szN_pos {zs : List Int} (hZ : OkZ zs) (k : Nat) : 1 ≤ szN zs k := by
  show 1 ≤ (szI zs k).toNat
  unfold szI
  rw [List.getD_eq_getElem?_getD]
  by_cases h : k - 97 < zs.length
  · rw [List.getElem?_eq_getElem h]
    have := hZ.all _ (List.getElem_mem h)
    show 1 ≤ (zs[k - 97]).toNat
    omega
  · rw [List.getElem?_eq_none (by omega)]
    decide
def sp_reduce_row (K : PySem.W.Frag) : Sp := fun vs H Q _ => ∃ (a : Addr) (zs : List Int) (l : List Nat), vs = [.ref a, .str (S l)] ∧ SqT K H a (zs.map V.int) ∧ OkZ zs ∧ OkR zs l ∧ l.length ≤ 1000 ∧ ∀ H', Same H H' → Q (.str (S (res (szN zs) l))) H'
theorem ok_reduce_row {f : Addr} {fd : FuncData} (F : Fun K "reduce_row" "reduce_row" s_reduce_row f fd) (B : Bi mg) (C_split_runs : Cal P w K mg base CX0 2 "split_runs" ["sizes", "row"] (sp_split_runs K)) : FnOk P w K mg base CX0 3 f fd ["sizes", "row"] (sp_reduce_row K) := by
  refine F.ok sc_reduce_row (fun vs H Q E h => ?_) (fun cdv A outer s H vs Q E hr h => ?_)
  · obtain ⟨v, lo, l, rfl, _⟩ := h
    rfl
  · obtain ⟨a, zs, l, rfl, hT, hZ, hR, hl, q⟩ := h
    refine ⟨_, (pss_cons (ps_asg (pe_cal C_split_runs (hr.mono (by decide)) pass0 (pa_cons (gv 0) (pa_cons (gv 1) pa_nil))) (pg_nm (K := K) (is := [2, 3]) (pgs_cons (pg_name (i := 2) sc_reduce_row.nd rfl (.inl rfl)) (pgs_cons (pg_name (i := 3) sc_reduce_row.nd rfl (.inl rfl)) pgs_nil)) nm2))
      (pss_one (ps_ret (pe_bmG (K := K) PySem.F.plainAttrs_str PySem.F.slot_str_join PySem.F.type_str_join (mt_joinG (K := K)) (pe_strC [] (by decide +kernel)) (pa_cons (pe_lc (own := [("color", 4), ("positions", 5)]) (by rfl) sc_reduce_row.nd (pi_seqG (K := K) (gv 2)) (blkOk_by (N := ["sizes", "row", "runs", "pack_numbers", "color", "positions"]) (sc := defScope s_reduce_row) (by decide +kernel)) (fun _ _ _ _ _ => (pg_nm (K := K) (is := [4, 5]) (pgs_cons (pg_name (i := 4) sc_reduce_row.nd rfl (.inl rfl)) (pgs_cons (pg_name (i := 5) sc_reduce_row.nd rfl (.inl rfl)) pgs_nil)) nm2)) (fun _ _ _ _ _ => pts_nil) (fun _ _ _ _ _ => (pe_op (op_mulG (K := K)) (gv 4) (pe_callB (cr_lenG (K := K)) (by rfl) B.len bt_len (pa_cons (gv 5) pa_nil))))) pa_nil))))), ?_⟩
    refine ⟨a, zs, l, rfl, hT, hZ, hR, hl, fun H1 p st pn as hsr hp hp1 => ⟨_, SqT.of hp1, rfl, .inl ⟨_, SqL.of hsr.hst, fun D hD => ?_⟩⟩⟩
    have hrl : (scan (szN zs) l.length l).runs.length ≤ l.length := by have := scan_runs_len (sz := szN zs) (n := l.length) (l := l) l.length (Nat.le_refl _); rwa [List.take_length] at this
    have hsh : Short l.length (scan (szN zs) l.length l).runs := by have := scan_short (sz := szN zs) (n := l.length) (l := l) l.length (Nat.le_refl _); rwa [List.take_length] at this
    have hres : res (szN zs) l = ((scan (szN zs) l.length l).runs.reverse.map txtR).flatten := by rw [flatR_eq, scan_stk]; rfl
    rw [hres] at q
    generalize scan (szN zs) l.length l = sc at *
    obtain ⟨runs, nums, tot⟩ := sc
    have hlas := hsr.rep.len
    have hlx : ((as.map fun x => V.ref x.1).reverse).length = runs.length := by rw [List.length_reverse, List.length_map]; exact hlas
    refine lc_list (xs := (as.map fun x => V.ref x.1).reverse) (fun j H2 => Same H1 H2 ∧ H2 D = some (.lst ((runs.reverse.take j).map fun x => V.str (S (txtR x))))) ⟨same_upd hD, upd_same⟩ ?_ ?_ ?_
    · rintro j H2 hj ⟨hsm, _⟩
      exact hsm.seq (SqL.of hsr.hst)
    · rintro j x H2 hx ⟨hsm, hD2⟩
      obtain ⟨k, ps, t, b, rfl, h1, h2, h3⟩ := hsr.rep.get hx
      have hj : j < runs.length := by rw [← hlx]; exact (List.getElem?_eq_some_iff.mp hx).1
      have hps : ps.length ≤ l.length := hsh (k, ps) (by
        have := List.mem_of_getElem? h3
        simpa using this)
      refine ⟨_, SqT.of (hsm _ _ h1), rfl, _, .inl (SqL.of (hsm _ _ h2)), ⟨by omega, by rw [List.length_map]; omega, ?_⟩, _, hD2, ?_, ?_⟩
      · rw [List.length_map, Int.toNat_natCast]
        show 1 * ps.length ≤ 1000000
        omega
      · rw [List.length_map, List.length_take, List.length_reverse]
        have hrl' : runs.length ≤ l.length := hrl
        exact small1000 (by omega)
      · refine ⟨hsm.at hD, ?_⟩
        rw [upd_same, List.take_add_one, h3, List.map_append]
        congr 3
        show [V.str (S (repL (((ps.map iv).length : Nat) : Int).toNat [k]))] = [V.str (S (List.replicate ps.length k))]
        rw [List.length_map, Int.toNat_natCast, repL_one]
    · rintro H2 ⟨hsm, hD2⟩
      rw [hlx, List.take_of_length_le (by rw [List.length_reverse]; exact Nat.le_refl _)] at hD2
      have hD3 : H2 D = some (.lst ((runs.reverse.map txtR).map fun l => V.str (S l))) := by rw [List.map_map]; exact hD2
      refine ⟨_, SqL.of hD3, ?_, ?_⟩
      · have e := sum_short (n := 1000) (runs.reverse.map txtR) (fun y hy => by
          obtain ⟨x, hx, rfl⟩ := List.mem_map.mp hy
          have := hsh x (by simpa using hx)
          show (List.replicate x.2.length x.1).length ≤ 1000
          rw [List.length_replicate]; omega)
        rw [List.length_map, List.length_reverse] at e
        show _ + _ * 0 ≤ _
        have : runs.length * 1000 ≤ 1000 * 1000 := Nat.mul_le_mul_right _ (by
          have : runs.length ≤ l.length := hrl
          omega)
        omega
      · show Q (.str (S (TL.joinL [] (runs.reverse.map txtR)))) H2
        rw [joinL_nil]
        exact q H2 (hsr.same.trans hsm)

-- NEEDS reduce_row
abbrev s_residue : Stmt := topS 17
theorem sc_residue : FnScope ["sizes", "row"] ["sizes", "row"] (defScope s_residue) := ⟨rfl, rfl, rfl, by decide +kernel, rfl, by decide +kernel, by decide +kernel⟩

/-- a valid row of at most forty beads -/
def sp_residue (K : PySem.W.Frag) : Sp := fun vs H Q _ => ∃ (a : Addr) (zs : List Int) (l : List Nat), vs = [.ref a, .str (S l)] ∧ SqT K H a (zs.map V.int) ∧ OkZ zs ∧ OkR zs l ∧ l.length ≤ 40 ∧ ∀ H', Same H H' → Q (.str (S (res (szN zs) l))) H'
theorem ok_residue {f : Addr} {fd : FuncData} (F : Fun K "residue" "residue" s_residue f fd) (B : Bi mg) (C_check_sizes : Cal P w K mg base CX0 2 "check_sizes" ["sizes"] (sp_check_sizes K)) (C_check_row : Cal P w K mg base CX0 2 "check_row" ["sizes", "row"] (sp_check_row K)) (C_reduce_row : Cal P w K mg base CX0 3 "reduce_row" ["sizes", "row"] (sp_reduce_row K)) : FnOk P w K mg base CX0 4 f fd ["sizes", "row"] (sp_residue K) := by
  refine F.ok sc_residue (fun vs H Q E h => ?_) (fun cdv A outer s H vs Q E hr h => ?_)
  · obtain ⟨a, zs, l, rfl, _⟩ := h
    rfl
  · obtain ⟨a, zs, l, rfl, hT, hZ, hR, hl, q⟩ := h
    refine ⟨_, (pss_cons (ps_expr (pe_cal C_check_sizes (hr.mono (by decide)) pass0 (pa_cons (gv 0) pa_nil)))
      (pss_cons (ps_expr (pe_cal C_check_row (hr.mono (by decide)) pass0 (pa_cons (gv 0) (pa_cons (gv 1) pa_nil))))
      (pss_one (ps_ret (pe_cal C_reduce_row (hr.mono (by decide)) pass0 (pa_cons (gv 0) (pa_cons (gv 1) pa_nil))))))), ?_⟩
    exact ⟨a, zs, rfl, hT, hZ, fun H1 s1 => ⟨a, zs, l, rfl, s1.tup hT, hZ, hR, hl, fun H2 s2 => ⟨a, zs, l, rfl, (s1.trans s2).tup hT, hZ, hR, by omega, fun H3 s3 => q H3 ((s1.trans s2).trans s3)⟩⟩⟩

abbrev s__law_size : Stmt := topS 34
theorem sc__law_size : FnScope ["_law_sizes_here", "_law_bead"] ["_law_sizes_here", "_law_bead"] (defScope s__law_size) := ⟨rfl, rfl, rfl, by decide +kernel, rfl, by decide +kernel, by decide +kernel⟩

def sp__law_size (K : PySem.W.Frag) : Sp := sp_size_of K
theorem ok__law_size {f : Addr} {fd : FuncData} (F : Fun K "_law_size" "_law_size" s__law_size f fd) (B : Bi mg) : FnOk P w K mg base CX0 1 f fd ["_law_sizes_here", "_law_bead"] (sp__law_size K) := by
  refine F.ok sc__law_size (fun vs H Q E h => ?_) (fun cdv A outer s H vs Q E hr h => ?_)
  · obtain ⟨a, zs, k, rfl, _⟩ := h
    rfl
  · obtain ⟨a, zs, k, rfl, hT, h1, h2, h3, q⟩ := h
    refine ⟨_, (pss_one (ps_ret (pe_ix (ixG (K := K)) (gv 0) (pe_bmG (K := K) PySem.F.plainAttrs_str PySem.F.slot_str_index PySem.F.type_str_index mt_indexG (pe_strC [97, 98, 99, 100, 101, 102] (by decide +kernel)) (pa_cons (gv 1) pa_nil)) (fun _ _ => rfl)))), ?_⟩
    exact ⟨rfl, k, rfl, rfl, ⟨h1, by omega⟩, zs.map V.int, _, .inr hT, at_szI h1 h2, q⟩

abbrev s__law_pack : Stmt := topS 35
theorem sc__law_pack : FnScope ["_law_sizes_here", "_law_row_here", "_law_at", "_law_size_here"] ["_law_sizes_here", "_law_row_here", "_law_at"] (defScope s__law_pack) := ⟨rfl, rfl, rfl, by decide +kernel, rfl, by decide +kernel, by decide +kernel⟩

/-- a pack starts at i, as a test -/
def packB (sz : Nat → Nat) (l : List Nat) (i : Nat) : Bool := decide ((l.drop i).take (sz (l.getD i 0)) = List.replicate (sz (l.getD i 0)) (l.getD i 0))
theorem getD_of {l : List Nat} {i k : Nat} (h : l[i]? = some k) : l.getD i 0 = k := by
  rw [List.getD_eq_getElem?_getD, h]; rfl
theorem packB_iff {sz : Nat → Nat} {l : List Nat} {i : Nat} (hi : i < l.length) : packB sz l i = true ↔ PackAt sz l i := by
  have hk := List.getElem?_eq_getElem hi
  unfold packB PackAt
  rw [decide_eq_true_iff, getD_of hk]
  constructor
  · intro h; exact ⟨_, hk, h⟩
  · rintro ⟨k, h1, h2⟩
    rw [hk] at h1
    cases h1
    exact h2
def sp__law_pack (K : PySem.W.Frag) : Sp := fun vs H Q _ => ∃ (a : Addr) (zs : List Int) (l : List Nat) (i : Nat), vs = [.ref a, .str (S l), iv i] ∧ SqT K H a (zs.map V.int) ∧ OkZ zs ∧ OkR zs l ∧ i < l.length ∧ l.length ≤ 1000 ∧ Q (.bl (packB (szN zs) l i)) H
theorem ok__law_pack {f : Addr} {fd : FuncData} (F : Fun K "_law_pack" "_law_pack" s__law_pack f fd) (B : Bi mg) (C__law_size : Cal P w K mg base CX0 1 "_law_size" ["_law_sizes_here", "_law_bead"] (sp__law_size K)) : FnOk P w K mg base CX0 2 f fd ["_law_sizes_here", "_law_row_here", "_law_at"] (sp__law_pack K) := by
  refine F.ok sc__law_pack (fun vs H Q E h => ?_) (fun cdv A outer s H vs Q E hr h => ?_)
  · obtain ⟨a, zs, l, i, rfl, _⟩ := h
    rfl
  · obtain ⟨a, zs, l, i, rfl, hT, hZ, hR, hi, hl, q⟩ := h
    refine ⟨_, (pss_cons (ps_set (i := 3) sc__law_pack.nd rfl (.inl rfl) (pe_cal C__law_size (hr.mono (by decide)) pass0 (pa_cons (gv 0) (pa_cons (pe_ix (ixG (K := K)) (gv 1) (gv 2) (fun _ _ => rfl)) pa_nil))))
      (pss_one (ps_ret (pe_cmpR (op_eqG (K := K) hr.units) (pe_slice (slG (K := K)) (gv 1) (po_someG (gv 2)) (po_someG (pe_op (op_addG (K := K)) (gv 2) (gv 3)))) (pe_op (op_mulG (K := K)) (pe_ix (ixG (K := K)) (gv 1) (gv 2) (fun _ _ => rfl)) (gv 3)) (nomark _))))), ?_⟩
    have hk := List.getElem?_eq_getElem hi
    have hk1 := hR _ (List.getElem_mem hi)
    have hz := szI_ok hZ hk1
    unfold packB at q
    rw [getD_of hk] at q
    generalize l[i] = k at *
    refine ⟨k, by rw [tl_S]; omega, atI_nat hk, a, zs, k, rfl, hT, hk1.1, hk1.2, hZ.six, by rw [tl_S]; omega, k, by rw [tl_S]; omega, atI_nat hk, ⟨by omega, by omega, ?_⟩, ?_⟩
    · show 1 * (szI zs k).toNat ≤ 1000000
      omega
    · show Q (.bl (decide (cutL l (some (i : Int)) (some ((i : Int) + szI zs k)) = repL (szI zs k).toNat [k]))) H
      rw [cutL_mid l (by omega) (by omega), repL_one, Int.toNat_natCast]
      have e : ((i : Int) + szI zs k).toNat - i = (szI zs k).toNat := by omega
      rw [e]
      exact q

-- NEEDS m_res reduce_row _law_pack
abbrev s__law_residue : Stmt := topS 36
theorem sc__law_residue : FnScope ["_law_sizes_here", "_law_row_here", "_law_step", "_law_starts", "_law_at"] ["_law_sizes_here", "_law_row_here"] (defScope s__law_residue) := ⟨rfl, rfl, rfl, by decide +kernel, rfl, by decide +kernel, by decide +kernel⟩

/-- the last pack is removed -/
def dropLastPack (sz : Nat → Nat) (l : List Nat) : List Nat := match ((List.range l.length).filter (packB sz l)).getLast? with
  | none => l
  | some i => l.take i ++ l.drop (i + sz (l.getD i 0))
theorem dropLast_stk {sz : Nat → Nat} {l : List Nat} (hs : ∀ y ∈ l, 1 ≤ sz y) : stk sz (dropLastPack sz l) = stk sz l := by
  unfold dropLastPack
  split
  · rfl
  · rename_i i h
    have hm := List.mem_of_getLast? h
    rw [List.mem_filter, List.mem_range] at hm
    have hk := List.getElem?_eq_getElem hm.1
    rw [getD_of hk]
    exact stk_remove hs hk ((packB_iff hm.1).mp hm.2)
theorem dropLast_mem {sz : Nat → Nat} {l : List Nat} {y : Nat} (h : y ∈ dropLastPack sz l) : y ∈ l := by
  unfold dropLastPack at h
  split at h
  · exact h
  · rcases List.mem_append.mp h with h | h
    · exact List.mem_of_mem_take h
    · exact List.mem_of_mem_drop h
theorem dropLast_len {sz : Nat → Nat} {l : List Nat} (hs : ∀ y ∈ l, 1 ≤ sz y) : (dropLastPack sz l).length ≤ l.length ∧ ((dropLastPack sz l).length = l.length → dropLastPack sz l = l ∧ ∀ i, i < l.length → ¬ PackAt sz l i) := by
  unfold dropLastPack
  split
  · rename_i h
    refine ⟨Nat.le_refl _, fun _ => ⟨rfl, fun i hi hp => ?_⟩⟩
    have e : (List.range l.length).filter (packB sz l) = [] := List.getLast?_eq_none_iff.mp h
    have : i ∈ (List.range l.length).filter (packB sz l) := by rw [List.mem_filter, List.mem_range]; exact ⟨hi, (packB_iff hi).mpr hp⟩
    rw [e] at this
    simp at this
  · rename_i i h
    have hm := List.mem_of_getLast? h
    rw [List.mem_filter, List.mem_range] at hm
    have hk := List.getElem?_eq_getElem hm.1
    have hp := (packB_iff hm.1).mp hm.2
    obtain ⟨k, hk2, e⟩ := packAt_split hp
    rw [getD_of hk2]
    have h1 := hs k (List.mem_of_getElem? hk2)
    have el := congrArg List.length e
    rw [List.length_append, List.length_append, List.length_replicate] at el
    rw [List.length_append]
    exact ⟨by omega, fun z => by omega⟩
/-- n times -/
def dropN (sz : Nat → Nat) : Nat → List Nat → List Nat
  | 0, l => l
  | n + 1, l => dropLastPack sz (dropN sz n l)
theorem dropN_facts {sz : Nat → Nat} {l : List Nat} (hs : ∀ y ∈ l, 1 ≤ sz y) : ∀ n, stk sz (dropN sz n l) = stk sz l ∧ (∀ y ∈ dropN sz n l, y ∈ l) ∧ ((dropN sz n l).length + n ≤ l.length ∨ ∀ i, i < (dropN sz n l).length → ¬ PackAt sz (dropN sz n l) i) ∧ (dropN sz n l).length ≤ l.length
  | 0 => ⟨rfl, fun _ h => h, .inl (Nat.le_refl _), Nat.le_refl _⟩
  | n + 1 => by
    obtain ⟨h1, h2, h3, h4⟩ := dropN_facts hs n
    have hs2 : ∀ y ∈ dropN sz n l, 1 ≤ sz y := fun y hy => hs y (h2 y hy)
    have hl := dropLast_len hs2
    refine ⟨(dropLast_stk hs2).trans h1, fun y hy => h2 y (dropLast_mem hy), ?_, Nat.le_trans hl.1 h4⟩
    show (dropLastPack sz (dropN sz n l)).length + (n + 1) ≤ l.length ∨ ∀ i, i < (dropLastPack sz (dropN sz n l)).length → ¬ PackAt sz (dropLastPack sz (dropN sz n l)) i
    by_cases e : (dropLastPack sz (dropN sz n l)).length = (dropN sz n l).length
    · obtain ⟨e2, e3⟩ := hl.2 e
      rw [e2]
      exact .inr e3
    · rcases h3 with h3 | h3
      · exact .inl (by omega)
      · -- no pack was left: nothing was removed
        exfalso
        apply e
        unfold dropLastPack
        split
        · rfl
        · rename_i i h
          have hm := List.mem_of_getLast? h
          rw [List.mem_filter, List.mem_range] at hm
          exact absurd ((packB_iff hm.1).mp hm.2) (h3 i hm.1)
theorem dropN_res {sz : Nat → Nat} {l : List Nat} (hs : ∀ y ∈ l, 1 ≤ sz y) : dropN sz l.length l = res sz l := by
  obtain ⟨h1, h2, h3, _⟩ := dropN_facts hs l.length
  have hs2 : ∀ y ∈ dropN sz l.length l, 1 ≤ sz y := fun y hy => hs y (h2 y hy)
  have irr : ∀ i, i < (dropN sz l.length l).length → ¬ PackAt sz (dropN sz l.length l) i := by
    rcases h3 with h3 | h3
    · intro i hi; omega
    · exact h3
  have := flat_irred hs2 irr
  rw [h1] at this
  exact this.symm
def sp__law_residue (K : PySem.W.Frag) : Sp := fun vs H Q _ => ∃ (a : Addr) (zs : List Int) (l : List Nat), vs = [.ref a, .str (S l)] ∧ SqT K H a (zs.map V.int) ∧ OkZ zs ∧ OkR zs l ∧ l.length ≤ 1000 ∧ ∀ H', Same H H' → Q (.str (S (res (szN zs) l))) H'
theorem ok__law_residue {f : Addr} {fd : FuncData} (F : Fun K "_law_residue" "_law_residue" s__law_residue f fd) (B : Bi mg) (C__law_pack : Cal P w K mg base CX0 2 "_law_pack" ["_law_sizes_here", "_law_row_here", "_law_at"] (sp__law_pack K)) (C__law_size : Cal P w K mg base CX0 1 "_law_size" ["_law_sizes_here", "_law_bead"] (sp__law_size K)) : FnOk P w K mg base CX0 3 f fd ["_law_sizes_here", "_law_row_here"] (sp__law_residue K) := by
  refine F.ok sc__law_residue (fun vs H Q E h => ?_) (fun cdv A outer s H vs Q E hr h => ?_)
  · obtain ⟨a, zs, l, rfl, _⟩ := h
    rfl
  · obtain ⟨a, zs, l, rfl, hT, hZ, hR, hl, q⟩ := h
    refine ⟨_, (pss_cons (ps_for PassesOwn.never rfl (pi_range1 (by rfl) B.range (pa_cons (pe_callB (cr_lenG (K := K)) (by rfl) B.len bt_len (pa_cons (gv 1) pa_nil)) pa_nil)) (pg_name (i := 2) sc__law_residue.nd rfl (.inl rfl))
      (pss_cons (ps_setLc (i := 3) (own := [("_law_at", 4)]) (by rfl) sc__law_residue.nd rfl rfl (sw_true rfl rfl rfl (by decide +kernel)) (pi_range1 (by rfl) B.range (pa_cons (pe_callB (cr_lenG (K := K)) (by rfl) B.len bt_len (pa_cons (gv 1) pa_nil)) pa_nil)) (blkOk_by (N := ["_law_sizes_here", "_law_row_here", "_law_step", "_law_starts", "_law_at"]) (sc := defScope s__law_residue) (by decide +kernel)) (fun _ _ _ _ _ => (pg_name (i := 4) sc__law_residue.nd rfl (.inl rfl))) (fun _ _ _ _ _ => pts_one (pt_truG (K := K) (pe_cal C__law_pack (hr.mono (by decide)) pass0 (pa_cons (gv 0) (pa_cons (gv 1) (pa_cons (gv 4) pa_nil)))))) (fun _ _ _ _ _ => (gv 4)))
      (pss_one (ps_if (pt_cmpG (op_neG (K := K) hr.units) (gv 3) (pe_lst pa_nil) (nomark _))
      (pss_cons (ps_set (i := 4) sc__law_residue.nd rfl (.inl rfl) (pe_ix (ixG (K := K)) (gv 3) (pe_un un_negG pe_int) (fun _ _ => rfl)))
      (pss_one (ps_set (i := 1) sc__law_residue.nd rfl (.inr rfl) (pe_op (op_addG (K := K)) (pe_slice (slG (K := K)) (gv 1) po_none (po_someG (gv 4))) (pe_slice (slG (K := K)) (gv 1) (po_someG (pe_op (op_addG (K := K)) (gv 4) (pe_cal C__law_size (hr.mono (by decide)) pass0 (pa_cons (gv 0) (pa_cons (pe_ix (ixG (K := K)) (gv 1) (gv 4) (fun _ _ => rfl)) pa_nil))))) po_none)))))
      pss_nil))))
      (pss_one (ps_ret (gv 1)))), ?_⟩
    have hpos := hR.szpos hZ
    have hfac := dropN_facts hpos
    refine ⟨by rw [tl_S]; omega, _, rfl, by omega, by rw [tl_S]; omega, for_range (fun i σ H' => ∃ y2 y3 y4, σ = [some (.ref a), some (.str (S (dropN (szN zs) i l))), y2, y3, y4] ∧ Same H H') ⟨none, none, none, rfl, Same.refl H⟩ ?_ ?_⟩
    · rintro i σ H1 hi ⟨y2, y3, y4, rfl, hs⟩
      have hR2 : OkR zs (dropN (szN zs) i l) := fun y hy => hR y ((hfac i).2.1 y hy)
      have hl2 : (dropN (szN zs) i l).length ≤ 1000 := Nat.le_trans (hfac i).2.2.2 hl
      have estep : dropN (szN zs) (i + 1) l = dropLastPack (szN zs) (dropN (szN zs) i l) := rfl
      rw [estep]
      generalize dropN (szN zs) i l = m at *
      refine ⟨by rw [tl_S]; omega, _, rfl, by omega, by rw [tl_S]; omega, fun D hD => ?_⟩
      refine lc_range (fun j H2 => Same H H2 ∧ H2 D = some (.lst (((List.range j).filter (packB (szN zs) m)).map iv))) ⟨hs.trans (same_upd hD), upd_same⟩ ?_ ?_
      · rintro j H2 hj ⟨hs2, hD2⟩
        have hj' : j < m.length := by
          rw [tl_S, Int.toNat_natCast] at hj
          exact hj
        refine ⟨rfl, a, zs, m, j, by rw [Int.zero_add], hs2.tup hT, hZ, hR2, hj', hl2, iteB ⟨fun e => ?_, fun e => ⟨hs2, ?_⟩⟩⟩
        · refine ⟨_, hD2, ?_, hs2.at (hs.free hD), ?_⟩
          · rw [List.length_map]
            have := List.length_filter_le (packB (szN zs) m) (List.range j)
            rw [List.length_range] at this
            exact small1000 (by omega)
          · rw [upd_same, List.range_succ, List.filter_append, List.map_append]
            congr 2
            have : ([j].filter (packB (szN zs) m)) = [j] := by simp [show packB (szN zs) m j = true from e]
            rw [this, Int.zero_add]; rfl
        · rw [hD2, List.range_succ, List.filter_append]
          have : ([j].filter (packB (szN zs) m)) = [] := by simp [show ¬ packB (szN zs) m j = true from e]
          rw [this, List.append_nil]
      · rintro H2 ⟨hs2, hD2⟩
        rw [tl_S, Int.toNat_natCast] at hD2
        refine ⟨Nat.zero_le _, fun e he => .inl ⟨_, _, rfl, rfl, _, .inl ⟨SqL.of ((same_upd he) _ _ hD2), SqL.of upd_same⟩, ?_⟩⟩
        cases hc : ((List.range m.length).filter (packB (szN zs) m)).getLast? with
        | none =>
          have ed : dropLastPack (szN zs) m = m := by unfold dropLastPack; rw [hc]
          have e2 : (List.range m.length).filter (packB (szN zs) m) = [] := List.getLast?_eq_none_iff.mp hc
          rw [ed, e2]
          exact ⟨_, _, _, rfl, hs2.trans (same_upd he)⟩
        | some i2 =>
          obtain ⟨u, hu⟩ := List.getLast?_eq_some_iff.mp hc
          have hm := List.mem_of_getLast? hc
          rw [List.mem_filter, List.mem_range] at hm
          have hk := List.getElem?_eq_getElem hm.1
          have hk1 := hR2 _ (List.getElem_mem hm.1)
          have hz := szI_ok hZ hk1
          have ed : dropLastPack (szN zs) m = cutL m none (some (i2 : Int)) ++ cutL m (some ((i2 : Int) + szI zs m[i2])) none := by
            unfold dropLastPack
            rw [hc]
            show m.take i2 ++ m.drop (i2 + szN zs (m.getD i2 0)) = _
            rw [getD_of hk, cutL_to m (by omega), cutL_from m (by omega), Int.toNat_natCast]
            congr 2
            show i2 + (szI zs m[i2]).toNat = _
            omega
          rw [ed]
          rw [hu, List.map_append] at hD2 ⊢
          have e3 : (not (List.isEmpty (u.map iv ++ [i2].map iv))) = true := by cases u <;> rfl
          rw [e3]
          generalize m[i2] = k at *
          have hs3 := hs2.trans (same_upd (o := .lst []) he)
          refine ⟨_, _, .inl (SqL.of ((same_upd he) _ _ hD2)), atI_last _ _, ?_⟩
          refine ⟨by rw [tl_S]; omega, k, by rw [tl_S]; omega, atI_nat hk, a, zs, k, rfl, hs3.tup hT, hk1.1, hk1.2, hZ.six, by rw [tl_S]; omega, ?_, ?_⟩
          · show (cutL m none (some (i2 : Int))).length + (cutL m (some ((i2 : Int) + szI zs k)) none).length ≤ 1000000
            have h1 := cutL_len m none (some (i2 : Int))
            have h2 := cutL_len m (some ((i2 : Int) + szI zs k)) none
            omega
          · exact ⟨_, _, _, rfl, hs3⟩
    · rintro σ H1 ⟨y2, y3, y4, rfl, hs⟩
      have e : dropN (szN zs) ((((tl (S l)).length : Nat) : Int).toNat) l = res (szN zs) l := by
        rw [tl_S, Int.toNat_natCast, dropN_res hpos]
      show Q (.str (S (dropN (szN zs) _ l))) H1
      rw [e]
      exact q H1 hs

mutual
theorem Dp_same {K : PySem.W.Frag} {H H' : Hp} (s : Same H H') : ∀ {v : V} {d : PyData}, Dp K H v d → Dp K H' v d
  | _, _, .non => .non
  | _, _, .bl b => .bl b
  | _, _, .int i => .int i
  | _, _, .str x => .str x
  | _, _, .lst h1 h2 => .lst (s.seq h1) (DpAll_same s h2)
  | _, _, .tup h1 h2 => .tup (s.tup h1) (DpAll_same s h2)
theorem DpAll_same {K : PySem.W.Frag} {H H' : Hp} (s : Same H H') : ∀ {vs : List V} {ds : List PyData}, DpAll K H vs ds → DpAll K H' vs ds
  | _, _, .nil => .nil
  | _, _, .cons h1 h2 => .cons (Dp_same s h1) (DpAll_same s h2)
end
theorem DpAll_len {K : PySem.W.Frag} {H : Hp} : ∀ {vs : List V} {ds : List PyData}, DpAll K H vs ds → vs.length = ds.length
  | _, _, .nil => rfl
  | _, _, .cons _ h => by rw [List.length_cons, List.length_cons, DpAll_len h]
theorem DpAll_get {K : PySem.W.Frag} {H : Hp} : ∀ {vs : List V} {ds : List PyData}, DpAll K H vs ds → ∀ {i : Nat} {d : PyData}, ds[i]? = some d → ∃ v, vs[i]? = some v ∧ Dp K H v d
  | _, _, .nil, _, _, e => by simp at e
  | _, _, .cons h _, 0, _, e => by cases e; exact ⟨_, rfl, h⟩
  | _, _, .cons _ h, i + 1, _, e => DpAll_get h (i := i) e
/-- a datum of at most n levels, its lists not long -/
def Nar : Nat → PyData → Prop
  | _, .none => True
  | _, .bool _ => True
  | _, .int _ => True
  | _, .str _ => True
  | n + 1, .list ds => ds.length ≤ 100000 ∧ ∀ d ∈ ds, Nar n d
  | n + 1, .tuple ds => ds.length ≤ 100000 ∧ ∀ d ∈ ds, Nar n d
  | _, _ => False
/-- two values that read as one datum -/
def spEq (n : Nat) (K : PySem.W.Frag) : Sp := fun vs H Q _ => ∃ (u v : V) (d : PyData), vs = [u, v] ∧ Dp K H u d ∧ Dp K H v d ∧ Nar n d ∧ ∀ H', Same H H' → Q (.bl true) H'
def sp__law_equal (K : PySem.W.Frag) : Sp := spEq 4 K
theorem bool_yes {K : PySem.W.Frag} {b : Bool} {H : Hp} {Q : VK} (h : Q (.bl true) H) : gEqW K id (.bl b) (.bl b) H Q := by
  show Q (.bl (id (decide (b = b)))) H
  rw [decide_eq_true rfl]
  exact h

-- NEEDS m_grp reduce_row
abbrev s_invert_row : Stmt := topS 18
theorem sc_invert_row : FnScope ["sizes", "row", "runs", "pack_numbers", "color", "positions"] ["sizes", "row"] (defScope s_invert_row) := ⟨rfl, rfl, rfl, by decide +kernel, rfl, by decide +kernel, by decide +kernel⟩

def sp_invert_row (K : PySem.W.Frag) : Sp := fun vs H Q _ => ∃ (a : Addr) (zs : List Int) (l : List Nat), vs = [.ref a, .str (S l)] ∧ SqT K H a (zs.map V.int) ∧ OkZ zs ∧ OkR zs l ∧ l.length ≤ 1000 ∧ ∀ H', Same H H' → Q (.str (S (inv (szN zs) l))) H'
theorem RunsRep.get' {H : Hp} {r : Runs} {as : List (Addr × Addr)} (h : RunsRep H r as) : ∀ {j : Nat} {x : V}, (as.map fun x => V.ref x.1)[j]? = some x →
    ∃ k ps t b, x = .ref t ∧ H t = some (.tup [.str (S [k]), .ref b]) ∧ H b = some (.lst (ps.map iv)) ∧ r[j]? = some (k, ps) := by
  induction h with
  | nil => intro j x hx; simp at hx
  | @cons k ps r a b as h1 h2 h3 h4 ih =>
    intro j x hx
    cases j with
    | zero => cases hx; exact ⟨k, ps, a, b, rfl, h1, h2, rfl⟩
    | succ j => exact ih hx
theorem inv_runs (sz : Nat → Nat) (runs : Runs) : (runs.map fun x => List.replicate (sz x.1 - x.2.length) x.1).flatten = invS sz (cntR runs) := by
  unfold invS cntR
  rw [List.map_map]
  rfl
theorem runs_colors {sz : Nat → Nat} {n : Nat} {l : List Nat} {x : Nat × List Nat} (h : x ∈ (scan sz n l).runs) : x.1 ∈ l := by
  have e := scan_stk sz n l
  have h2 : (x.1, x.2.length) ∈ stk sz l := by rw [← e]; exact List.mem_map.mpr ⟨x, h, rfl⟩
  rcases foldl_mem l [] h2 with h | ⟨m, h⟩
  · exact h
  · simp at h
theorem runs_sz {sz : Nat → Nat} {n : Nat} {l : List Nat} (hs : ∀ k, 1 ≤ sz k) {x : Nat × List Nat} (h : x ∈ (scan sz n l).runs) : 1 ≤ x.2.length ∧ x.2.length < sz x.1 := by
  have e := scan_stk sz n l
  have h2 : (x.1, x.2.length) ∈ stk sz l := by rw [← e]; exact List.mem_map.mpr ⟨x, h, rfl⟩
  exact (vld_iff.mp (vld_of hs l)).1 _ h2
theorem ok_invert_row {f : Addr} {fd : FuncData} (F : Fun K "invert_row" "invert_row" s_invert_row f fd) (B : Bi mg) (C_split_runs : Cal P w K mg base CX0 2 "split_runs" ["sizes", "row"] (sp_split_runs K)) (C_size_of : Cal P w K mg base CX0 1 "size_of" ["sizes", "color"] (sp_size_of K)) : FnOk P w K mg base CX0 3 f fd ["sizes", "row"] (sp_invert_row K) := by
  refine F.ok sc_invert_row (fun vs H Q E h => ?_) (fun cdv A outer s H vs Q E hr h => ?_)
  · obtain ⟨a, zs, l, rfl, _⟩ := h
    rfl
  · obtain ⟨a, zs, l, rfl, hT, hZ, hR, hl, q⟩ := h
    refine ⟨_, (pss_cons (ps_asg (pe_cal C_split_runs (hr.mono (by decide)) pass0 (pa_cons (gv 0) (pa_cons (gv 1) pa_nil))) (pg_nm (K := K) (is := [2, 3]) (pgs_cons (pg_name (i := 2) sc_invert_row.nd rfl (.inl rfl)) (pgs_cons (pg_name (i := 3) sc_invert_row.nd rfl (.inl rfl)) pgs_nil)) nm2))
      (pss_one (ps_ret (pe_bmG (K := K) PySem.F.plainAttrs_str PySem.F.slot_str_join PySem.F.type_str_join (mt_joinG (K := K)) (pe_strC [] (by decide +kernel)) (pa_cons (pe_lc (own := [("color", 4), ("positions", 5)]) (by rfl) sc_invert_row.nd (pi_seqG (K := K) (pe_revG (K := K) (gv 2))) (blkOk_by (N := ["sizes", "row", "runs", "pack_numbers", "color", "positions"]) (sc := defScope s_invert_row) (by decide +kernel)) (fun _ _ _ _ _ => (pg_nm (K := K) (is := [4, 5]) (pgs_cons (pg_name (i := 4) sc_invert_row.nd rfl (.inl rfl)) (pgs_cons (pg_name (i := 5) sc_invert_row.nd rfl (.inl rfl)) pgs_nil)) nm2)) (fun _ _ _ _ _ => pts_nil) (fun _ _ _ _ _ => (pe_op (op_mulG (K := K)) (gv 4) (pe_op op_subG (pe_cal C_size_of (hr.mono (by decide)) pass0 (pa_cons (gv 0) (pa_cons (gv 4) pa_nil))) (pe_callB (cr_lenG (K := K)) (by rfl) B.len bt_len (pa_cons (gv 5) pa_nil)))))) pa_nil))))), ?_⟩
    refine ⟨a, zs, l, rfl, hT, hZ, hR, hl, fun H1 p st pn as hsr hp hp1 => ⟨_, SqT.of hp1, rfl, _, SqL.of hsr.hst, fun g hg => .inl ⟨_, SqL.of upd_same, fun D hD => ?_⟩⟩⟩
    rw [List.reverse_reverse] at hD ⊢
    have hrl : (scan (szN zs) l.length l).runs.length ≤ l.length := by have := scan_runs_len (sz := szN zs) (n := l.length) (l := l) l.length (Nat.le_refl _); rwa [List.take_length] at this
    have hcol : ∀ x ∈ (scan (szN zs) l.length l).runs, x.1 ∈ l := fun x hx => runs_colors hx
    have hszs : ∀ x ∈ (scan (szN zs) l.length l).runs, 1 ≤ x.2.length ∧ x.2.length < szN zs x.1 := fun x hx => runs_sz (szN_pos hZ) hx
    have hres : inv (szN zs) l = ((scan (szN zs) l.length l).runs.map fun x => List.replicate (szN zs x.1 - x.2.length) x.1).flatten := by rw [inv_runs, scan_stk]; rfl
    rw [hres] at q
    generalize scan (szN zs) l.length l = sc at *
    obtain ⟨runs, nums, tot⟩ := sc
    have hlas := hsr.rep.len
    have hlx : (as.map fun x => V.ref x.1).length = runs.length := by rw [List.length_map]; exact hlas
    have s1 : Same H1 (upd H1 g (.lst (as.map fun x => V.ref x.1))) := same_upd hg
    refine lc_list (xs := as.map fun x => V.ref x.1) (fun j H2 => Same (upd H1 g (.lst (as.map fun x => V.ref x.1))) H2 ∧ H2 D = some (.lst (((runs.take j).map fun x => List.replicate (szN zs x.1 - x.2.length) x.1).map fun l => V.str (S l)))) ⟨same_upd hD, upd_same⟩ ?_ ?_ ?_
    · rintro j H2 hj ⟨hsm, _⟩
      exact hsm.seq (SqL.of upd_same)
    · rintro j x H2 hx ⟨hsm, hD2⟩
      obtain ⟨k, ps, t, b, rfl, h1, h2, h3⟩ := hsr.rep.get' hx
      have hj : j < runs.length := by rw [← hlx]; exact (List.getElem?_eq_some_iff.mp hx).1
      have hm := List.mem_of_getElem? h3
      have hk1 := hR k (hcol (k, ps) hm)
      have hps : 1 ≤ ps.length ∧ ps.length < szN zs k := hszs (k, ps) hm
      have hz := szI_ok hZ hk1
      have hps2 : ps.length < (szI zs k).toNat := hps.2
      have s12 := s1.trans hsm
      refine ⟨_, SqT.of (s12 _ _ h1), rfl, a, zs, k, rfl, (hsr.same.trans s12).tup hT, hk1.1, hk1.2, hZ.six, _, .inl (SqL.of (s12 _ _ h2)), ?_, _, hD2, ?_, hsm.at hD, ?_⟩
      · rw [List.length_map]
        refine ⟨by omega, by omega, ?_⟩
        show 1 * (szI zs k - (ps.length : Nat)).toNat ≤ 1000000
        omega
      · rw [List.length_map, List.length_map, List.length_take]
        have hrl' : runs.length ≤ l.length := hrl
        exact small1000 (by omega)
      · rw [upd_same, List.take_add_one, h3, List.map_append, List.map_append]
        congr 3
        show [V.str (S (repL (szI zs k - ((ps.map iv).length : Nat)).toNat [k]))] = [V.str (S (List.replicate (szN zs k - ps.length) k))]
        rw [List.length_map, repL_one]
        congr 4
        show _ = (szI zs k).toNat - ps.length
        omega
    · rintro H2 ⟨hsm, hD2⟩
      rw [hlx, List.take_of_length_le (Nat.le_refl _)] at hD2
      refine ⟨_, SqL.of hD2, ?_, ?_⟩
      · have e := sum_short (n := 4) (runs.map fun x => List.replicate (szN zs x.1 - x.2.length) x.1) (fun y hy => by
          obtain ⟨x, hx, rfl⟩ := List.mem_map.mp hy
          have := szI_ok hZ (hR x.1 (hcol x hx))
          rw [List.length_replicate]
          show (szI zs x.1).toNat - _ ≤ 4
          omega)
        rw [List.length_map] at e
        show _ + _ * 0 ≤ _
        have hrl' : runs.length ≤ l.length := hrl
        omega
      · show Q (.str (S (TL.joinL [] _))) H2
        rw [joinL_nil]
        exact q H2 (hsr.same.trans (s1.trans hsm))
theorem inv_len {zs : List Int} {l : List Nat} (hZ : OkZ zs) (hR : OkR zs l) {n : Nat} (hl : l.length ≤ n) : (inv (szN zs) l).length ≤ 4 * n := by
  have hst : (stk (szN zs) l).length ≤ l.length := by
    have h1 := scan_stk (szN zs) l.length l
    have h2 := scan_runs_len (sz := szN zs) (n := l.length) (l := l) l.length (Nat.le_refl _)
    rw [List.take_length] at h2
    rw [← h1]
    unfold cntR
    rw [List.length_map]
    exact h2
  have e : (inv (szN zs) l).length = (((stk (szN zs) l).map fun x => List.replicate (szN zs x.1 - x.2) x.1).map List.length).sum := by
    unfold inv invS
    rw [List.length_flatten]
  have h := sum_short (n := 4) ((stk (szN zs) l).map fun x => List.replicate (szN zs x.1 - x.2) x.1) (fun y hy => by
    obtain ⟨x, hx, rfl⟩ := List.mem_map.mp hy
    have hx2 : x.1 ∈ l := by
      rcases foldl_mem l [] (n := x.2) (y := x.1) hx with h | ⟨m, h⟩
      · exact h
      · simp at h
    have := szI_ok hZ (hR x.1 hx2)
    rw [List.length_replicate]
    show (szI zs x.1).toNat - _ ≤ 4
    omega)
  rw [List.length_map] at h
  omega
abbrev s_inverse : Stmt := topS 19
theorem sc_inverse : FnScope ["sizes", "row"] ["sizes", "row"] (defScope s_inverse) := ⟨rfl, rfl, rfl, by decide +kernel, rfl, by decide +kernel, by decide +kernel⟩

def sp_inverse (K : PySem.W.Frag) : Sp := fun vs H Q _ => ∃ (a : Addr) (zs : List Int) (l : List Nat), vs = [.ref a, .str (S l)] ∧ SqT K H a (zs.map V.int) ∧ OkZ zs ∧ OkR zs l ∧ l.length ≤ 40 ∧ ∀ H', Same H H' → Q (.str (S (inv (szN zs) l))) H'
theorem ok_inverse {f : Addr} {fd : FuncData} (F : Fun K "inverse" "inverse" s_inverse f fd) (B : Bi mg) (C_check_sizes : Cal P w K mg base CX0 2 "check_sizes" ["sizes"] (sp_check_sizes K)) (C_check_row : Cal P w K mg base CX0 2 "check_row" ["sizes", "row"] (sp_check_row K)) (C_invert_row : Cal P w K mg base CX0 3 "invert_row" ["sizes", "row"] (sp_invert_row K)) : FnOk P w K mg base CX0 4 f fd ["sizes", "row"] (sp_inverse K) := by
  refine F.ok sc_inverse (fun vs H Q E h => ?_) (fun cdv A outer s H vs Q E hr h => ?_)
  · obtain ⟨a, zs, l, rfl, _⟩ := h
    rfl
  · obtain ⟨a, zs, l, rfl, hT, hZ, hR, hl, q⟩ := h
    refine ⟨_, (pss_cons (ps_expr (pe_cal C_check_sizes (hr.mono (by decide)) pass0 (pa_cons (gv 0) pa_nil)))
      (pss_cons (ps_expr (pe_cal C_check_row (hr.mono (by decide)) pass0 (pa_cons (gv 0) (pa_cons (gv 1) pa_nil))))
      (pss_one (ps_ret (pe_cal C_invert_row (hr.mono (by decide)) pass0 (pa_cons (gv 0) (pa_cons (gv 1) pa_nil))))))), ?_⟩
    exact ⟨a, zs, rfl, hT, hZ, fun H1 s1 => ⟨a, zs, l, rfl, s1.tup hT, hZ, hR, hl, fun H2 s2 => ⟨a, zs, l, rfl, (s1.trans s2).tup hT, hZ, hR, by omega, fun H3 s3 => q H3 ((s1.trans s2).trans s3)⟩⟩⟩

-- NEEDS m_grp reduce_row
abbrev s_is_trivial : Stmt := topS 27
theorem sc_is_trivial : FnScope ["sizes", "row"] ["sizes", "row"] (defScope s_is_trivial) := ⟨rfl, rfl, rfl, by decide +kernel, rfl, by decide +kernel, by decide +kernel⟩

def sp_is_trivial (K : PySem.W.Frag) : Sp := fun vs H Q _ => ∃ (a : Addr) (zs : List Int) (l : List Nat), vs = [.ref a, .str (S l)] ∧ SqT K H a (zs.map V.int) ∧ OkZ zs ∧ OkR zs l ∧ l.length ≤ 40 ∧ ∀ H', Same H H' → Q (.bl (decide (res (szN zs) l = []))) H'
theorem ok_is_trivial {f : Addr} {fd : FuncData} (F : Fun K "is_trivial" "is_trivial" s_is_trivial f fd) (B : Bi mg) (C_check_sizes : Cal P w K mg base CX0 2 "check_sizes" ["sizes"] (sp_check_sizes K)) (C_check_row : Cal P w K mg base CX0 2 "check_row" ["sizes", "row"] (sp_check_row K)) (C_reduce_row : Cal P w K mg base CX0 3 "reduce_row" ["sizes", "row"] (sp_reduce_row K)) : FnOk P w K mg base CX0 4 f fd ["sizes", "row"] (sp_is_trivial K) := by
  refine F.ok sc_is_trivial (fun vs H Q E h => ?_) (fun cdv A outer s H vs Q E hr h => ?_)
  · obtain ⟨a, zs, l, rfl, _⟩ := h
    rfl
  · obtain ⟨a, zs, l, rfl, hT, hZ, hR, hl, q⟩ := h
    refine ⟨_, (pss_cons (ps_expr (pe_cal C_check_sizes (hr.mono (by decide)) pass0 (pa_cons (gv 0) pa_nil)))
      (pss_cons (ps_expr (pe_cal C_check_row (hr.mono (by decide)) pass0 (pa_cons (gv 0) (pa_cons (gv 1) pa_nil))))
      (pss_one (ps_ret (pe_cmpR (op_eqG (K := K) hr.units) (pe_cal C_reduce_row (hr.mono (by decide)) pass0 (pa_cons (gv 0) (pa_cons (gv 1) pa_nil))) (pe_strC [] (by decide +kernel)) (nomark _)))))), ?_⟩
    exact ⟨a, zs, rfl, hT, hZ, fun H1 s1 => ⟨a, zs, l, rfl, s1.tup hT, hZ, hR, hl, fun H2 s2 => ⟨a, zs, l, rfl, (s1.trans s2).tup hT, hZ, hR, by omega, fun H3 s3 => q H3 ((s1.trans s2).trans s3)⟩⟩⟩

-- NEEDS checks
/-- the numbers of beads of each of n colors -/
def cntI (n : Nat) (l : List Nat) : List Int := (List.range n).map fun j => ((l.count (97 + j) : Nat) : Int)
theorem cntI_len (n : Nat) (l : List Nat) : (cntI n l).length = n := by unfold cntI; rw [List.length_map, List.length_range]
theorem cntI_get {n j : Nat} (l : List Nat) (h : j < n) : (cntI n l)[j]? = some ((l.count (97 + j) : Nat) : Int) := by unfold cntI; rw [List.getElem?_map, List.getElem?_range h]; rfl
theorem abc_get {n j : Nat} (h6 : n ≤ 6) (h : j < n) : (abc.take n)[j]? = some (97 + j) := by
  rw [List.getElem?_take_of_lt h]
  have e : j = 0 ∨ j = 1 ∨ j = 2 ∨ j = 3 ∨ j = 4 ∨ j = 5 := by omega
  rcases e with rfl | rfl | rfl | rfl | rfl | rfl <;> rfl
theorem size_S (l : List Nat) : (S l).cps.size = l.length := by simp [S]
def sp_tally (K : PySem.W.Frag) : Sp := fun vs H Q _ => ∃ (a : Addr) (zs : List Int) (l : List Nat), vs = [.ref a, .str (S l)] ∧ SqT K H a (zs.map V.int) ∧ OkZ zs ∧ ∀ (H' : Hp) (t : Addr), Same H H' → H t = none → H' t = some (.tup ((cntI zs.length l).map V.int)) → Q (.ref t) H'
def sp__law_counts (K : PySem.W.Frag) : Sp := sp_tally K
def sp_count_beads (K : PySem.W.Frag) : Sp := fun vs H Q _ => ∃ (a : Addr) (zs : List Int) (l : List Nat), vs = [.ref a, .str (S l)] ∧ SqT K H a (zs.map V.int) ∧ OkZ zs ∧ OkR zs l ∧ l.length ≤ 40 ∧ ∀ (H' : Hp) (t : Addr), Same H H' → H t = none → H' t = some (.tup ((cntI zs.length l).map V.int)) → Q (.ref t) H'

-- NEEDS m_grp tally inverse
section
variable {sz : Nat → Nat}
theorem res_cat (hs : ∀ k, 1 ≤ sz k) (a b : List Nat) : res sz (res sz a ++ b) = res sz (a ++ b) := res_eq_of (stk_congL hs (stk_res hs a) b)
theorem res_cat2 (hs : ∀ k, 1 ≤ sz k) (a b : List Nat) : res sz (a ++ res sz b) = res sz (a ++ b) := res_eq_of (stk_congR hs (stk_res hs b) a)
theorem cnt_res_le (hs : ∀ k, 1 ≤ sz k) (k : Nat) : ∀ l : List Nat, (res sz l).count k ≤ l.count k := by
  refine pack_ind hs (fun l h => by rw [h]; exact Nat.le_refl _) fun u c v hq => ?_
  have e : res sz (u ++ (List.replicate (sz c) c ++ v)) = res sz (u ++ v) := res_eq_of (stk_pack (fun y _ => hs y) (hs c))
  rw [e]
  have e2 : (u ++ (List.replicate (sz c) c ++ v)).count k = (u ++ v).count k + (List.replicate (sz c) c).count k := by
    rw [List.count_append, List.count_append, List.count_append]
    omega
  omega
/-- the counts without one bead of the color j -/
def dec (cs : List Nat) (j : Nat) : List Nat := cs.set j (cs.getD j 0 - 1)
theorem dec_len (cs : List Nat) (j : Nat) : (dec cs j).length = cs.length := by unfold dec; rw [List.length_set]
/-- the colors of which beads are left -/
def lft (cs : List Nat) : List Nat := (List.range cs.length).filter fun j => decide (0 < cs.getD j 0)
theorem mem_lft {cs : List Nat} {j : Nat} : j ∈ lft cs ↔ j < cs.length ∧ 0 < cs.getD j 0 := by
  unfold lft
  rw [List.mem_filter, List.mem_range, decide_eq_true_iff]
theorem sum_set (cs : List Nat) (j v : Nat) (h : j < cs.length) : (cs.set j v).sum + cs.getD j 0 = cs.sum + v := by
  induction cs generalizing j with
  | nil => simp at h
  | cons c r ih =>
    cases j with
    | zero => simp [List.sum_cons]; omega
    | succ j =>
      have := ih j (by simpa using h)
      simp only [List.set_cons_succ, List.sum_cons, List.getD_cons_succ]
      omega
theorem dec_sum {cs : List Nat} {j m : Nat} (h : j ∈ lft cs) (hm : cs.sum = m + 1) : (dec cs j).sum = m := by
  obtain ⟨h1, h2⟩ := mem_lft.mp h
  have := sum_set cs j (cs.getD j 0 - 1) h1
  unfold dec
  omega
/-- all rows with these counts that lead from the residue pl to the residue tgt, in ascending order -/
def wl (sz : Nat → Nat) (tgt : List Nat) : Nat → List Nat → List Nat → List (List Nat)
  | 0, _, pl => if pl = tgt then [[]] else []
  | m + 1, cs, pl => (lft cs).flatMap fun j => (wl sz tgt m (dec cs j) (res sz (pl ++ [97 + j]))).map fun w => (97 + j) :: w
/-- the row w has the counts cs -/
def Cnt (cs : List Nat) (w : List Nat) : Prop := (∀ k ∈ w, 97 ≤ k ∧ k < 97 + cs.length) ∧ ∀ j, j < cs.length → w.count (97 + j) = cs.getD j 0
theorem sum_zero {cs : List Nat} (h : cs.sum = 0) (j : Nat) : cs.getD j 0 = 0 := by
  induction cs generalizing j with
  | nil => simp
  | cons c r ih =>
    rw [List.sum_cons] at h
    cases j with
    | zero => simp; omega
    | succ j => simpa using ih (by omega) j
theorem Cnt.nil {cs : List Nat} (h : cs.sum = 0) {w : List Nat} : Cnt cs w ↔ w = [] := by
  constructor
  · rintro ⟨h1, h2⟩
    cases w with
    | nil => rfl
    | cons k r =>
      have hk := h1 k (by simp)
      have := h2 (k - 97) (by omega)
      rw [sum_zero h, show 97 + (k - 97) = k by omega, List.count_cons_self] at this
      omega
  · rintro rfl
    exact ⟨fun k hk => by simp at hk, fun j _ => by rw [sum_zero h]; rfl⟩
theorem getD_set {cs : List Nat} {i j v : Nat} (h : i < cs.length) : (cs.set i v).getD j 0 = if i = j then v else cs.getD j 0 := by
  rw [List.getD_eq_getElem?_getD, List.getD_eq_getElem?_getD, List.getElem?_set]
  by_cases e : i = j
  · subst e
    rw [if_pos rfl, if_pos rfl, if_pos h]
    rfl
  · rw [if_neg e, if_neg e]
theorem Cnt.cons {cs : List Nat} {k : Nat} {w : List Nat} : Cnt cs (k :: w) ↔ ∃ j, k = 97 + j ∧ j ∈ lft cs ∧ Cnt (dec cs j) w := by
  constructor
  · rintro ⟨h1, h2⟩
    have hk := h1 k (by simp)
    have hj : k - 97 < cs.length := by omega
    have hc := h2 (k - 97) hj
    rw [show 97 + (k - 97) = k by omega, List.count_cons_self] at hc
    refine ⟨k - 97, by omega, mem_lft.mpr ⟨hj, by omega⟩, fun y hy => by rw [dec_len]; exact h1 y (by simp [hy]), fun i hi => ?_⟩
    rw [dec_len] at hi
    have := h2 i hi
    unfold dec
    rw [getD_set hj]
    rw [List.count_cons] at this
    by_cases e : k - 97 = i
    · rw [if_pos e]
      subst e
      rw [if_pos (by simp; omega)] at this
      omega
    · rw [if_neg e]
      rw [if_neg (by simp; omega)] at this
      omega
  · rintro ⟨j, rfl, hj, h1, h2⟩
    obtain ⟨hj1, hj2⟩ := mem_lft.mp hj
    refine ⟨fun y hy => ?_, fun i hi => ?_⟩
    · rcases List.mem_cons.mp hy with rfl | hy
      · omega
      · have := h1 y hy
        rw [dec_len] at this
        exact this
    · have := h2 i (by rw [dec_len]; exact hi)
      unfold dec at this
      rw [getD_set hj1] at this
      rw [List.count_cons]
      by_cases e : j = i
      · subst e
        rw [if_pos rfl] at this
        rw [if_pos (by simp)]
        omega
      · rw [if_neg e] at this
        rw [if_neg (by simp; omega)]
        omega
theorem mem_wl (hs : ∀ k, 1 ≤ sz k) {tgt : List Nat} : ∀ {m : Nat} {cs pl w : List Nat}, cs.sum = m → res sz pl = pl → (w ∈ wl sz tgt m cs pl ↔ Cnt cs w ∧ res sz (pl ++ w) = tgt)
  | 0, cs, pl, w, hm, hp => by
    unfold wl
    rw [Cnt.nil hm]
    by_cases h : pl = tgt
    · rw [if_pos h, List.mem_singleton]
      constructor
      · rintro rfl
        exact ⟨rfl, by rw [List.append_nil, hp, h]⟩
      · exact fun z => z.1
    · rw [if_neg h]
      constructor
      · intro z; simp at z
      · rintro ⟨rfl, z⟩
        rw [List.append_nil, hp] at z
        exact absurd z h
  | m + 1, cs, pl, w, hm, hp => by
    unfold wl
    rw [List.mem_flatMap]
    constructor
    · rintro ⟨j, hj, hw⟩
      obtain ⟨w', hw', rfl⟩ := List.mem_map.mp hw
      obtain ⟨h1, h2⟩ := (mem_wl hs (dec_sum hj hm) (res_res hs _)).mp hw'
      refine ⟨Cnt.cons.mpr ⟨j, rfl, hj, h1⟩, ?_⟩
      rw [res_cat hs, List.append_assoc] at h2
      exact h2
    · rintro ⟨hc, hr⟩
      cases w with
      | nil =>
        exfalso
        have h1 : ∀ j, cs.getD j 0 = 0 := fun j => by
          by_cases hj : j < cs.length
          · exact (hc.2 j hj).symm
          · rw [List.getD_eq_getElem?_getD, List.getElem?_eq_none (by omega)]; rfl
        have : ∀ l : List Nat, (∀ j, l.getD j 0 = 0) → l.sum = 0 := by
          intro l
          induction l with
          | nil => intro _; rfl
          | cons c r ih =>
            intro h
            have := h 0
            have h3 := ih fun j => by simpa using h (j + 1)
            rw [List.sum_cons]
            simp at this
            omega
        have := this cs h1
        omega
      | cons k w' =>
        obtain ⟨j, rfl, hj, h1⟩ := Cnt.cons.mp hc
        refine ⟨j, hj, List.mem_map.mpr ⟨w', (mem_wl hs (dec_sum hj hm) (res_res hs _)).mpr ⟨h1, ?_⟩, rfl⟩⟩
        rw [res_cat hs, List.append_assoc]
        exact hr
/-- where the beads that are left do not do, nothing leads there -/
theorem wl_feasible (hs : ∀ k, 1 ≤ sz k) {tgt cs pl : List Nat} {m : Nat} (hm : cs.sum = m) (hp : res sz pl = pl) (h : wl sz tgt m cs pl ≠ []) : ∀ j, j < cs.length → (res sz (inv sz pl ++ tgt)).count (97 + j) ≤ cs.getD j 0 := by
  obtain ⟨w, hw⟩ := List.exists_mem_of_ne_nil _ h
  obtain ⟨h1, h2⟩ := (mem_wl hs hm hp).mp hw
  intro j hj
  have e : res sz (inv sz pl ++ tgt) = res sz w := by
    rw [← h2, res_cat2 hs, ← List.append_assoc]
    exact res_eq_of (stk_congL hs (show stk sz (inv sz pl ++ pl) = stk sz [] from inv_left hs pl) w)
  rw [e]
  exact Nat.le_trans (cnt_res_le hs _ w) (Nat.le_of_eq (h1.2 j hj))
theorem wl_len (tgt cs pl : List Nat) (m : Nat) : (wl sz tgt (m + 1) cs pl).length = ((lft cs).map fun j => (wl sz tgt m (dec cs j) (res sz (pl ++ [97 + j]))).length).sum := by
  show ((lft cs).flatMap fun j => (wl sz tgt m (dec cs j) (res sz (pl ++ [97 + j]))).map fun w => (97 + j) :: w).length = _
  rw [List.length_flatMap]
  congr 1
  refine List.map_congr_left fun j _ => ?_
  rw [List.length_map]
end

-- NEEDS m_wl
section
variable {sz : Nat → Nat}
/-! ### how many states there are -/
theorem nodup_le {α : Type} [DecidableEq α] : ∀ {l m : List α}, l.Nodup → (∀ x ∈ l, x ∈ m) → l.length ≤ m.length
  | [], m, _, _ => Nat.zero_le _
  | x :: r, m, hn, hs => by
    rw [List.nodup_cons] at hn
    have hx := hs x (by simp)
    have := nodup_le (l := r) (m := m.erase x) hn.2 fun y hy => by
      have hne : y ≠ x := fun e => hn.1 (e ▸ hy)
      exact (List.mem_erase_of_ne hne).mpr (hs y (by simp [hy]))
    rw [List.length_erase_of_mem hx] at this
    have hp : 0 < m.length := List.length_pos_of_mem hx
    simp only [List.length_cons]
    omega
def arr : Nat → Nat
  | 0 => 1
  | s + 1 => 1 + (s + 1) * arr s
/-- all rows with at most these counts -/
def subw : Nat → List Nat → List (List Nat)
  | 0, _ => [[]]
  | s + 1, d => [] :: (lft d).flatMap fun j => (subw s (dec d j)).map fun w => (97 + j) :: w
def CntLe (d w : List Nat) : Prop := (∀ k ∈ w, 97 ≤ k ∧ k < 97 + d.length) ∧ ∀ j, j < d.length → w.count (97 + j) ≤ d.getD j 0
theorem lft_len (d : List Nat) : (lft d).length ≤ d.sum := by
  have : ∀ (n : Nat) (d : List Nat), d.length = n → ((List.range n).filter fun j => decide (0 < d.getD j 0)).length ≤ d.sum := by
    intro n
    induction n with
    | zero => intro d _; simp
    | succ n ih =>
      intro d hd
      cases d with
      | nil => simp at hd
      | cons c r =>
        have h := ih r (by simpa using hd)
        rw [List.range_succ_eq_map, List.filter_cons]
        have e : ((List.range n).map Nat.succ).filter (fun j => decide (0 < (c :: r).getD j 0)) = (((List.range n).filter fun j => decide (0 < r.getD j 0)).map Nat.succ) := by
          rw [List.filter_map]
          rfl
        rw [e, List.sum_cons]
        split
        · rename_i hc
          have hc' : 0 < c := by simpa using hc
          rw [List.length_cons, List.length_map]
          omega
        · rw [List.length_map]
          omega
  exact this _ d rfl
theorem subw_len : ∀ {s : Nat} {d : List Nat}, d.sum = s → (subw s d).length ≤ arr s
  | 0, _, _ => Nat.le_refl _
  | s + 1, d, hd => by
    unfold subw arr
    rw [List.length_cons, List.length_flatMap]
    have h1 : ∀ (l : List Nat), (∀ j ∈ l, j ∈ lft d) → (l.map fun j => ((subw s (dec d j)).map fun w => (97 + j) :: w).length).sum ≤ l.length * arr s := by
      intro l
      induction l with
      | nil => intro _; simp
      | cons j r ih =>
        intro hl
        have h2 := subw_len (dec_sum (hl j (by simp)) hd)
        have h3 := ih fun i hi => hl i (by simp [hi])
        rw [List.map_cons, List.sum_cons, List.length_map, List.length_cons, Nat.succ_mul]
        omega
    have h4 := h1 (lft d) fun _ h => h
    have h5 := Nat.mul_le_mul_right (arr s) (lft_len d)
    rw [hd] at h5
    omega
theorem mem_subw : ∀ {s : Nat} {d w : List Nat}, d.sum = s → CntLe d w → w ∈ subw s d
  | 0, d, w, hd, h => by
    unfold subw
    cases w with
    | nil => simp
    | cons k r =>
      exfalso
      have hk := h.1 k (by simp)
      have := h.2 (k - 97) (by omega)
      rw [sum_zero hd, show 97 + (k - 97) = k by omega, List.count_cons_self] at this
      omega
  | s + 1, d, w, hd, h => by
    unfold subw
    cases w with
    | nil => simp
    | cons k r =>
      refine List.mem_cons_of_mem _ (List.mem_flatMap.mpr ?_)
      have hk := h.1 k (by simp)
      have hj : k - 97 < d.length := by omega
      have hc := h.2 (k - 97) hj
      rw [show 97 + (k - 97) = k by omega, List.count_cons_self] at hc
      have hl : k - 97 ∈ lft d := mem_lft.mpr ⟨hj, by omega⟩
      refine ⟨k - 97, hl, List.mem_map.mpr ⟨r, mem_subw (dec_sum hl hd) ⟨fun y hy => by rw [dec_len]; exact h.1 y (by simp [hy]), fun i hi => ?_⟩, by rw [show 97 + (k - 97) = k by omega]⟩⟩
      rw [dec_len] at hi
      have := h.2 i hi
      unfold dec
      rw [getD_set hj]
      rw [List.count_cons] at this
      by_cases e : k - 97 = i
      · rw [if_pos e]
        subst e
        rw [if_pos (by simp; omega)] at this
        omega
      · rw [if_neg e]
        rw [if_neg (by simp; omega)] at this
        omega
/-- all lists of numbers below cs -/
def vecs : List Nat → List (List Nat)
  | [] => [[]]
  | c :: r => (List.range (c + 1)).flatMap fun i => (vecs r).map fun v => i :: v
def VecLe (cs v : List Nat) : Prop := v.length = cs.length ∧ ∀ j, v.getD j 0 ≤ cs.getD j 0
theorem mem_vecs : ∀ {cs v : List Nat}, VecLe cs v → v ∈ vecs cs
  | [], v, h => by
    have : v = [] := List.length_eq_zero_iff.mp h.1
    subst this
    simp [vecs]
  | c :: r, [], h => by simp [VecLe] at h
  | c :: r, i :: v, h => by
    unfold vecs
    have h0 := h.2 0
    simp at h0
    refine List.mem_flatMap.mpr ⟨i, List.mem_range.mpr (by omega), List.mem_map.mpr ⟨v, mem_vecs ⟨by simpa using h.1, fun j => by simpa using h.2 (j + 1)⟩, rfl⟩⟩
theorem pow_ge (c : Nat) : c + 1 ≤ 2 ^ c := by
  induction c with
  | zero => simp
  | succ c ih => rw [Nat.pow_succ]; omega
theorem sum_rep (n m : Nat) : (List.replicate n m).sum = n * m := by
  induction n with
  | zero => simp
  | succ n ih => rw [List.replicate_succ, List.sum_cons, ih, Nat.succ_mul]; omega
theorem vecs_len : ∀ cs : List Nat, (vecs cs).length ≤ 2 ^ cs.sum
  | [] => by simp [vecs]
  | c :: r => by
    unfold vecs
    rw [List.length_flatMap]
    have h1 := vecs_len r
    have : ((List.range (c + 1)).map fun i => ((vecs r).map fun v => i :: v).length) = List.replicate (c + 1) (vecs r).length := by
      refine List.eq_replicate_iff.mpr ⟨by simp, fun b hb => ?_⟩
      obtain ⟨i, _, rfl⟩ := List.mem_map.mp hb
      rw [List.length_map]
    rw [this, sum_rep, List.sum_cons, Nat.pow_add]
    exact Nat.mul_le_mul (pow_ge c) h1
/-- the counts tot without v -/
def subv (tot v : List Nat) : List Nat := (List.range tot.length).map fun j => tot.getD j 0 - v.getD j 0
def allS (sz : Nat → Nat) (tgt tot : List Nat) : List (List Nat × List Nat) := (vecs tot).flatMap fun v =>
  if v.sum ≤ 6 then (subw v.sum v).map fun u => (v, res sz (tgt ++ inv sz u)) else if (subv tot v).sum ≤ 6 then (subw (subv tot v).sum (subv tot v)).map fun p => (v, p) else []
theorem arr_mono {s : Nat} (h : s ≤ 6) : arr s ≤ 1957 := by
  have e : s = 0 ∨ s = 1 ∨ s = 2 ∨ s = 3 ∨ s = 4 ∨ s = 5 ∨ s = 6 := by omega
  rcases e with rfl | rfl | rfl | rfl | rfl | rfl | rfl <;> decide
theorem allS_len {tgt tot : List Nat} (h : tot.sum ≤ 12) : (allS sz tgt tot).length ≤ 8015872 := by
  unfold allS
  rw [List.length_flatMap]
  have h1 : ∀ l : List (List Nat), (l.map fun v => (if v.sum ≤ 6 then (subw v.sum v).map fun u => (v, res sz (tgt ++ inv sz u)) else if (subv tot v).sum ≤ 6 then (subw (subv tot v).sum (subv tot v)).map fun p => (v, p) else []).length).sum ≤ l.length * 1957 := by
    intro l
    induction l with
    | nil => simp
    | cons v r ih =>
      rw [List.map_cons, List.sum_cons, List.length_cons, Nat.succ_mul]
      have : (if v.sum ≤ 6 then (subw v.sum v).map fun u => (v, res sz (tgt ++ inv sz u)) else if (subv tot v).sum ≤ 6 then (subw (subv tot v).sum (subv tot v)).map fun p => (v, p) else []).length ≤ 1957 := by
        split
        · rename_i hv
          rw [List.length_map]
          exact Nat.le_trans (subw_len rfl) (arr_mono hv)
        · split
          · rename_i hv
            rw [List.length_map]
            exact Nat.le_trans (subw_len rfl) (arr_mono hv)
          · simp
      omega
  have h2 := vecs_len tot
  have h3 : 2 ^ tot.sum ≤ 2 ^ 12 := Nat.pow_le_pow_right (by decide) h
  have h4 := h1 (vecs tot)
  have h5 : (vecs tot).length ≤ 4096 := Nat.le_trans h2 h3
  omega
/-- a state that the search may meet: v is left of tot, pl is the residue of what was placed, and v does -/
def GoodS (sz : Nat → Nat) (tgt tot v pl : List Nat) : Prop := VecLe tot v ∧ CntLe (subv tot v) pl ∧ res sz pl = pl ∧ (∀ j, j < v.length → (res sz (inv sz pl ++ tgt)).count (97 + j) ≤ v.getD j 0) ∧ (∀ k ∈ tgt, 97 ≤ k ∧ k < 97 + tot.length)
theorem subv_sum {tot v : List Nat} (h : VecLe tot v) : (subv tot v).sum + v.sum = tot.sum := by
  have : ∀ (tot v : List Nat), VecLe tot v → ((List.range tot.length).map fun j => tot.getD j 0 - v.getD j 0).sum + v.sum = tot.sum := by
    intro tot
    induction tot with
    | nil => intro v h; have : v = [] := List.length_eq_zero_iff.mp h.1; subst this; rfl
    | cons c r ih =>
      intro v h
      cases v with
      | nil => simp [VecLe] at h
      | cons i v =>
        have h0 := h.2 0
        simp at h0
        have := ih v ⟨by simpa using h.1, fun j => by simpa using h.2 (j + 1)⟩
        rw [List.length_cons, List.range_succ_eq_map, List.map_cons, List.sum_cons, List.map_map, List.sum_cons, List.sum_cons]
        have e : (((List.range r.length).map ((fun j => (c :: r).getD j 0 - (i :: v).getD j 0) ∘ Nat.succ))) = (List.range r.length).map fun j => r.getD j 0 - v.getD j 0 := List.map_congr_left fun j _ => by simp
        rw [e]
        simp only [List.getD_cons_zero]
        omega
  exact this tot v h
theorem mem_allS (hs : ∀ k, 1 ≤ sz k) {tgt tot v pl : List Nat} (h : GoodS sz tgt tot v pl) (ht : tot.sum ≤ 12) : (v, pl) ∈ allS sz tgt tot := by
  obtain ⟨h1, h2, h3, h4, h5⟩ := h
  unfold allS
  refine List.mem_flatMap.mpr ⟨v, mem_vecs h1, ?_⟩
  by_cases hv : v.sum ≤ 6
  · rw [if_pos hv]
    refine List.mem_map.mpr ⟨res sz (inv sz pl ++ tgt), mem_subw rfl ⟨fun k hk => ?_, h4⟩, ?_⟩
    · rw [h1.1]
      rcases List.mem_append.mp (stk_mem hk) with z | z
      · have := h2.1 k (inv_mem z)
        unfold subv at this
        rw [List.length_map, List.length_range] at this
        exact this
      · exact h5 k z
    · congr 1
      have e1 : stk sz (inv sz (res sz (inv sz pl ++ tgt))) = stk sz (inv sz tgt ++ pl) := by
        rw [inv_of_stk (stk_res hs _)]
        have := inv_app hs (inv sz pl) tgt
        rw [← stk_res hs (inv sz (inv sz pl ++ tgt)), ← this, res_res hs, stk_res hs]
        refine stk_congR hs ?_ _
        rw [inv_inv hs, stk_res hs]
      have e2 : stk sz (tgt ++ inv sz (res sz (inv sz pl ++ tgt))) = stk sz pl := by
        rw [stk_congR hs e1 tgt, ← List.append_assoc]
        exact stk_congL hs (show stk sz (tgt ++ inv sz tgt) = stk sz [] from inv_right hs tgt) pl
      rw [res_eq_of e2, h3]
  · rw [if_neg hv]
    have := subv_sum h1
    rw [if_pos (by omega)]
    exact List.mem_map.mpr ⟨pl, mem_subw rfl h2, rfl⟩
theorem states_le (hs : ∀ k, 1 ≤ sz k) {tgt tot : List Nat} (ht : tot.sum ≤ 12) {l : List (List Nat × List Nat)} (hn : l.Nodup) (h : ∀ x ∈ l, GoodS sz tgt tot x.1 x.2) : l.length ≤ 8015872 :=
  Nat.le_trans (nodup_le hn fun x hx => mem_allS hs (h x hx) ht) (allS_len ht)
end

-- NEEDS tally m_res reduce_row
/-- the numbers of packs -/
def pkI (zs : List Int) (l : List Nat) (n : Nat) : List Int := (List.range n).map fun j => ((((l.count (97 + j) : Nat) : Int) - ((res (szN zs) l).count (97 + j) : Nat)) / szI zs (97 + j))
theorem pkI_len (zs : List Int) (l : List Nat) (n : Nat) : (pkI zs l n).length = n := by unfold pkI; rw [List.length_map, List.length_range]
theorem szI_get {zs : List Int} {j : Nat} {z : Int} (h : zs[j]? = some z) : szI zs (97 + j) = z := by
  unfold szI
  rw [show 97 + j - 97 = j by omega, List.getD_eq_getElem?_getD, h]
  rfl
def sp_packs_in (K : PySem.W.Frag) : Sp := fun vs H Q _ => ∃ (a : Addr) (zs : List Int) (l : List Nat), vs = [.ref a, .str (S l)] ∧ SqT K H a (zs.map V.int) ∧ OkZ zs ∧ OkR zs l ∧ l.length ≤ 1000 ∧ ∀ (H' : Hp) (t : Addr), Same H H' → H t = none → H' t = some (.tup ((pkI zs l zs.length).map V.int)) → Q (.ref t) H'
def sp_count_packs (K : PySem.W.Frag) : Sp := fun vs H Q _ => ∃ (a : Addr) (zs : List Int) (l : List Nat), vs = [.ref a, .str (S l)] ∧ SqT K H a (zs.map V.int) ∧ OkZ zs ∧ OkR zs l ∧ l.length ≤ 40 ∧ ∀ (H' : Hp) (t : Addr), Same H H' → H t = none → H' t = some (.tup ((pkI zs l zs.length).map V.int)) → Q (.ref t) H'

-- NEEDS packs_in m_grp
/-! numbers of packs -/
theorem count_rep (s k j : Nat) : (List.replicate s k).count j = if k = j then s else 0 := by
  rw [List.count_replicate]
  by_cases h : k = j
  · subst h; simp
  · simp [h]
theorem pkI_pack {zs : List Int} (hZ : OkZ zs) {u v : List Nat} {k j : Nat} (hk : 97 ≤ k ∧ k < 97 + zs.length) (hu : OkR zs u) :
    ((((u ++ (List.replicate (szN zs k) k ++ v)).count j : Nat) : Int) - ((res (szN zs) (u ++ (List.replicate (szN zs k) k ++ v))).count j : Nat)) / szI zs j
      = ((((u ++ v).count j : Nat) : Int) - ((res (szN zs) (u ++ v)).count j : Nat)) / szI zs j + (if k = j then 1 else 0) := by
  have e := res_eq_of (stk_pack (u := u) (v := v) (hu.szpos hZ) (szN_pos hZ k))
  rw [e, List.count_append, List.count_append, List.count_append, count_rep]
  by_cases h : k = j
  · subst h
    rw [if_pos rfl, if_pos rfl]
    have hz := szI_ok hZ hk
    have es : ((szN zs k : Nat) : Int) = szI zs k := by
      show (((szI zs k).toNat : Nat) : Int) = _
      omega
    have e2 : ((u.count k + (szN zs k + v.count k) : Nat) : Int) - ((res (szN zs) (u ++ v)).count k : Nat) = (((u.count k + v.count k : Nat) : Int) - ((res (szN zs) (u ++ v)).count k : Nat)) + 1 * szI zs k := by
      omega
    rw [e2, Int.add_mul_ediv_right _ _ (by omega)]
  · rw [if_neg h, if_neg h, Nat.zero_add, Int.add_zero]
theorem pkI_get {zs : List Int} {l : List Nat} {n j : Nat} (h : j < n) : (pkI zs l n)[j]? = some ((((l.count (97 + j) : Nat) : Int) - ((res (szN zs) l).count (97 + j) : Nat)) / szI zs (97 + j)) := by
  unfold pkI; rw [List.getElem?_map, List.getElem?_range h]; rfl
theorem pkI_rev {zs : List Int} (hZ : OkZ zs) (l : List Nat) (n : Nat) : pkI zs l.reverse n = pkI zs l n := by
  unfold pkI
  refine List.map_congr_left fun j _ => ?_
  rw [res_rev (szN_pos hZ), List.count_reverse, List.count_reverse]
theorem sum_step {f g : Nat → Int} {m : Nat} : ∀ n, (∀ j, j < n → g j = f j + (if m = j then 1 else 0)) → ((List.range n).map g).sum = ((List.range n).map f).sum + (if m < n then 1 else 0)
  | 0, _ => by simp
  | n + 1, h => by
    have ih := sum_step n fun j hj => h j (by omega)
    rw [List.range_succ, List.map_append, List.map_append, List.sum_append, List.sum_append, ih, List.map_singleton, List.map_singleton, List.sum_singleton, List.sum_singleton, h n (by omega)]
    by_cases e : m = n
    · subst e
      rw [if_neg (by omega), if_pos rfl, if_pos (by omega)]; omega
    · rw [if_neg e]
      by_cases e2 : m < n
      · rw [if_pos e2, if_pos (by omega)]; omega
      · rw [if_neg e2, if_neg (by omega)]; omega
theorem pkI_sum {zs : List Int} (hZ : OkZ zs) {u v : List Nat} {m n : Nat} (hm : m < zs.length) (hn : m < n) (hu : OkR zs u) :
    (pkI zs (u ++ (List.replicate (szN zs (97 + m)) (97 + m) ++ v)) n).sum = (pkI zs (u ++ v) n).sum + 1 := by
  have := sum_step (m := m) n (f := fun j => ((((u ++ v).count (97 + j) : Nat) : Int) - ((res (szN zs) (u ++ v)).count (97 + j) : Nat)) / szI zs (97 + j))
    (g := fun j => ((((u ++ (List.replicate (szN zs (97 + m)) (97 + m) ++ v)).count (97 + j) : Nat) : Int) - ((res (szN zs) (u ++ (List.replicate (szN zs (97 + m)) (97 + m) ++ v))).count (97 + j) : Nat)) / szI zs (97 + j))
    (fun j _ => by
      have := pkI_pack hZ (v := v) (j := 97 + j) (k := 97 + m) ⟨by omega, by omega⟩ hu
      rw [this]
      congr 1
      by_cases e : m = j
      · subst e; rw [if_pos rfl, if_pos rfl]
      · rw [if_neg (by omega), if_neg e])
  rw [if_pos hn] at this
  exact this

-- NEEDS _law_pack m_grp reduce_row
/-! moves -/
abbrev Mv := Nat × Bool
/-- true: to the left -/
def sideT : Bool → List Nat
  | true => [108, 101, 102, 116]
  | false => [114, 105, 103, 104, 116]
abbrev mvT (m : Mv) : List V := [iv m.1, .str (S (sideT m.2))]
def nbI (sz : Nat → Nat) (l : List Nat) (m : Mv) : Int := if m.2 = true then (m.1 : Int) - 1 else (m.1 : Int) + (sz (l.getD m.1 0) : Nat)
/-- why a move is rejected; nothing if it is legal -/
def rsn (sz : Nat → Nat) (l : List Nat) (m : Mv) : List Nat :=
  if packB sz l m.1 = true then (if 0 ≤ nbI sz l m ∧ nbI sz l m < (l.length : Nat) then (if l.getD (nbI sz l m).toNat 0 = l.getD m.1 0 then [101, 113, 117, 97, 108] else []) else [101, 110, 100]) else [112, 97, 99, 107]
def legal (sz : Nat → Nat) (l : List Nat) (m : Mv) : Bool := decide (rsn sz l m = [])
/-- the row after a move -/
def moved (sz : Nat → Nat) (l : List Nat) (m : Mv) : List Nat :=
  if m.2 = true then l.take (m.1 - 1) ++ ((l.drop m.1).take (sz (l.getD m.1 0)) ++ ([l.getD (m.1 - 1) 0] ++ l.drop (m.1 + sz (l.getD m.1 0))))
  else l.take m.1 ++ ([l.getD (m.1 + sz (l.getD m.1 0)) 0] ++ ((l.drop m.1).take (sz (l.getD m.1 0)) ++ l.drop (m.1 + sz (l.getD m.1 0) + 1)))
/-- all moves that there could be, in order -/
def allMv (n : Nat) : List Mv := ((List.range n).map fun i => [(i, true), (i, false)]).flatten
theorem allMv_succ (n : Nat) : allMv (n + 1) = allMv n ++ [(n, true), (n, false)] := by
  unfold allMv
  rw [List.range_succ, List.map_append, List.flatten_append]
  simp
theorem allMv_len : ∀ n, (allMv n).length = 2 * n
  | 0 => rfl
  | n + 1 => by rw [allMv_succ, List.length_append, allMv_len n]; show _ + 2 = _; omega
theorem allMv_lt {n : Nat} {m : Mv} (h : m ∈ allMv n) : m.1 < n := by
  unfold allMv at h
  rw [List.mem_flatten] at h
  obtain ⟨y, hy, hm⟩ := h
  obtain ⟨i, hi, rfl⟩ := List.mem_map.mp hy
  rw [List.mem_range] at hi
  have e : m = (i, true) ∨ m = (i, false) := by simpa using hm
  rcases e with rfl | rfl <;> exact hi
theorem mem_allMv {n : Nat} {m : Mv} (h : m.1 < n) : m ∈ allMv n := by
  unfold allMv
  rw [List.mem_flatten]
  refine ⟨_, List.mem_map.mpr ⟨m.1, List.mem_range.mpr h, rfl⟩, ?_⟩
  obtain ⟨i, b⟩ := m
  cases b <;> simp
def legals (sz : Nat → Nat) (l : List Nat) : List Mv := (allMv l.length).filter (legal sz l)
theorem legals_len (sz : Nat → Nat) (l : List Nat) : (legals sz l).length ≤ 2 * l.length := by
  have := List.length_filter_le (legal sz l) (allMv l.length)
  rw [allMv_len] at this
  exact this
theorem legals_mem {sz : Nat → Nat} {l : List Nat} {m : Mv} : m ∈ legals sz l ↔ m.1 < l.length ∧ legal sz l m = true := by
  unfold legals
  rw [List.mem_filter]
  constructor
  · rintro ⟨h1, h2⟩; exact ⟨allMv_lt h1, h2⟩
  · rintro ⟨h1, h2⟩; exact ⟨mem_allMv h1, h2⟩
/-- what a legal move is -/
theorem legal_iff {sz : Nat → Nat} {l : List Nat} {m : Mv} : legal sz l m = true ↔ packB sz l m.1 = true ∧ (0 ≤ nbI sz l m ∧ nbI sz l m < (l.length : Nat)) ∧ l.getD (nbI sz l m).toNat 0 ≠ l.getD m.1 0 := by
  unfold legal rsn
  rw [decide_eq_true_iff]
  by_cases h1 : packB sz l m.1 = true
  · rw [if_pos h1]
    by_cases h2 : 0 ≤ nbI sz l m ∧ nbI sz l m < (l.length : Nat)
    · rw [if_pos h2]
      by_cases h3 : l.getD (nbI sz l m).toNat 0 = l.getD m.1 0
      · rw [if_pos h3]; constructor
        · intro z; simp at z
        · intro z; exact absurd h3 z.2.2
      · rw [if_neg h3]; simp only [true_iff]; exact ⟨h1, h2, h3⟩
    · rw [if_neg h2]; constructor
      · intro z; simp at z
      · intro z; exact absurd z.2.1 h2
  · rw [if_neg h1]; constructor
    · intro z; simp at z
    · intro z; exact absurd z.1 h1
/-- a legal move to the left, to the right -/
theorem legal_left {sz : Nat → Nat} {l : List Nat} {i : Nat} (hi : i < l.length) (h : legal sz l (i, true) = true) : ∃ u x k v, l = u ++ ([x] ++ (List.replicate (sz k) k ++ v)) ∧ i = u.length + 1 ∧ x ≠ k ∧ l.getD i 0 = k ∧ moved sz l (i, true) = u ++ (List.replicate (sz k) k ++ ([x] ++ v)) := by
  obtain ⟨h1, h2, h3⟩ := legal_iff.mp h
  have e : nbI sz l (i, true) = (i : Int) - 1 := rfl
  rw [e] at h2 h3
  have hi1 : 1 ≤ i := by omega
  have en : ((i : Int) - 1).toNat = i - 1 := by omega
  rw [en] at h3
  obtain ⟨k, hk, es⟩ := packAt_split ((packB_iff hi).mp h1)
  have hkd : l.getD i 0 = k := getD_of hk
  have hx := List.getElem?_eq_getElem (show i - 1 < l.length by omega)
  have hxd : l.getD (i - 1) 0 = l[i - 1] := getD_of hx
  have et : l.take i = l.take (i - 1) ++ [l[i - 1]] := by
    have := List.take_add_one (l := l) (i := i - 1)
    rw [show i - 1 + 1 = i by omega, hx] at this
    exact this
  have ed : (l.drop i).take (sz k) = List.replicate (sz k) k := by
    obtain ⟨k', hk', e'⟩ := (packB_iff hi).mp h1
    rw [hk] at hk'; cases hk'; exact e'
  refine ⟨l.take (i - 1), l[i - 1], k, l.drop (i + sz k), ?_, ?_, ?_, hkd, ?_⟩
  · rw [← List.append_assoc, ← et]; exact es
  · rw [List.length_take]; omega
  · rw [← hxd, ← hkd]; exact h3
  · show (if true = true then _ else _) = _
    rw [if_pos rfl]
    show l.take (i - 1) ++ ((l.drop i).take (sz (l.getD i 0)) ++ ([l.getD (i - 1) 0] ++ l.drop (i + sz (l.getD i 0)))) = _
    rw [hkd, ed, hxd]
theorem legal_right {sz : Nat → Nat} {l : List Nat} {i : Nat} (hi : i < l.length) (h : legal sz l (i, false) = true) : ∃ u x k v, l = u ++ (List.replicate (sz k) k ++ ([x] ++ v)) ∧ i = u.length ∧ x ≠ k ∧ l.getD i 0 = k ∧ moved sz l (i, false) = u ++ ([x] ++ (List.replicate (sz k) k ++ v)) := by
  obtain ⟨h1, h2, h3⟩ := legal_iff.mp h
  obtain ⟨k, hk, es⟩ := packAt_split ((packB_iff hi).mp h1)
  have hkd : l.getD i 0 = k := getD_of hk
  have e : nbI sz l (i, false) = (i : Int) + (sz k : Nat) := by
    show (i : Int) + (sz (l.getD i 0) : Nat) = _
    rw [hkd]
  rw [e] at h2 h3
  have en : ((i : Int) + (sz k : Nat)).toNat = i + sz k := by omega
  rw [en, hkd] at h3
  have hn : i + sz k < l.length := by omega
  have hx := List.getElem?_eq_getElem hn
  have hxd : l.getD (i + sz k) 0 = l[i + sz k] := getD_of hx
  have ed : (l.drop i).take (sz k) = List.replicate (sz k) k := by
    obtain ⟨k', hk', e'⟩ := (packB_iff hi).mp h1
    rw [hk] at hk'; cases hk'; exact e'
  have et : l.drop (i + sz k) = [l[i + sz k]] ++ l.drop (i + sz k + 1) := by
    rw [List.drop_eq_getElem_cons hn]; rfl
  refine ⟨l.take i, l[i + sz k], k, l.drop (i + sz k + 1), ?_, ?_, ?_, hkd, ?_⟩
  · rw [← et]; exact es
  · rw [List.length_take]; omega
  · rw [← hxd]; exact h3
  · show (if false = true then _ else _) = _
    rw [if_neg Bool.false_ne_true]
    show l.take i ++ ([l.getD (i + sz (l.getD i 0)) 0] ++ ((l.drop i).take (sz (l.getD i 0)) ++ l.drop (i + sz (l.getD i 0) + 1))) = _
    rw [hkd, ed, hxd]
/-- a legal move keeps the stack, the beads, the length -/
theorem moved_stk {sz : Nat → Nat} (hs : ∀ k, 1 ≤ sz k) {l : List Nat} {m : Mv} (hi : m.1 < l.length) (h : legal sz l m = true) : stk sz (moved sz l m) = stk sz l := by
  obtain ⟨i, b⟩ := m
  cases b with
  | true =>
    obtain ⟨u, x, k, v, e, _, _, _, em⟩ := legal_left hi h
    rw [em, e, stk_pack (fun y _ => hs y) (hs k)]
    have e2 := stk_pack (sz := sz) (u := u ++ [x]) (v := v) (k := k) (fun y _ => hs y) (hs k)
    rw [List.append_assoc, List.append_assoc] at e2
    exact e2.symm
  | false =>
    obtain ⟨u, x, k, v, e, _, _, _, em⟩ := legal_right hi h
    rw [em, e, stk_pack (fun y _ => hs y) (hs k)]
    have e2 := stk_pack (sz := sz) (u := u ++ [x]) (v := v) (k := k) (fun y _ => hs y) (hs k)
    rw [List.append_assoc, List.append_assoc] at e2
    exact e2
theorem moved_perm {sz : Nat → Nat} {l : List Nat} {m : Mv} (hi : m.1 < l.length) (h : legal sz l m = true) : (moved sz l m).Perm l := by
  obtain ⟨i, b⟩ := m
  cases b with
  | true =>
    obtain ⟨u, x, k, v, e, _, _, _, em⟩ := legal_left hi h
    rw [em, e]
    refine List.Perm.append_left u ?_
    rw [← List.append_assoc, ← List.append_assoc]
    exact List.Perm.append_right v List.perm_append_comm
  | false =>
    obtain ⟨u, x, k, v, e, _, _, _, em⟩ := legal_right hi h
    rw [em, e]
    refine List.Perm.append_left u ?_
    rw [← List.append_assoc, ← List.append_assoc]
    exact List.Perm.append_right v List.perm_append_comm

-- NEEDS m_mv checks size_of
def sp_is_pack (K : PySem.W.Frag) : Sp := sp__law_pack K
def sp_reject_reason (K : PySem.W.Frag) : Sp := fun vs H Q _ => ∃ (a t : Addr) (zs : List Int) (l : List Nat) (m : Mv), vs = [.ref a, .str (S l), .ref t] ∧ SqT K H a (zs.map V.int) ∧ OkZ zs ∧ OkR zs l ∧ l.length ≤ 1000 ∧ SqT K H t (mvT m) ∧ m.1 < l.length ∧ ∀ H', Same H H' → Q (.str (S (rsn (szN zs) l m))) H'
theorem szN_int {zs : List Int} {k : Nat} (hZ : OkZ zs) (h : 97 ≤ k ∧ k < 97 + zs.length) : ((szN zs k : Nat) : Int) = szI zs k := by
  have := szI_ok hZ h
  show (((szI zs k).toNat : Nat) : Int) = _
  omega
/-- the moves as they lie in the heap -/
inductive Mvs (K : PySem.W.Frag) (H : Hp) : List V → List Mv → Prop
  | nil : Mvs K H [] []
  | cons {T : Addr} {m : Mv} {vs : List V} {ms : List Mv} : SqT K H T (mvT m) → Mvs K H vs ms → Mvs K H (.ref T :: vs) (m :: ms)
theorem Mvs.same {K : PySem.W.Frag} {H H' : Hp} {vs : List V} {ms : List Mv} (h : Mvs K H vs ms) (s : Same H H') : Mvs K H' vs ms := by
  induction h with
  | nil => exact .nil
  | cons h1 _ ih => exact .cons (s.tup h1) ih
theorem Mvs.upd {K : PySem.W.Frag} {H : Hp} {d : Addr} {o : HO} {xs vs : List V} {ms : List Mv} (h : Mvs K H vs ms) (hd : H d = some (.lst xs)) : Mvs K (upd H d o) vs ms := by
  induction h with
  | nil => exact .nil
  | cons h1 _ ih => exact .cons (sameB_upd.tup hd h1) ih
theorem Mvs.len {K : PySem.W.Frag} {H : Hp} {vs : List V} {ms : List Mv} (h : Mvs K H vs ms) : vs.length = ms.length := by
  induction h with
  | nil => rfl
  | cons _ _ ih => simp [ih]
theorem Mvs.snoc {K : PySem.W.Frag} {H : Hp} {vs : List V} {ms : List Mv} {T : Addr} {m : Mv} (h : Mvs K H vs ms) (hT : SqT K H T (mvT m)) : Mvs K H (vs ++ [.ref T]) (ms ++ [m]) := by
  induction h with
  | nil => exact .cons hT .nil
  | cons h1 _ ih => exact .cons h1 ih
theorem Mvs.get {K : PySem.W.Frag} {H : Hp} {vs : List V} {ms : List Mv} (h : Mvs K H vs ms) : ∀ {j : Nat} {v : V}, vs[j]? = some v → ∃ T m, v = .ref T ∧ ms[j]? = some m ∧ SqT K H T (mvT m) := by
  induction h with
  | nil => intro j v hv; simp at hv
  | cons h1 _ ih =>
    intro j v hv
    cases j with
    | zero => cases hv; exact ⟨_, _, rfl, rfl, h1⟩
    | succ j => exact ih hv
abbrev mvD (m : Mv) : PyData := .tuple [.int ((m.1 : Nat) : Int), .str (S (sideT m.2))]
theorem Mvs.dp {K : PySem.W.Frag} {H : Hp} {vs : List V} {ms : List Mv} (h : Mvs K H vs ms) : DpAll K H vs (ms.map mvD) := by
  induction h with
  | nil => exact .nil
  | cons h1 _ ih => exact .cons (.tup h1 (.cons (.int _) (.cons (.str _) .nil))) ih
def sp_apply_move (K : PySem.W.Frag) : Sp := fun vs H Q _ => ∃ (a t : Addr) (zs : List Int) (l : List Nat) (m : Mv), vs = [.ref a, .str (S l), .ref t] ∧ SqT K H a (zs.map V.int) ∧ OkZ zs ∧ OkR zs l ∧ l.length ≤ 1000 ∧ SqT K H t (mvT m) ∧ m.1 < l.length ∧ legal (szN zs) l m = true ∧ ∀ H', Same H H' → Q (.str (S (moved (szN zs) l m))) H'

-- NEEDS moves m_data
theorem legal_of {zs : List Int} {l : List Nat} {m : Mv} : tl (S (rsn (szN zs) l m)) = tl (S []) ↔ legal (szN zs) l m = true := by
  unfold legal
  rw [decide_eq_true_iff, tl_S, tl_S]
def sp_list_moves (K : PySem.W.Frag) : Sp := fun vs H Q _ => ∃ (a : Addr) (zs : List Int) (l : List Nat), vs = [.ref a, .str (S l)] ∧ SqT K H a (zs.map V.int) ∧ OkZ zs ∧ OkR zs l ∧ l.length ≤ 100 ∧ ∀ (H' : Hp) (t : Addr) (vs' : List V), Same H H' → H t = none → H' t = some (.lst vs') → Mvs K H' vs' (legals (szN zs) l) → Q (.ref t) H'
theorem filter1' {α : Type} {p : α → Bool} {j : α} (h : p j = true) : [j].filter p = [j] := by simp [h]
theorem filter0' {α : Type} {p : α → Bool} {j : α} (h : ¬ p j = true) : [j].filter p = [] := by simp [h]
def sp_legal_moves (K : PySem.W.Frag) : Sp := fun vs H Q _ => ∃ (a : Addr) (zs : List Int) (l : List Nat), vs = [.ref a, .str (S l)] ∧ SqT K H a (zs.map V.int) ∧ OkZ zs ∧ OkR zs l ∧ l.length ≤ 40 ∧ ∀ (H' : Hp) (t : Addr) (vs' : List V), Same H H' → H t = none → H' t = some (.lst vs') → Mvs K H' vs' (legals (szN zs) l) → Q (.ref t) H'
/-- moves that are legal one after another, and the row behind them -/
def Way (sz : Nat → Nat) : List Nat → List Mv → List Nat → Prop
  | l, [], r => l = r
  | l, m :: ms, r => m.1 < l.length ∧ legal sz l m = true ∧ Way sz (moved sz l m) ms r
theorem OkR.perm {zs : List Int} {l r : List Nat} (h : OkR zs l) (hp : r.Perm l) : OkR zs r := fun k hk => h k (hp.mem_iff.mp hk)
theorem moved_len {sz : Nat → Nat} {l : List Nat} {m : Mv} (hi : m.1 < l.length) (h : legal sz l m = true) : (moved sz l m).length = l.length := (moved_perm hi h).length_eq
def sp_apply_moves (K : PySem.W.Frag) : Sp := fun vs H Q _ => ∃ (a b : Addr) (zs : List Int) (l r : List Nat) (vs' : List V) (ms : List Mv), vs = [.ref a, .str (S l), .ref b] ∧ SqT K H a (zs.map V.int) ∧ OkZ zs ∧ OkR zs l ∧ l.length ≤ 40 ∧ SqL K H b vs' ∧ Mvs K H vs' ms ∧ Way (szN zs) l ms r ∧ ∀ H', Same H H' → Q (.str (S r)) H'

-- NEEDS m_mv moves list_moves m_grp m_pk m_data
/-! moves undone; residues have no moves -/
theorem packB_mid {sz : Nat → Nat} (hs : ∀ k, 1 ≤ sz k) {u v : List Nat} {k : Nat} : (u ++ (List.replicate (sz k) k ++ v))[u.length]? = some k ∧ packB sz (u ++ (List.replicate (sz k) k ++ v)) u.length = true := by
  have h1 := hs k
  have hk : (u ++ (List.replicate (sz k) k ++ v))[u.length]? = some k := by
    rw [List.getElem?_append_right (Nat.le_refl _), Nat.sub_self, List.getElem?_append_left (by rw [List.length_replicate]; omega), List.getElem?_replicate]
    rw [if_pos (by omega)]
  refine ⟨hk, ?_⟩
  have hi : u.length < (u ++ (List.replicate (sz k) k ++ v)).length := (List.getElem?_eq_some_iff.mp hk).1
  rw [packB_iff hi]
  refine ⟨k, hk, ?_⟩
  rw [List.drop_left]
  exact List.take_left' (by rw [List.length_replicate])
theorem mk_right {sz : Nat → Nat} (hs : ∀ k, 1 ≤ sz k) {u v : List Nat} {k x : Nat} (hx : x ≠ k) : u.length < (u ++ (List.replicate (sz k) k ++ ([x] ++ v))).length ∧ legal sz (u ++ (List.replicate (sz k) k ++ ([x] ++ v))) (u.length, false) = true ∧
    moved sz (u ++ (List.replicate (sz k) k ++ ([x] ++ v))) (u.length, false) = u ++ ([x] ++ (List.replicate (sz k) k ++ v)) := by
  obtain ⟨hk, hp⟩ := packB_mid hs (u := u) (k := k) (v := [x] ++ v)
  have hi := (List.getElem?_eq_some_iff.mp hk).1
  have hkd := getD_of hk
  have hnx : (u ++ (List.replicate (sz k) k ++ ([x] ++ v)))[u.length + sz k]? = some x := by
    rw [List.getElem?_append_right (by omega), show u.length + sz k - u.length = sz k by omega, List.getElem?_append_right (by rw [List.length_replicate]; omega), List.length_replicate, Nat.sub_self]
    rfl
  have hn := (List.getElem?_eq_some_iff.mp hnx).1
  have hl : legal sz (u ++ (List.replicate (sz k) k ++ ([x] ++ v))) (u.length, false) = true := by
    rw [legal_iff]
    have e : nbI sz (u ++ (List.replicate (sz k) k ++ ([x] ++ v))) (u.length, false) = ((u.length + sz k : Nat) : Int) := by
      show (u.length : Int) + (sz ((u ++ (List.replicate (sz k) k ++ ([x] ++ v))).getD u.length 0) : Nat) = _
      rw [hkd]; omega
    rw [e]
    refine ⟨hp, ⟨by omega, by omega⟩, ?_⟩
    rw [Int.toNat_natCast, getD_of hnx]
    show x ≠ (u ++ (List.replicate (sz k) k ++ ([x] ++ v))).getD u.length 0
    rw [hkd]
    exact hx
  refine ⟨hi, hl, ?_⟩
  obtain ⟨u', x', k', v', e, eu, _, ek, em⟩ := legal_right hi hl
  rw [hkd] at ek
  subst ek
  obtain ⟨e1, e2⟩ := List.append_inj e eu
  have e3 := List.append_cancel_left e2
  have e4 : x = x' ∧ v = v' := by simpa using e3
  rw [em, ← e1, ← e4.1, ← e4.2]
theorem mk_left {sz : Nat → Nat} (hs : ∀ k, 1 ≤ sz k) {u v : List Nat} {k x : Nat} (hx : x ≠ k) : u.length + 1 < (u ++ ([x] ++ (List.replicate (sz k) k ++ v))).length ∧ legal sz (u ++ ([x] ++ (List.replicate (sz k) k ++ v))) (u.length + 1, true) = true ∧
    moved sz (u ++ ([x] ++ (List.replicate (sz k) k ++ v))) (u.length + 1, true) = u ++ (List.replicate (sz k) k ++ ([x] ++ v)) := by
  have ea : u ++ ([x] ++ (List.replicate (sz k) k ++ v)) = (u ++ [x]) ++ (List.replicate (sz k) k ++ v) := by rw [List.append_assoc]
  have el : (u ++ [x]).length = u.length + 1 := by rw [List.length_append]; rfl
  obtain ⟨hk, hp⟩ := packB_mid hs (u := u ++ [x]) (k := k) (v := v)
  rw [el, ← ea] at hk hp
  have hi := (List.getElem?_eq_some_iff.mp hk).1
  have hkd := getD_of hk
  have hnx : (u ++ ([x] ++ (List.replicate (sz k) k ++ v)))[u.length]? = some x := by
    rw [List.getElem?_append_right (Nat.le_refl _), Nat.sub_self]
    rfl
  have hl : legal sz (u ++ ([x] ++ (List.replicate (sz k) k ++ v))) (u.length + 1, true) = true := by
    rw [legal_iff]
    have e : nbI sz (u ++ ([x] ++ (List.replicate (sz k) k ++ v))) (u.length + 1, true) = ((u.length : Nat) : Int) := by
      show ((u.length + 1 : Nat) : Int) - 1 = _
      omega
    rw [e]
    refine ⟨hp, ⟨by omega, by omega⟩, ?_⟩
    rw [Int.toNat_natCast, getD_of hnx]
    show x ≠ (u ++ ([x] ++ (List.replicate (sz k) k ++ v))).getD (u.length + 1) 0
    rw [hkd]
    exact hx
  refine ⟨hi, hl, ?_⟩
  obtain ⟨u', x', k', v', e, eu, _, ek, em⟩ := legal_left hi hl
  rw [hkd] at ek
  subst ek
  obtain ⟨e1, e2⟩ := List.append_inj e (by omega)
  have e3 : x = x' ∧ List.replicate (sz k) k ++ v = List.replicate (sz k) k ++ v' := by simpa using e2
  rw [em, ← e1, ← e3.1, ← List.append_cancel_left e3.2]
/-- the move back -/
def backM (m : Mv) : Mv := if m.2 = true then (m.1 - 1, false) else (m.1 + 1, true)
theorem back_ok {sz : Nat → Nat} (hs : ∀ k, 1 ≤ sz k) {l : List Nat} {m : Mv} (hi : m.1 < l.length) (h : legal sz l m = true) :
    (m.2 = true → 1 ≤ m.1) ∧ (backM m).1 < (moved sz l m).length ∧ legal sz (moved sz l m) (backM m) = true ∧ moved sz (moved sz l m) (backM m) = l ∧ moved sz l m ≠ l := by
  obtain ⟨i, b⟩ := m
  cases b with
  | true =>
    obtain ⟨u, x, k, v, e, ei, hx, _, em⟩ := legal_left hi h
    obtain ⟨h1, h2, h3⟩ := mk_right hs (u := u) (v := v) hx
    have ei' : i = u.length + 1 := ei
    have eb : backM (i, true) = (u.length, false) := by show (i - 1, false) = _; rw [ei']; rfl
    rw [em, eb]
    refine ⟨fun _ => by show 1 ≤ i; omega, h1, h2, by rw [h3, e], fun z => ?_⟩
    rw [e] at z
    have z2 := List.append_cancel_left z
    obtain ⟨s', hs'⟩ : ∃ s', sz k = s' + 1 := ⟨sz k - 1, by have := hs k; omega⟩
    rw [hs', List.replicate_succ] at z2
    have z3 : k = x := by
      have := congrArg List.head? z2
      simpa using this
    exact hx z3.symm
  | false =>
    obtain ⟨u, x, k, v, e, ei, hx, _, em⟩ := legal_right hi h
    obtain ⟨h1, h2, h3⟩ := mk_left hs (u := u) (v := v) hx
    have ei' : i = u.length := ei
    have eb : backM (i, false) = (u.length + 1, true) := by show (i + 1, true) = _; rw [ei']
    rw [em, eb]
    refine ⟨fun z => absurd (show false = true from z) (by decide), h1, h2, by rw [h3, e], fun z => ?_⟩
    rw [e] at z
    have z2 := List.append_cancel_left z
    obtain ⟨s', hs'⟩ : ∃ s', sz k = s' + 1 := ⟨sz k - 1, by have := hs k; omega⟩
    rw [hs', List.replicate_succ] at z2
    have z3 : x = k := by
      have := congrArg List.head? z2
      simpa using this
    exact hx z3
theorem res_noPack {sz : Nat → Nat} (hs : ∀ k, 1 ≤ sz k) (l : List Nat) {i : Nat} (hi : i < (res sz l).length) : packB sz (res sz l) i = false := by
  cases hp : packB sz (res sz l) i with
  | false => rfl
  | true =>
    exfalso
    obtain ⟨k, hk, e⟩ := packAt_split ((packB_iff hi).mp hp)
    have e2 : stk sz (res sz l) = stk sz ((res sz l).take i ++ (res sz l).drop (i + sz k)) := by
      have := stk_pack (sz := sz) (u := (res sz l).take i) (v := (res sz l).drop (i + sz k)) (k := k) (fun y _ => hs y) (hs k)
      rw [← e] at this
      exact this
    have e3 := res_eq_of e2
    rw [res_res hs] at e3
    have h1 : (res sz ((res sz l).take i ++ (res sz l).drop (i + sz k))).length ≤ _ := stk_len (sz := sz) ((res sz l).take i ++ (res sz l).drop (i + sz k))
    rw [← e3, List.length_append] at h1
    have el := congrArg List.length e
    rw [List.length_append, List.length_append, List.length_replicate] at el
    have := hs k
    omega
theorem res_noMoves {sz : Nat → Nat} (hs : ∀ k, 1 ≤ sz k) (l : List Nat) : legals sz (res sz l) = [] := by
  unfold legals
  rw [List.filter_eq_nil_iff]
  intro m hm z
  have h := (legal_iff.mp z).1
  rw [res_noPack hs l (allMv_lt hm)] at h
  exact absurd h (by decide)
theorem pk_res {zs : List Int} (hZ : OkZ zs) (l : List Nat) : ∀ n, (pkI zs (res (szN zs) l) n).sum = 0
  | 0 => rfl
  | n + 1 => by
    have ih := pk_res hZ l n
    unfold pkI at ih ⊢
    rw [List.range_succ, List.map_append, List.sum_append, ih, res_res (szN_pos hZ)]
    simp
theorem pk_moved {zs : List Int} (hZ : OkZ zs) {l : List Nat} {m : Mv} (hi : m.1 < l.length) (h : legal (szN zs) l m = true) (n : Nat) : pkI zs (moved (szN zs) l m) n = pkI zs l n := by
  unfold pkI
  refine List.map_congr_left fun j _ => ?_
  rw [res_eq_of (moved_stk (szN_pos hZ) hi h), (moved_perm hi h).count_eq]
theorem cnt_moved {sz : Nat → Nat} {l : List Nat} {m : Mv} (hi : m.1 < l.length) (h : legal sz l m = true) (n : Nat) : cntI n (moved sz l m) = cntI n l := by
  unfold cntI
  refine List.map_congr_left fun j _ => ?_
  rw [(moved_perm hi h).count_eq]
/-! moves as data -/
theorem mvD_lay (m : Mv) : (mvD m).canLay0 = true := by
  have h : PyData.strOk (S (sideT m.2)) = true := by cases m.2 <;> decide +kernel
  simp [PyData.canLay0, PyData.canLayAll0, h]
theorem mvD_depth (m : Mv) : (mvD m).depth ≤ 2 := by simp [PyData.depth, PyData.depthAll]
theorem mvDs_lay : ∀ ms : List Mv, PyData.canLayAll0 (ms.map mvD) = true
  | [] => by simp [PyData.canLayAll0]
  | m :: ms => by rw [List.map_cons, PyData.canLayAll0, mvD_lay m, mvDs_lay ms]; rfl
theorem mvDs_depth : ∀ ms : List Mv, PyData.depthAll (ms.map mvD) ≤ 2
  | [] => by simp [PyData.depthAll]
  | m :: ms => by
    have h1 := mvDs_depth ms
    have h2 := mvD_depth m
    simp only [List.map_cons, PyData.depthAll]
    omega
theorem mvD_shp (m : Mv) : SeqAt.shaped (mvD m) = true := by
  have h := mvD_depth m
  show ((mvD m).canLay0 && decide ((mvD m).depth ≤ 64)) = true
  rw [Bool.and_eq_true]
  exact ⟨mvD_lay m, decide_eq_true (by omega)⟩
theorem mvDs_shp (ms : List Mv) : SeqAt.shaped (.list (ms.map mvD)) = true := by
  have h1 := mvDs_depth ms
  have h2 : PyData.depth (.list (ms.map mvD)) ≤ 64 := by
    simp only [PyData.depth]
    omega
  show (PyData.canLay0 (.list (ms.map mvD)) && decide (PyData.depth (.list (ms.map mvD)) ≤ 64)) = true
  rw [Bool.and_eq_true]
  exact ⟨by simp only [PyData.canLay0]; exact mvDs_lay ms, decide_eq_true h2⟩
theorem mvD_refl (m : Mv) : PyData.eqv (mvD m) (mvD m) = true := by simp [PyData.eqv, PyData.eqvAll]
theorem mvDs_any {ms : List Mv} {m : Mv} (h : m ∈ ms) : ((ms.map mvD).any fun z => PyData.eqv z (mvD m)) = true := by
  rw [List.any_eq_true]
  exact ⟨_, List.mem_map.mpr ⟨m, h, rfl⟩, mvD_refl m⟩

-- NEEDS moves list_moves m_data _law_pack
abbrev s__law_reason : Stmt := topS 39
theorem sc__law_reason : FnScope ["_law_sizes_here", "_law_row_here", "_law_move", "_law_at", "_law_side", "_law_other"] ["_law_sizes_here", "_law_row_here", "_law_move"] (defScope s__law_reason) := ⟨rfl, rfl, rfl, by decide +kernel, rfl, by decide +kernel, by decide +kernel⟩

abbrev s__law_moves : Stmt := topS 40
theorem sc__law_moves : FnScope ["_law_sizes_here", "_law_row_here", "_law_every", "_law_at", "_law_move"] ["_law_sizes_here", "_law_row_here"] (defScope s__law_moves) := ⟨rfl, rfl, rfl, by decide +kernel, rfl, by decide +kernel, by decide +kernel⟩

abbrev s__law_moved : Stmt := topS 41
theorem sc__law_moved : FnScope ["_law_sizes_here", "_law_row_here", "_law_move", "_law_at", "_law_side", "_law_size_here", "_law_rest", "_law_target"] ["_law_sizes_here", "_law_row_here", "_law_move"] (defScope s__law_moved) := ⟨rfl, rfl, rfl, by decide +kernel, rfl, by decide +kernel, by decide +kernel⟩

theorem iteF {c A B : Prop} [Decidable c] (h : ¬ c) (b : B) : if c then A else B := by rw [if_neg h]; exact b
def sp__law_reason (K : PySem.W.Frag) : Sp := sp_reject_reason K
theorem ok__law_reason {f : Addr} {fd : FuncData} (F : Fun K "_law_reason" "_law_reason" s__law_reason f fd) (B : Bi mg) (C__law_pack : Cal P w K mg base CX0 2 "_law_pack" ["_law_sizes_here", "_law_row_here", "_law_at"] (sp__law_pack K)) (C__law_size : Cal P w K mg base CX0 1 "_law_size" ["_law_sizes_here", "_law_bead"] (sp__law_size K)) : FnOk P w K mg base CX0 3 f fd ["_law_sizes_here", "_law_row_here", "_law_move"] (sp__law_reason K) := by
  refine F.ok sc__law_reason (fun vs H Q E h => ?_) (fun cdv A outer s H vs Q E hr h => ?_)
  · obtain ⟨a, t, zs, l, m, rfl, _⟩ := h
    rfl
  · obtain ⟨a, t, zs, l, ⟨i, b⟩, rfl, hT, hZ, hR, hl, hm, hi, q⟩ := h
    refine ⟨_, (pss_cons (ps_if (pw_or (pt_not (pt_truG (K := K) (pe_callB (cr_isiG (K := K) .ktuple) (by rfl) B.isinstance bt_isinstance (pa_cons (gv 2) (pa_cons (pe_bltn (v := .ty "tuple") (by rfl) B.tuple bt_tuple rfl) pa_nil))))) (pw_or1 (pt_cmpG (op_neG (K := K) hr.units) (pe_callB (cr_lenG (K := K)) (by rfl) B.len bt_len (pa_cons (gv 2) pa_nil)) pe_int (nomark _)))).pt
      (pss_one (ps_ret (pe_strC [102, 111, 114, 109] (by decide +kernel))))
      pss_nil)
      (pss_cons (ps_asg (gv 2) (pg_nm (K := K) (is := [3, 4]) (pgs_cons (pg_name (i := 3) sc__law_reason.nd rfl (.inl rfl)) (pgs_cons (pg_name (i := 4) sc__law_reason.nd rfl (.inl rfl)) pgs_nil)) nm2))
      (pss_cons (ps_if (pw_or (pt_not (pt_truG (K := K) (pe_callB (cr_isiG (K := K) .kint) (by rfl) B.isinstance bt_isinstance (pa_cons (gv 3) (pa_cons (pe_bltn (v := .ty "int") (by rfl) B.int bt_int rfl) pa_nil))))) (pw_or (pt_truG (K := K) (pe_callB (cr_isiG (K := K) .kbool) (by rfl) B.isinstance bt_isinstance (pa_cons (gv 3) (pa_cons (pe_bltn (v := .ty "bool") (by rfl) B.bool bt_bool rfl) pa_nil)))) (pw_or1 (pt_not (pt_chainG op_leG op_ltG pe_int (gv 3) (pe_callB (cr_lenG (K := K)) (by rfl) B.len bt_len (pa_cons (gv 1) pa_nil))))))).pt
      (pss_one (ps_ret (pe_strC [102, 111, 114, 109] (by decide +kernel))))
      pss_nil)
      (pss_cons (ps_if (pw_or (pt_not (pt_truG (K := K) (pe_callB (cr_isiG (K := K) .kstr) (by rfl) B.isinstance bt_isinstance (pa_cons (gv 4) (pa_cons (pe_bltn (v := .ty "str") (by rfl) B.str bt_str rfl) pa_nil))))) (pw_or1 (pt_cmpG (op_notInG (K := K)) (gv 4) (pe_tup (pa_cons (pe_strC [108, 101, 102, 116] (by decide +kernel)) (pa_cons (pe_strC [114, 105, 103, 104, 116] (by decide +kernel)) pa_nil))) rfl))).pt
      (pss_one (ps_ret (pe_strC [102, 111, 114, 109] (by decide +kernel))))
      pss_nil)
      (pss_cons (ps_if (pt_not (pt_truG (K := K) (pe_cal C__law_pack (hr.mono (by decide)) pass0 (pa_cons (gv 0) (pa_cons (gv 1) (pa_cons (gv 3) pa_nil))))))
      (pss_one (ps_ret (pe_strC [112, 97, 99, 107] (by decide +kernel))))
      pss_nil)
      (pss_cutG (ps_set (i := 5) sc__law_reason.nd rfl (.inl rfl) (pe_ifExp (pt_cmpG (op_eqG (K := K) hr.units) (gv 4) (pe_strC [108, 101, 102, 116] (by decide +kernel)) (nomark _)) (pe_op op_subG (gv 3) pe_int) (pe_op (op_addG (K := K)) (gv 3) (pe_cal C__law_size (hr.mono (by decide)) pass0 (pa_cons (gv 0) (pa_cons (pe_ix (ixG (K := K)) (gv 1) (gv 3) (fun _ _ => rfl)) pa_nil))))))
      (pss_cons (ps_if (pw_or (pt_cmpG op_ltG (gv 5) pe_int (nomark _)) (pw_or1 (pt_cmpG op_geG (gv 5) (pe_callB (cr_lenG (K := K)) (by rfl) B.len bt_len (pa_cons (gv 1) pa_nil)) (nomark _)))).pt
      (pss_one (ps_ret (pe_strC [101, 110, 100] (by decide +kernel))))
      pss_nil)
      (pss_one (ps_ret (pe_ifExp (pt_cmpG (op_eqG (K := K) hr.units) (pe_ix (ixG (K := K)) (gv 1) (gv 5) (fun _ _ => rfl)) (pe_ix (ixG (K := K)) (gv 1) (gv 3) (fun _ _ => rfl)) (nomark _)) (pe_strC [101, 113, 117, 97, 108] (by decide +kernel)) (pe_strC [] (by decide +kernel)))))))))))), ?_⟩
    have hi' : i < l.length := hi
    have hk := List.getElem?_eq_getElem hi'
    have hk1 := hR _ (List.getElem_mem hi')
    have hz := szI_ok hZ hk1
    have hsn := szN_int hZ hk1
    have hkd : l.getD i 0 = l[i] := getD_of hk
    refine ⟨rfl, .inr ⟨⟨_, hm⟩, ?_⟩⟩
    refine ⟨_, .inr hm, ?_⟩
    refine ⟨_, hm, rfl, rfl, ?_⟩
    have c0 : decide ((0 : Int) ≤ ((i : Nat) : Int)) = true := decide_eq_true (by omega)
    have c1 : decide (((i : Nat) : Int) < (((tl (S l)).length : Nat) : Int)) = true := decide_eq_true (by rw [tl_S]; omega)
    refine ⟨by rw [tl_S]; omega, iteB ⟨fun z => ?_, fun _ => ?_⟩⟩
    · have z' : (!decide (((i : Nat) : Int) < (((tl (S l)).length : Nat) : Int))) = true := z
      rw [c1] at z'
      exact absurd z' (by decide)
    refine ⟨rfl, by show 2 ≤ sizeLine; decide, fun p hp => ⟨_, .inr (SqT.of upd_same), rfl, rfl, ?_⟩⟩
    have hin : inV (.str (S (sideT b))) [.str (S [108, 101, 102, 116]), .str (S [114, 105, 103, 104, 116])] = true := by cases b <;> decide
    show if (!inV (.str (S (sideT b))) [.str (S [108, 101, 102, 116]), .str (S [114, 105, 103, 104, 116])]) = true then _ else _
    rw [hin]
    have sp1 := same_upd (o := .tup [.str (S [108, 101, 102, 116]), .str (S [114, 105, 103, 104, 116])]) hp
    have q := q _ sp1
    have hT := sp1.tup hT
    have hm := sp1.tup hm
    generalize upd H p (.tup [.str (S [108, 101, 102, 116]), .str (S [114, 105, 103, 104, 116])]) = H1 at *
    refine ⟨a, zs, l, i, rfl, hT, hZ, hR, hi', hl, ?_⟩
    unfold rsn at q
    by_cases hp : packB (szN zs) l i = true
    · rw [hp]
      rw [if_pos hp] at q
      refine ⟨fun σ' H' => σ' = [some (.ref a), some (.str (S l)), some (.ref t), some (iv i), some (.str (S (sideT b))), some (.int (nbI (szN zs) l (i, b)))] ∧ H' = H1, ?_, ?_⟩
      · cases b with
        | true => exact ⟨rfl, rfl⟩
        | false =>
          refine ⟨l[i], by rw [tl_S]; omega, atI_nat hk, a, zs, l[i], rfl, hT, hk1.1, hk1.2, hZ.six, ?_, rfl⟩
          show _ = [some (.ref a), some (.str (S l)), some (.ref t), some (iv i), some (.str (S (sideT false))), some (.int ((i : Int) + (szN zs (l.getD i 0) : Nat)))]
          rw [hkd, hsn]
          rfl
      · rintro σ' H' ⟨rfl, rfl⟩
        generalize nbI (szN zs) l (i, b) = nb at *
        have fin : (0 ≤ nb ∧ nb < (l.length : Nat)) → Q (.str (S (if l.getD nb.toNat 0 = l.getD i 0 then [101, 113, 117, 97, 108] else []))) H' := fun z => by rw [if_pos z] at q; exact q
        have end' : ¬ (0 ≤ nb ∧ nb < (l.length : Nat)) → Q (.str (S [101, 110, 100])) H' := fun z => by rw [if_neg z] at q; exact q
        refine iteB ⟨fun c1 => ?_, fun c1 => ⟨by rw [tl_S]; omega, iteB ⟨fun c2 => ?_, fun c2 => ?_⟩⟩⟩
        · exact end' fun z => by
            have : nb < 0 := of_decide_eq_true c1
            omega
        · exact end' fun z => by
            have : (((tl (S l)).length : Nat) : Int) ≤ nb := of_decide_eq_true c2
            rw [tl_S] at this
            omega
        · have h0 : 0 ≤ nb := by
            rcases Int.lt_or_le nb 0 with z | z
            · exact absurd (decide_eq_true z) c1
            · exact z
          have h1 : nb < (l.length : Nat) := by
            rcases Int.lt_or_le nb (l.length : Nat) with z | z
            · exact z
            · exact absurd (decide_eq_true (show (((tl (S l)).length : Nat) : Int) ≤ nb by rw [tl_S]; exact z)) c2
          have q := fin ⟨h0, h1⟩
          obtain ⟨nn, rfl⟩ := Int.eq_ofNat_of_zero_le h0
          have hn := List.getElem?_eq_getElem (show nn < l.length by omega)
          rw [Int.toNat_natCast, getD_of hn, hkd] at q
          refine ⟨l[nn], by rw [tl_S]; omega, atI_nat hn, l[i], by rw [tl_S]; omega, atI_nat hk, iteB ⟨fun c3 => ?_, fun c3 => ?_⟩⟩
          · have : l[nn] = l[i] := by
              have := of_decide_eq_true c3
              rw [tl_S, tl_S] at this
              simpa using this
            rw [if_pos this] at q
            exact q
          · have : ¬ l[nn] = l[i] := fun z => c3 (decide_eq_true (by rw [z]))
            rw [if_neg this] at q
            exact q
    · have hp' : packB (szN zs) l i = false := by cases h : packB (szN zs) l i with
        | true => exact absurd h hp
        | false => rfl
      rw [hp']
      rw [if_neg hp] at q
      exact q
def sp__law_moves (K : PySem.W.Frag) : Sp := sp_list_moves K
theorem ok__law_moves {f : Addr} {fd : FuncData} (F : Fun K "_law_moves" "_law_moves" s__law_moves f fd) (B : Bi mg) (C__law_reason : Cal P w K mg base CX0 3 "_law_reason" ["_law_sizes_here", "_law_row_here", "_law_move"] (sp__law_reason K)) : FnOk P w K mg base CX0 4 f fd ["_law_sizes_here", "_law_row_here"] (sp__law_moves K) := by
  refine F.ok sc__law_moves (fun vs H Q E h => ?_) (fun cdv A outer s H vs Q E hr h => ?_)
  · obtain ⟨a, zs, l, rfl, _⟩ := h
    rfl
  · obtain ⟨a, zs, l, rfl, hT, hZ, hR, hl, q⟩ := h
    refine ⟨_, (pss_cons (ps_set (i := 2) sc__law_moves.nd rfl (.inl rfl) (pe_lst pa_nil))
      (pss_cons (ps_for PassesOwn.never rfl (pi_range1 (by rfl) B.range (pa_cons (pe_callB (cr_lenG (K := K)) (by rfl) B.len bt_len (pa_cons (gv 1) pa_nil)) pa_nil)) (pg_name (i := 3) sc__law_moves.nd rfl (.inl rfl))
      (pss_one (ps_set (i := 2) sc__law_moves.nd rfl (.inl rfl) (pe_op (op_addG (K := K)) (gv 2) (pe_lst (pa_cons (pe_tup (pa_cons (gv 3) (pa_cons (pe_strC [108, 101, 102, 116] (by decide +kernel)) pa_nil))) (pa_cons (pe_tup (pa_cons (gv 3) (pa_cons (pe_strC [114, 105, 103, 104, 116] (by decide +kernel)) pa_nil))) pa_nil)))))))
      (pss_one (ps_ret (pe_lc (own := [("_law_move", 4)]) (by rfl) sc__law_moves.nd (pi_seqG (K := K) (gv 2)) (blkOk_by (N := ["_law_sizes_here", "_law_row_here", "_law_every", "_law_at", "_law_move"]) (sc := defScope s__law_moves) (by decide +kernel)) (fun _ _ _ _ _ => (pg_name (i := 4) sc__law_moves.nd rfl (.inl rfl))) (fun _ _ _ _ _ => pts_one (pt_cmpG (op_eqG (K := K) hr.units) (pe_cal C__law_reason (hr.mono (by decide)) pass0 (pa_cons (gv 0) (pa_cons (gv 1) (pa_cons (gv 4) pa_nil)))) (pe_strC [] (by decide +kernel)) (nomark _))) (fun _ _ _ _ _ => (gv 4))))))), ?_⟩
    refine ⟨Nat.zero_le _, fun ev hev => ?_⟩
    refine ⟨by rw [tl_S]; omega, _, rfl, by omega, by rw [tl_S]; omega, ?_⟩
    rw [tl_S, Int.toNat_natCast]
    refine for_range (fun i σ H' => ∃ ev acc y3 y4, σ = [some (.ref a), some (.str (S l)), some (.ref ev), y3, y4] ∧ Same H H' ∧ H' ev = some (.lst acc) ∧ Mvs K H' acc (allMv i)) ⟨ev, [], none, none, rfl, same_upd hev, upd_same, .nil⟩ ?_ ?_
    · rintro i σ H1 hi ⟨ev, acc, y3, y4, rfl, s1, hev1, hM⟩
      have hl2 := hM.len
      rw [allMv_len] at hl2
      refine ⟨by show 2 ≤ sizeLine; decide, fun p1 hp1 => ⟨by show 2 ≤ sizeLine; decide, fun p2 hp2 => ⟨by show 2 ≤ sizeLine; decide, fun p3 hp3 => ?_⟩⟩⟩
      rw [show (0 : Int) + (i : Nat) = (i : Nat) from Int.zero_add _]
      rw [show (0 : Int) + (i : Nat) = (i : Nat) from Int.zero_add _] at hp3 hp2
      have t1 := same_upd (o := .tup [.int (i : Nat), .str (S [108, 101, 102, 116])]) hp1
      have t2 := same_upd (o := .tup [.int (i : Nat), .str (S [114, 105, 103, 104, 116])]) hp2
      have t3 := same_upd (o := .lst [.ref p1, .ref p2]) hp3
      refine .inl ⟨acc, [.ref p1, .ref p2], (t1.trans (t2.trans t3)) _ _ hev1, upd_same, by show _ + 2 ≤ _; omega, fun p4 hp4 => ?_⟩
      have t4 := same_upd (o := .lst (acc ++ [.ref p1, .ref p2])) hp4
      refine ⟨p4, acc ++ [.ref p1, .ref p2], _, _, rfl, s1.trans (t1.trans (t2.trans (t3.trans t4))), upd_same, ?_⟩
      have h1 : SqT K _ p1 (mvT (i, true)) := SqT.of (t4 _ _ (t3 _ _ (t2 _ _ upd_same)))
      have h2 : SqT K _ p2 (mvT (i, false)) := SqT.of (t4 _ _ (t3 _ _ upd_same))
      have := ((hM.same (t1.trans (t2.trans (t3.trans t4)))).snoc h1).snoc h2
      rw [List.append_assoc, List.append_assoc] at this
      rw [allMv_succ]
      exact this
    · rintro σ H1 ⟨ev, acc, y3, y4, rfl, s1, hD1, hM⟩
      refine .inl ⟨_, SqL.of hD1, fun D2 hD2 => ?_⟩
      refine lc_list (xs := acc) (fun j H' => ∃ ac2, Same H1 H' ∧ H' D2 = some (.lst ac2) ∧ Mvs K H' ac2 (((allMv l.length).take j).filter (legal (szN zs) l))) ⟨[], same_upd hD2, upd_same, .nil⟩ ?_ ?_ ?_
      · rintro j H2 hj ⟨ac2, s2, _⟩
        exact s2.seq (SqL.of hD1)
      · rintro j x H2 hx ⟨ac2, s2, hD3, hM3⟩
        obtain ⟨T, m, rfl, hm, hTm⟩ := hM.get hx
        have hml := allMv_lt (List.mem_of_getElem? hm)
        have hl2 := hM3.len
        have hl3 := List.length_filter_le (legal (szN zs) l) ((allMv l.length).take j)
        rw [List.length_take, allMv_len] at hl3
        refine ⟨rfl, a, T, zs, l, m, rfl, (s1.trans s2).tup hT, hZ, hR, by omega, s2.tup hTm, hml, fun H3 s3 => iteB ⟨fun e => ?_, fun e => ?_⟩⟩
        · have e' : legal (szN zs) l m = true := legal_of.mp (of_decide_eq_true e)
          refine ⟨ac2, s3 _ _ hD3, small1000 (by omega), ac2 ++ [.ref T], (s2.trans s3).at hD2, upd_same, ?_⟩
          rw [List.take_add_one, hm, List.filter_append]
          have : (some m).toList.filter (legal (szN zs) l) = [m] := filter1' e'
          rw [this]
          exact ((hM3.same s3).snoc ((s2.trans s3).tup hTm)).upd (s3 _ _ hD3)
        · have e' : ¬ legal (szN zs) l m = true := fun z => e (decide_eq_true (legal_of.mpr z))
          refine ⟨ac2, s2.trans s3, s3 _ _ hD3, ?_⟩
          rw [List.take_add_one, hm, List.filter_append]
          have : (some m).toList.filter (legal (szN zs) l) = [] := filter0' e'
          rw [this, List.append_nil]
          exact hM3.same s3
      · rintro H2 ⟨ac2, s2, hD3, hM3⟩
        rw [hM.len, List.take_length] at hM3
        exact q H2 D2 ac2 (s1.trans s2) (s1.free hD2) hD3 hM3
def sp__law_moved (K : PySem.W.Frag) : Sp := sp_apply_move K
theorem moved_alt {sz : Nat → Nat} {l : List Nat} {i : Nat} {b : Bool} (hi : i < l.length) (h : legal sz l (i, b) = true) :
    let rest := l.take i ++ l.drop (i + sz (l.getD i 0))
    let t := if b = true then i - 1 else i + 1
    (b = true → 1 ≤ i) ∧ rest.take t ++ (List.replicate (sz (l.getD i 0)) (l.getD i 0) ++ rest.drop t) = moved sz l (i, b) := by
  cases b with
  | true =>
    obtain ⟨u, x, k, v, e, ei, hx, hk, em⟩ := legal_left hi h
    refine ⟨fun _ => by omega, ?_⟩
    rw [em, hk]
    have e1 : l.take i = u ++ [x] := by rw [e, ei, ← List.append_assoc]; exact List.take_left' (by rw [List.length_append]; rfl)
    have e2 : l.drop (i + sz k) = v := by
      rw [e, ei, ← List.append_assoc, ← List.append_assoc]
      exact List.drop_left' (by rw [List.length_append, List.length_append, List.length_replicate]; rfl)
    rw [e1, e2]
    have et : (if true = true then i - 1 else i + 1) = u.length := by rw [if_pos rfl]; omega
    rw [et, List.append_assoc, List.take_left, List.drop_left]
  | false =>
    obtain ⟨u, x, k, v, e, ei, hx, hk, em⟩ := legal_right hi h
    refine ⟨fun z => absurd z (by decide), ?_⟩
    rw [em, hk]
    have e1 : l.take i = u := by rw [e, ei]; exact List.take_left
    have e2 : l.drop (i + sz k) = [x] ++ v := by
      rw [e, ei, ← List.append_assoc]
      exact List.drop_left' (by rw [List.length_append, List.length_replicate])
    rw [e1, e2]
    have et : (if false = true then i - 1 else i + 1) = (u ++ [x]).length := by rw [if_neg Bool.false_ne_true, List.length_append]; show i + 1 = _ + 1; omega
    have ea : u ++ ([x] ++ v) = (u ++ [x]) ++ v := by rw [List.append_assoc]
    rw [et, ea, List.take_left, List.drop_left, List.append_assoc]
theorem ok__law_moved {f : Addr} {fd : FuncData} (F : Fun K "_law_moved" "_law_moved" s__law_moved f fd) (B : Bi mg) (C__law_size : Cal P w K mg base CX0 1 "_law_size" ["_law_sizes_here", "_law_bead"] (sp__law_size K)) : FnOk P w K mg base CX0 2 f fd ["_law_sizes_here", "_law_row_here", "_law_move"] (sp__law_moved K) := by
  refine F.ok sc__law_moved (fun vs H Q E h => ?_) (fun cdv A outer s H vs Q E hr h => ?_)
  · obtain ⟨a, t, zs, l, m, rfl, _⟩ := h
    rfl
  · obtain ⟨a, t, zs, l, ⟨i, b⟩, rfl, hT, hZ, hR, hl, hm, hi, hlg, q⟩ := h
    refine ⟨_, (pss_cons (ps_asg (gv 2) (pg_nm (K := K) (is := [3, 4]) (pgs_cons (pg_name (i := 3) sc__law_moved.nd rfl (.inl rfl)) (pgs_cons (pg_name (i := 4) sc__law_moved.nd rfl (.inl rfl)) pgs_nil)) nm2))
      (pss_cons (ps_set (i := 5) sc__law_moved.nd rfl (.inl rfl) (pe_cal C__law_size (hr.mono (by decide)) pass0 (pa_cons (gv 0) (pa_cons (pe_ix (ixG (K := K)) (gv 1) (gv 3) (fun _ _ => rfl)) pa_nil))))
      (pss_cons (ps_set (i := 6) sc__law_moved.nd rfl (.inl rfl) (pe_op (op_addG (K := K)) (pe_slice (slG (K := K)) (gv 1) po_none (po_someG (gv 3))) (pe_slice (slG (K := K)) (gv 1) (po_someG (pe_op (op_addG (K := K)) (gv 3) (gv 5))) po_none)))
      (pss_cutG (ps_set (i := 7) sc__law_moved.nd rfl (.inl rfl) (pe_ifExp (pt_cmpG (op_eqG (K := K) hr.units) (gv 4) (pe_strC [108, 101, 102, 116] (by decide +kernel)) (nomark _)) (pe_op op_subG (gv 3) pe_int) (pe_op (op_addG (K := K)) (gv 3) pe_int)))
      (pss_one (ps_ret (pe_op (op_addG (K := K)) (pe_op (op_addG (K := K)) (pe_slice (slG (K := K)) (gv 6) po_none (po_someG (gv 7))) (pe_op (op_mulG (K := K)) (pe_ix (ixG (K := K)) (gv 1) (gv 3) (fun _ _ => rfl)) (gv 5))) (pe_slice (slG (K := K)) (gv 6) (po_someG (gv 7)) po_none)))))))), ?_⟩
    have hi' : i < l.length := hi
    have hk := List.getElem?_eq_getElem hi'
    have hk1 := hR _ (List.getElem_mem hi')
    have hz := szI_ok hZ hk1
    have hkd : l.getD i 0 = l[i] := getD_of hk
    have q := q H (Same.refl H)
    obtain ⟨hb, he⟩ := moved_alt hi' hlg
    rw [hkd] at he
    generalize hke : l[i] = k at *
    have c1 : cutL (tl (S l)) none (some ((i : Nat) : Int)) = l.take i := by rw [tl_S, cutL_to l (by omega), Int.toNat_natCast]
    have c2 : cutL (tl (S l)) (some (((i : Nat) : Int) + szI zs k)) none = l.drop (i + szN zs k) := by
      rw [tl_S, cutL_from l (by omega)]
      congr 1
      show _ = i + (szI zs k).toNat
      omega
    refine ⟨_, hm, k, by rw [tl_S]; omega, atI_nat hk, a, zs, k, rfl, hT, hk1.1, hk1.2, hZ.six, by rw [tl_S]; omega, by rw [tl_S]; omega, ?_, ?_⟩
    · rw [c1, c2, tl_S, tl_S, List.length_take, List.length_drop]; omega
    rw [c1, c2, tl_S, tl_S]
    have hrl : (l.take i ++ l.drop (i + szN zs k)).length ≤ 1000 := by rw [List.length_append, List.length_take, List.length_drop]; omega
    generalize l.take i ++ l.drop (i + szN zs k) = rest at *
    refine ⟨fun σ' H' => σ' = [some (.ref a), some (.str (S l)), some (.ref t), some (iv i), some (.str (S (sideT b))), some (.int (szI zs k)), some (.str (S rest)), some (iv (if b = true then i - 1 else i + 1))] ∧ H' = H, ?_, ?_⟩
    · cases b with
      | true =>
        have := hb rfl
        refine ⟨?_, rfl⟩
        rw [if_pos rfl]
        show _ = [some (.ref a), some (.str (S l)), some (.ref t), some (iv i), some (.str (S (sideT true))), some (.int (szI zs k)), some (.str (S rest)), some (.int ((i - 1 : Nat) : Int))]
        rw [show ((i - 1 : Nat) : Int) = (i : Int) - 1 by omega]
        rfl
      | false => exact ⟨rfl, rfl⟩
    · rintro σ' H' ⟨rfl, rfl⟩
      generalize (if b = true then i - 1 else i + 1) = tg at *
      have d1 : cutL (tl (S rest)) none (some ((tg : Nat) : Int)) = rest.take tg := by rw [tl_S, cutL_to rest (by omega), Int.toNat_natCast]
      have d2 : cutL (tl (S rest)) (some ((tg : Nat) : Int)) none = rest.drop tg := by rw [tl_S, cutL_from rest (by omega), Int.toNat_natCast]
      have lz : (repL (szI zs k).toNat [k]).length ≤ 4 := by rw [repL_one, List.length_replicate]; omega
      refine ⟨by rw [tl_S]; omega, k, by rw [tl_S]; omega, atI_nat hk, ⟨by omega, by omega, ?_⟩, ?_, by rw [tl_S]; omega, ?_, ?_⟩
      · show 1 * (szI zs k).toNat ≤ 1000000
        omega
      · rw [d1]; simp only [tl_S]; rw [List.length_take]; omega
      · rw [d1, d2]; simp only [tl_S]; rw [List.length_append, List.length_take, List.length_drop]; omega
      · have e : tl (S (tl (S (cutL (tl (S rest)) none (some ((tg : Nat) : Int)))) ++ tl (S (repL (szI zs k).toNat (tl (S [k])))))) ++ tl (S (cutL (tl (S rest)) (some ((tg : Nat) : Int)) none)) = moved (szN zs) l (i, b) := by
          rw [d1, d2]
          simp only [tl_S]
          rw [repL_one, ← he, List.append_assoc]
        show Q (.str (S _)) H'
        rw [e]
        exact q

-- NEEDS list_moves m_mvb _law_equal
theorem Way.snoc {sz : Nat → Nat} : ∀ {l : List Nat} {ms : List Mv} {x : List Nat} {m : Mv}, Way sz l ms x → m.1 < x.length → legal sz x m = true → Way sz l (ms ++ [m]) (moved sz x m)
  | l, [], x, m, h, h1, h2 => by cases (show l = x from h); exact ⟨h1, h2, rfl⟩
  | l, n :: ms, x, m, h, h1, h2 => ⟨h.1, h.2.1, Way.snoc h.2.2 h1 h2⟩
theorem Way.okr {zs : List Int} : ∀ {l : List Nat} {ms : List Mv} {x : List Nat}, Way (szN zs) l ms x → OkR zs l → OkR zs x ∧ x.length = l.length
  | l, [], x, h, hl => by cases (show l = x from h); exact ⟨hl, rfl⟩
  | l, n :: ms, x, h, hl => by
    obtain ⟨h1, h2⟩ := Way.okr h.2.2 (hl.perm (moved_perm h.1 h.2.1))
    exact ⟨h1, h2.trans (moved_len h.1 h.2.1)⟩
theorem narMv (ms : List Mv) : ∀ d ∈ ms.map mvD, Nar 3 d := fun d hd => by
  obtain ⟨m, _, rfl⟩ := List.mem_map.mp hd
  refine ⟨by show 2 ≤ 100000; decide, fun e he => ?_⟩
  have : e = .int ((m.1 : Nat) : Int) ∨ e = .str (S (sideT m.2)) := by simpa using he
  rcases this with rfl | rfl <;> trivial
theorem at_2 {u v r : Int} (h0 : 0 ≤ r) (h1 : r < 2) : atI [V.int u, V.int v] r = some (.int (if r = 0 then u else v)) := by
  have e : r = 0 ∨ r = 1 := by omega
  rcases e with rfl | rfl <;> rfl
theorem at_3 {u v x r : Int} (h0 : 0 ≤ r) (h1 : r < 3) : atI [V.int u, V.int v, V.int x] r = some (.int (if r = 0 then u else if r = 1 then v else x)) := by
  have e : r = 0 ∨ r = 1 ∨ r = 2 := by omega
  rcases e with rfl | rfl | rfl <;> rfl
theorem cutL_init {α : Type} (l : List α) : cutL l none (some (-1)) = l.dropLast := by
  unfold cutL
  rw [HT.sIx_none, List.drop_zero, Nat.sub_zero, List.dropLast_eq_take]
  congr 1
  unfold HT.sIx
  show (if (-1 : Int) < 0 then ((-1 : Int) + (l.length : Int)).toNat else min (-1 : Int).toNat l.length) = _
  rw [if_pos (by decide)]
  omega
/-- what is taken out of a text's signs -/
theorem signs_of {p : Nat → Prop} : ∀ {out : List V}, (∀ v ∈ out, ∃ k, v = .str (S [k]) ∧ p k) → ∃ m : List Nat, out = (m.map fun k => [k]).map (fun l => V.str (S l)) ∧ ∀ k ∈ m, p k
  | [], _ => ⟨[], rfl, by simp⟩
  | v :: out, h => by
    obtain ⟨k, rfl, hk⟩ := h v (by simp)
    obtain ⟨m, rfl, hm⟩ := signs_of (out := out) fun v hv => h v (by simp [hv])
    exact ⟨k :: m, rfl, fun y hy => by rcases List.mem_cons.mp hy with rfl | hy; exact hk; exact hm y hy⟩
theorem flat_one {α : Type} (m : List α) : (m.map fun k => [k]).flatten = m := by
  induction m with
  | nil => rfl
  | cons x m ih => rw [List.map_cons, List.flatten_cons, ih]; rfl
theorem sum_one {α : Type} (m : List α) : ((m.map fun k => [k]).map List.length).sum = m.length := by
  induction m with
  | nil => rfl
  | cons x m ih => rw [List.map_cons, List.map_cons, List.sum_cons, ih]; show 1 + _ = _ + 1; omega
theorem Mvs.sameB {K : PySem.W.Frag} {H H' : Hp} {d : Addr} {xs vs : List V} {ms : List Mv} (h : Mvs K H vs ms) (s : SameB d H H') (hd : H d = some (.lst xs)) : Mvs K H' vs ms := by
  induction h with
  | nil => exact .nil
  | cons h1 _ ih => exact .cons (s.tup hd h1) ih

-- NEEDS _law_moves m_way
abbrev s__law_stirred : Stmt := topS 42
theorem sc__law_stirred : FnScope ["_law_d", "_law_sizes_here", "_law_row_here", "_law_steps", "_law_step", "_law_some"] ["_law_d", "_law_sizes_here", "_law_row_here", "_law_steps"] (defScope s__law_stirred) := ⟨rfl, rfl, rfl, by decide +kernel, rfl, by decide +kernel, by decide +kernel⟩

/-- a row after some moves -/
def sp__law_stirred (K : PySem.W.Frag) : Sp := fun vs H Q _ => ∃ (d a : Addr) (xs : List V) (zs : List Int) (l : List Nat) (n : Nat), vs = [.ref d, .ref a, .str (S l), .int (n : Nat)] ∧ H d = some (.lst xs) ∧ Rnd xs ∧ SqT K H a (zs.map V.int) ∧ OkZ zs ∧ OkR zs l ∧ l.length ≤ 100 ∧ n ≤ 1000 ∧
  ∀ (H' : Hp) (ys : List V) (x : List Nat) (ms : List Mv), SameB d H H' → H' d = some (.lst ys) → Rnd ys → Way (szN zs) l ms x → ms.length ≤ n → OkR zs x → x.length = l.length → Q (.str (S x)) H'
theorem ok__law_stirred {f : Addr} {fd : FuncData} (F : Fun K "_law_stirred" "_law_stirred" s__law_stirred f fd) (B : Bi mg) (C__law_below : Cal P w K mg base CX0 1 "_law_below" ["_law_d", "_law_limit"] (sp__law_below K)) (C__law_moves : Cal P w K mg base CX0 4 "_law_moves" ["_law_sizes_here", "_law_row_here"] (sp__law_moves K)) (C__law_moved : Cal P w K mg base CX0 2 "_law_moved" ["_law_sizes_here", "_law_row_here", "_law_move"] (sp__law_moved K)) : FnOk P w K mg base CX0 5 f fd ["_law_d", "_law_sizes_here", "_law_row_here", "_law_steps"] (sp__law_stirred K) := by
  refine F.ok sc__law_stirred (fun vs H Q E h => ?_) (fun cdv A outer s H vs Q E hr h => ?_)
  · obtain ⟨d, a, xs, zs, l, n, rfl, _⟩ := h
    rfl
  · obtain ⟨d, a, xs, zs, l, n, rfl, hd, hR, hT, hZ, hl, hll, hn, q⟩ := h
    refine ⟨_, (pss_cons (ps_for PassesOwn.never rfl (pi_range1 (by rfl) B.range (pa_cons (gv 3) pa_nil)) (pg_name (i := 4) sc__law_stirred.nd rfl (.inl rfl))
      (pss_cons (ps_set (i := 5) sc__law_stirred.nd rfl (.inl rfl) (pe_cal C__law_moves (hr.mono (by decide)) pass0 (pa_cons (gv 1) (pa_cons (gv 2) pa_nil))))
      (pss_one (ps_if (pt_cmpG (op_neG (K := K) hr.units) (gv 5) (pe_lst pa_nil) (nomark _))
      (pss_one (ps_set (i := 2) sc__law_stirred.nd rfl (.inl rfl) (pe_cal C__law_moved (hr.mono (by decide)) pass0 (pa_cons (gv 1) (pa_cons (gv 2) (pa_cons (pe_ix (ixG (K := K)) (gv 5) (pe_cal C__law_below (hr.mono (by decide)) pass0 (pa_cons (gv 0) (pa_cons (pe_callB (cr_lenG (K := K)) (by rfl) B.len bt_len (pa_cons (gv 5) pa_nil)) pa_nil))) (fun _ _ => rfl)) pa_nil))))))
      pss_nil))))
      (pss_one (ps_ret (gv 2)))), ?_⟩
    refine ⟨_, rfl, by omega, by omega, ?_⟩
    rw [Int.toNat_natCast]
    refine for_range (fun i σ H' => ∃ x ys ms y4 y5, σ = [some (.ref d), some (.ref a), some (.str (S x)), some (.int (n : Nat)), y4, y5] ∧ SameB d H H' ∧ H' d = some (.lst ys) ∧ Rnd ys ∧ Way (szN zs) l ms x ∧ ms.length ≤ i ∧ OkR zs x ∧ x.length = l.length)
      ⟨l, xs, [], _, _, rfl, SameB.refl d H, hd, hR, rfl, Nat.le_refl _, hl, rfl⟩ ?_ ?_
    · rintro i σ H1 hi ⟨x, ys, ms, y4, y5, rfl, s1, hd1, hR1, hW, hml, hx, hxl⟩
      refine ⟨a, zs, x, rfl, s1.tup hd hT, hZ, hx, by omega, fun H2 ex vs2 s2 hex0 hex hM => ?_⟩
      have hd2 := s2 _ _ hd1
      have hed : ex ≠ d := (ne_of_none hd1 hex0).symm
      have s02 : SameB d H H2 := s1.trans (SameB.of s2)
      refine ⟨Nat.zero_le _, fun e he => .inl ⟨_, _, rfl, rfl, vs2, .inl ⟨SqL.of (same_upd he _ _ hex), SqL.of upd_same⟩, ?_⟩⟩
      have hned : e ≠ d := (ne_of_none hd2 he).symm
      have s3 : SameB d H (upd H2 e (.lst [])) := s02.at (s02.free he hned)
      have hd3 := same_upd (o := .lst []) he _ _ hd2
      have hex3 := same_upd (o := .lst []) he _ _ hex
      have hM3 := hM.same (same_upd (o := .lst []) he)
      generalize upd H2 e (.lst []) = H3 at *
      have hlen := hM3.len
      have hll2 := legals_len (szN zs) x
      cases vs2 with
      | nil => exact ⟨x, ys, ms, _, _, rfl, s3, hd3, hR1, hW, by omega, hx, hxl⟩
      | cons v vs2 =>
        refine ⟨_, .inl (SqL.of hex3), d, _, ys, rfl, hd3, hR1, by rw [List.length_cons]; omega, by omega, fun b ys2 hb0 hb1 hR2 => ?_⟩
        obtain ⟨bn, rfl⟩ := Int.eq_ofNat_of_zero_le hb0
        have hbn : bn < (v :: vs2).length := by omega
        have hbg := List.getElem?_eq_getElem hbn
        obtain ⟨Tm, m, eT, hm, hTm⟩ := hM3.get hbg
        obtain ⟨hmi, hmg⟩ := legals_mem.mp (List.mem_of_getElem? hm)
        refine ⟨_, .ref Tm, .inl (SqL.of (by rw [upd_ne hed]; exact hex3)), atI_nat (hbg.trans (by rw [eT])), a, Tm, zs, x, m, rfl, s3.d.tup hd hT, hZ, hx, by omega, sameB_upd.tup hd3 hTm, hmi, hmg, fun H4 s4 => ?_⟩
        exact ⟨_, ys2, ms ++ [m], _, _, rfl, s3.d.trans (SameB.of s4), s4 _ _ upd_same, hR2, hW.snoc hmi hmg, by rw [List.length_append]; show _ + 1 ≤ _; omega, hx.perm (moved_perm hmi hmg), (moved_len hmi hmg).trans hxl⟩
    · rintro σ H1 ⟨x, ys, ms, y4, y5, rfl, s1, hd1, hR1, hW, hml, hx, hxl⟩
      exact q H1 ys x ms s1 hd1 hR1 hW hml hx hxl

-- NEEDS m_way m_mvb m_grp
/-! rows with the same beads and the same residue are joined by moves -/
section
variable {sz : Nat → Nat}
theorem Way.app : ∀ {l : List Nat} {ms : List Mv} {x : List Nat} {ns : List Mv} {y : List Nat}, Way sz l ms x → Way sz x ns y → Way sz l (ms ++ ns) y
  | l, [], x, ns, y, h, h1 => by cases (show l = x from h); exact h1
  | l, n :: ms, x, ns, y, h, h1 => ⟨h.1, h.2.1, Way.app h.2.2 h1⟩
/-- the moves back, the last one first -/
def backs (ms : List Mv) : List Mv := (ms.map backM).reverse
theorem Way.back (hs : ∀ k, 1 ≤ sz k) : ∀ {l : List Nat} {ms : List Mv} {x : List Nat}, Way sz l ms x → Way sz x (backs ms) l
  | l, [], x, h => by cases (show l = x from h); exact rfl
  | l, n :: ms, x, h => by
    have h1 := Way.back hs h.2.2
    obtain ⟨_, b1, b2, b3, _⟩ := back_ok hs h.1 h.2.1
    unfold backs
    rw [List.map_cons, List.reverse_cons]
    have := Way.snoc h1 b1 b2
    rw [b3] at this
    exact this
def Conn (sz : Nat → Nat) (l m : List Nat) : Prop := ∃ ms, Way sz l ms m
theorem Conn.refl (l : List Nat) : Conn sz l l := ⟨[], rfl⟩
theorem Conn.of_eq {l m : List Nat} (h : l = m) : Conn sz l m := ⟨[], h⟩
theorem Conn.trans {l m n : List Nat} (h : Conn sz l m) (h' : Conn sz m n) : Conn sz l n := by
  obtain ⟨a, h⟩ := h
  obtain ⟨b, h'⟩ := h'
  exact ⟨a ++ b, h.app h'⟩
theorem Conn.symm (hs : ∀ k, 1 ≤ sz k) {l m : List Nat} (h : Conn sz l m) : Conn sz m l := by
  obtain ⟨a, h⟩ := h
  exact ⟨_, h.back hs⟩
theorem Conn.step {l : List Nat} {m : Mv} (h1 : m.1 < l.length) (h2 : legal sz l m = true) : Conn sz l (moved sz l m) := ⟨[m], h1, h2, rfl⟩
/-- a move within a longer row -/
theorem lift_mv (hs : ∀ k, 1 ≤ sz k) {l : List Nat} {m : Mv} (u v : List Nat) (h1 : m.1 < l.length) (h2 : legal sz l m = true) :
    (u.length + m.1 < (u ++ (l ++ v)).length) ∧ legal sz (u ++ (l ++ v)) (u.length + m.1, m.2) = true ∧ moved sz (u ++ (l ++ v)) (u.length + m.1, m.2) = u ++ (moved sz l m ++ v) := by
  obtain ⟨i, b⟩ := m
  cases b with
  | true =>
    obtain ⟨u', x, k, v', e, ei, hx, _, em⟩ := legal_left h1 h2
    obtain ⟨a1, a2, a3⟩ := mk_left hs (u := u ++ u') (v := v' ++ v) hx
    have e1 : u ++ (l ++ v) = (u ++ u') ++ ([x] ++ (List.replicate (sz k) k ++ (v' ++ v))) := by rw [e]; simp only [List.append_assoc]
    have e2 : u.length + i = (u ++ u').length + 1 := by rw [List.length_append]; have : i = u'.length + 1 := ei; omega
    rw [em, e1]
    show u.length + i < _ ∧ legal sz _ (u.length + i, true) = true ∧ moved sz _ (u.length + i, true) = _
    rw [e2]
    exact ⟨a1, a2, by rw [a3]; simp only [List.append_assoc]⟩
  | false =>
    obtain ⟨u', x, k, v', e, ei, hx, _, em⟩ := legal_right h1 h2
    obtain ⟨a1, a2, a3⟩ := mk_right hs (u := u ++ u') (v := v' ++ v) hx
    have e1 : u ++ (l ++ v) = (u ++ u') ++ (List.replicate (sz k) k ++ ([x] ++ (v' ++ v))) := by rw [e]; simp only [List.append_assoc]
    have e2 : u.length + i = (u ++ u').length := by rw [List.length_append]; have : i = u'.length := ei; omega
    rw [em, e1]
    show u.length + i < _ ∧ legal sz _ (u.length + i, false) = true ∧ moved sz _ (u.length + i, false) = _
    rw [e2]
    exact ⟨a1, a2, by rw [a3]; simp only [List.append_assoc]⟩
theorem Way.lift (hs : ∀ k, 1 ≤ sz k) (u v : List Nat) : ∀ {l : List Nat} {ms : List Mv} {x : List Nat}, Way sz l ms x → Conn sz (u ++ (l ++ v)) (u ++ (x ++ v))
  | l, [], x, h => by cases (show l = x from h); exact .refl _
  | l, n :: ms, x, h => by
    obtain ⟨a1, a2, a3⟩ := lift_mv hs u v h.1 h.2.1
    refine Conn.trans (Conn.step (m := (u.length + n.1, n.2)) a1 a2) ?_
    rw [a3]
    exact Way.lift hs u v h.2.2
theorem Conn.lift (hs : ∀ k, 1 ≤ sz k) (u v : List Nat) {l m : List Nat} (h : Conn sz l m) : Conn sz (u ++ (l ++ v)) (u ++ (m ++ v)) := by
  obtain ⟨a, h⟩ := h
  exact h.lift hs u v
theorem Conn.pre (hs : ∀ k, 1 ≤ sz k) (u : List Nat) {l m : List Nat} (h : Conn sz l m) : Conn sz (u ++ l) (u ++ m) := by
  have := h.lift hs u []
  rwa [List.append_nil, List.append_nil] at this
theorem Conn.suf (hs : ∀ k, 1 ≤ sz k) (v : List Nat) {l m : List Nat} (h : Conn sz l m) : Conn sz (l ++ v) (m ++ v) := h.lift hs [] v
/-- a pack past one bead, past many -/
theorem conn_one (hs : ∀ k, 1 ≤ sz k) (x k : Nat) : Conn sz ([x] ++ List.replicate (sz k) k) (List.replicate (sz k) k ++ [x]) := by
  by_cases hx : x = k
  · subst hx
    exact .of_eq (by rw [← List.replicate_succ', List.replicate_succ]; rfl)
  · obtain ⟨a1, a2, a3⟩ := mk_left hs (u := []) (v := []) hx
    have := Conn.step a1 a2
    rw [a3] at this
    simpa using this
theorem conn_past (hs : ∀ k, 1 ≤ sz k) (k : Nat) : ∀ u : List Nat, Conn sz (u ++ List.replicate (sz k) k) (List.replicate (sz k) k ++ u)
  | [] => .of_eq (by simp)
  | x :: u => by
    have h1 := (conn_past hs k u).pre hs [x]
    have h2 := (conn_one hs x k).suf hs u
    have e : [x] ++ (List.replicate (sz k) k ++ u) = [x] ++ List.replicate (sz k) k ++ u := by rw [List.append_assoc]
    rw [e] at h1
    have h3 := h1.trans h2
    rw [List.append_assoc] at h3
    exact h3
/-- packs, one behind the other -/
def pks (sz : Nat → Nat) (ks : List Nat) : List Nat := (ks.map fun k => List.replicate (sz k) k).flatten
theorem pks_cons (k : Nat) (ks : List Nat) : pks sz (k :: ks) = List.replicate (sz k) k ++ pks sz ks := rfl
theorem pks_count (hs : ∀ k, 1 ≤ sz k) (k : Nat) : ∀ ks : List Nat, (pks sz ks).count k = ks.count k * sz k
  | [] => by simp [pks]
  | x :: ks => by
    rw [pks_cons, List.count_append, pks_count hs k ks, List.count_cons, List.count_replicate]
    by_cases h : x = k
    · subst h
      rw [if_pos (by simp), if_pos (by simp), Nat.add_mul]
      omega
    · rw [if_neg (by simpa using h), if_neg (by simpa using h)]
      simp
theorem conn_canon (hs : ∀ k, 1 ≤ sz k) : ∀ l : List Nat, ∃ ks, Conn sz l (pks sz ks ++ res sz l) := by
  refine pack_ind hs (fun l h => ⟨[], .of_eq (by rw [h]; rfl)⟩) (fun u k v ⟨ks, h⟩ => ⟨k :: ks, ?_⟩)
  have h1 := (conn_past hs k u).suf hs v
  rw [List.append_assoc, List.append_assoc] at h1
  have h2 := h.pre hs (List.replicate (sz k) k)
  have e : res sz (u ++ (List.replicate (sz k) k ++ v)) = res sz (u ++ v) := res_eq_of (stk_pack (fun y _ => hs y) (hs k))
  rw [e, pks_cons, List.append_assoc]
  exact h1.trans h2
theorem conn_perm (hs : ∀ k, 1 ≤ sz k) {a b : List Nat} (h : a.Perm b) : Conn sz (pks sz a) (pks sz b) := by
  induction h with
  | nil => exact .refl _
  | cons k _ ih => exact ih.pre hs _
  | swap x y l =>
    have := (conn_past hs x (List.replicate (sz y) y)).suf hs (pks sz l)
    rw [List.append_assoc, List.append_assoc] at this
    exact this
  | trans _ _ ih1 ih2 => exact ih1.trans ih2
theorem Way.keeps (hs : ∀ k, 1 ≤ sz k) : ∀ {l : List Nat} {ms : List Mv} {x : List Nat}, Way sz l ms x → x.Perm l ∧ res sz x = res sz l
  | l, [], x, h => by cases (show l = x from h); exact ⟨.refl _, rfl⟩
  | l, n :: ms, x, h => by
    obtain ⟨h1, h2⟩ := Way.keeps hs h.2.2
    exact ⟨h1.trans (moved_perm h.1 h.2.1), h2.trans (res_eq_of (moved_stk hs h.1 h.2.1))⟩
theorem Conn.keeps (hs : ∀ k, 1 ≤ sz k) {l m : List Nat} (h : Conn sz l m) : m.Perm l ∧ res sz m = res sz l := by
  obtain ⟨a, h⟩ := h
  exact h.keeps hs
theorem conn_of (hs : ∀ k, 1 ≤ sz k) {l m : List Nat} (h1 : m.Perm l) (h2 : res sz m = res sz l) : Conn sz l m := by
  obtain ⟨ks, hk⟩ := conn_canon hs l
  obtain ⟨js, hj⟩ := conn_canon hs m
  have p1 := (hk.keeps hs).1
  have p2 := (hj.keeps hs).1
  rw [h2] at hj p2
  have hp : ks.Perm js := by
    rw [List.perm_iff_count]
    intro k
    have c1 := p1.count_eq k
    have c2 := p2.count_eq k
    rw [List.count_append, pks_count hs] at c1 c2
    have c3 := h1.count_eq k
    have := hs k
    exact Nat.eq_of_mul_eq_mul_right (show 0 < sz k by omega) (by omega)
  exact (hk.trans ((conn_perm hs hp).suf hs _)).trans (hj.symm hs)
theorem conn_iff (hs : ∀ k, 1 ≤ sz k) {l m : List Nat} : Conn sz l m ↔ m.Perm l ∧ res sz m = res sz l := ⟨fun h => h.keeps hs, fun h => conn_of hs h.1 h.2⟩
end

-- NEEDS checks list_moves m_way
/-- prices that are valid -/
structure OkP (zs ps : List Int) : Prop where
  len : ps.length = zs.length
  all : ∀ p ∈ ps, 1 ≤ p ∧ p ≤ 99
theorem allTrue : ∀ n : Nat, (List.replicate n true).all id = true
  | 0 => rfl
  | n + 1 => by rw [List.replicate_succ, List.all_cons, allTrue n]; rfl
abbrev s_check_prices : Stmt := topS 22
theorem sc_check_prices : FnScope ["sizes", "prices", "price"] ["sizes", "prices"] (defScope s_check_prices) := ⟨rfl, rfl, rfl, by decide +kernel, rfl, by decide +kernel, by decide +kernel⟩

def sp_check_prices (K : PySem.W.Frag) : Sp := fun vs H Q _ => ∃ (a b : Addr) (zs ps : List Int), vs = [.ref a, .ref b] ∧ SqT K H a (zs.map V.int) ∧ SqT K H b (ps.map V.int) ∧ OkZ zs ∧ OkP zs ps ∧ ∀ H', Same H H' → Q .non H'
theorem ok_check_prices {f : Addr} {fd : FuncData} (F : Fun K "check_prices" "check_prices" s_check_prices f fd) (B : Bi mg) (C_is_int_in : Cal P w K mg base CX0 1 "is_int_in" ["value", "low", "high"] (sp_is_int_in K)) (m_MAX_PRICE : ∃ t, mg "MAX_PRICE" = some (.int 99 t)) : FnOk P w K mg base CX0 2 f fd ["sizes", "prices"] (sp_check_prices K) := by
  refine F.ok sc_check_prices (fun vs H Q E h => ?_) (fun cdv A outer s H vs Q E hr h => ?_)
  · obtain ⟨a, b, zs, ps, rfl, _⟩ := h
    rfl
  · obtain ⟨a, b, zs, ps, rfl, hT, hP, hZ, hO, q⟩ := h
    refine ⟨_, (pss_cons (ps_if (pw_or (pt_not (pt_truG (K := K) (pe_callB (cr_isiG (K := K) .ktuple) (by rfl) B.isinstance bt_isinstance (pa_cons (gv 1) (pa_cons (pe_bltn (v := .ty "tuple") (by rfl) B.tuple bt_tuple rfl) pa_nil))))) (pw_or1 (pt_cmpG (op_neG (K := K) hr.units) (pe_callB (cr_lenG (K := K)) (by rfl) B.len bt_len (pa_cons (gv 1) pa_nil)) (pe_callB (cr_lenG (K := K)) (by rfl) B.len bt_len (pa_cons (gv 0) pa_nil)) (nomark _)))).pt
      (pss_one ps_never)
      pss_nil)
      (pss_one (ps_if (pt_not (pt_truG (K := K) (pe_callB (cr_allG (K := K) rfl) (by rfl) B.all bt_all (pa_cons (pe_lc (own := [("price", 2)]) (by rfl) sc_check_prices.nd (pi_seqG (K := K) (gv 1)) (blkOk_by (N := ["sizes", "prices", "price"]) (sc := defScope s_check_prices) (by decide +kernel)) (fun _ _ _ _ _ => (pg_name (i := 2) sc_check_prices.nd rfl (.inl rfl))) (fun _ _ _ _ _ => pts_nil) (fun _ _ _ _ _ => (pe_cal C_is_int_in (hr.mono (by decide)) pass0 (pa_cons (gv 2) (pa_cons pe_int (pa_cons (g_int m_MAX_PRICE) pa_nil)))))) pa_nil))))
      (pss_one ps_never)
      pss_nil))), ?_⟩
    have h6 := hZ.six
    have hlen := hO.len
    refine ⟨rfl, .inr ⟨⟨_, hP⟩, ?_⟩⟩
    refine ⟨_, .inr hP, _, .inr hT, iteB ⟨fun e => ?_, fun _ => ?_⟩⟩
    · exfalso
      have e' : (!decide ((((ps.map V.int).length : Nat) : Int) = (((zs.map V.int).length : Nat) : Int))) = true := e
      rw [List.length_map, List.length_map, hlen] at e'
      simp at e'
    refine .inr ⟨_, hP, fun D hD => ?_⟩
    refine lc_it (walk_tup (xs := ps.map V.int)) (fun j H' => Same H H' ∧ H' D = some (.lst ((List.replicate j true).map V.bl))) ⟨same_upd hD, upd_same⟩ ?_ ?_ ?_
    · rintro j H1 _ ⟨s1, _⟩
      exact s1.tup hP
    · rintro j x H1 H2 hj ⟨s1, hD1⟩ ⟨rfl, hx⟩
      rw [List.getElem?_map] at hx
      obtain ⟨p, hp, rfl⟩ := Option.map_eq_some_iff.mp hx
      have hp1 := hO.all p (List.mem_of_getElem? hp)
      have hjl : j < ps.length := by rw [List.length_map] at hj; exact hj
      refine ⟨rfl, _, _, _, rfl, .inl ⟨p, rfl, ?_⟩⟩
      rw [decide_eq_true hp1]
      refine ⟨_, hD1, by rw [List.length_map, List.length_replicate]; exact small1000 (by omega), s1.at hD, ?_⟩
      rw [upd_same, List.replicate_succ', List.map_append]
      rfl
    · rintro H1 ⟨s1, hD1⟩
      refine ⟨_, SqL.of hD1, ?_⟩
      rw [allTrue]
      exact q H1 s1
def prI (ps : List Int) (l : List Nat) (m : Mv) : Int := szI ps (l.getD m.1 0)
/-- the price of moves one after another -/
def cost (sz : Nat → Nat) (ps : List Int) : List Nat → List Mv → Int
  | _, [] => 0
  | l, m :: ms => prI ps l m + cost sz ps (moved sz l m) ms
def sp_price_of (K : PySem.W.Frag) : Sp := fun vs H Q _ => ∃ (c t : Addr) (zs ps : List Int) (l : List Nat) (m : Mv), vs = [.ref c, .str (S l), .ref t] ∧ SqT K H c (ps.map V.int) ∧ OkZ zs ∧ OkP zs ps ∧ OkR zs l ∧ l.length ≤ 1000 ∧ SqT K H t (mvT m) ∧ m.1 < l.length ∧ Q (.int (prI ps l m)) H
def sp_run_moves (K : PySem.W.Frag) : Sp := fun vs H Q _ => ∃ (a b c : Addr) (zs ps : List Int) (l r : List Nat) (vs' : List V) (ms : List Mv), vs = [.ref a, .str (S l), .ref b, .ref c] ∧ SqT K H a (zs.map V.int) ∧ OkZ zs ∧ OkR zs l ∧ l.length ≤ 40 ∧ SqL K H b vs' ∧ Mvs K H vs' ms ∧ SqT K H c (ps.map V.int) ∧ OkP zs ps ∧ Way (szN zs) l ms r ∧
  ∀ (H' : Hp) (t : Addr), Same H H' → H t = none → H' t = some (.tup [.str (S r), .int (cost (szN zs) ps l ms)]) → Q (.ref t) H'
def sp_move_cost (K : PySem.W.Frag) : Sp := fun vs H Q _ => ∃ (a b c : Addr) (zs ps : List Int) (l r : List Nat) (vs' : List V) (ms : List Mv), vs = [.ref a, .str (S l), .ref b, .ref c] ∧ SqT K H a (zs.map V.int) ∧ OkZ zs ∧ OkR zs l ∧ l.length ≤ 40 ∧ SqL K H b vs' ∧ Mvs K H vs' ms ∧ SqT K H c (ps.map V.int) ∧ OkP zs ps ∧ Way (szN zs) l ms r ∧
  ∀ (H' : Hp), Same H H' → Q (.int (cost (szN zs) ps l ms)) H'
def sp_judge_moves (K : PySem.W.Frag) : Sp := fun vs H Q _ => ∃ (a b c : Addr) (zs ps : List Int) (l g r : List Nat) (vs' : List V) (ms : List Mv), vs = [.ref a, .str (S l), .str (S g), .ref b, .ref c] ∧ SqT K H a (zs.map V.int) ∧ OkZ zs ∧ OkR zs l ∧ l.length ≤ 40 ∧ OkR zs g ∧ g.length ≤ 40 ∧ SqL K H b vs' ∧ Mvs K H vs' ms ∧ SqT K H c (ps.map V.int) ∧ OkP zs ps ∧ Way (szN zs) l ms r ∧
  ∀ (H' : Hp), Same H H' → Q (if r = g then .int (cost (szN zs) ps l ms) else .non) H'
def sp__law_prices (K : PySem.W.Frag) : Sp := fun vs H Q _ => ∃ (d a : Addr) (xs : List V) (zs : List Int), vs = [.ref d, .ref a] ∧ H d = some (.lst xs) ∧ Rnd xs ∧ SqT K H a (zs.map V.int) ∧ OkZ zs ∧
  ∀ (H' : Hp) (t : Addr) (ys : List V) (ps : List Int), SameB d H H' → H' d = some (.lst ys) → Rnd ys → H t = none → H' t = some (.tup (ps.map V.int)) → OkP zs ps → Q (.ref t) H'

-- NEEDS m_wl
/-! ### the planner's plain law: the least price of an interval -/
section
def ltP (p q : Int × Nat) : Bool := decide (p.1 < q.1 ∨ p.1 = q.1 ∧ p.2 < q.2)
def minL : List (Int × Nat) → Option (Int × Nat)
  | [] => none
  | p :: r => some (r.foldl (fun a y => if ltP y a then y else a) p)
theorem minF_spec : ∀ (r : List (Int × Nat)) (p : Int × Nat), r.foldl (fun a y => if ltP y a then y else a) p ∈ p :: r ∧ ∀ q ∈ p :: r, ltP q (r.foldl (fun a y => if ltP y a then y else a) p) = false
  | [], p => ⟨by simp, fun q hq => by rw [List.mem_singleton.mp hq]; simp [ltP]⟩
  | y :: r, p => by
    obtain ⟨h1, h2⟩ := minF_spec r (if ltP y p then y else p)
    rw [List.foldl_cons]
    generalize List.foldl (fun a y => if ltP y a = true then y else a) (if ltP y p = true then y else p) r = z at *
    constructor
    · rcases List.mem_cons.mp h1 with e | h
      · rw [e]
        split <;> simp
      · simp [h]
    · intro q hq
      have h0 := h2 _ List.mem_cons_self
      rcases List.mem_cons.mp hq with rfl | hq
      · by_cases e : ltP y q = true
        · rw [if_pos e] at h0
          simp only [ltP, decide_eq_true_eq, decide_eq_false_iff_not] at e h0 ⊢
          omega
        · rw [if_neg e] at h0
          exact h0
      · rcases List.mem_cons.mp hq with rfl | hq
        · by_cases e : ltP q p = true
          · rw [if_pos e] at h0
            exact h0
          · rw [if_neg e] at h0
            simp only [ltP, decide_eq_true_eq, decide_eq_false_iff_not] at e h0 ⊢
            omega
        · exact h2 q (List.mem_cons_of_mem _ hq)
theorem minL_some {l : List (Int × Nat)} {p : Int × Nat} (h : minL l = some p) : p ∈ l ∧ ∀ q ∈ l, ltP q p = false := by
  cases l with
  | nil => cases h
  | cons a r =>
    cases h
    exact minF_spec r a
theorem minL_le {l : List (Int × Nat)} {p q : Int × Nat} (h : minL l = some p) (hq : q ∈ l) : p.1 ≤ q.1 := by
  have := (minL_some h).2 q hq
  simp only [ltP, decide_eq_false_iff_not] at this
  omega
theorem minL_ex {l : List (Int × Nat)} {q : Int × Nat} (hq : q ∈ l) : ∃ p, minL l = some p := by
  cases l with
  | nil => cases hq
  | cons a r => exact ⟨_, rfl⟩
theorem minL_eq {l : List (Int × Nat)} {p : Int × Nat} (h1 : p ∈ l) (h2 : ∀ q ∈ l, ltP q p = false) : minL l = some p := by
  obtain ⟨z, hz⟩ := minL_ex h1
  obtain ⟨z1, z2⟩ := minL_some hz
  rw [hz]
  have a := h2 z z1
  have b := z2 p h1
  simp only [ltP, decide_eq_false_iff_not] at a b
  congr 1
  apply Prod.ext <;> omega
def clM (I : Bool) (a : Int) (v : Option Int) : Int := if I then v.getD 0 else match v with
  | none => a
  | some v => if v < a then v else a
variable (I : Bool) (sz : Nat → Nat) (pr : Nat → Int)
mutual
/-- the least price of an interval -/
def cl : List Nat → Int
  | [] => 0
  | d :: x => clM I (pr d + cl x) (fl x d (sz d - 1))
termination_by x => (x.length, 0)
decreasing_by all_goals (apply Prod.Lex.left; simp)
/-- the least price behind an open pack that misses m beads -/
def fl (x : List Nat) (c : Nat) : Nat → Option Int
  | 0 => some (cl x)
  | m + 1 => (minL ((if I then [(((m + 1 : Nat) : Int) * pr c + cl x, x.length)] else []) ++ (List.range x.length).attach.filterMap fun j => if x[j.1]? = some c then (fl (x.drop (j.1 + 1)) c m).map fun v => (cl (x.take j.1) + v, j.1) else none)).map (·.1)
termination_by (x.length, 1)
decreasing_by
  all_goals first
    | (apply Prod.Lex.right; omega)
    | (apply Prod.Lex.left
       have := List.mem_range.mp j.2
       simp only [List.length_drop, List.length_take]
       omega)
end
/-- what may happen first behind an open pack -/
def ops (x : List Nat) (c m : Nat) : List (Int × Nat) := (if I then [(((m + 1 : Nat) : Int) * pr c + cl I sz pr x, x.length)] else []) ++ (List.range x.length).filterMap fun j => if x[j]? = some c then (fl I sz pr (x.drop (j + 1)) c m).map fun v => (cl I sz pr (x.take j) + v, j) else none
theorem attach_fm {α β : Type} (L : List α) (f : α → Option β) : (L.attach.filterMap fun j => f j.1) = L.filterMap f := by
  conv => rhs; rw [← List.attach_map_subtype_val L, List.filterMap_map]
  rfl
theorem cl_nil : cl I sz pr [] = 0 := by rw [cl]
theorem fl_zero (x : List Nat) (c : Nat) : fl I sz pr x c 0 = some (cl I sz pr x) := by rw [fl]
theorem fl_succ (x : List Nat) (c m : Nat) : fl I sz pr x c (m + 1) = (minL (ops I sz pr x c m)).map (·.1) := by
  rw [fl]
  unfold ops
  rw [attach_fm (List.range x.length) fun j => if x[j]? = some c then (fl I sz pr (x.drop (j + 1)) c m).map fun v => (cl I sz pr (x.take j) + v, j) else none]
end
section
variable {I : Bool} {sz : Nat → Nat} {pr : Nat → Int}
theorem getE_split {x : List Nat} {j c : Nat} (h : x[j]? = some c) : x = x.take j ++ c :: x.drop (j + 1) ∧ j < x.length := by
  obtain ⟨hj, e⟩ := List.getElem?_eq_some_iff.mp h
  refine ⟨?_, hj⟩
  rw [← e, ← List.drop_eq_getElem_cons hj, List.take_append_drop]
theorem mem_ops {x : List Nat} {c m : Nat} {p : Int × Nat} : p ∈ ops I sz pr x c m ↔ (I = true ∧ p = (((m + 1 : Nat) : Int) * pr c + cl I sz pr x, x.length)) ∨ ∃ v, x[p.2]? = some c ∧ fl I sz pr (x.drop (p.2 + 1)) c m = some v ∧ p.1 = cl I sz pr (x.take p.2) + v := by
  unfold ops
  rw [List.mem_append]
  constructor
  · rintro (h | h)
    · cases I with
      | false => simp at h
      | true => exact .inl ⟨rfl, by simpa using h⟩
    · obtain ⟨j, hj, e⟩ := List.mem_filterMap.mp h
      by_cases hc : x[j]? = some c
      · rw [if_pos hc] at e
        obtain ⟨v, hv, rfl⟩ := Option.map_eq_some_iff.mp e
        exact .inr ⟨v, hc, hv, rfl⟩
      · rw [if_neg hc] at e
        cases e
  · rintro (⟨h, rfl⟩ | ⟨v, h1, h2, h3⟩)
    · subst h
      exact .inl (by simp)
    · refine .inr (List.mem_filterMap.mpr ⟨p.2, List.mem_range.mpr (List.getElem?_eq_some_iff.mp h1).1, ?_⟩)
      rw [if_pos h1, h2]
      show some _ = _
      congr 1
      exact Prod.ext h3.symm rfl
/-- at most v -/
def FLe (I : Bool) (sz : Nat → Nat) (pr : Nat → Int) (x : List Nat) (c m : Nat) (v : Int) : Prop := ∃ w, fl I sz pr x c m = some w ∧ w ≤ v
theorem FLe.le {x : List Nat} {c m : Nat} {v v' : Int} (h : FLe I sz pr x c m v) (h' : v ≤ v') : FLe I sz pr x c m v' := h.elim fun w ⟨e, l⟩ => ⟨w, e, by omega⟩
theorem fle_zero {x : List Nat} {c : Nat} {v : Int} : FLe I sz pr x c 0 v ↔ cl I sz pr x ≤ v := by
  unfold FLe
  rw [fl_zero]
  exact ⟨fun ⟨w, e, l⟩ => by cases e; exact l, fun h => ⟨_, rfl, h⟩⟩
theorem fle_ins {x : List Nat} {c m : Nat} : FLe true sz pr x c m ((m : Int) * pr c + cl true sz pr x) := by
  cases m with
  | zero => rw [fle_zero]; simp
  | succ m =>
    have hm : (((m + 1 : Nat) : Int) * pr c + cl true sz pr x, x.length) ∈ ops true sz pr x c m := mem_ops.mpr (.inl ⟨rfl, rfl⟩)
    obtain ⟨p, hp⟩ := minL_ex hm
    exact ⟨p.1, by rw [fl_succ, hp]; rfl, minL_le hp hm⟩
theorem fle_pos {a b : List Nat} {c m : Nat} {v : Int} (h : FLe I sz pr b c m v) : FLe I sz pr (a ++ c :: b) c (m + 1) (cl I sz pr a + v) := by
  obtain ⟨w, e, l⟩ := h
  have hm : (cl I sz pr a + w, a.length) ∈ ops I sz pr (a ++ c :: b) c m := mem_ops.mpr (.inr ⟨w, by simp, by simpa using e, by simp⟩)
  obtain ⟨p, hp⟩ := minL_ex hm
  exact ⟨p.1, by rw [fl_succ, hp]; rfl, by have := minL_le hp hm; dsimp only at this; omega⟩
theorem fle_cases {x : List Nat} {c m : Nat} {v : Int} (h : FLe I sz pr x c (m + 1) v) : (I = true ∧ ((m + 1 : Nat) : Int) * pr c + cl I sz pr x ≤ v) ∨ ∃ a b, x = a ++ c :: b ∧ FLe I sz pr b c m (v - cl I sz pr a) := by
  obtain ⟨w, e, l⟩ := h
  rw [fl_succ] at e
  obtain ⟨p, hp, rfl⟩ := Option.map_eq_some_iff.mp e
  rcases mem_ops.mp (minL_some hp).1 with ⟨h1, rfl⟩ | ⟨v', h1, h2, h3⟩
  · exact .inl ⟨h1, l⟩
  · obtain ⟨e1, _⟩ := getE_split h1
    exact .inr ⟨x.take p.2, x.drop (p.2 + 1), e1, v', h2, by omega⟩
theorem cl_true {d : Nat} {x : List Nat} : fl true sz pr x d (sz d - 1) = some (cl true sz pr (d :: x)) := by
  obtain ⟨w, hw, _⟩ := fle_ins (sz := sz) (pr := pr) (x := x) (c := d) (m := sz d - 1)
  rw [cl, hw]
  rfl
theorem cl_le {d : Nat} {x : List Nat} {v : Int} (h : FLe I sz pr x d (sz d - 1) v) : cl I sz pr (d :: x) ≤ v := by
  obtain ⟨w, hw, l⟩ := h
  cases I with
  | true =>
    rw [cl_true] at hw
    cases hw
    exact l
  | false =>
    rw [cl, hw]
    show (if w < pr d + cl false sz pr x then w else pr d + cl false sz pr x) ≤ v
    split <;> omega
theorem cl_del {d : Nat} {x : List Nat} : cl false sz pr (d :: x) ≤ pr d + cl false sz pr x := by
  rw [cl]
  cases fl false sz pr x d (sz d - 1) with
  | none => exact Int.le_refl _
  | some w =>
    show (if w < pr d + cl false sz pr x then w else pr d + cl false sz pr x) ≤ _
    split <;> omega
/-- what opens a row: its first bead is deleted, or begins a pack -/
theorem cl_cases {d : Nat} {x : List Nat} {v : Int} (h : cl I sz pr (d :: x) ≤ v) : (I = false ∧ pr d + cl I sz pr x ≤ v) ∨ FLe I sz pr x d (sz d - 1) v := by
  cases I with
  | true => exact .inr ⟨_, cl_true, h⟩
  | false =>
    rw [cl] at h
    cases e : fl false sz pr x d (sz d - 1) with
    | none =>
      rw [e] at h
      exact .inl ⟨rfl, h⟩
    | some w =>
      rw [e] at h
      have h : (if w < pr d + cl false sz pr x then w else pr d + cl false sz pr x) ≤ v := h
      by_cases hw : w < pr d + cl false sz pr x
      · rw [if_pos hw] at h
        exact .inr ⟨w, e, h⟩
      · rw [if_neg hw] at h
        exact .inl ⟨rfl, h⟩
variable (hp : ∀ k, 0 ≤ pr k)
/-- both parts by themselves -/
theorem cl_app_both : ∀ (n : Nat), (∀ a y : List Nat, a.length ≤ n → cl I sz pr (a ++ y) ≤ cl I sz pr a + cl I sz pr y) ∧ ∀ (a y : List Nat) (c m : Nat) (v : Int), a.length ≤ n → FLe I sz pr a c m v → FLe I sz pr (a ++ y) c m (v + cl I sz pr y) := by
  have step : ∀ n, (∀ a y : List Nat, a.length ≤ n → cl I sz pr (a ++ y) ≤ cl I sz pr a + cl I sz pr y) → (∀ (a y : List Nat) (c m : Nat) (v : Int), a.length < n → FLe I sz pr a c m v → FLe I sz pr (a ++ y) c m (v + cl I sz pr y)) →
      ∀ (a y : List Nat) (c m : Nat) (v : Int), a.length ≤ n → FLe I sz pr a c m v → FLe I sz pr (a ++ y) c m (v + cl I sz pr y) := by
    intro n h1 h2 a y c m v ha h
    cases m with
    | zero =>
      rw [fle_zero] at h ⊢
      have := h1 a y ha
      omega
    | succ m =>
      rcases fle_cases h with ⟨rfl, e⟩ | ⟨a1, b1, rfl, e⟩
      · have := h1 a y ha
        exact fle_ins.le (by omega)
      · have := h2 b1 y c m _ (by rw [List.length_append, List.length_cons] at ha; omega) e
        rw [List.append_assoc, List.cons_append]
        exact (fle_pos (a := a1) this).le (by omega)
  intro n
  induction n with
  | zero =>
    have h1 : ∀ a y : List Nat, a.length ≤ 0 → cl I sz pr (a ++ y) ≤ cl I sz pr a + cl I sz pr y := fun a y ha => by
      have : a = [] := List.length_eq_zero_iff.mp (by omega)
      subst this
      rw [cl_nil, List.nil_append]
      omega
    exact ⟨h1, step 0 h1 fun a y c m v ha => absurd ha (Nat.not_lt_zero _)⟩
  | succ n ih =>
    obtain ⟨i1, i2⟩ := ih
    have h1 : ∀ a y : List Nat, a.length ≤ n + 1 → cl I sz pr (a ++ y) ≤ cl I sz pr a + cl I sz pr y := fun a y ha => by
      cases a with
      | nil =>
        rw [cl_nil, List.nil_append]
        omega
      | cons d a =>
        rw [List.length_cons] at ha
        rcases cl_cases (Int.le_refl (cl I sz pr (d :: a))) with ⟨rfl, e⟩ | e
        · have k1 := i1 a y (by omega)
          have k2 := cl_del (sz := sz) (pr := pr) (d := d) (x := a ++ y)
          rw [List.cons_append]
          omega
        · rw [List.cons_append]
          exact cl_le (i2 a y d _ _ (by omega) e)
    exact ⟨h1, step (n + 1) h1 fun a y c m v ha h => i2 a y c m v (by omega) h⟩
theorem cl_app (a y : List Nat) : cl I sz pr (a ++ y) ≤ cl I sz pr a + cl I sz pr y := (cl_app_both a.length).1 a y (Nat.le_refl _)
theorem fle_app {a y : List Nat} {c m : Nat} {v : Int} (h : FLe I sz pr a c m v) : FLe I sz pr (a ++ y) c m (v + cl I sz pr y) := (cl_app_both a.length).2 a y c m v (Nat.le_refl _) h
theorem fle_pre (x1 : List Nat) {x2 : List Nat} {c m : Nat} {v : Int} (h : FLe I sz pr x2 c m v) : FLe I sz pr (x1 ++ x2) c m (cl I sz pr x1 + v) := by
  cases m with
  | zero =>
    rw [fle_zero] at h ⊢
    have := cl_app (I := I) (sz := sz) (pr := pr) x1 x2
    omega
  | succ m =>
    rcases fle_cases h with ⟨rfl, e⟩ | ⟨a, b, rfl, e⟩
    · have := cl_app (I := true) (sz := sz) (pr := pr) x1 x2
      exact fle_ins.le (by omega)
    · have := cl_app (I := I) (sz := sz) (pr := pr) x1 a
      rw [← List.append_assoc]
      exact (fle_pos (a := x1 ++ a) e).le (by omega)
include hp in
/-- one more bead is missing -/
theorem fle_more : ∀ {m : Nat} {b : List Nat} {d : Nat} {v : Int}, FLe true sz pr b d m v → FLe true sz pr b d (m + 1) (pr d + v)
  | 0, b, d, v, h => by
    rw [fle_zero] at h
    have h2 := fle_ins (sz := sz) (pr := pr) (x := b) (c := d) (m := 1)
    exact h2.le (by simp; omega)
  | m + 1, b, d, v, h => by
    rcases fle_cases h with ⟨_, e⟩ | ⟨a1, b1, rfl, e⟩
    · refine (fle_ins (m := m + 1 + 1)).le ?_
      have : (((m + 1 + 1 : Nat) : Int)) * pr d = ((m + 1 : Nat) : Int) * pr d + pr d := by rw [show ((m + 1 + 1 : Nat) : Int) = ((m + 1 : Nat) : Int) + 1 by omega, Int.add_mul, Int.one_mul]
      omega
    · exact (fle_pos (a := a1) (fle_more e)).le (by omega)
include hp in
theorem fle_mores {m : Nat} {b : List Nat} {d : Nat} {v : Int} (h : FLe true sz pr b d m v) : ∀ n, FLe true sz pr b d (m + n) ((n : Int) * pr d + v)
  | 0 => by simpa using h
  | n + 1 => by
    have := fle_more hp (fle_mores h n)
    refine this.le ?_
    have : (((n + 1 : Nat) : Int)) * pr d = (n : Int) * pr d + pr d := by rw [show ((n + 1 : Nat) : Int) = (n : Int) + 1 by omega, Int.add_mul, Int.one_mul]
    omega
include hp in
theorem mul_pr_nonneg (n d : Nat) : 0 ≤ (n : Int) * pr d := Int.mul_nonneg (by omega) (hp d)
include hp in
/-- an open pack that is begun by beads inserted -/
theorem cl_open {x : List Nat} {d m : Nat} {v : Int} (hm : m < sz d) (h : FLe true sz pr x d m v) : cl true sz pr x ≤ ((sz d - m : Nat) : Int) * pr d + v := by
  have p0 := mul_pr_nonneg hp
  cases m with
  | zero =>
    rw [fle_zero] at h
    have := p0 (sz d - 0) d
    omega
  | succ m =>
    rcases fle_cases h with ⟨_, e⟩ | ⟨a, b, rfl, e⟩
    · have := p0 (m + 1) d
      have := p0 (sz d - (m + 1)) d
      omega
    · have k := fle_mores hp e (sz d - 1 - m)
      rw [show m + (sz d - 1 - m) = sz d - 1 by omega] at k
      have k2 := cl_le k
      have k3 := cl_app (I := true) (sz := sz) (pr := pr) a (d :: b)
      rw [show sz d - 1 - m = sz d - (m + 1) by omega] at k2
      omega
end

-- NEEDS m_plan
/-! ### rows without a residue, as nested packs; the planner's price is the least -/
section
/-- t completes an open pack of the color c that misses m beads, and what stands between and behind is cleared -/
inductive Gr (sz : Nat → Nat) : Nat → Nat → List Nat → Prop
  | nil (c : Nat) : Gr sz c 0 []
  | pk (c d : Nat) (t : List Nat) : Gr sz d (sz d - 1) t → Gr sz c 0 (d :: t)
  | st (c m : Nat) (w t : List Nat) : Gr sz c 0 w → Gr sz c m t → Gr sz c (m + 1) (w ++ c :: t)
variable {sz : Nat → Nat}
theorem Gr.col {c c' : Nat} {t : List Nat} (h : Gr sz c 0 t) : Gr sz c' 0 t := by
  cases h with
  | nil => exact .nil _
  | pk _ d t h => exact .pk _ d t h
theorem gr_rep (c : Nat) : ∀ (m : Nat) {t : List Nat}, Gr sz c 0 t → Gr sz c m (List.replicate m c ++ t)
  | 0, _, h => h
  | m + 1, t, h => by
    have := Gr.st c m [] _ (.nil c) (gr_rep c m h)
    rw [List.nil_append] at this
    rw [List.replicate_succ]
    exact this
theorem gr_pack (hs : ∀ k, 1 ≤ sz k) {c d : Nat} {t : List Nat} (h : Gr sz c 0 t) : Gr sz c 0 (List.replicate (sz d) d ++ t) := by
  have e : sz d = (sz d - 1) + 1 := by have := hs d; omega
  rw [e, List.replicate_succ]
  exact .pk c d _ (gr_rep d _ h.col)
/-- a pack anywhere -/
theorem gr_ins (hs : ∀ k, 1 ≤ sz k) (d : Nat) : ∀ {c m : Nat} {t : List Nat}, Gr sz c m t → ∀ u v, t = u ++ v → Gr sz c m (u ++ (List.replicate (sz d) d ++ v)) := by
  intro c m t h
  induction h with
  | nil c =>
    intro u v e
    obtain ⟨rfl, rfl⟩ := List.append_eq_nil_iff.mp e.symm
    exact gr_pack hs (.nil c)
  | pk c k t h ih =>
    intro u v e
    cases u with
    | nil =>
      have e : k :: t = v := e
      subst e
      exact gr_pack hs (.pk c k t h)
    | cons y u =>
      rw [List.cons_append] at e
      injection e with e1 e2
      subst e1
      exact .pk c k _ (ih u v e2)
  | st c m w t h1 h2 ih1 ih2 =>
    intro u v e
    rcases List.append_eq_append_iff.mp e with ⟨z, rfl, e2⟩ | ⟨z, rfl, e2⟩
    · cases z with
      | nil =>
        rw [List.nil_append] at e2
        subst e2
        have := Gr.st c m _ _ (ih1 w [] (by simp)) h2
        rw [List.append_nil]
        rw [List.append_nil, List.append_assoc] at this
        exact this
      | cons y z =>
        rw [List.cons_append] at e2
        injection e2 with e3 e4
        subst e3
        have := Gr.st c m _ _ h1 (ih2 z v e4)
        rw [List.append_assoc, List.cons_append]
        exact this
    · subst e2
      have := Gr.st c m _ _ (ih1 u z rfl) h2
      rw [List.append_assoc, List.append_assoc] at this
      exact this
theorem gr_of_res (hs : ∀ k, 1 ≤ sz k) (c : Nat) : ∀ {t : List Nat}, res sz t = [] → Gr sz c 0 t := by
  have : ∀ t, res sz t = [] → Gr sz c 0 t := by
    refine pack_ind hs (fun l h e => ?_) fun u k v h e => ?_
    · rw [h] at e
      rw [e]
      exact .nil c
    · rw [res_eq_of (stk_pack (fun y _ => hs y) (hs k))] at e
      exact gr_ins hs k (h e) u v rfl
  exact fun {t} h => this t h
theorem res_of_gr (hs : ∀ k, 1 ≤ sz k) : ∀ {c m : Nat} {t : List Nat}, Gr sz c m t → m < sz c → stk sz (List.replicate (sz c - m) c ++ t) = [] := by
  intro c m t h
  induction h with
  | nil c =>
    intro _
    have := stk_pack (sz := sz) (u := []) (v := []) (k := c) (fun y hy => hs y) (hs c)
    exact this
  | pk c k t h ih =>
    intro _
    have h1 := ih (by have := hs k; omega)
    have e1 : sz k - (sz k - 1) = 1 := by have := hs k; omega
    rw [e1] at h1
    have := stk_pack (sz := sz) (u := []) (v := k :: t) (k := c) (fun y hy => hs y) (hs c)
    rw [Nat.sub_zero]
    exact this.trans h1
  | st c m w t h1 h2 ih1 ih2 =>
    intro hm
    have k1 := ih1 (hs c)
    have k2 := ih2 (by omega)
    have kw : stk sz w = [] := by
      have := stk_pack (sz := sz) (u := []) (v := w) (k := c) (fun y hy => hs y) (hs c)
      rw [Nat.sub_zero] at k1
      exact this.symm.trans k1
    have e : stk sz (List.replicate (sz c - (m + 1)) c ++ (w ++ c :: t)) = stk sz (List.replicate (sz c - (m + 1)) c ++ ([] ++ c :: t)) := stk_cong hs (show stk sz w = stk sz [] from kw) _ _
    rw [e, List.nil_append]
    have e2 : List.replicate (sz c - m) c = List.replicate (sz c - (m + 1)) c ++ [c] := by
      rw [← List.replicate_succ']
      congr 1
      omega
    rw [e2, List.append_assoc] at k2
    exact k2
theorem res_gr (hs : ∀ k, 1 ≤ sz k) {c : Nat} {t : List Nat} : res sz t = [] ↔ Gr sz c 0 t := by
  refine ⟨gr_of_res hs c, fun h => ?_⟩
  have := res_of_gr hs h (hs c)
  rw [Nat.sub_zero] at this
  have e := stk_pack (sz := sz) (u := []) (v := t) (k := c) (fun y hy => hs y) (hs c)
  rw [List.nil_append, List.nil_append] at e
  unfold res
  rw [← e, this]
  rfl
/-- the price of a row -/
def wt (pr : Nat → Int) (l : List Nat) : Int := (l.map pr).sum
theorem wt_nil (pr : Nat → Int) : wt pr [] = 0 := rfl
theorem wt_cons (pr : Nat → Int) (d : Nat) (l : List Nat) : wt pr (d :: l) = pr d + wt pr l := by unfold wt; rw [List.map_cons, List.sum_cons]
theorem wt_app (pr : Nat → Int) (a b : List Nat) : wt pr (a ++ b) = wt pr a + wt pr b := by unfold wt; rw [List.map_append, List.sum_append]
theorem wt_rep (pr : Nat → Int) (c : Nat) : ∀ n : Nat, wt pr (List.replicate n c) = (n : Int) * pr c
  | 0 => by simp [wt]
  | n + 1 => by
    rw [List.replicate_succ, wt_cons, wt_rep pr c n, show ((n + 1 : Nat) : Int) = (n : Int) + 1 by omega, Int.add_mul, Int.one_mul]
    omega
variable {pr : Nat → Int} (hp : ∀ k, 0 ≤ pr k)
include hp in
theorem wt_nonneg : ∀ l : List Nat, 0 ≤ wt pr l
  | [] => by rw [wt_nil]; exact Int.le_refl _
  | d :: l => by
    have := wt_nonneg l
    have := hp d
    rw [wt_cons]
    omega
/-- inserting: no row without a residue that holds x costs less -/
theorem fl_least (hs : ∀ k, 1 ≤ sz k) (hp : ∀ k, 0 ≤ pr k) : ∀ {c m : Nat} {t : List Nat}, Gr sz c m t → m < sz c → ∀ x, x.Sublist t → FLe true sz pr x c m (wt pr t - wt pr x) := by
  intro c m t h
  induction h with
  | nil c =>
    intro _ x hx
    rw [List.sublist_nil] at hx
    subst hx
    rw [fle_zero, cl_nil, wt_nil]
    omega
  | pk c k t h ih =>
    intro _ x hx
    rw [fle_zero]
    have hk := hs k
    rcases List.sublist_cons_iff.mp hx with hx | ⟨x', rfl, hx'⟩
    · have := ih (by omega) x hx
      have := cl_open hp (by omega) this
      rw [wt_cons]
      rw [show sz k - (sz k - 1) = 1 by omega] at this
      simp at this
      omega
    · have := cl_le (ih (by omega) x' hx')
      rw [wt_cons, wt_cons]
      omega
  | st c m w t h1 h2 ih1 ih2 =>
    intro hm x hx
    obtain ⟨x1, x2, rfl, hx1, hx2⟩ := List.sublist_append_iff.mp hx
    have k1 := fle_zero.mp (ih1 (hs c) x1 hx1)
    rcases List.sublist_cons_iff.mp hx2 with hx2 | ⟨x', rfl, hx2'⟩
    · have := fle_pre x1 (fle_more hp (ih2 (by omega) x2 hx2))
      refine this.le ?_
      rw [wt_app, wt_app, wt_cons]
      omega
    · have := fle_pos (a := x1) (ih2 (by omega) x' hx2')
      refine this.le ?_
      rw [wt_app, wt_app, wt_cons, wt_cons]
      omega
theorem cl_least (hs : ∀ k, 1 ≤ sz k) (hp : ∀ k, 0 ≤ pr k) {x t : List Nat} (h : res sz t = []) (hx : x.Sublist t) : cl true sz pr x ≤ wt pr t - wt pr x :=
  fle_zero.mp (fl_least hs hp (gr_of_res hs 0 h) (hs 0) x hx)
/-- deleting: all beads of a -/
theorem cl_wt (a x : List Nat) : cl false sz pr (a ++ x) ≤ wt pr a + cl false sz pr x := by
  induction a with
  | nil => rw [wt_nil, List.nil_append]; omega
  | cons d a ih =>
    have := cl_del (sz := sz) (pr := pr) (d := d) (x := a ++ x)
    rw [wt_cons, List.cons_append]
    omega
theorem sub_cons_split {d : Nat} {y : List Nat} : ∀ {x : List Nat}, (d :: y).Sublist x → ∃ a b, x = a ++ d :: b ∧ y.Sublist b
  | [], h => by cases h
  | k :: x, h => by
    rcases List.sublist_cons_iff.mp h with h | ⟨r, e, h⟩
    · obtain ⟨a, b, rfl, hb⟩ := sub_cons_split h
      exact ⟨k :: a, b, rfl, hb⟩
    · cases e
      exact ⟨[], x, rfl, h⟩
theorem append_sub_split : ∀ {a b x : List Nat}, (a ++ b).Sublist x → ∃ u v, x = u ++ v ∧ a.Sublist u ∧ b.Sublist v := by
  intro a b x h
  obtain ⟨u, v, rfl, h1, h2⟩ := List.append_sublist_iff.mp h
  exact ⟨u, v, rfl, h1, h2⟩
/-- deleting: no part of x without a residue leaves less out -/
theorem fl_leastD (hs : ∀ k, 1 ≤ sz k) (hp : ∀ k, 0 ≤ pr k) : ∀ {c m : Nat} {y : List Nat}, Gr sz c m y → m < sz c → ∀ x, y.Sublist x → FLe false sz pr x c m (wt pr x - wt pr y) := by
  intro c m y h
  induction h with
  | nil c =>
    intro _ x _
    have := cl_wt (sz := sz) (pr := pr) x []
    rw [List.append_nil, cl_nil] at this
    rw [fle_zero, wt_nil]
    omega
  | pk c k t h ih =>
    intro _ x hx
    rw [fle_zero]
    have hk := hs k
    obtain ⟨a, b, rfl, hb⟩ := sub_cons_split hx
    have k1 := cl_le (ih (by omega) b hb)
    have k2 := cl_wt (sz := sz) (pr := pr) a (k :: b)
    rw [wt_app, wt_cons, wt_cons]
    omega
  | st c m w t h1 h2 ih1 ih2 =>
    intro hm x hx
    obtain ⟨u, v, rfl, hu, hv⟩ := append_sub_split hx
    obtain ⟨a, b, rfl, hb⟩ := sub_cons_split hv
    have k1 := fle_zero.mp (ih1 (hs c) (u ++ a) (hu.trans (List.sublist_append_left u a)))
    have k2 := fle_pos (a := u ++ a) (ih2 (by omega) b hb)
    rw [List.append_assoc] at k2
    refine k2.le ?_
    rw [wt_app] at k1
    rw [wt_app, wt_app, wt_cons, wt_app, wt_cons]
    omega
theorem cl_leastD (hs : ∀ k, 1 ≤ sz k) (hp : ∀ k, 0 ≤ pr k) {x y : List Nat} (h : res sz y = []) (hx : y.Sublist x) : cl false sz pr x ≤ wt pr x - wt pr y :=
  fle_zero.mp (fl_leastD hs hp (gr_of_res hs 0 h) (hs 0) x hx)
end
section
variable (I : Bool) (sz : Nat → Nat) (pr : Nat → Int)
/-- the position of the next bead of an open pack -/
def fp (x : List Nat) (c : Nat) : Nat → Option Nat
  | 0 => none
  | m + 1 => (minL (ops I sz pr x c m)).bind fun p => if p.2 = x.length then none else some p.2
mutual
/-- the row with the inserted beads -/
def cp : List Nat → List Nat
  | [] => []
  | d :: x => d :: cf x d (sz d - 1)
termination_by x => (x.length, 0)
decreasing_by all_goals (apply Prod.Lex.left; simp)
def cf (x : List Nat) (c : Nat) : Nat → List Nat
  | 0 => cp x
  | m + 1 => match fp true sz pr x c (m + 1) with
    | none => List.replicate (m + 1) c ++ cp x
    | some j => if j < x.length then cp (x.take j) ++ c :: cf (x.drop (j + 1)) c m else []
termination_by (x.length, 1)
decreasing_by
  all_goals first
    | (apply Prod.Lex.right; omega)
    | (apply Prod.Lex.left
       simp only [List.length_drop, List.length_take]
       omega)
end
/-- the first bead is deleted -/
def isDel (d : Nat) (x : List Nat) : Bool := match fl false sz pr x d (sz d - 1) with
  | none => true
  | some v => !decide (v < pr d + cl false sz pr x)
mutual
/-- the positions that are deleted; the row begins at s -/
def dl (s : Nat) : List Nat → List Nat
  | [] => []
  | d :: x => if isDel sz pr d x then s :: dl (s + 1) x else df (s + 1) x d (sz d - 1)
termination_by x => (x.length, 0)
decreasing_by all_goals (apply Prod.Lex.left; simp)
def df (s : Nat) (x : List Nat) (c : Nat) : Nat → List Nat
  | 0 => dl s x
  | m + 1 => match fp false sz pr x c (m + 1) with
    | none => []
    | some j => if j < x.length then dl s (x.take j) ++ df (s + j + 1) (x.drop (j + 1)) c m else []
termination_by (x.length, 1)
decreasing_by
  all_goals first
    | (apply Prod.Lex.right; omega)
    | (apply Prod.Lex.left
       simp only [List.length_drop, List.length_take]
       omega)
end
end
section
variable {I : Bool} {sz : Nat → Nat} {pr : Nat → Int}
theorem fp_some {x : List Nat} {c m j : Nat} (h : fp I sz pr x c m = some j) : ∃ m', m = m' + 1 ∧ j < x.length ∧ x[j]? = some c ∧ ∃ v, fl I sz pr (x.drop (j + 1)) c m' = some v ∧ fl I sz pr x c m = some (cl I sz pr (x.take j) + v) := by
  cases m with
  | zero => cases h
  | succ m =>
    unfold fp at h
    obtain ⟨p, hp, e⟩ := Option.bind_eq_some_iff.mp h
    by_cases z : p.2 = x.length
    · rw [if_pos z] at e
      cases e
    · rw [if_neg z] at e
      cases e
      rcases mem_ops.mp (minL_some hp).1 with ⟨_, e⟩ | ⟨v, h1, h2, h3⟩
      · rw [e] at z
        exact absurd rfl z
      · refine ⟨m, rfl, (List.getElem?_eq_some_iff.mp h1).1, h1, v, h2, ?_⟩
        rw [fl_succ, hp, ← h3]
        rfl
theorem fp_none {x : List Nat} {c m : Nat} {v : Int} (h : fp I sz pr x c (m + 1) = none) (hv : fl I sz pr x c (m + 1) = some v) : I = true ∧ v = ((m + 1 : Nat) : Int) * pr c + cl I sz pr x := by
  have h : ((minL (ops I sz pr x c m)).bind fun p => if p.2 = x.length then none else some p.2) = none := h
  rw [fl_succ] at hv
  obtain ⟨p, hp, e⟩ := Option.map_eq_some_iff.mp hv
  rw [hp] at h
  rcases mem_ops.mp (minL_some hp).1 with ⟨h1, e2⟩ | ⟨w, h1, _, _⟩
  · rw [e2] at e
    exact ⟨h1, e.symm⟩
  · have hl := (List.getElem?_eq_some_iff.mp h1).1
    have h : (if p.2 = x.length then none else some p.2) = none := h
    rw [if_neg (Nat.ne_of_lt hl)] at h
    cases h
/-- the row with the inserted beads: it holds x, has no residue, and costs what is told -/
theorem cp_ok : ∀ n : Nat, (∀ x : List Nat, x.length ≤ n → Gr sz 0 0 (cp sz pr x) ∧ x.Sublist (cp sz pr x) ∧ wt pr (cp sz pr x) = wt pr x + cl true sz pr x) ∧
    ∀ (x : List Nat) (c m : Nat) (v : Int), x.length ≤ n → fl true sz pr x c m = some v → Gr sz c m (cf sz pr x c m) ∧ x.Sublist (cf sz pr x c m) ∧ wt pr (cf sz pr x c m) = wt pr x + v := by
  have step : ∀ n : Nat, (∀ x : List Nat, x.length ≤ n → Gr sz 0 0 (cp sz pr x) ∧ x.Sublist (cp sz pr x) ∧ wt pr (cp sz pr x) = wt pr x + cl true sz pr x) →
      (∀ (x : List Nat) (c m : Nat) (v : Int), x.length < n → fl true sz pr x c m = some v → Gr sz c m (cf sz pr x c m) ∧ x.Sublist (cf sz pr x c m) ∧ wt pr (cf sz pr x c m) = wt pr x + v) →
      ∀ (x : List Nat) (c m : Nat) (v : Int), x.length ≤ n → fl true sz pr x c m = some v → Gr sz c m (cf sz pr x c m) ∧ x.Sublist (cf sz pr x c m) ∧ wt pr (cf sz pr x c m) = wt pr x + v := by
    intro n h1 h2 x c m v hx hv
    cases m with
    | zero =>
      rw [fl_zero] at hv
      cases hv
      obtain ⟨a, b, d⟩ := h1 x hx
      rw [cf]
      exact ⟨a.col, b, d⟩
    | succ m =>
      rw [cf]
      cases e : fp true sz pr x c (m + 1) with
      | none =>
        obtain ⟨a, b, d⟩ := h1 x hx
        obtain ⟨_, rfl⟩ := fp_none e hv
        refine ⟨gr_rep c _ a.col, b.trans (List.sublist_append_right _ _), ?_⟩
        show wt pr (List.replicate (m + 1) c ++ cp sz pr x) = _
        rw [wt_app, wt_rep, d]
        omega
      | some j =>
        obtain ⟨m', em, hj, hc, w, hw, hf⟩ := fp_some e
        cases em
        rw [hf] at hv
        cases hv
        obtain ⟨a, b, d⟩ := h1 (x.take j) (by rw [List.length_take]; omega)
        obtain ⟨a2, b2, d2⟩ := h2 (x.drop (j + 1)) c m w (by rw [List.length_drop]; omega) hw
        obtain ⟨ex, _⟩ := getE_split hc
        show Gr sz c (m + 1) (if j < x.length then _ else _) ∧ x.Sublist (if j < x.length then _ else _) ∧ wt pr (if j < x.length then _ else _) = _
        rw [if_pos hj]
        refine ⟨.st c m _ _ a.col a2, ?_, ?_⟩
        · conv => lhs; rw [ex]
          exact b.append (b2.cons₂ c)
        · have ew : wt pr x = wt pr (x.take j) + (pr c + wt pr (x.drop (j + 1))) := by
            conv => lhs; rw [ex]
            rw [wt_app, wt_cons]
          rw [wt_app, wt_cons, d, d2]
          omega
  intro n
  induction n with
  | zero =>
    have h1 : ∀ x : List Nat, x.length ≤ 0 → Gr sz 0 0 (cp sz pr x) ∧ x.Sublist (cp sz pr x) ∧ wt pr (cp sz pr x) = wt pr x + cl true sz pr x := fun x hx => by
      have : x = [] := List.length_eq_zero_iff.mp (by omega)
      subst this
      rw [cp, cl_nil]
      exact ⟨.nil 0, List.Sublist.refl _, by omega⟩
    exact ⟨h1, step 0 h1 fun x c m v hx => absurd hx (Nat.not_lt_zero _)⟩
  | succ n ih =>
    obtain ⟨i1, i2⟩ := ih
    have h1 : ∀ x : List Nat, x.length ≤ n + 1 → Gr sz 0 0 (cp sz pr x) ∧ x.Sublist (cp sz pr x) ∧ wt pr (cp sz pr x) = wt pr x + cl true sz pr x := fun x hx => by
      cases x with
      | nil =>
        rw [cp, cl_nil]
        exact ⟨.nil 0, List.Sublist.refl _, by omega⟩
      | cons d x =>
        rw [List.length_cons] at hx
        obtain ⟨a, b, e⟩ := i2 x d (sz d - 1) _ (by omega) cl_true
        rw [cp]
        exact ⟨.pk 0 d _ a, b.cons₂ d, by rw [wt_cons, wt_cons, e]; omega⟩
    exact ⟨h1, step (n + 1) h1 fun x c m v hx h => i2 x c m v (by omega) h⟩
end

-- NEEDS m_plan2
/-! ### what is deleted, what is kept -/
section
/-- the beads whose positions do not stand in ps; the row begins at s -/
def kp (s : Nat) (ps : List Nat) : List Nat → List Nat
  | [] => []
  | d :: x => if s ∈ ps then kp (s + 1) ps x else d :: kp (s + 1) ps x
theorem kp_app (ps : List Nat) : ∀ (a b : List Nat) (s : Nat), kp s ps (a ++ b) = kp s ps a ++ kp (s + a.length) ps b
  | [], b, s => rfl
  | d :: a, b, s => by
    have ih := kp_app ps a b (s + 1)
    rw [List.cons_append]
    show (if s ∈ ps then _ else _) = (if s ∈ ps then _ else _) ++ _
    rw [ih, List.length_cons, show s + 1 + a.length = s + (a.length + 1) by omega]
    split
    · rfl
    · rfl
theorem kp_congr {ps qs : List Nat} : ∀ (x : List Nat) (s : Nat), (∀ p, s ≤ p → p < s + x.length → (p ∈ ps ↔ p ∈ qs)) → kp s ps x = kp s qs x
  | [], _, _ => rfl
  | d :: x, s, h => by
    have ih := kp_congr x (s + 1) fun p h1 h2 => h p (by omega) (by rw [List.length_cons]; omega)
    have h0 := h s (Nat.le_refl _) (by rw [List.length_cons]; omega)
    show (if s ∈ ps then _ else _) = (if s ∈ qs then _ else _)
    rw [ih]
    by_cases e : s ∈ ps
    · rw [if_pos e, if_pos (h0.mp e)]
    · rw [if_neg e, if_neg (fun z => e (h0.mpr z))]
theorem kp_sub (ps : List Nat) : ∀ (x : List Nat) (s : Nat), (kp s ps x).Sublist x
  | [], _ => List.Sublist.refl _
  | d :: x, s => by
    have ih := kp_sub ps x (s + 1)
    show (if s ∈ ps then _ else _ : List Nat).Sublist _
    split
    · exact ih.cons d
    · exact ih.cons₂ d
/-- positions within an interval, in ascending order -/
structure Asc (s n : Nat) (ps : List Nat) : Prop where
  r : ∀ p ∈ ps, s ≤ p ∧ p < s + n
  o : ps.Pairwise (· < ·)
theorem Asc.nil {s n : Nat} : Asc s n [] := ⟨fun p hp => (by cases hp), List.Pairwise.nil⟩
theorem Asc.app {s n m : Nat} {ps qs : List Nat} (h1 : Asc s n ps) (h2 : Asc (s + n) m qs) : Asc s (n + m) (ps ++ qs) :=
  ⟨fun p hp => (List.mem_append.mp hp).elim (fun h => by have := h1.r p h; omega) fun h => by have := h2.r p h; omega,
   List.pairwise_append.mpr ⟨h1.o, h2.o, fun a ha b hb => by have := h1.r a ha; have := h2.r b hb; omega⟩⟩
theorem Asc.shift {s n : Nat} {ps : List Nat} (h : Asc (s + 1) n ps) : Asc s (n + 1) ps := ⟨fun p hp => by have := h.r p hp; omega, h.o⟩
theorem wt_kp {pr : Nat → Int} : ∀ (x ps : List Nat) (s : Nat), Asc s x.length ps → wt pr (kp s ps x) + wt pr (ps.map fun p => x.getD (p - s) 0) = wt pr x
  | [], ps, s, h => by
    cases ps with
    | nil => rfl
    | cons p r => have := h.r p (by simp); simp at this; omega
  | d :: x, ps, s, h => by
    cases ps with
    | nil =>
      have ih := wt_kp (pr := pr) x [] (s + 1) .nil
      show wt pr (if s ∈ [] then _ else _) + _ = _
      rw [if_neg (by simp), wt_cons, wt_cons]
      rw [List.map_nil, wt_nil] at ih ⊢
      omega
    | cons p r =>
      have ho := List.pairwise_cons.mp h.o
      have hp := h.r p (by simp)
      show wt pr (if s ∈ p :: r then _ else _) + _ = _
      have hr : ∀ q ∈ r, s + 1 ≤ q ∧ q < s + 1 + x.length := fun q hq => by
        have := ho.1 q hq
        have := h.r q (by simp [hq])
        rw [List.length_cons] at this
        omega
      have hm : ∀ q, s + 1 ≤ q → (d :: x).getD (q - s) 0 = x.getD (q - (s + 1)) 0 := fun q hq => by
        rw [show q - s = (q - (s + 1)) + 1 by omega, List.getD_cons_succ]
      by_cases e : p = s
      · subst e
        rw [if_pos (by simp)]
        have ih := wt_kp (pr := pr) x r (p + 1) ⟨hr, ho.2⟩
        rw [kp_congr (qs := r) x (p + 1) fun q h1 _ => by
          constructor
          · intro z
            rcases List.mem_cons.mp z with z | z
            · omega
            · exact z
          · intro z
            exact List.mem_cons_of_mem _ z]
        rw [List.map_cons, wt_cons, wt_cons, Nat.sub_self, List.getD_cons_zero]
        rw [List.map_congr_left fun q hq => hm q (hr q hq).1]
        omega
      · rw [if_neg (fun z => by
          rcases List.mem_cons.mp z with z | z
          · exact e z.symm
          · have := hr s z; omega)]
        have h' : Asc (s + 1) x.length (p :: r) := ⟨fun q hq => by
          rcases List.mem_cons.mp hq with rfl | hq
          · rw [List.length_cons] at hp; omega
          · exact hr q hq, h.o⟩
        have ih := wt_kp (pr := pr) x (p :: r) (s + 1) h'
        rw [wt_cons, wt_cons]
        rw [List.map_congr_left fun q hq => hm q (h'.r q hq).1]
        omega
variable {sz : Nat → Nat} {pr : Nat → Int}
theorem isDel_cl {d : Nat} {x : List Nat} : (isDel sz pr d x = true ∧ cl false sz pr (d :: x) = pr d + cl false sz pr x) ∨ (isDel sz pr d x = false ∧ fl false sz pr x d (sz d - 1) = some (cl false sz pr (d :: x))) := by
  unfold isDel
  rw [cl]
  cases fl false sz pr x d (sz d - 1) with
  | none => exact .inl ⟨rfl, rfl⟩
  | some v =>
    by_cases h : v < pr d + cl false sz pr x
    · refine .inr ⟨by simp [h], ?_⟩
      show some v = some (if v < pr d + cl false sz pr x then v else _)
      rw [if_pos h]
    · refine .inl ⟨by simp [h], ?_⟩
      show (if v < pr d + cl false sz pr x then v else _) = _
      rw [if_neg h]
theorem dl_ok : ∀ n : Nat, (∀ (x : List Nat) (s : Nat), x.length ≤ n → Asc s x.length (dl sz pr s x) ∧ Gr sz 0 0 (kp s (dl sz pr s x) x) ∧ wt pr x - wt pr (kp s (dl sz pr s x) x) = cl false sz pr x) ∧
    ∀ (x : List Nat) (s c m : Nat) (v : Int), x.length ≤ n → fl false sz pr x c m = some v → Asc s x.length (df sz pr s x c m) ∧ Gr sz c m (kp s (df sz pr s x c m) x) ∧ wt pr x - wt pr (kp s (df sz pr s x c m) x) = v := by
  have step : ∀ n : Nat, (∀ (x : List Nat) (s : Nat), x.length ≤ n → Asc s x.length (dl sz pr s x) ∧ Gr sz 0 0 (kp s (dl sz pr s x) x) ∧ wt pr x - wt pr (kp s (dl sz pr s x) x) = cl false sz pr x) →
      (∀ (x : List Nat) (s c m : Nat) (v : Int), x.length < n → fl false sz pr x c m = some v → Asc s x.length (df sz pr s x c m) ∧ Gr sz c m (kp s (df sz pr s x c m) x) ∧ wt pr x - wt pr (kp s (df sz pr s x c m) x) = v) →
      ∀ (x : List Nat) (s c m : Nat) (v : Int), x.length ≤ n → fl false sz pr x c m = some v → Asc s x.length (df sz pr s x c m) ∧ Gr sz c m (kp s (df sz pr s x c m) x) ∧ wt pr x - wt pr (kp s (df sz pr s x c m) x) = v := by
    intro n h1 h2 x s c m v hx hv
    cases m with
    | zero =>
      rw [fl_zero] at hv
      cases hv
      obtain ⟨a, b, d⟩ := h1 x s hx
      rw [df]
      exact ⟨a, b.col, d⟩
    | succ m =>
      rw [df]
      cases e : fp false sz pr x c (m + 1) with
      | none => obtain ⟨z, _⟩ := fp_none e hv; cases z
      | some j =>
        obtain ⟨m', em, hj, hc, w, hw, hf⟩ := fp_some e
        cases em
        rw [hf] at hv
        cases hv
        obtain ⟨a, b, d⟩ := h1 (x.take j) s (by rw [List.length_take]; omega)
        obtain ⟨a2, b2, d2⟩ := h2 (x.drop (j + 1)) (s + j + 1) c m w (by rw [List.length_drop]; omega) hw
        obtain ⟨ex, _⟩ := getE_split hc
        have lt : (x.take j).length = j := by rw [List.length_take]; omega
        have ld : (x.drop (j + 1)).length = x.length - (j + 1) := List.length_drop
        rw [lt] at a
        rw [ld] at a2
        show Asc s x.length (if j < x.length then _ else _) ∧ Gr sz c (m + 1) (kp s (if j < x.length then _ else _) x) ∧ wt pr x - wt pr (kp s (if j < x.length then _ else _) x) = _
        rw [if_pos hj]
        generalize hP : dl sz pr s (x.take j) = P at *
        generalize hR : df sz pr (s + j + 1) (x.drop (j + 1)) c m = R at *
        have hA : Asc s x.length (P ++ R) := by
          have := a.app a2.shift
          rw [show j + (x.length - (j + 1) + 1) = x.length by omega] at this
          exact this
        have hk : kp s (P ++ R) x = kp s P (x.take j) ++ c :: kp (s + j + 1) R (x.drop (j + 1)) := by
          conv => lhs; rw [ex]
          rw [kp_app, lt]
          congr 1
          · refine kp_congr _ _ fun p p1 p2 => ?_
            rw [lt] at p2
            rw [List.mem_append]
            exact ⟨fun z => z.elim id fun z => by have := a2.r p z; omega, .inl⟩
          · show (if s + j ∈ P ++ R then _ else _) = _
            rw [if_neg (fun z => (List.mem_append.mp z).elim (fun z => by have := a.r _ z; omega) fun z => by have := a2.r _ z; omega)]
            congr 1
            refine kp_congr _ _ fun p p1 p2 => ?_
            rw [List.mem_append]
            exact ⟨fun z => z.elim (fun z => by have := a.r p z; omega) id, .inr⟩
        refine ⟨hA, ?_, ?_⟩
        · rw [hk]
          exact .st c m _ _ b.col b2
        · rw [hk, wt_app, wt_cons]
          have ew : wt pr x = wt pr (x.take j) + (pr c + wt pr (x.drop (j + 1))) := by
            conv => lhs; rw [ex]
            rw [wt_app, wt_cons]
          omega
  intro n
  induction n with
  | zero =>
    have h1 : ∀ (x : List Nat) (s : Nat), x.length ≤ 0 → Asc s x.length (dl sz pr s x) ∧ Gr sz 0 0 (kp s (dl sz pr s x) x) ∧ wt pr x - wt pr (kp s (dl sz pr s x) x) = cl false sz pr x := fun x s hx => by
      have : x = [] := List.length_eq_zero_iff.mp (by omega)
      subst this
      rw [dl, cl_nil]
      exact ⟨.nil, .nil 0, Int.sub_self _⟩
    exact ⟨h1, step 0 h1 fun x s c m v hx => absurd hx (Nat.not_lt_zero _)⟩
  | succ n ih =>
    obtain ⟨i1, i2⟩ := ih
    have h1 : ∀ (x : List Nat) (s : Nat), x.length ≤ n + 1 → Asc s x.length (dl sz pr s x) ∧ Gr sz 0 0 (kp s (dl sz pr s x) x) ∧ wt pr x - wt pr (kp s (dl sz pr s x) x) = cl false sz pr x := fun x s hx => by
      cases x with
      | nil =>
        rw [dl, cl_nil]
        exact ⟨.nil, .nil 0, Int.sub_self _⟩
      | cons d x =>
        rw [List.length_cons] at hx
        rw [dl]
        rcases isDel_cl (sz := sz) (pr := pr) (d := d) (x := x) with ⟨e1, e2⟩ | ⟨e1, e2⟩
        · rw [if_pos e1]
          obtain ⟨a, b, e⟩ := i1 x (s + 1) (by omega)
          have hk : kp s (s :: dl sz pr (s + 1) x) (d :: x) = kp (s + 1) (dl sz pr (s + 1) x) x := by
            show (if s ∈ s :: dl sz pr (s + 1) x then _ else _) = _
            rw [if_pos (by simp)]
            refine kp_congr _ _ fun p p1 _ => ⟨fun z => ?_, List.mem_cons_of_mem _⟩
            rcases List.mem_cons.mp z with z | z
            · omega
            · exact z
          refine ⟨⟨fun p hp => ?_, List.pairwise_cons.mpr ⟨fun p hp => by have := a.r p hp; omega, a.o⟩⟩, by rw [hk]; exact b, by rw [hk, wt_cons, e2]; omega⟩
          rw [List.length_cons]
          rcases List.mem_cons.mp hp with rfl | hp
          · omega
          · have := a.r p hp; omega
        · rw [if_neg (by rw [e1]; exact Bool.false_ne_true)]
          obtain ⟨a, b, e⟩ := i2 x (s + 1) d (sz d - 1) _ (by omega) e2
          have hk : kp s (df sz pr (s + 1) x d (sz d - 1)) (d :: x) = d :: kp (s + 1) (df sz pr (s + 1) x d (sz d - 1)) x := by
            show (if s ∈ _ then _ else _) = _
            rw [if_neg (fun z => by have := a.r s z; omega)]
          exact ⟨by rw [List.length_cons]; exact a.shift, by rw [hk]; exact .pk 0 d _ b, by rw [hk, wt_cons, wt_cons]; omega⟩
    exact ⟨h1, step (n + 1) h1 fun x s c m v hx h => i2 x s c m v (by omega) h⟩
end

-- NEEDS prices checks m_plan3 m_wlb
theorem sameXp {c : Addr} {H H' : Hp} {o : HO} {a : Addr} {xs : List V} (s : SameB c H H') (hc : H c = some o) (h1 : ∀ xs, o ≠ .tup xs) (h2 : ∀ ob u, o ≠ .frz ob u) (h : SqT K H a xs) : SqT K H' a xs := by
  rcases h with (h | ⟨o', h⟩) | h
  · exact .inl (.inl (s _ _ (ne_of h hc fun z => h1 _ z.symm) h))
  · exact .inl (.inr ⟨o', s _ _ (ne_of h hc fun z => h2 _ _ z.symm) h⟩)
  · exact .inr h
/-! the class Planner -/
abbrev fsP (a : Addr) (l : List Nat) (pd : Addr) (i : Bool) (c : Addr) : List (Str × V) := [("sizes", .ref a), ("row", .str (S l)), ("price_of", .ref pd), ("inserts", .bl i), ("cache", .ref c)]
structure PlnT (K : PySem.W.Frag) (CC : Addr) : Prop where
  cl : Cls K CC
  n1 : NoAttr K CC "sizes"
  n2 : NoAttr K CC "row"
  n3 : NoAttr K CC "price_of"
  n4 : NoAttr K CC "inserts"
  n5 : NoAttr K CC "cache"
/-- the prices by colors -/
abbrev prD (zs ps : List Int) : List (Key × V) := mergeK [] (zipK (abc.take zs.length) (ps.map V.int))
abbrev s_Planner____init__ : Stmt := (C8.clsBody (topS 23)).getD 0 (.Pass ⟨0, 0, 0, 0⟩)
theorem sc_Planner____init__ : FnScope ["self", "sizes", "row", "prices", "inserts"] ["self", "sizes", "row", "prices", "inserts"] (defScope s_Planner____init__) := ⟨rfl, rfl, rfl, by decide +kernel, rfl, by decide +kernel, by decide +kernel⟩

def sp_Planner____init__ (P : Program) (w : World) (CC : Addr) (K : PySem.W.Frag) : Sp := fun vs H Q _ => ∃ (x a b dx : Addr) (zs ps : List Int) (l : List Nat) (i : Bool), vs = [.ref x, .ref a, .str (S l), .ref b, .bl i] ∧ H x = some (.ins CC dx []) ∧ SqT K H a (zs.map V.int) ∧ OkZ zs ∧ SqT K H b (ps.map V.int) ∧ OkP zs ps ∧
  ∀ (H' : Hp) (pd c : Addr), SameB x H H' → H pd = none → H c = none → pd ≠ c → H' x = some (.ins CC dx (fsP a l pd i c)) → H' pd = some (.dK (prD zs ps)) → H' c = some (.dT []) → Q .non H'
theorem ok_Planner____init__ {f : Addr} {fd : FuncData} (F : Fun K "__init__" "Planner.__init__" s_Planner____init__ f fd) (B : Bi mg) {CC : Addr} (T : PlnT K CC) (C_colors_of : Cal P w K mg base CX0 1 "colors_of" ["sizes"] (sp_colors_of K)) : FnOk P w K mg base CX0 2 f fd ["self", "sizes", "row", "prices", "inserts"] (sp_Planner____init__ P w CC K) := by
  refine F.ok sc_Planner____init__ (fun vs H Q E h => ?_) (fun cdv A outer s H vs Q E hr h => ?_)
  · obtain ⟨x, a, b, dx, zs, ps, l, i, rfl, _⟩ := h
    rfl
  obtain ⟨x, a, b, dx, zs, ps, l, i, rfl, hx, hT, hZ, hC, hO, q⟩ := h
  refine ⟨_, (pss_cons (ps_setF (K := K) (gv 0) (gv 1))
      (pss_cons (ps_setF (K := K) (gv 0) (gv 2))
      (pss_cons (ps_setF (K := K) (gv 0) (pe_dictZip (K := K) B.dict B.zip (pa_cons (pe_cal C_colors_of (hr.mono (by decide)) pass0 (pa_cons (gv 1) pa_nil)) (pa_cons (gv 3) pa_nil))))
      (pss_cons (ps_setF (K := K) (gv 0) (gv 4))
      (pss_one (ps_setF (K := K) (gv 0) pe_dnewT)))))), ?_⟩
  have h6 := hZ.six
  have hpl := hO.len
  refine ⟨CC, dx, [], hx, T.cl, T.n1, by decide, ?_⟩
  have b3 : SameB x H (upd H x (.ins CC dx (putF "sizes" (.ref a) []))) := sameB_upd
  have hT3 : SqT K (upd H x (.ins CC dx (putF "sizes" (.ref a) []))) a (zs.map V.int) := sameXp sameB_upd hx (fun _ z => by cases z) (fun _ _ z => by cases z) hT
  have hC3 : SqT K (upd H x (.ins CC dx (putF "sizes" (.ref a) []))) b (ps.map V.int) := sameXp sameB_upd hx (fun _ z => by cases z) (fun _ _ z => by cases z) hC
  have x3 : upd H x (.ins CC dx (putF "sizes" (.ref a) [])) x = some (.ins CC dx [("sizes", .ref a)]) := upd_same
  generalize upd H x (.ins CC dx (putF "sizes" (.ref a) [])) = H3 at *
  refine ⟨CC, dx, _, x3, T.cl, T.n2, by show 1 < 1000; decide, ?_⟩
  have b4 : SameB x H (upd H3 x (.ins CC dx (putF "row" (.str (S l)) [("sizes", .ref a)]))) := b3.trans sameB_upd
  have hT4 : SqT K (upd H3 x (.ins CC dx (putF "row" (.str (S l)) [("sizes", .ref a)]))) a (zs.map V.int) := sameXp sameB_upd x3 (fun _ z => by cases z) (fun _ _ z => by cases z) hT3
  have hC4 : SqT K (upd H3 x (.ins CC dx (putF "row" (.str (S l)) [("sizes", .ref a)]))) b (ps.map V.int) := sameXp sameB_upd x3 (fun _ z => by cases z) (fun _ _ z => by cases z) hC3
  have x4 : upd H3 x (.ins CC dx (putF "row" (.str (S l)) [("sizes", .ref a)])) x = some (.ins CC dx [("sizes", .ref a), ("row", .str (S l))]) := upd_same
  generalize upd H3 x (.ins CC dx (putF "row" (.str (S l)) [("sizes", .ref a)])) = H4 at *
  refine ⟨a, zs.map V.int, rfl, hT4, ?_⟩
  rw [List.length_map]
  refine ⟨_, b, _, rfl, hC4, by rw [List.length_map]; omega, fun pd hpd => ?_⟩
  have s5 := same_upd (o := .dK (mergeK [] (zipK (tl (S (abc.take zs.length))) (ps.map V.int)))) hpd
  have e5 : upd H4 pd (.dK (mergeK [] (zipK (tl (S (abc.take zs.length))) (ps.map V.int)))) pd = some (.dK (prD zs ps)) := by rw [upd_same, tl_S]
  have x5 := s5 _ _ x4
  have npx : pd ≠ x := (ne_of_none x4 hpd).symm
  generalize upd H4 pd (.dK (mergeK [] (zipK (tl (S (abc.take zs.length))) (ps.map V.int)))) = H5 at *
  refine ⟨CC, dx, _, x5, T.cl, T.n3, by show 2 < 1000; decide, ?_⟩
  have b6 : SameB x H (upd H5 x (.ins CC dx (putF "price_of" (.ref pd) [("sizes", .ref a), ("row", .str (S l))]))) := b4.trans ((SameB.of s5).trans sameB_upd)
  have x6 : upd H5 x (.ins CC dx (putF "price_of" (.ref pd) [("sizes", .ref a), ("row", .str (S l))])) x = some (.ins CC dx [("sizes", .ref a), ("row", .str (S l)), ("price_of", .ref pd)]) := upd_same
  have e6 : upd H5 x (.ins CC dx (putF "price_of" (.ref pd) [("sizes", .ref a), ("row", .str (S l))])) pd = some (.dK (prD zs ps)) := by rw [upd_ne npx]; exact e5
  generalize upd H5 x (.ins CC dx (putF "price_of" (.ref pd) [("sizes", .ref a), ("row", .str (S l))])) = H6 at *
  refine ⟨CC, dx, _, x6, T.cl, T.n4, by show 3 < 1000; decide, ?_⟩
  have b7 : SameB x H (upd H6 x (.ins CC dx (putF "inserts" (.bl i) [("sizes", .ref a), ("row", .str (S l)), ("price_of", .ref pd)]))) := b6.trans sameB_upd
  have x7 : upd H6 x (.ins CC dx (putF "inserts" (.bl i) [("sizes", .ref a), ("row", .str (S l)), ("price_of", .ref pd)])) x = some (.ins CC dx [("sizes", .ref a), ("row", .str (S l)), ("price_of", .ref pd), ("inserts", .bl i)]) := upd_same
  have e7 : upd H6 x (.ins CC dx (putF "inserts" (.bl i) [("sizes", .ref a), ("row", .str (S l)), ("price_of", .ref pd)])) pd = some (.dK (prD zs ps)) := by rw [upd_ne npx]; exact e6
  generalize upd H6 x (.ins CC dx (putF "inserts" (.bl i) [("sizes", .ref a), ("row", .str (S l)), ("price_of", .ref pd)])) = H7 at *
  intro c hc
  have s8 := same_upd (o := .dT []) hc
  have ncx : c ≠ x := (ne_of_none x7 hc).symm
  have npc : pd ≠ c := ne_of_none e7 hc
  refine ⟨CC, dx, _, s8 _ _ x7, T.cl, T.n5, by show 4 < 1000; decide, ?_⟩
  refine q _ pd c (b7.trans ((SameB.of s8).trans sameB_upd)) (b4.free hpd npx) (b7.free hc ncx) npc upd_same ?_ ?_
  · rw [upd_ne npx]
    exact s8 _ _ e7
  · rw [upd_ne ncx]
    exact upd_same

/-! ### an interval's answers, in the heap -/
theorem szI_ge (ps : List Int) (h : ∀ p ∈ ps, 1 ≤ p) (k : Nat) : 1 ≤ szI ps k := by
  unfold szI
  rw [List.getD_eq_getElem?_getD]
  cases e : ps[k - 97]? with
  | none => exact Int.le_refl 1
  | some z => exact h z (List.mem_of_getElem? e)
theorem valV_prD {zs ps : List Int} (hZ : OkZ zs) (hO : OkP zs ps) {k : Nat} (h1 : 97 ≤ k) (h2 : k < 97 + zs.length) : valV (prD zs ps) (txK [k]) = some (.int (szI ps k)) := by
  have h6 := hZ.six
  have hl := hO.len
  unfold prD
  rw [← hl]
  rw [← hl] at h2 h6
  clear hO hZ hl
  have : k = 97 ∨ k = 98 ∨ k = 99 ∨ k = 100 ∨ k = 101 ∨ k = 102 := by omega
  match ps, h2, h6 with
  | [], h2, _ => simp at h2; omega
  | [a], h2, _ =>
    simp at h2
    obtain rfl : k = 97 := by omega
    rfl
  | [a, b], h2, _ =>
    simp at h2
    have : k = 97 ∨ k = 98 := by omega
    rcases this with rfl | rfl <;> rfl
  | [a, b, c], h2, _ =>
    simp at h2
    have : k = 97 ∨ k = 98 ∨ k = 99 := by omega
    rcases this with rfl | rfl | rfl <;> rfl
  | [a, b, c, d], h2, _ =>
    simp at h2
    have : k = 97 ∨ k = 98 ∨ k = 99 ∨ k = 100 := by omega
    rcases this with rfl | rfl | rfl | rfl <;> rfl
  | [a, b, c, d, e], h2, _ =>
    simp at h2
    have : k = 97 ∨ k = 98 ∨ k = 99 ∨ k = 100 ∨ k = 101 := by omega
    rcases this with rfl | rfl | rfl | rfl | rfl <;> rfl
  | [a, b, c, d, e, f], h2, _ => rcases this with rfl | rfl | rfl | rfl | rfl | rfl <;> rfl
  | _ :: _ :: _ :: _ :: _ :: _ :: _ :: _, _, h6 => simp at h6
abbrev delW : List Nat := [100, 101, 108, 101, 116, 101]
abbrev pckW : List Nat := [112, 97, 99, 107]
/-- what happens to the first bead -/
def chV (I : Bool) (sz : Nat → Nat) (pr : Nat → Int) : List Nat → V
  | [] => .non
  | d :: x => if I then .str (S pckW) else if isDel sz pr d x then .str (S delW) else .str (S pckW)
def oI : Option Int → V
  | none => .non
  | some v => .int v
def oP (s : Nat) : Option Nat → V
  | none => .non
  | some j => .int ((s + j : Nat) : Int)
/-- the answers of clear, of fill -/
def AnC (K : PySem.W.Frag) (H : Hp) (I : Bool) (zs ps : List Int) (x : List Nat) (v : V) : Prop := ∃ t, v = .ref t ∧ SqT K H t [.int (cl I (szN zs) (szI ps) x), chV I (szN zs) (szI ps) x]
def AnF (K : PySem.W.Frag) (H : Hp) (I : Bool) (zs ps : List Int) (s : Nat) (x : List Nat) (c m : Nat) (v : V) : Prop := ∃ t, v = .ref t ∧ SqT K H t [oI (fl I (szN zs) (szI ps) x c m), oP s (fp I (szN zs) (szI ps) x c m)]
/-- an interval of a row -/
abbrev sg (l : List Nat) (s e : Nat) : List Nat := (l.drop s).take (e - s)
theorem sg_len {l : List Nat} {s e : Nat} (h : e ≤ l.length) : (sg l s e).length = e - s := by rw [List.length_take, List.length_drop]; omega
theorem sg_cons {l : List Nat} {s e : Nat} (h : s < e) (he : e ≤ l.length) : ∃ d, l[s]? = some d ∧ sg l s e = d :: sg l (s + 1) e := by
  have hs : s < l.length := by omega
  refine ⟨l[s], List.getElem?_eq_getElem hs, ?_⟩
  unfold sg
  rw [List.drop_eq_getElem_cons hs, show e - s = (e - (s + 1)) + 1 by omega, List.take_succ_cons]
theorem sg_get {l : List Nat} {s e j : Nat} (h : j < e - s) : (sg l s e)[j]? = l[s + j]? := by
  rw [List.getElem?_take_of_lt h, List.getElem?_drop]
theorem sg_take {l : List Nat} {s e j : Nat} (h : j ≤ e - s) : (sg l s e).take j = sg l s (s + j) := by
  unfold sg
  rw [List.take_take, show min j (e - s) = s + j - s by omega]
theorem sg_drop {l : List Nat} {s e j : Nat} : (sg l s e).drop j = sg l (s + j) e := by
  unfold sg
  rw [List.drop_take, List.drop_drop]
  congr 1
  omega
theorem sg_all (l : List Nat) : sg l 0 l.length = l := by
  unfold sg
  rw [List.drop_zero, Nat.sub_zero, List.take_length]
abbrev kyC (s e : Nat) : List Key := [.inl (s : Int), .inl (e : Int)]
abbrev kyF (s e c m : Nat) : List Key := [.inl (s : Int), .inl (e : Int), .inr (S [c]), .inl (m : Int)]
/-- what the cache holds -/
structure CIn (K : PySem.W.Frag) (I : Bool) (zs ps : List Int) (l : List Nat) (H : Hp) (kvs : List (List Key × V)) : Prop where
  nd : (kvs.map (·.1)).Nodup
  ok : ∀ e ∈ kvs, (∃ s t, e.1 = kyC s t ∧ t ≤ l.length ∧ s ≤ t ∧ AnC K H I zs ps (sg l s t) e.2) ∨ ∃ s t c m, e.1 = kyF s t c m ∧ t ≤ l.length ∧ s ≤ t ∧ c < 103 ∧ m ≤ 4 ∧ AnF K H I zs ps s (sg l s t) c m e.2
theorem AnC.frx {H H' : Hp} {I : Bool} {zs ps : List Int} {x : List Nat} {v : V} (h : AnC K H I zs ps x v) (f : ∀ a xs, SqT K H a xs → SqT K H' a xs) : AnC K H' I zs ps x v := h.elim fun t ⟨e, h⟩ => ⟨t, e, f _ _ h⟩
theorem AnF.frx {H H' : Hp} {I : Bool} {zs ps : List Int} {s : Nat} {x : List Nat} {c m : Nat} {v : V} (h : AnF K H I zs ps s x c m v) (f : ∀ a xs, SqT K H a xs → SqT K H' a xs) : AnF K H' I zs ps s x c m v := h.elim fun t ⟨e, h⟩ => ⟨t, e, f _ _ h⟩
theorem CIn.frx {H H' : Hp} {I : Bool} {zs ps : List Int} {l : List Nat} {kvs : List (List Key × V)} (h : CIn K I zs ps l H kvs) (f : ∀ a xs, SqT K H a xs → SqT K H' a xs) : CIn K I zs ps l H' kvs :=
  ⟨h.nd, fun e he => (h.ok e he).imp (fun ⟨s, t, a, b, c, d⟩ => ⟨s, t, a, b, c, d.frx f⟩) fun ⟨s, t, c, m, a, b, d, e1, e2, e3⟩ => ⟨s, t, c, m, a, b, d, e1, e2, e3.frx f⟩⟩
/-- what never changes -/
structure PlS (zs ps : List Int) (l : List Nat) : Prop where
  z : OkZ zs
  p : OkP zs ps
  r : OkR zs l
  n : l.length ≤ 40
theorem PlS.pos {zs ps : List Int} {l : List Nat} (h : PlS zs ps l) (k : Nat) : 0 ≤ szI ps k := by
  have := szI_ge ps (fun p hp => (h.p.all p hp).1) k
  omega
/-- a planner at x, its prices at pd, its cache at c -/
structure Pl (K : PySem.W.Frag) (CC : Addr) (I : Bool) (zs ps : List Int) (l : List Nat) (H : Hp) (x pd c : Addr) : Prop where
  ex : ∃ a dx, H x = some (.ins CC dx (fsP a l pd I c)) ∧ SqT K H a (zs.map V.int)
  pr : H pd = some (.dK (prD zs ps))
  ch : ∃ kvs, H c = some (.dT kvs) ∧ CIn K I zs ps l H kvs
section
variable {CC : Addr} {I : Bool} {zs ps : List Int} {l : List Nat} {H H' : Hp} {x pd c : Addr}
theorem Pl.same (h : Pl K CC I zs ps l H x pd c) (s : Same H H') : Pl K CC I zs ps l H' x pd c := by
  obtain ⟨a, dx, e1, e2⟩ := h.ex
  obtain ⟨kvs, e3, e4⟩ := h.ch
  exact ⟨⟨a, dx, s _ _ e1, s.tup e2⟩, s _ _ h.pr, kvs, s _ _ e3, e4.frx fun _ _ z => s.tup z⟩
theorem dT_up {a : Addr} {xs : List V} {kvs : List (List Key × V)} (s : SameB c H H') (hc : H c = some (.dT kvs)) (h : SqT K H a xs) : SqT K H' a xs := sameXp s hc (fun _ z => by cases z) (fun _ _ z => by cases z) h
theorem lst_up {a D : Addr} {xs ys : List V} (s : SameB D H H') (hc : H D = some (.lst ys)) (h : SqT K H a xs) : SqT K H' a xs := sameXp s hc (fun _ z => by cases z) (fun _ _ z => by cases z) h
/-- a list of one's own written -/
theorem Pl.wr (h : Pl K CC I zs ps l H x pd c) {D : Addr} {ys : List V} (hD : H D = some (.lst ys)) (s : SameB D H H') : Pl K CC I zs ps l H' x pd c := by
  obtain ⟨a, dx, e1, e2⟩ := h.ex
  obtain ⟨kvs, e3, e4⟩ := h.ch
  exact ⟨⟨a, dx, s _ _ (ne_of e1 hD fun z => by cases z) e1, lst_up s hD e2⟩, s _ _ (ne_of h.pr hD fun z => by cases z) h.pr, kvs, s _ _ (ne_of e3 hD fun z => by cases z) e3, e4.frx fun _ _ z => lst_up s hD z⟩
theorem putK_keys {α : Type} [DecidableEq α] {kvs : List (α × V)} {k : α} {v : V} : ((putK kvs k v).map (·.1)) = if (valV kvs k).isSome then kvs.map (·.1) else kvs.map (·.1) ++ [k] := by
  unfold putK
  rw [valV_any]
  split
  · rw [List.map_map]
    refine List.map_congr_left fun e _ => ?_
    show (if e.1 = k then (e.1, v) else e).1 = _
    split
    · rfl
    · rfl
  · rw [List.map_append]
    rfl
theorem putK_mem {α : Type} [DecidableEq α] {kvs : List (α × V)} {k : α} {v : V} {e : α × V} (h : e ∈ putK kvs k v) : e = (k, v) ∨ e ∈ kvs := by
  unfold putK at h
  split at h
  · obtain ⟨z, hz, rfl⟩ := List.mem_map.mp h
    split
    · rename_i h
      exact .inl (by rw [h])
    · exact .inr hz
  · rcases List.mem_append.mp h with h | h
    · exact .inr h
    · exact .inl (List.mem_singleton.mp h)
theorem valV_mem {α : Type} [DecidableEq α] {kvs : List (α × V)} {k : α} {v : V} (h : valV kvs k = some v) : (k, v) ∈ kvs := by
  induction kvs with
  | nil => cases h
  | cons e r ih =>
    by_cases z : e.1 = k
    · rw [valV_pos z] at h
      cases h
      subst z
      exact List.mem_cons_self
    · rw [valV_neg z] at h
      exact List.mem_cons_of_mem _ (ih h)
theorem valV_none {α : Type} [DecidableEq α] {kvs : List (α × V)} {k : α} (h : valV kvs k = none) : k ∉ kvs.map (·.1) := by
  induction kvs with
  | nil => simp
  | cons e r ih =>
    by_cases z : e.1 = k
    · rw [valV_pos z] at h
      cases h
    · rw [valV_neg z] at h
      rw [List.map_cons]
      intro y
      rcases List.mem_cons.mp y with y | y
      · exact z y.symm
      · exact ih h y
theorem CIn.put {kvs : List (List Key × V)} {k : List Key} {v : V} (h : CIn K I zs ps l H kvs) (hk : (∃ s t, k = kyC s t ∧ t ≤ l.length ∧ s ≤ t ∧ AnC K H I zs ps (sg l s t) v) ∨ ∃ s t c m, k = kyF s t c m ∧ t ≤ l.length ∧ s ≤ t ∧ c < 103 ∧ m ≤ 4 ∧ AnF K H I zs ps s (sg l s t) c m v) : CIn K I zs ps l H (putK kvs k v) := by
  refine ⟨?_, fun e he => ?_⟩
  · rw [putK_keys]
    split
    · exact h.nd
    · rename_i z
      refine List.nodup_append.mpr ⟨h.nd, by simp, fun a ha b hb => ?_⟩
      rw [List.mem_singleton.mp hb]
      rintro rfl
      exact valV_none (by simpa using z) ha
  · rcases putK_mem he with rfl | he
    · exact hk
    · exact h.ok e he
/-- all the keys there may be -/
def allKy (n : Nat) : List (List Key) := (List.range (n + 1)).flatMap fun s => (List.range (n + 1)).flatMap fun t => kyC s t :: (List.range 103).flatMap fun c => (List.range 5).map fun m => kyF s t c m
theorem flat_len {α β : Type} {f : α → List β} {b : Nat} : ∀ {L : List α}, (∀ x ∈ L, (f x).length ≤ b) → (L.flatMap f).length ≤ L.length * b
  | [], _ => by simp
  | x :: r, h => by
    have h1 := h x (by simp)
    have h2 := flat_len (f := f) (b := b) (L := r) fun y hy => h y (by simp [hy])
    rw [List.flatMap_cons, List.length_append, List.length_cons, Nat.add_mul]
    omega
theorem CIn.len {kvs : List (List Key × V)} (h : CIn K I zs ps l H kvs) (hl : l.length ≤ 40) : kvs.length < 1000000 := by
  have h1 : (kvs.map (·.1)).length ≤ (allKy 40).length := h.nd.length_le_of_subset fun k hk => by
    obtain ⟨e, he, rfl⟩ := List.mem_map.mp hk
    unfold allKy
    rcases h.ok e he with ⟨s, t, e1, e2, e3, _⟩ | ⟨s, t, c, m, e1, e2, e3, e4, e5, _⟩
    · exact List.mem_flatMap.mpr ⟨s, List.mem_range.mpr (by omega), List.mem_flatMap.mpr ⟨t, List.mem_range.mpr (by omega), by rw [e1]; exact List.mem_cons_self⟩⟩
    · exact List.mem_flatMap.mpr ⟨s, List.mem_range.mpr (by omega), List.mem_flatMap.mpr ⟨t, List.mem_range.mpr (by omega), List.mem_cons_of_mem _ (List.mem_flatMap.mpr ⟨c, List.mem_range.mpr e4, List.mem_map.mpr ⟨m, List.mem_range.mpr (by omega), e1.symm⟩⟩)⟩⟩
  have h2 : (allKy 40).length ≤ 41 * (41 * 516) := by
    unfold allKy
    refine Nat.le_trans (flat_len (b := 41 * 516) fun s _ => ?_) (by rw [List.length_range]; exact Nat.le_refl _)
    refine Nat.le_trans (flat_len (b := 516) fun t _ => ?_) (by rw [List.length_range]; exact Nat.le_refl _)
    rw [List.length_cons]
    have := flat_len (f := fun c => (List.range 5).map fun m => kyF s t c m) (b := 5) (L := List.range 103) fun c _ => by simp
    rw [List.length_range] at this
    omega
  rw [List.length_map] at h1
  omega
theorem CIn.get {kvs : List (List Key × V)} {k : List Key} {v : V} (h : CIn K I zs ps l H kvs) (hv : valV kvs k = some v) :
    (∀ s t, k = kyC s t → AnC K H I zs ps (sg l s t) v) ∧ ∀ s t c m, k = kyF s t c m → AnF K H I zs ps s (sg l s t) c m v := by
  have hm := h.ok _ (valV_mem hv)
  constructor
  · rintro s t rfl
    rcases hm with ⟨s', t', e, _, _, h⟩ | ⟨s', t', c, m, e, _⟩
    · injection e with e1 e2
      injection e2 with e2 _
      obtain rfl : s = s' := by have := Sum.inl.inj e1; omega
      obtain rfl : t = t' := by have := Sum.inl.inj e2; omega
      exact h
    · cases e
  · rintro s t c m rfl
    rcases hm with ⟨s', t', e, _⟩ | ⟨s', t', c', m', e, _, _, _, _, h⟩
    · cases e
    · injection e with e1 e2
      injection e2 with e2 e3
      injection e3 with e3 e4
      injection e4 with e4 _
      obtain rfl : s = s' := by have := Sum.inl.inj e1; omega
      obtain rfl : t = t' := by have := Sum.inl.inj e2; omega
      obtain rfl : c = c' := by have := S_inj (Sum.inr.inj e3); simpa using this
      obtain rfl : m = m' := by have := Sum.inl.inj e4; omega
      exact h
/-- an answer put into the cache -/
theorem Pl.put (h : Pl K CC I zs ps l H x pd c) {kvs : List (List Key × V)} {k : List Key} {v : V} (hc : H c = some (.dT kvs)) (hI : CIn K I zs ps l H kvs)
    (hk : (∃ s t, k = kyC s t ∧ t ≤ l.length ∧ s ≤ t ∧ AnC K H I zs ps (sg l s t) v) ∨ ∃ s t c m, k = kyF s t c m ∧ t ≤ l.length ∧ s ≤ t ∧ c < 103 ∧ m ≤ 4 ∧ AnF K H I zs ps s (sg l s t) c m v) :
    Pl K CC I zs ps l (upd H c (.dT (putK kvs k v))) x pd c ∧ CIn K I zs ps l (upd H c (.dT (putK kvs k v))) (putK kvs k v) := by
  obtain ⟨a, dx, e1, e2⟩ := h.ex
  have s : SameB c H (upd H c (.dT (putK kvs k v))) := sameB_upd
  have hI2 := (hI.put hk).frx (H' := upd H c (.dT (putK kvs k v))) fun _ _ z => dT_up s hc z
  exact ⟨⟨⟨a, dx, s _ _ (ne_of e1 hc fun z => by cases z) e1, dT_up s hc e2⟩, s _ _ (ne_of h.pr hc fun z => by cases z) h.pr, _, upd_same, hI2⟩, hI2⟩
end
/-! ### least of pairs -/
theorem dlt_pair (a b c d : Int) : PySem.W.dataLt (.tuple [.int a, .int b]) (.tuple [.int c, .int d]) = decide (a < c ∨ a = c ∧ b < d) := by
  unfold PySem.W.dataLt
  simp only [PySem.W.keyToks, PySem.W.keyToksAll, List.cons_append, List.nil_append]
  rw [PyProof.Rows.lex_self]
  by_cases h : a = c
  · subst h
    rw [PyProof.Rows.lex_self, PyProof.Rows.lex_self]
    by_cases h2 : b = d
    · subst h2
      rw [PyProof.Rows.lex_irrefl]
      simp
    · rw [PyProof.Rows.lex_diff (fun z => h2 (Sum.inl.inj z))]
      show decide (b < d) = _
      simp
  · rw [PyProof.Rows.lex_diff (fun z => h (Sum.inl.inj z))]
    show decide (a < c) = _
    simp [h]
theorem dlt_txt (a c : Int) : PySem.W.dataLt (.tuple [.int a, .str (S pckW)]) (.tuple [.int c, .str (S delW)]) = decide (a < c) := by
  unfold PySem.W.dataLt
  simp only [PySem.W.keyToks, PySem.W.keyToksAll, List.cons_append, List.nil_append]
  rw [PyProof.Rows.lex_self]
  by_cases h : a = c
  · subst h
    rw [PyProof.Rows.lex_self, PyProof.Rows.lex_self, PyProof.Rows.lex_diff (by intro z; cases z)]
    simp
    decide
  · rw [PyProof.Rows.lex_diff (fun z => h (Sum.inl.inj z))]
    rfl
/-- the place of a choice, in the whole row -/
def plc (s n N j : Nat) : Int := if j = n then ((N : Nat) : Int) else ((s + j : Nat) : Int)
def dPr (s n N : Nat) (p : Int × Nat) : PyData := .tuple [.int p.1, .int (plc s n N p.2)]
theorem plc_lt {s n N i j : Nat} (h : s + n ≤ N) (hi : i ≤ n) (hj : j ≤ n) : (plc s n N i < plc s n N j ↔ i < j) ∧ (plc s n N i = plc s n N j ↔ i = j) := by
  unfold plc
  split <;> split <;> omega
theorem dlt_dPr {s n N : Nat} {p q : Int × Nat} (h : s + n ≤ N) (hp : p.2 ≤ n) (hq : q.2 ≤ n) : PySem.W.dataLt (dPr s n N p) (dPr s n N q) = ltP p q := by
  unfold dPr ltP
  rw [dlt_pair]
  have := plc_lt h hp hq
  rw [Bool.eq_iff_iff, decide_eq_true_iff, decide_eq_true_iff, this.1]
theorem minD_dPr {s n N : Nat} (h : s + n ≤ N) : ∀ (r : List (Int × Nat)) (p : Int × Nat), p.2 ≤ n → (∀ q ∈ r, q.2 ≤ n) → PySem.W.minD (dPr s n N p) (r.map (dPr s n N)) = dPr s n N (r.foldl (fun a y => if ltP y a then y else a) p)
  | [], p, _, _ => rfl
  | y :: r, p, hp, hr => by
    have hy := hr y (by simp)
    have e : (if PySem.W.dataLt (dPr s n N y) (dPr s n N p) then dPr s n N y else dPr s n N p) = dPr s n N (if ltP y p then y else p) := by
      rw [dlt_dPr h hy hp]
      split <;> rfl
    have := minD_dPr h r (if ltP y p then y else p) (by split <;> assumption) fun q hq => hr q (by simp [hq])
    unfold PySem.W.minD at this ⊢
    rw [List.map_cons, List.foldl_cons, List.foldl_cons, e]
    exact this
theorem dPr_inj {s n N : Nat} {p q : Int × Nat} (h : s + n ≤ N) (hp : p.2 ≤ n) (hq : q.2 ≤ n) (e : dPr s n N p = dPr s n N q) : p = q := by
  unfold dPr at e
  injection e with e
  injection e with e1 e2
  injection e2 with e2 _
  injection e1 with e1
  injection e2 with e2
  exact Prod.ext e1 ((plc_lt h hp hq).2.mp e2)
/-- options as tuples in the heap -/
def OpL (K : PySem.W.Frag) (H : Hp) (s n N : Nat) (ys : List V) (L : List (Int × Nat)) : Prop := Paired (fun v p => p.2 ≤ n ∧ ∃ t, v = .ref t ∧ SqT K H t [.int p.1, .int (plc s n N p.2)]) ys L
theorem OpL.frx {H H' : Hp} {s n N : Nat} {ys : List V} {L : List (Int × Nat)} (h : OpL K H s n N ys L) (f : ∀ a xs, SqT K H a xs → SqT K H' a xs) : OpL K H' s n N ys L := by
  unfold OpL at h ⊢
  induction h with
  | nil => exact .nil
  | cons a _ ih =>
    obtain ⟨h1, t, e, h2⟩ := a
    exact .cons ⟨h1, t, e, f _ _ h2⟩ ih
theorem OpL.dp {H : Hp} {s n N : Nat} {ys : List V} {L : List (Int × Nat)} (h : OpL K H s n N ys L) : DpAll K H ys (L.map (dPr s n N)) := by
  unfold OpL at h
  induction h with
  | nil => exact .nil
  | cons a _ ih =>
    obtain ⟨_, t, rfl, h2⟩ := a
    exact .cons (.tup h2 (.cons (.int _) (.cons (.int _) .nil))) ih
theorem OpL.le {H : Hp} {s n N : Nat} {ys : List V} {L : List (Int × Nat)} (h : OpL K H s n N ys L) : ∀ q ∈ L, q.2 ≤ n := by
  unfold OpL at h
  induction h with
  | nil => intro q hq; cases hq
  | cons a _ ih =>
    intro q hq
    rcases List.mem_cons.mp hq with rfl | hq
    · exact a.1
    · exact ih q hq
theorem OpL.at {H : Hp} {s n N : Nat} {ys : List V} {L : List (Int × Nat)} (h : OpL K H s n N ys L) : ∀ {i : Nat} {v : V}, ys[i]? = some v → ∃ p, L[i]? = some p ∧ ∃ t, v = .ref t ∧ SqT K H t [.int p.1, .int (plc s n N p.2)] := by
  unfold OpL at h
  induction h with
  | nil => intro i v e; simp at e
  | cons a _ ih =>
    intro i v e
    cases i with
    | zero => cases e; exact ⟨_, rfl, a.2⟩
    | succ i => exact ih (by simpa using e)
theorem OpL.snoc {H : Hp} {s n N : Nat} {ys : List V} {L : List (Int × Nat)} {v : V} {p : Int × Nat} (h : OpL K H s n N ys L) (hp : p.2 ≤ n) {t : Addr} (e : v = .ref t) (ht : SqT K H t [.int p.1, .int (plc s n N p.2)]) : OpL K H s n N (ys ++ [v]) (L ++ [p]) := by
  unfold OpL at h ⊢
  induction h with
  | nil => exact .cons ⟨hp, t, e, ht⟩ .nil
  | cons a _ ih => exact .cons a ih
theorem alike_dPr {s n N : Nat} (L : List (Int × Nat)) : PySem.W.AlikeAll (L.map (dPr s n N)) ∧ PyData.depthAll (L.map (dPr s n N)) ≤ 8 := by
  refine ⟨⟨fun x hx y hy => ?_, fun x hx => ?_⟩, ?_⟩
  · obtain ⟨p, _, rfl⟩ := List.mem_map.mp hx
    obtain ⟨q, _, rfl⟩ := List.mem_map.mp hy
    rfl
  · obtain ⟨p, _, rfl⟩ := List.mem_map.mp hx
    intro z
    cases z
  · induction L with
    | nil => simp [PyData.depthAll]
    | cons p r ih =>
      rw [List.map_cons]
      simp only [PyData.depthAll, dPr, PyData.depth]
      have ih : PyData.depthAll (r.map fun p => PyData.tuple [.int p.1, .int (plc s n N p.2)]) ≤ 8 := ih
      omega
/-- min of the list at D is something of which A is true -/
def MinC (K : PySem.W.Frag) (H : Hp) (D : Addr) (A : V → Prop) : Prop := ∃ (ys : List V) (x : PyData) (xs : List PyData), SqL K H D ys ∧ DpAll K H ys (x :: xs) ∧ PySem.W.AlikeAll (x :: xs) ∧ PyData.depthAll (x :: xs) ≤ 8 ∧ ∀ (i : Nat) (v : V), ys[i]? = some v → (x :: xs)[i]? = some (PySem.W.minD x xs) → A v
/-- min of the options -/
theorem min_ops {H : Hp} {s n N : Nat} {ys : List V} {L : List (Int × Nat)} {p : Int × Nat} {D : Addr} {A : V → Prop} (h : OpL K H s n N ys L) (hn : s + n ≤ N) (hD : SqL K H D ys) (hm : minL L = some p) (q : ∀ t, SqT K H t [.int p.1, .int (plc s n N p.2)] → A (.ref t)) : MinC K H D A := by
  cases L with
  | nil => cases hm
  | cons a r =>
    have hle := h.le
    have hmd := minD_dPr hn r a (hle a (by simp)) fun z hz => hle z (by simp [hz])
    cases hm
    obtain ⟨al1, al2⟩ := alike_dPr (s := s) (n := n) (N := N) (a :: r)
    refine ⟨ys, _, _, hD, h.dp, al1, al2, fun i v hv hi => ?_⟩
    obtain ⟨z, hz, t, rfl, ht⟩ := h.at hv
    have hi : ((a :: r).map (dPr s n N))[i]? = some (PySem.W.minD (dPr s n N a) (r.map (dPr s n N))) := hi
    rw [List.getElem?_map, hz, hmd] at hi
    have hzn := hle z (List.mem_of_getElem? hz)
    have e := dPr_inj hn hzn (hle _ (minF_spec r a).1) (Option.some.inj hi)
    rw [e] at ht
    exact q t ht

-- NEEDS plan1
/-! the least price: clear, fill -/
def sp_clearN (n : Nat) (P : Program) (w : World) (CC : Addr) (K : PySem.W.Frag) : Sp := fun vs H Q _ => ∃ (x pd c : Addr) (I : Bool) (zs ps : List Int) (l : List Nat) (s e : Nat), vs = [.ref x, .int (s : Nat), .int (e : Nat)] ∧ PlS zs ps l ∧ Pl K CC I zs ps l H x pd c ∧ s ≤ e ∧ e ≤ l.length ∧ e - s ≤ n ∧
  ∀ H' v, SameB c H H' → Pl K CC I zs ps l H' x pd c → AnC K H' I zs ps (sg l s e) v → Q v H'
def sp_fillN (n : Nat) (P : Program) (w : World) (CC : Addr) (K : PySem.W.Frag) : Sp := fun vs H Q _ => ∃ (x pd c : Addr) (I : Bool) (zs ps : List Int) (l : List Nat) (s e d m : Nat), vs = [.ref x, .int (s : Nat), .int (e : Nat), .str (S [d]), .int (m : Nat)] ∧ PlS zs ps l ∧ Pl K CC I zs ps l H x pd c ∧ s ≤ e ∧ e ≤ l.length ∧ e - s ≤ n ∧ 97 ≤ d ∧ d < 97 + zs.length ∧ m ≤ 4 ∧
  ∀ H' v, SameB c H H' → Pl K CC I zs ps l H' x pd c → AnF K H' I zs ps s (sg l s e) d m v → Q v H'
def sp_Planner__clear (P : Program) (w : World) (CC : Addr) (K : PySem.W.Frag) : Sp := sp_clearN 30 P w CC K
def sp_Planner__fill (P : Program) (w : World) (CC : Addr) (K : PySem.W.Frag) : Sp := sp_fillN 30 P w CC K
theorem min_one {H : Hp} {D t : Addr} {a : Int} {W : List Nat} {A : V → Prop} (hD : SqL K H D [.ref t]) (ht : SqT K H t [.int a, .str (S W)]) (q : A (.ref t)) : MinC K H D A := by
  refine ⟨[.ref t], .tuple [.int a, .str (S W)], [], hD, .cons (.tup ht (.cons (.int _) (.cons (.str _) .nil))) .nil, ⟨fun x hx y hy => ?_, fun x hx => ?_⟩, by simp [PyData.depthAll, PyData.depth], fun i v hv _ => ?_⟩
  · rw [List.mem_singleton.mp hx, List.mem_singleton.mp hy]
    rfl
  · rw [List.mem_singleton.mp hx]
    intro z
    cases z
  · match i, hv with
    | 0, hv => cases hv; exact q
theorem min_two {H : Hp} {D t u : Addr} {a b : Int} {A : V → Prop} (hD : SqL K H D [.ref t, .ref u]) (ht : SqT K H t [.int a, .str (S delW)]) (hu : SqT K H u [.int b, .str (S pckW)]) (q1 : b < a → A (.ref u)) (q2 : ¬ b < a → A (.ref t)) : MinC K H D A := by
  have ne : ∀ c d : Int, PyData.tuple [.int c, .str (S delW)] ≠ .tuple [.int d, .str (S pckW)] := fun c d z => by
    injection z with z
    injection z with _ z
    injection z with z _
    injection z with z
    exact absurd (S_inj z) (by decide)
  have em : PySem.W.minD (.tuple [.int a, .str (S delW)]) [.tuple [.int b, .str (S pckW)]] = if b < a then .tuple [.int b, .str (S pckW)] else .tuple [.int a, .str (S delW)] := by
    show (if PySem.W.dataLt (.tuple [.int b, .str (S pckW)]) (.tuple [.int a, .str (S delW)]) = true then _ else _) = _
    rw [dlt_txt]
    by_cases h : b < a
    · rw [if_pos (decide_eq_true h), if_pos h]
    · rw [if_neg (by simp [h]), if_neg h]
  refine ⟨[.ref t, .ref u], .tuple [.int a, .str (S delW)], [.tuple [.int b, .str (S pckW)]], hD, .cons (.tup ht (.cons (.int _) (.cons (.str _) .nil))) (.cons (.tup hu (.cons (.int _) (.cons (.str _) .nil))) .nil), ⟨fun x hx y hy => ?_, fun x hx => ?_⟩, by simp [PyData.depthAll, PyData.depth], fun i v hv hi => ?_⟩
  · simp only [List.mem_cons, List.not_mem_nil, or_false] at hx hy
    rcases hx with rfl | rfl <;> rcases hy with rfl | rfl <;> rfl
  · simp only [List.mem_cons, List.not_mem_nil, or_false] at hx
    rcases hx with rfl | rfl <;> (intro z; cases z)
  · rw [em] at hi
    match i, hv, hi with
    | 0, hv, hi =>
      cases hv
      refine q2 fun h => ?_
      rw [if_pos h] at hi
      exact ne _ _ (Option.some.inj hi)
    | 1, hv, hi =>
      cases hv
      refine q1 (Classical.byContradiction fun h => ?_)
      rw [if_neg h] at hi
      exact ne _ _ (Option.some.inj hi).symm
theorem cmul4 {m : Nat} {k : Int} (h : m ≤ 4) : CMul ((m : Nat) : Int) k := by
  have : ((2 : Int) ^ 64) = 18446744073709551616 := by decide
  exact .inl ⟨by omega, by omega⟩
abbrev s_Planner__clear : Stmt := (C8.clsBody (topS 23)).getD 1 (.Pass ⟨0, 0, 0, 0⟩)
theorem sc_Planner__clear : FnScope ["self", "start", "end", "bead", "options", "cost"] ["self", "start", "end"] (defScope s_Planner__clear) := ⟨rfl, rfl, rfl, by decide +kernel, rfl, by decide +kernel, by decide +kernel⟩

abbrev s_Planner__fill : Stmt := (C8.clsBody (topS 23)).getD 2 (.Pass ⟨0, 0, 0, 0⟩)
theorem sc_Planner__fill : FnScope ["self", "start", "end", "color", "missing", "key", "options", "position", "cost"] ["self", "start", "end", "color", "missing"] (defScope s_Planner__fill) := ⟨rfl, rfl, rfl, by decide +kernel, rfl, by decide +kernel, by decide +kernel⟩

theorem ok_clear0 {f : Addr} {fd : FuncData} (F : Fun K "clear" "Planner.clear" s_Planner__clear f fd) (B : Bi mg) {CC : Addr} : FnOk P w K mg base CX0 5 f fd ["self", "start", "end"] (sp_clearN 0 P w CC K) := by
  refine F.ok sc_Planner__clear (fun vs H Q E h => ?_) (fun cdv A outer s0 H vs Q E hr h => ?_)
  · obtain ⟨x, pd, c, I, zs, ps, l, s, e, rfl, _⟩ := h
    rfl
  obtain ⟨x, pd, c, I, zs, ps, l, s, e, rfl, S0, hP, hse, hel, hn, q⟩ := h
  refine ⟨_, (pss_cons (ps_if (pt_cmpG (op_eqG (K := K) hr.units) (gv 1) (gv 2) (nomark _))
      (pss_one (ps_ret (pe_tup (pa_cons pe_int (pa_cons pe_non pa_nil)))))
      pss_nil)
      pss_never), ?_⟩
  obtain rfl : s = e := by omega
  refine iteB ⟨fun he => ⟨by show 2 ≤ sizeLine; decide, fun t ht => ?_⟩, fun he => absurd (decide_eq_true rfl) he⟩
  refine q _ _ (SameB.of (same_upd ht)) (hP.same (same_upd ht)) ⟨t, rfl, ?_⟩
  have : sg l s s = [] := by unfold sg; rw [Nat.sub_self, List.take_zero]
  rw [this, cl_nil]
  exact SqT.of upd_same
theorem ok_clearS {n : Nat} {f : Addr} {fd : FuncData} (F : Fun K "clear" "Planner.clear" s_Planner__clear f fd) (B : Bi mg) {CC : Addr} (T : PlnT K CC) (C_size_of : Cal P w K mg base CX0 1 "size_of" ["sizes", "color"] (sp_size_of K)) (C_self : MCal P w K mg base CX0 (5 + 2 * n) CC "clear" ["self", "start", "end"] (sp_clearN n P w CC K)) (C_Planner__fill : MCal P w K mg base CX0 (6 + 2 * n) CC "fill" ["self", "start", "end", "color", "missing"] (sp_fillN n P w CC K)) :
    FnOk P w K mg base CX0 (7 + 2 * n) f fd ["self", "start", "end"] (sp_clearN (n + 1) P w CC K) := by
  rw [show 7 + 2 * n = (6 + 2 * n) + 1 by omega]
  refine F.ok sc_Planner__clear (fun vs H Q E h => ?_) (fun cdv A outer s0 H vs Q E hr h => ?_)
  · obtain ⟨x, pd, c, I, zs, ps, l, s, e, rfl, _⟩ := h
    rfl
  obtain ⟨x, pd, c, I, zs, ps, l, s, e, rfl, S0, hP, hse, hel, hn, q⟩ := h
  have h6 := S0.z.six
  have hl40 := S0.n
  refine ⟨_, (pss_cons (ps_if (pt_cmpG (op_eqG (K := K) hr.units) (gv 1) (gv 2) (nomark _))
      (pss_one (ps_ret (pe_tup (pa_cons pe_int (pa_cons pe_non pa_nil)))))
      pss_nil)
      (pss_cutG (ps_if (pt_cmpG (op_notInT hr.units) (pe_tup (pa_cons (gv 1) (pa_cons (gv 2) pa_nil))) (pe_fldG (K := K) (gv 0)) rfl)
      (pss_cons (ps_set (i := 3) sc_Planner__clear.nd rfl (.inl rfl) (pe_ix (ixG (K := K)) (pe_fldG (K := K) (gv 0)) (gv 1) (fun _ _ => rfl)))
      (pss_cons (ps_set (i := 4) sc_Planner__clear.nd rfl (.inl rfl) (pe_lst pa_nil))
      (pss_cutG (ps_if (pt_not (pt_truG (K := K) (pe_fldG (K := K) (gv 0))))
      (pss_one (ps_expr (pe_bmG (K := K) PySem.F.plainAttrs_list PySem.F.slot_list_append PySem.F.type_list_append mt_appendG (gv 4) (pa_cons (pe_tup (pa_cons (pe_op (op_addG (K := K)) (pe_ix (ixK hr.units) (pe_fldG (K := K) (gv 0)) (gv 3) (fun _ _ => rfl)) (pe_ix (ixG (K := K)) (pe_mcal (gv 0) C_self (hr.mono (by omega)) pass0 (pa_cons (pe_op (op_addG (K := K)) (gv 1) pe_int) (pa_cons (gv 2) pa_nil))) pe_int (fun _ _ => rfl))) (pa_cons (pe_strC [100, 101, 108, 101, 116, 101] (by decide +kernel)) pa_nil))) pa_nil))))
      pss_nil)
      (pss_cons (ps_set (i := 5) sc_Planner__clear.nd rfl (.inl rfl) (pe_ix (ixG (K := K)) (pe_mcal (gv 0) C_Planner__fill (hr.mono (by omega)) pass0 (pa_cons (pe_op (op_addG (K := K)) (gv 1) pe_int) (pa_cons (gv 2) (pa_cons (gv 3) (pa_cons (pe_op op_subG (pe_cal C_size_of (hr.mono (by omega)) pass0 (pa_cons (pe_fldG (K := K) (gv 0)) (pa_cons (gv 3) pa_nil))) pe_int) pa_nil))))) pe_int (fun _ _ => rfl)))
      (pss_cutG (ps_if (pt_cmpG op_isNotG (gv 5) pe_non (nomark _))
      (pss_one (ps_expr (pe_bmG (K := K) PySem.F.plainAttrs_list PySem.F.slot_list_append PySem.F.type_list_append mt_appendG (gv 4) (pa_cons (pe_tup (pa_cons (gv 5) (pa_cons (pe_strC [112, 97, 99, 107] (by decide +kernel)) pa_nil))) pa_nil))))
      pss_nil)
      (pss_one (ps_asg (pe_callB (cr_minD (K := K) rfl hr.units) (by rfl) B.min bt_min (pa_cons (gv 4) pa_nil)) (pg_sub (pe_fldG (K := K) (gv 0)) (pe_tup (pa_cons (gv 1) (pa_cons (gv 2) pa_nil))) (set_T hr.units)))))))))
      pss_nil)
      (pss_one (ps_ret (pe_ix (ixT hr.units) (pe_fldG (K := K) (gv 0)) (pe_tup (pa_cons (gv 1) (pa_cons (gv 2) pa_nil))) (fun _ _ => rfl)))))), ?_⟩
  refine iteB ⟨fun he => ⟨by show 2 ≤ sizeLine; decide, fun t ht => ?_⟩, fun he => ?_⟩
  · have e0 : s = e := by have := of_decide_eq_true he; omega
    subst e0
    refine q _ _ (SameB.of (same_upd ht)) (hP.same (same_upd ht)) ⟨t, rfl, ?_⟩
    have : sg l s s = [] := by unfold sg; rw [Nat.sub_self, List.take_zero]
    rw [this, cl_nil]
    exact SqT.of upd_same
  have hlt : s < e := by
    have : ¬ s = e := fun z => he (decide_eq_true (by rw [z]))
    omega
  obtain ⟨d, hd, hsg⟩ := sg_cons hlt hel
  have hdR := S0.r d (List.mem_of_getElem? hd)
  have hm : szI zs d - 1 = ((szN zs d - 1 : Nat) : Int) := by have := szN_pos S0.z d; unfold szN at this ⊢; omega
  have hm4 : szN zs d - 1 ≤ 4 := by
    have := szI_ok S0.z hdR
    unfold szN
    omega
  refine ⟨fun σ H' => ∃ y3 y4 y5, σ = [some (.ref x), some (.int (s : Nat)), some (.int (e : Nat)), y3, y4, y5] ∧ SameB c H H' ∧ Pl K CC I zs ps l H' x pd c ∧ ∃ kvs v, H' c = some (.dT kvs) ∧ valV kvs (kyC s e) = some v ∧ AnC K H' I zs ps (sg l s e) v, ?_, ?_⟩
  · refine ⟨by show 2 ≤ sizeLine; decide, fun p hp => ?_⟩
    have sp := same_upd (o := .tup [.int (s : Nat), .int (e : Nat)]) hp
    have P1 := hP.same sp
    have ep : upd H p (.tup [.int (s : Nat), .int (e : Nat)]) p = some (.tup ((kyC s e).map kV)) := upd_same
    generalize upd H p (.tup [.int (s : Nat), .int (e : Nat)]) = H1 at *
    obtain ⟨a, dx, ex, hT⟩ := P1.ex
    obtain ⟨kvs, ec, hI⟩ := P1.ch
    refine ⟨CC, dx, _, _, ex, T.cl, T.n5, rfl, c, p, kvs, kyC s e, rfl, rfl, ec, ep, ?_⟩
    refine iteB ⟨fun e1 => ?_, fun e1 => ?_⟩
    · refine ⟨CC, dx, _, _, ex, T.cl, T.n2, rfl, d, by rw [tl_S]; omega, atI_nat hd, ?_⟩
      refine ⟨by show 0 ≤ sizeLine; decide, fun D hD => ?_⟩
      have sD := same_upd (o := .lst []) hD
      have P2 := P1.same sD
      have eD : upd H1 D (.lst []) D = some (.lst []) := upd_same
      have nDc : D ≠ c := (ne_of_none ec hD).symm
      have hDn : H D = none := sp.free hD
      have B2 : SameB c H (upd H1 D (.lst [])) := SameB.of (sp.trans sD)
      generalize upd H1 D (.lst []) = H2 at *
      clear ex hT ec hI e1 P1 hp hD sD sp ep
      refine ⟨fun σ H' => ∃ y5 ys, σ = [some (.ref x), some (.int (s : Nat)), some (.int (e : Nat)), some (.str (S [d])), some (.ref D), y5] ∧ SameB c H H' ∧ Pl K CC I zs ps l H' x pd c ∧ H' D = some (.lst ys) ∧ ((I = true ∧ ys = []) ∨ (I = false ∧ ∃ t, ys = [.ref t] ∧ SqT K H' t [.int (szI ps d + cl false (szN zs) (szI ps) (sg l (s + 1) e)), .str (S delW)])), ?_, ?_⟩
      · obtain ⟨a, dx, ex, hT⟩ := P2.ex
        refine ⟨CC, dx, _, _, ex, T.cl, T.n4, rfl, ?_⟩
        cases I with
        | true => exact ⟨_, _, rfl, B2, P2, eD, .inl ⟨rfl, rfl⟩⟩
        | false =>
          refine ⟨.inl ⟨rfl, _, SqL.of eD⟩, ?_⟩
          refine ⟨CC, dx, _, _, ex, T.cl, T.n3, rfl, pd, _, txK [d], _, rfl, P2.pr, rfl, valV_prD S0.z S0.p hdR.1 hdR.2, ?_⟩
          refine ⟨dx, _, ex, rfl, x, pd, c, false, zs, ps, l, s + 1, e, rfl, S0, P2, by omega, hel, by omega, fun H3 v b3 P3 hv => ?_⟩
          obtain ⟨t, rfl, ht⟩ := hv
          refine ⟨_, _, .inr ht, atI_nat (j := 0) rfl, by show 2 ≤ sizeLine; decide, fun u hu => ?_⟩
          have su := same_upd (o := .tup [.int (szI ps d + cl false (szN zs) (szI ps) (sg l (s + 1) e)), .str (S delW)]) hu
          have eD3 := su _ _ (b3 _ _ nDc eD)
          refine ⟨_, eD3, by decide, _, _, rfl, ?_, (P3.same su).wr eD3 sameB_upd, upd_same, .inr ⟨rfl, u, rfl, lst_up sameB_upd eD3 (SqT.of upd_same)⟩⟩
          exact (B2.trans (b3.trans (SameB.of su))).at hDn
      · rintro σ H3 ⟨y5, ys, rfl, B3, P3, eD3, hys⟩
        obtain ⟨a, dx, ex, hT⟩ := P3.ex
        refine ⟨dx, _, ex, rfl, CC, dx, _, _, ex, T.cl, T.n1, rfl, a, zs, d, rfl, hT, hdR.1, hdR.2, h6, ?_⟩
        refine ⟨x, pd, c, I, zs, ps, l, s + 1, e, d, szN zs d - 1, congrArg (fun z => [V.ref x, .int ((s + 1 : Nat) : Int), .int (e : Nat), .str (S [d]), .int z]) hm, S0, P3, by omega, hel, by omega, hdR.1, hdR.2, hm4, fun H4 v b4 P4 hv => ?_⟩
        obtain ⟨t, rfl, ht⟩ := hv
        refine ⟨_, _, .inr ht, atI_nat (j := 0) rfl, ?_⟩
        have eD4 := b4 _ _ nDc eD3
        have B4 := B3.trans b4
        obtain ⟨kv3, ec3, _⟩ := P3.ch
        have up4 : ∀ a xs, SqT K H3 a xs → SqT K H4 a xs := fun _ _ z => dT_up b4 ec3 z
        refine ⟨fun σ H' => ∃ y5, σ = [some (.ref x), some (.int (s : Nat)), some (.int (e : Nat)), some (.str (S [d])), some (.ref D), y5] ∧ SameB c H H' ∧ Pl K CC I zs ps l H' x pd c ∧ MinC K H' D (AnC K H' I zs ps (sg l s e)), ?_, ?_⟩
        · cases hfl : fl I (szN zs) (szI ps) (sg l (s + 1) e) d (szN zs d - 1) with
          | none =>
            refine ⟨_, rfl, B4, P4, ?_⟩
            rcases hys with ⟨rfl, _⟩ | ⟨rfl, t1, rfl, ht1⟩
            · rw [cl_true] at hfl
              cases hfl
            · refine min_one (SqL.of eD4) (up4 _ _ ht1) ⟨t1, rfl, ?_⟩
              have hdel : isDel (szN zs) (szI ps) d (sg l (s + 1) e) = true := by unfold isDel; rw [hfl]
              rw [hsg, cl, hfl]
              show SqT K H4 t1 [.int (szI ps d + cl false (szN zs) (szI ps) (sg l (s + 1) e)), if isDel (szN zs) (szI ps) d (sg l (s + 1) e) = true then _ else _]
              rw [if_pos hdel]
              exact up4 _ _ ht1
          | some v =>
            refine ⟨.inl ⟨rfl, _, SqL.of eD4⟩, by show 2 ≤ sizeLine; decide, fun u hu => ?_⟩
            have su := same_upd (o := .tup [.int v, .str (S pckW)]) hu
            have eD5 := su _ _ eD4
            have hlen : ys.length < 1000000 := by
              rcases hys with ⟨_, rfl⟩ | ⟨_, t1, rfl, _⟩ <;> simp
            refine ⟨_, eD5, hlen, _, rfl, (B4.trans (SameB.of su)).at hDn, (P4.same su).wr eD5 sameB_upd, ?_⟩
            have hu5 : SqT K (upd (upd H4 u (.tup [.int v, .str (S pckW)])) D (.lst (ys ++ [.ref u]))) u [.int v, .str (S pckW)] := lst_up sameB_upd eD5 (SqT.of upd_same)
            rcases hys with ⟨rfl, rfl⟩ | ⟨rfl, t1, rfl, ht1⟩
            · refine min_one (SqL.of upd_same) hu5 ⟨u, rfl, ?_⟩
              rw [cl_true] at hfl
              rw [hsg, Option.some.inj hfl]
              exact hu5
            · have ht5 := lst_up (H' := upd (upd H4 u (.tup [.int v, .str (S pckW)])) D (.lst ([.ref t1] ++ [.ref u]))) sameB_upd eD5 (su.tup (up4 _ _ ht1))
              have hiD : isDel (szN zs) (szI ps) d (sg l (s + 1) e) = !decide (v < szI ps d + cl false (szN zs) (szI ps) (sg l (s + 1) e)) := by unfold isDel; rw [hfl]
              have hcl : cl false (szN zs) (szI ps) (d :: sg l (s + 1) e) = if v < szI ps d + cl false (szN zs) (szI ps) (sg l (s + 1) e) then v else szI ps d + cl false (szN zs) (szI ps) (sg l (s + 1) e) := by rw [cl, hfl]; rfl
              refine min_two (SqL.of upd_same) ht5 hu5 (fun hlt => ⟨u, rfl, ?_⟩) (fun hlt => ⟨t1, rfl, ?_⟩)
              · rw [hsg, hcl, if_pos hlt]
                show SqT K _ u [.int v, if isDel (szN zs) (szI ps) d (sg l (s + 1) e) = true then _ else _]
                rw [if_neg (by rw [hiD]; simp [hlt])]
                exact hu5
              · rw [hsg, hcl, if_neg hlt]
                show SqT K _ t1 [.int (szI ps d + cl false (szN zs) (szI ps) (sg l (s + 1) e)), if isDel (szN zs) (szI ps) d (sg l (s + 1) e) = true then _ else _]
                rw [if_pos (by rw [hiD]; simp [hlt])]
                exact ht5
        · rintro σ H5 ⟨y5', rfl, B5, P5, ms, mx, mxs, m1, m2, m3, m4, m5⟩
          refine ⟨ms, mx, mxs, m1, m2, m3, m4, fun mi v mv1 mv2 => ?_⟩
          have hv := m5 mi v mv1 mv2
          obtain ⟨a5, dx5, ex5, _⟩ := P5.ex
          refine ⟨CC, dx5, _, _, ex5, T.cl, T.n5, rfl, by show 2 ≤ sizeLine; decide, fun p2 hp2 => ?_⟩
          have sp2 := same_upd (o := .tup [.int (s : Nat), .int (e : Nat)]) hp2
          have P6 := P5.same sp2
          obtain ⟨kv6, ec6, hI6⟩ := P6.ch
          refine ⟨c, p2, kv6, kyC s e, rfl, rfl, ec6, upd_same, hI6.len hl40, ?_⟩
          have hv6 := hv.frx (H' := upd H5 p2 (.tup [.int (s : Nat), .int (e : Nat)])) fun _ _ z => sp2.tup z
          obtain ⟨P7, hI7⟩ := P6.put ec6 hI6 (k := kyC s e) (.inl ⟨s, e, rfl, hel, hse, hv6⟩)
          exact ⟨_, _, _, rfl, B5.trans ((SameB.of sp2).trans sameB_upd), P7, _, v, upd_same, by rw [valV_put, if_pos rfl], hv6.frx fun _ _ z => dT_up sameB_upd ec6 z⟩
    · have e' : (valV kvs (kyC s e)).isSome = true := by cases h : (valV kvs (kyC s e)).isSome with | true => rfl | false => rw [h] at e1; exact absurd rfl e1
      obtain ⟨v, hv⟩ := Option.isSome_iff_exists.mp e'
      exact ⟨_, _, _, rfl, SameB.of sp, P1, kvs, v, ec, hv, (hI.get hv).1 s e rfl⟩
  · rintro σ H' ⟨y3, y4, y5, rfl, b1, P2, kvs, v, ek, hv, hA⟩
    obtain ⟨a, dx, ex, hT⟩ := P2.ex
    refine ⟨CC, dx, _, _, ex, T.cl, T.n5, rfl, by show 2 ≤ sizeLine; decide, fun p hp => ?_⟩
    have sp := same_upd (o := .tup [.int (s : Nat), .int (e : Nat)]) hp
    refine ⟨c, p, kvs, kyC s e, v, rfl, rfl, sp _ _ ek, upd_same, hv, q _ _ (b1.trans (SameB.of sp)) (P2.same sp) (hA.frx fun _ _ z => sp.tup z)⟩
/-- the place in the tuple that min gives -/
def pvO (s n N : Nat) : Option (Int × Nat) → V
  | none => .non
  | some p => .int (plc s n N p.2)
def sp_fillE (n : Nat) (P : Program) (w : World) (CC : Addr) (K : PySem.W.Frag) : Sp := fun vs H Q _ => ∃ (x pd c : Addr) (I : Bool) (zs ps : List Int) (l : List Nat) (s e d m : Nat), vs = [.ref x, .int (s : Nat), .int (e : Nat), .str (S [d]), .int (m : Nat)] ∧ PlS zs ps l ∧ Pl K CC I zs ps l H x pd c ∧ s ≤ e ∧ e ≤ l.length ∧ e - s < n ∧ 97 ≤ d ∧ d < 97 + zs.length ∧ m ≤ 4 ∧
  ∀ H' v, SameB c H H' → Pl K CC I zs ps l H' x pd c → AnF K H' I zs ps s (sg l s e) d m v → Q v H'
def sp_fillL : Nat → Program → World → Addr → PySem.W.Frag → Sp
  | 0 => fun _ _ _ _ _ _ _ _ => False
  | n + 1 => sp_fillN n
theorem fillL_mk {n : Nat} {P : Program} {w : World} {CC : Addr} {K : PySem.W.Frag} {vs : List V} {H : Hp} {Q : VK} {E : XK} (h : sp_fillE n P w CC K vs H Q E) : sp_fillL n P w CC K vs H Q E := by
  obtain ⟨x, pd, c, I, zs, ps, l, s, e, d, m, a1, a2, a3, a4, a5, a6, a7⟩ := h
  cases n with
  | zero => exact absurd a6 (Nat.not_lt_zero _)
  | succ n => exact ⟨x, pd, c, I, zs, ps, l, s, e, d, m, a1, a2, a3, a4, a5, Nat.le_of_lt_succ a6, a7⟩
theorem ok_fillN {n : Nat} {f : Addr} {fd : FuncData} (F : Fun K "fill" "Planner.fill" s_Planner__fill f fd) (B : Bi mg) {CC : Addr} (T : PlnT K CC) (C_self : MCal P w K mg base CX0 (4 + 2 * n) CC "fill" ["self", "start", "end", "color", "missing"] (sp_fillL n P w CC K)) (C_Planner__clear : MCal P w K mg base CX0 (5 + 2 * n) CC "clear" ["self", "start", "end"] (sp_clearN n P w CC K)) :
    FnOk P w K mg base CX0 (6 + 2 * n) f fd ["self", "start", "end", "color", "missing"] (sp_fillN n P w CC K) := by
  rw [show 6 + 2 * n = (5 + 2 * n) + 1 by omega]
  refine F.ok sc_Planner__fill (fun vs H Q E h => ?_) (fun cdv A outer s0 H vs Q E hr h => ?_)
  · obtain ⟨x, pd, c, I, zs, ps, l, s, e, d, m, rfl, _⟩ := h
    rfl
  obtain ⟨x, pd, c, I, zs, ps, l, s, e, d, m, rfl, S0, hP, hse, hel, hn, hd1, hd2, hm4, q⟩ := h
  have h6 := S0.z.six
  have hl40 := S0.n
  have hsl := sg_len (l := l) (s := s) hel
  refine ⟨_, (pss_cons (ps_if (pt_cmpG (op_eqG (K := K) hr.units) (gv 4) pe_int (nomark _))
      (pss_one (ps_ret (pe_tup (pa_cons (pe_ix (ixG (K := K)) (pe_mcal (gv 0) C_Planner__clear (hr.mono (by omega)) pass0 (pa_cons (gv 1) (pa_cons (gv 2) pa_nil))) pe_int (fun _ _ => rfl)) (pa_cons pe_non pa_nil)))))
      pss_nil)
      (pss_cons (ps_set (i := 5) sc_Planner__fill.nd rfl (.inl rfl) (pe_tup (pa_cons (gv 1) (pa_cons (gv 2) (pa_cons (gv 3) (pa_cons (gv 4) pa_nil))))))
      (pss_cutG (ps_if (pt_cmpG (op_notInT hr.units) (gv 5) (pe_fldG (K := K) (gv 0)) rfl)
      (pss_cons (ps_set (i := 6) sc_Planner__fill.nd rfl (.inl rfl) (pe_lst pa_nil))
      (pss_cutG (ps_if (pt_truG (K := K) (pe_fldG (K := K) (gv 0)))
      (pss_one (ps_expr (pe_bmG (K := K) PySem.F.plainAttrs_list PySem.F.slot_list_append PySem.F.type_list_append mt_appendG (gv 6) (pa_cons (pe_tup (pa_cons (pe_op (op_addG (K := K)) (pe_op (op_mulG (K := K)) (gv 4) (pe_ix (ixK hr.units) (pe_fldG (K := K) (gv 0)) (gv 3) (fun _ _ => rfl))) (pe_ix (ixG (K := K)) (pe_mcal (gv 0) C_Planner__clear (hr.mono (by omega)) pass0 (pa_cons (gv 1) (pa_cons (gv 2) pa_nil))) pe_int (fun _ _ => rfl))) (pa_cons (pe_callB (cr_lenG (K := K)) (by rfl) B.len bt_len (pa_cons (pe_fldG (K := K) (gv 0)) pa_nil)) pa_nil))) pa_nil))))
      pss_nil)
      (pss_cons (ps_for PassesOwn.never rfl (pi_range2 (by rfl) B.range (pa_cons (gv 1) (pa_cons (gv 2) pa_nil))) (pg_name (i := 7) sc_Planner__fill.nd rfl (.inl rfl))
      (pss_one (ps_if (pt_cmpG (op_eqG (K := K) hr.units) (pe_ix (ixG (K := K)) (pe_fldG (K := K) (gv 0)) (gv 7) (fun _ _ => rfl)) (gv 3) (nomark _))
      (pss_cons (ps_set (i := 8) sc_Planner__fill.nd rfl (.inl rfl) (pe_ix (ixG (K := K)) (pe_mcal (gv 0) C_self (hr.mono (by omega)) pass0 (pa_cons (pe_op (op_addG (K := K)) (gv 7) pe_int) (pa_cons (gv 2) (pa_cons (gv 3) (pa_cons (pe_op op_subG (gv 4) pe_int) pa_nil))))) pe_int (fun _ _ => rfl)))
      (pss_one (ps_if (pt_cmpG op_isNotG (gv 8) pe_non (nomark _))
      (pss_one (ps_expr (pe_bmG (K := K) PySem.F.plainAttrs_list PySem.F.slot_list_append PySem.F.type_list_append mt_appendG (gv 6) (pa_cons (pe_tup (pa_cons (pe_op (op_addG (K := K)) (pe_ix (ixG (K := K)) (pe_mcal (gv 0) C_Planner__clear (hr.mono (by omega)) pass0 (pa_cons (gv 1) (pa_cons (gv 7) pa_nil))) pe_int (fun _ _ => rfl)) (gv 8)) (pa_cons (gv 7) pa_nil))) pa_nil))))
      pss_nil)))
      pss_nil)))
      (pss_cutG (ps_asg (pe_ifExp (pt_cmpG (op_neG (K := K) hr.units) (gv 6) (pe_lst pa_nil) (nomark _)) (pe_callB (cr_minD (K := K) rfl hr.units) (by rfl) B.min bt_min (pa_cons (gv 6) pa_nil)) (pe_tup (pa_cons pe_non (pa_cons pe_non pa_nil)))) (pg_nm (K := K) (is := [8, 7]) (pgs_cons (pg_name (i := 8) sc_Planner__fill.nd rfl (.inl rfl)) (pgs_cons (pg_name (i := 7) sc_Planner__fill.nd rfl (.inl rfl)) pgs_nil)) nm2))
      (pss_one (ps_asg (pe_tup (pa_cons (gv 8) (pa_cons (pe_ifExp (pt_cmpG (op_eqG (K := K) hr.units) (gv 7) (pe_callB (cr_lenG (K := K)) (by rfl) B.len bt_len (pa_cons (pe_fldG (K := K) (gv 0)) pa_nil)) (nomark _)) pe_non (gv 7)) pa_nil))) (pg_sub (pe_fldG (K := K) (gv 0)) (gv 5) (set_T hr.units))))))))
      pss_nil)
      (pss_one (ps_ret (pe_ix (ixT hr.units) (pe_fldG (K := K) (gv 0)) (gv 5) (fun _ _ => rfl))))))), ?_⟩
  refine iteB ⟨fun he => ?_, fun he => ?_⟩
  · obtain rfl : m = 0 := by have := of_decide_eq_true he; omega
    obtain ⟨a, dx, ex, hT⟩ := hP.ex
    refine ⟨dx, _, ex, rfl, x, pd, c, I, zs, ps, l, s, e, rfl, S0, hP, hse, hel, hn, fun H1 v b1 P1 hv => ?_⟩
    obtain ⟨t, rfl, ht⟩ := hv
    refine ⟨_, _, .inr ht, atI_nat (j := 0) rfl, by show 2 ≤ sizeLine; decide, fun u hu => ?_⟩
    refine q _ _ (b1.trans (SameB.of (same_upd hu))) (P1.same (same_upd hu)) ⟨u, rfl, ?_⟩
    rw [fl_zero]
    exact SqT.of upd_same
  obtain ⟨m, rfl⟩ : ∃ m', m = m' + 1 := ⟨m - 1, by
    have : ¬ m = 0 := fun z => he (decide_eq_true (by rw [z]; rfl))
    omega⟩
  clear he
  refine ⟨by show 4 ≤ sizeLine; decide, fun p hp => ?_⟩
  have sp := same_upd (o := .tup [.int (s : Nat), .int (e : Nat), .str (S [d]), .int ((m + 1 : Nat) : Int)]) hp
  have P1 := hP.same sp
  have ep : upd H p (.tup [.int (s : Nat), .int (e : Nat), .str (S [d]), .int ((m + 1 : Nat) : Int)]) p = some (.tup ((kyF s e d (m + 1)).map kV)) := upd_same
  generalize upd H p (.tup [.int (s : Nat), .int (e : Nat), .str (S [d]), .int ((m + 1 : Nat) : Int)]) = H1 at *
  have q := fun H' v (b : SameB c H1 H') => q H' v ((SameB.of sp).trans b)
  clear hP sp hp
  generalize hX : sg l s e = X at *
  refine ⟨fun σ H' => ∃ y6 y7 y8, σ = [some (.ref x), some (.int (s : Nat)), some (.int (e : Nat)), some (.str (S [d])), some (.int ((m + 1 : Nat) : Int)), some (.ref p), y6, y7, y8] ∧ SameB c H1 H' ∧ Pl K CC I zs ps l H' x pd c ∧ ∃ kvs v, H' c = some (.dT kvs) ∧ valV kvs (kyF s e d (m + 1)) = some v ∧ AnF K H' I zs ps s X d (m + 1) v, ?_, ?_⟩
  · obtain ⟨a, dx, ex, hT⟩ := P1.ex
    obtain ⟨kvs, ec, hI⟩ := P1.ch
    have npc : p ≠ c := ne_of ep ec fun z => by cases z
    refine ⟨CC, dx, _, _, ex, T.cl, T.n5, rfl, c, p, kvs, kyF s e d (m + 1), rfl, rfl, ec, ep, ?_⟩
    refine iteB ⟨fun e1 => ?_, fun e1 => ?_⟩
    · refine ⟨by show 0 ≤ sizeLine; decide, fun D hD => ?_⟩
      have sD := same_upd (o := .lst []) hD
      have P2 := P1.same sD
      have eD : upd H1 D (.lst []) D = some (.lst []) := upd_same
      have nDc : D ≠ c := (ne_of_none ec hD).symm
      have nDp : D ≠ p := (ne_of_none ep hD).symm
      have B2 : SameB c H1 (upd H1 D (.lst [])) := SameB.of sD
      generalize upd H1 D (.lst []) = H2 at *
      clear ex hT e1 sD
      have keep : ∀ {H' : Hp}, SameB c H1 H' → H' p = some (.tup ((kyF s e d (m + 1)).map kV)) := fun b => b _ _ npc ep
      -- the beads inserted
      generalize hO : (if I then [(((m + 1 : Nat) : Int) * szI ps d + cl I (szN zs) (szI ps) X, X.length)] else []) = O0 at *
      refine ⟨fun σ H' => ∃ y7 y8 ys, σ = [some (.ref x), some (.int (s : Nat)), some (.int (e : Nat)), some (.str (S [d])), some (.int ((m + 1 : Nat) : Int)), some (.ref p), some (.ref D), y7, y8] ∧ SameB c H1 H' ∧ Pl K CC I zs ps l H' x pd c ∧ H' D = some (.lst ys) ∧ OpL K H' s X.length l.length ys O0, ?_, ?_⟩
      · obtain ⟨a, dx, ex, hT⟩ := P2.ex
        refine ⟨CC, dx, _, _, ex, T.cl, T.n4, rfl, ?_⟩
        cases I with
        | false => exact ⟨_, _, _, rfl, B2, P2, eD, by rw [← hO]; exact .nil⟩
        | true =>
          refine ⟨.inl ⟨rfl, _, SqL.of eD⟩, ?_⟩
          refine ⟨CC, dx, _, _, ex, T.cl, T.n3, rfl, pd, _, txK [d], _, rfl, P2.pr, rfl, valV_prD S0.z S0.p hd1 hd2, cmul4 hm4, ?_⟩
          refine ⟨dx, _, ex, rfl, x, pd, c, true, zs, ps, l, s, e, rfl, S0, P2, hse, hel, hn, fun H3 v b3 P3 hv => ?_⟩
          rw [hX] at hv
          obtain ⟨t, rfl, ht⟩ := hv
          refine ⟨_, _, .inr ht, atI_nat (j := 0) rfl, ?_⟩
          obtain ⟨a3, dx3, ex3, hT3⟩ := P3.ex
          refine ⟨CC, dx3, _, _, ex3, T.cl, T.n2, rfl, by rw [tl_S]; omega, by show 2 ≤ sizeLine; decide, fun u hu => ?_⟩
          have su := same_upd (o := .tup [.int (((m + 1 : Nat) : Int) * szI ps d + cl true (szN zs) (szI ps) X), .int ((l.length : Nat) : Int)]) hu
          have eD3 := su _ _ (b3 _ _ nDc eD)
          refine ⟨_, eD3, by decide, _, _, _, rfl, (B2.trans (b3.trans (SameB.of su))).at hD, (P3.same su).wr eD3 sameB_upd, upd_same, ?_⟩
          rw [← hO]
          refine OpL.snoc (ys := []) (L := []) .nil (Nat.le_refl _) rfl ?_
          unfold plc
          rw [if_pos rfl]
          exact lst_up sameB_upd eD3 (SqT.of upd_same)
      · rintro σ H3 ⟨y7, y8, ys, rfl, B3, P3, eD3, hys⟩
        refine ⟨_, _, rfl, ⟨by omega, by omega, by omega, by omega⟩, ?_⟩
        have en : (((e : Nat) : Int) - ((s : Nat) : Int)).toNat = X.length := by omega
        rw [en]
        refine for_range (fun j σ H' => ∃ y7 y8 ys, σ = [some (.ref x), some (.int (s : Nat)), some (.int (e : Nat)), some (.str (S [d])), some (.int ((m + 1 : Nat) : Int)), some (.ref p), some (.ref D), y7, y8] ∧ SameB c H1 H' ∧ Pl K CC I zs ps l H' x pd c ∧ H' D = some (.lst ys) ∧ ys.length ≤ j + 1 ∧ OpL K H' s X.length l.length ys (O0 ++ (List.range j).filterMap fun j => if X[j]? = some d then (fl I (szN zs) (szI ps) (X.drop (j + 1)) d m).map fun v => (cl I (szN zs) (szI ps) (X.take j) + v, j) else none)) ⟨y7, y8, ys, rfl, B3, P3, eD3, ?_, by rw [List.range_zero, List.filterMap_nil, List.append_nil]; exact hys⟩ ?_ ?_
        · have := hys.length
          rw [this, ← hO]
          split <;> simp
        · rintro j σ H4 hj ⟨y7, y8, ys, rfl, B4, P4, eD4, hyl, hys⟩
          rw [show ((s : Nat) : Int) + ((j : Nat) : Int) = ((s + j : Nat) : Int) by omega]
          have hjl : s + j < l.length := by omega
          have hk : l[s + j]? = some l[s + j] := List.getElem?_eq_getElem hjl
          have hXj : X[j]? = some l[s + j] := by rw [← hX, sg_get (by omega), hk]
          obtain ⟨a4, dx4, ex4, hT4⟩ := P4.ex
          obtain ⟨kv4, ec4, _⟩ := P4.ch
          rw [List.range_succ, List.filterMap_append]
          refine ⟨CC, dx4, _, _, ex4, T.cl, T.n2, rfl, l[s + j], by rw [tl_S]; omega, atI_nat hk, ?_⟩
          refine iteB ⟨fun hkd => ?_, fun hkd => ?_⟩
          · have hkd : l[s + j] = d := by have := of_decide_eq_true hkd; simpa using this
            rw [hkd] at hXj
            have hsub : ((m + 1 : Nat) : Int) - 1 = ((m : Nat) : Int) := by omega
            refine ⟨dx4, _, ex4, rfl, fillL_mk ⟨x, pd, c, I, zs, ps, l, s + j + 1, e, d, m, congrArg (fun z => [V.ref x, .int ((s + j + 1 : Nat) : Int), .int (e : Nat), .str (S [d]), .int z]) hsub, S0, P4, by omega, hel, by omega, hd1, hd2, by omega, fun H5 v b5 P5 hv => ?_⟩⟩
            obtain ⟨t, rfl, ht⟩ := hv
            have hXd : X.drop (j + 1) = sg l (s + j + 1) e := by rw [← hX, sg_drop, Nat.add_assoc]
            rw [← hXd] at ht
            refine ⟨_, _, .inr ht, atI_nat (j := 0) rfl, ?_⟩
            have eD5 := b5 _ _ nDc eD4
            have up5 : ∀ a xs, SqT K H4 a xs → SqT K H5 a xs := fun _ _ z => dT_up b5 ec4 z
            have B5 := B4.trans b5
            cases hfl : fl I (szN zs) (szI ps) (X.drop (j + 1)) d m with
            | none =>
              refine ⟨_, _, ys, rfl, B5, P5, eD5, by omega, ?_⟩
              rw [List.filterMap_cons, if_pos hXj, hfl]
              rw [show (Option.map (fun v => (cl I (szN zs) (szI ps) (X.take j) + v, j)) (none : Option Int)) = none from rfl]
              rw [List.filterMap_nil, List.append_nil]
              exact hys.frx up5
            | some wv =>
              obtain ⟨a5, dx5, ex5, hT5⟩ := P5.ex
              refine ⟨.inl ⟨rfl, _, SqL.of eD5⟩, ?_⟩
              refine ⟨dx5, _, ex5, rfl, x, pd, c, I, zs, ps, l, s, s + j, rfl, S0, P5, by omega, by omega, by omega, fun H6 v6 b6 P6 hv6 => ?_⟩
              obtain ⟨t6, rfl, ht6⟩ := hv6
              have hXt : X.take j = sg l s (s + j) := by rw [← hX, sg_take (by omega)]
              rw [← hXt] at ht6
              obtain ⟨kv5, ec5, _⟩ := P5.ch
              have up6 : ∀ a xs, SqT K H5 a xs → SqT K H6 a xs := fun _ _ z => dT_up b6 ec5 z
              refine ⟨_, _, .inr ht6, atI_nat (j := 0) rfl, by show 2 ≤ sizeLine; decide, fun u hu => ?_⟩
              have su := same_upd (o := .tup [.int (cl I (szN zs) (szI ps) (X.take j) + wv), .int ((s + j : Nat) : Int)]) hu
              have eD7 := su _ _ (b6 _ _ nDc eD5)
              refine ⟨_, eD7, by omega, _, _, _, rfl, (B5.trans (b6.trans (SameB.of su))).at hD, (P6.same su).wr eD7 sameB_upd, upd_same, by rw [List.length_append]; simp; omega, ?_⟩
              rw [List.filterMap_cons, if_pos hXj, hfl, ← List.append_assoc]
              refine OpL.snoc (p := (cl I (szN zs) (szI ps) (X.take j) + wv, j)) ?_ (by show j ≤ X.length; omega) rfl ?_
              · exact hys.frx fun _ _ z => lst_up sameB_upd eD7 (su.tup (up6 _ _ (up5 _ _ z)))
              · unfold plc
                rw [if_neg (by show ¬ j = X.length; omega)]
                exact lst_up sameB_upd eD7 (SqT.of upd_same)
          · have hkd : ¬ l[s + j] = d := fun z => hkd (decide_eq_true (by rw [z]))
            refine ⟨_, _, ys, rfl, B4, P4, eD4, by omega, ?_⟩
            rw [List.filterMap_cons, if_neg (by rw [hXj]; intro z; exact hkd (Option.some.inj z)), List.filterMap_nil, List.append_nil]
            exact hys
        · rintro σ H4 ⟨y7, y8, ys, rfl, B4, P4, eD4, hyl, hys⟩
          rw [← hO] at hys
          have hys : OpL K H4 s X.length l.length ys (ops I (szN zs) (szI ps) X d m) := hys
          have hfs := fl_succ I (szN zs) (szI ps) X d m
          have hfp : fp I (szN zs) (szI ps) X d (m + 1) = (minL (ops I (szN zs) (szI ps) X d m)).bind fun p => if p.2 = X.length then none else some p.2 := rfl
          generalize ops I (szN zs) (szI ps) X d m = L at *
          clear hO
          refine ⟨fun σ H' => σ = [some (.ref x), some (.int (s : Nat)), some (.int (e : Nat)), some (.str (S [d])), some (.int ((m + 1 : Nat) : Int)), some (.ref p), some (.ref D), some (pvO s X.length l.length (minL L)), some (oI ((minL L).map (·.1)))] ∧ SameB c H1 H' ∧ Pl K CC I zs ps l H' x pd c, ?_, ?_⟩
          · refine ⟨by show 0 ≤ sizeLine; decide, fun E0 hE0 => .inl ⟨_, _, rfl, rfl, ys, .inl ⟨SqL.of ((same_upd hE0) _ _ eD4), SqL.of upd_same⟩, ?_⟩⟩
            have sE := same_upd (o := .lst []) hE0
            have B5 := B4.trans (SameB.of sE)
            have P5 := P4.same sE
            have eD5 := sE _ _ eD4
            have hys5 := hys.frx (H' := upd H4 E0 (.lst [])) fun _ _ z => sE.tup z
            generalize upd H4 E0 (.lst []) = H5 at *
            cases hL : minL L with
            | none =>
              have : L = [] := by cases L with | nil => rfl | cons a r => cases hL
              subst this
              have : ys = [] := by have := hys.length; exact List.length_eq_zero_iff.mp this
              subst this
              refine iteB ⟨fun z => absurd z (by simp), fun _ => ?_⟩
              exact ⟨by show 2 ≤ sizeLine; decide, fun t ht => ⟨_, SqT.of upd_same, rfl, B5.trans (SameB.of (same_upd ht)), P5.same (same_upd ht)⟩⟩
            | some pm =>
              have hne : ys ≠ [] := fun z => by
                have := hys.length
                rw [z] at this
                have h0 : L = [] := List.length_eq_zero_iff.mp this.symm
                rw [h0] at hL
                cases hL
              refine iteB ⟨fun _ => ?_, fun z => absurd (by cases ys with | nil => exact absurd rfl hne | cons _ _ => rfl) z⟩
              obtain ⟨ms, mx, mxs, m1, m2, m3, m4, m5⟩ := min_ops (A := fun v => ∃ t, v = .ref t ∧ SqT K H5 t [.int pm.1, .int (plc s X.length l.length pm.2)]) hys5 (by omega) (SqL.of eD5) hL (fun t ht => ⟨t, rfl, ht⟩)
              refine ⟨ms, mx, mxs, m1, m2, m3, m4, fun mi v mv1 mv2 => ?_⟩
              obtain ⟨t, rfl, ht⟩ := m5 mi v mv1 mv2
              exact ⟨_, ht, rfl, B5, P5⟩
          · rintro σ H5 ⟨rfl, B5, P5⟩
            obtain ⟨a5, dx5, ex5, hT5⟩ := P5.ex
            have fin : ∀ (H6 : Hp) (u : Addr), SameB c H1 H6 → Pl K CC I zs ps l H6 x pd c → SqT K H6 u [oI (fl I (szN zs) (szI ps) X d (m + 1)), oP s (fp I (szN zs) (szI ps) X d (m + 1))] → ∃ kvs, H6 c = some (.dT kvs) ∧ kvs.length < 1000000 ∧ SameB c H1 (upd H6 c (.dT (putK kvs (kyF s e d (m + 1)) (.ref u)))) ∧ Pl K CC I zs ps l (upd H6 c (.dT (putK kvs (kyF s e d (m + 1)) (.ref u)))) x pd c ∧ AnF K (upd H6 c (.dT (putK kvs (kyF s e d (m + 1)) (.ref u)))) I zs ps s X d (m + 1) (.ref u) := fun H6 u b6 P6 hu => by
              obtain ⟨kv6, ec6, hI6⟩ := P6.ch
              have hA : AnF K H6 I zs ps s (sg l s e) d (m + 1) (.ref u) := by rw [hX]; exact ⟨u, rfl, hu⟩
              obtain ⟨P7, _⟩ := P6.put ec6 hI6 (k := kyF s e d (m + 1)) (.inr ⟨s, e, d, m + 1, rfl, hel, hse, by omega, hm4, hA⟩)
              exact ⟨kv6, ec6, hI6.len hl40, b6.trans sameB_upd, P7, u, rfl, dT_up sameB_upd ec6 hu⟩
            have fin2 : ∀ (u : Addr) (v1 v2 : V), H5 u = none → v1 = oI (fl I (szN zs) (szI ps) X d (m + 1)) → v2 = oP s (fp I (szN zs) (szI ps) X d (m + 1)) → ∃ kvs, (upd H5 u (.tup [v1, v2])) c = some (.dT kvs) ∧ kvs.length < 1000000 ∧ SameB c H1 (upd (upd H5 u (.tup [v1, v2])) c (.dT (putK kvs (kyF s e d (m + 1)) (.ref u)))) ∧ Pl K CC I zs ps l (upd (upd H5 u (.tup [v1, v2])) c (.dT (putK kvs (kyF s e d (m + 1)) (.ref u)))) x pd c ∧ AnF K (upd (upd H5 u (.tup [v1, v2])) c (.dT (putK kvs (kyF s e d (m + 1)) (.ref u)))) I zs ps s X d (m + 1) (.ref u) := fun u v1 v2 hu h1 h2 => fin _ u (B5.trans (SameB.of (same_upd hu))) (P5.same (same_upd hu)) (by rw [← h1, ← h2]; exact SqT.of upd_same)
            rw [hfs, hfp] at fin2
            cases hL : minL L with
            | none =>
              rw [hL] at fin2
              refine ⟨CC, dx5, _, _, ex5, T.cl, T.n2, rfl, by rw [tl_S]; omega, by show 2 ≤ sizeLine; decide, fun u hu => ?_⟩
              obtain ⟨kv6, e1, e2, e3, e4, e5⟩ := fin2 u _ _ hu rfl rfl
              exact ⟨CC, dx5, _, _, (same_upd hu) _ _ ex5, T.cl, T.n5, rfl, c, p, kv6, kyF s e d (m + 1), rfl, rfl, e1, keep (B5.trans (SameB.of (same_upd hu))), e2, _, _, _, rfl, e3, e4, _, _, upd_same, by rw [valV_put, if_pos rfl], e5⟩
            | some pm =>
              rw [hL] at fin2
              refine ⟨CC, dx5, _, _, ex5, T.cl, T.n2, rfl, by rw [tl_S]; omega, ?_⟩
              refine iteB ⟨fun hz => ⟨by show 2 ≤ sizeLine; decide, fun u hu => ?_⟩, fun hz => ⟨by show 2 ≤ sizeLine; decide, fun u hu => ?_⟩⟩
              · have hpe : pm.2 = X.length := by
                  have hz : plc s X.length l.length pm.2 = ((l.length : Nat) : Int) := of_decide_eq_true hz
                  have hpl := hys.le pm (minL_some hL).1
                  have := (plc_lt (s := s) (N := l.length) (show s + X.length ≤ l.length by omega) hpl (Nat.le_refl X.length)).2
                  refine this.mp ?_
                  rw [hz]
                  unfold plc
                  rw [if_pos rfl]
                obtain ⟨kv6, e1, e2, e3, e4, e5⟩ := fin2 u _ .non hu rfl (by show V.non = oP s (if pm.2 = X.length then none else some pm.2); rw [if_pos hpe]; rfl)
                exact ⟨CC, dx5, _, _, (same_upd hu) _ _ ex5, T.cl, T.n5, rfl, c, p, kv6, kyF s e d (m + 1), rfl, rfl, e1, keep (B5.trans (SameB.of (same_upd hu))), e2, _, _, _, rfl, e3, e4, _, _, upd_same, by rw [valV_put, if_pos rfl], e5⟩
              · have hpe : ¬ pm.2 = X.length := fun z => hz (decide_eq_true (by show plc s X.length l.length pm.2 = _; unfold plc; rw [if_pos z]))
                obtain ⟨kv6, e1, e2, e3, e4, e5⟩ := fin2 u _ (.int (plc s X.length l.length pm.2)) hu rfl (by show _ = oP s (if pm.2 = X.length then none else some pm.2); rw [if_neg hpe]; unfold plc; rw [if_neg hpe]; rfl)
                exact ⟨CC, dx5, _, _, (same_upd hu) _ _ ex5, T.cl, T.n5, rfl, c, p, kv6, kyF s e d (m + 1), rfl, rfl, e1, keep (B5.trans (SameB.of (same_upd hu))), e2, _, _, _, rfl, e3, e4, _, _, upd_same, by rw [valV_put, if_pos rfl], e5⟩
    · have e' : (valV kvs (kyF s e d (m + 1))).isSome = true := by cases h : (valV kvs (kyF s e d (m + 1))).isSome with | true => rfl | false => rw [h] at e1; exact absurd rfl e1
      obtain ⟨v, hv⟩ := Option.isSome_iff_exists.mp e'
      exact ⟨_, _, _, rfl, SameB.refl c H1, P1, kvs, v, ec, hv, hX ▸ (hI.get hv).2 s e d (m + 1) rfl⟩
  · rintro σ H' ⟨y6, y7, y8, rfl, b1, P2, kvs, v, ek, hv, hA⟩
    obtain ⟨a, dx, ex, hT⟩ := P2.ex
    have npc : p ≠ c := by
      obtain ⟨_, ec, _⟩ := P1.ch
      exact ne_of ep ec fun z => by cases z
    refine ⟨CC, dx, _, _, ex, T.cl, T.n5, rfl, c, p, kvs, kyF s e d (m + 1), v, rfl, rfl, ek, b1 _ _ npc ep, hv, q _ _ b1 P2 hA⟩
theorem ok_cf {fC fF : Addr} {dC dF : FuncData} {CC : Addr} (T : PlnT K CC) (F1 : Fun K "clear" "Planner.clear" s_Planner__clear fC dC) (M1 : Meth K CC "clear" fC) (B1 : Binds K dC ["self", "start", "end"] []) (F2 : Fun K "fill" "Planner.fill" s_Planner__fill fF dF) (M2 : Meth K CC "fill" fF) (B2 : Binds K dF ["self", "start", "end", "color", "missing"] []) (B : Bi mg) (C_size_of : Cal P w K mg base CX0 1 "size_of" ["sizes", "color"] (sp_size_of K)) :
    ∀ n : Nat, FnOk P w K mg base CX0 (5 + 2 * n) fC dC ["self", "start", "end"] (sp_clearN n P w CC K) ∧ FnOk P w K mg base CX0 (6 + 2 * n) fF dF ["self", "start", "end", "color", "missing"] (sp_fillN n P w CC K)
  | 0 => by
    have h1 := ok_clear0 (P := P) (w := w) (K := K) (mg := mg) (base := base) (CC := CC) F1 B
    have h0 : FnOk P w K mg base CX0 4 fF dF ["self", "start", "end", "color", "missing"] (sp_fillL 0 P w CC K) := F2.ok sc_Planner__fill (fun vs H Q E h => h.elim) (fun cdv A outer s H vs Q E hr h => h.elim)
    exact ⟨h1, ok_fillN (n := 0) F2 B T ⟨T.cl, fF, dF, M2, B2, h0⟩ ⟨T.cl, fC, dC, M1, B1, h1⟩⟩
  | n + 1 => by
    obtain ⟨i1, i2⟩ := ok_cf T F1 M1 B1 F2 M2 B2 B C_size_of n
    have h1 := ok_clearS F1 B T C_size_of ⟨T.cl, fC, dC, M1, B1, i1⟩ ⟨T.cl, fF, dF, M2, B2, i2⟩
    rw [show 7 + 2 * n = 5 + 2 * (n + 1) by omega] at h1
    have h2 : FnOk P w K mg base CX0 (4 + 2 * (n + 1)) fF dF ["self", "start", "end", "color", "missing"] (sp_fillL (n + 1) P w CC K) := by
      rw [show 4 + 2 * (n + 1) = 6 + 2 * n by omega]
      exact i2
    exact ⟨h1, ok_fillN (n := n + 1) F2 B T ⟨T.cl, fF, dF, M2, B2, h2⟩ ⟨T.cl, fC, dC, M1, B1, h1⟩⟩
theorem ok_Planner__clear {f : Addr} {fd : FuncData} (F : Fun K "clear" "Planner.clear" s_Planner__clear f fd) (B : Bi mg) {CC : Addr} (T : PlnT K CC) (MT : Meth K CC "clear" f) (Bd : Binds K fd ["self", "start", "end"] []) {f2 : Addr} {fd2 : FuncData} (F2 : Fun K "fill" "Planner.fill" s_Planner__fill f2 fd2) (MT2 : Meth K CC "fill" f2) (Bd2 : Binds K fd2 ["self", "start", "end", "color", "missing"] []) (C_size_of : Cal P w K mg base CX0 1 "size_of" ["sizes", "color"] (sp_size_of K)) : FnOk P w K mg base CX0 65 f fd ["self", "start", "end"] (sp_Planner__clear P w CC K) :=
  (ok_cf T F MT Bd F2 MT2 Bd2 B C_size_of 30).1
theorem ok_Planner__fill {f : Addr} {fd : FuncData} (F : Fun K "fill" "Planner.fill" s_Planner__fill f fd) (B : Bi mg) {CC : Addr} (T : PlnT K CC) (MT : Meth K CC "fill" f) (Bd : Binds K fd ["self", "start", "end", "color", "missing"] []) {f2 : Addr} {fd2 : FuncData} (F2 : Fun K "clear" "Planner.clear" s_Planner__clear f2 fd2) (MT2 : Meth K CC "clear" f2) (Bd2 : Binds K fd2 ["self", "start", "end"] []) (C_size_of : Cal P w K mg base CX0 1 "size_of" ["sizes", "color"] (sp_size_of K)) : FnOk P w K mg base CX0 66 f fd ["self", "start", "end", "color", "missing"] (sp_Planner__fill P w CC K) :=
  (ok_cf T F2 MT2 Bd2 F MT Bd B C_size_of 30).2

-- NEEDS plan2
/-! the rows that are completed, the beads that are deleted -/
section
variable {sz : Nat → Nat} {pr : Nat → Int}
theorem cp_len (h4 : ∀ k, sz k ≤ 4) : ∀ n : Nat, (∀ x : List Nat, x.length ≤ n → (cp sz pr x).length ≤ 4 * x.length) ∧ ∀ (x : List Nat) (c m : Nat), x.length ≤ n → (cf sz pr x c m).length ≤ 4 * x.length + m := by
  have step : ∀ n : Nat, (∀ x : List Nat, x.length ≤ n → (cp sz pr x).length ≤ 4 * x.length) → (∀ (x : List Nat) (c m : Nat), x.length < n → (cf sz pr x c m).length ≤ 4 * x.length + m) → ∀ (x : List Nat) (c m : Nat), x.length ≤ n → (cf sz pr x c m).length ≤ 4 * x.length + m := by
    intro n h1 h2 x c m hx
    cases m with
    | zero => rw [cf]; have := h1 x hx; omega
    | succ m =>
      rw [cf]
      cases fp true sz pr x c (m + 1) with
      | none =>
        show (List.replicate (m + 1) c ++ cp sz pr x).length ≤ _
        rw [List.length_append, List.length_replicate]
        have := h1 x hx
        omega
      | some j =>
        show (if j < x.length then _ else _ : List Nat).length ≤ _
        by_cases hj : j < x.length
        · rw [if_pos hj, List.length_append, List.length_cons]
          have k1 := h1 (x.take j) (by rw [List.length_take]; omega)
          have k2 := h2 (x.drop (j + 1)) c m (by rw [List.length_drop]; omega)
          rw [List.length_take] at k1
          rw [List.length_drop] at k2
          omega
        · rw [if_neg hj]
          simp
  intro n
  induction n with
  | zero =>
    have h1 : ∀ x : List Nat, x.length ≤ 0 → (cp sz pr x).length ≤ 4 * x.length := fun x hx => by
      have : x = [] := List.length_eq_zero_iff.mp (by omega)
      subst this
      rw [cp]
      simp
    exact ⟨h1, step 0 h1 fun x c m hx => absurd hx (Nat.not_lt_zero _)⟩
  | succ n ih =>
    obtain ⟨i1, i2⟩ := ih
    have h1 : ∀ x : List Nat, x.length ≤ n + 1 → (cp sz pr x).length ≤ 4 * x.length := fun x hx => by
      cases x with
      | nil => rw [cp]; simp
      | cons d x =>
        rw [List.length_cons] at hx
        rw [cp, List.length_cons, List.length_cons]
        have := i2 x d (sz d - 1) (by omega)
        have := h4 d
        omega
    exact ⟨h1, step (n + 1) h1 fun x c m hx => i2 x c m (by omega)⟩
end
theorem szN_le4 {zs : List Int} (hZ : OkZ zs) (k : Nat) : szN zs k ≤ 4 := by
  unfold szN szI
  rw [List.getD_eq_getElem?_getD]
  cases e : zs[k - 97]? with
  | none => decide
  | some z =>
    have := hZ.all z (List.mem_of_getElem? e)
    show z.toNat ≤ 4
    omega
theorem sg_nil {l : List Nat} {s e : Nat} (h : e ≤ s) : sg l s e = [] := by
  unfold sg
  rw [show e - s = 0 by omega, List.take_zero]
abbrev s_Planner__completed : Stmt := (C8.clsBody (topS 23)).getD 3 (.Pass ⟨0, 0, 0, 0⟩)
theorem sc_Planner__completed : FnScope ["self", "start", "end", "result", "bead", "missing", "position"] ["self", "start", "end"] (defScope s_Planner__completed) := ⟨rfl, rfl, rfl, by decide +kernel, rfl, by decide +kernel, by decide +kernel⟩

def sp_completedN (n : Nat) (P : Program) (w : World) (CC : Addr) (K : PySem.W.Frag) : Sp := fun vs H Q _ => ∃ (x pd c : Addr) (zs ps : List Int) (l : List Nat) (s e : Nat), vs = [.ref x, .int (s : Nat), .int (e : Nat)] ∧ PlS zs ps l ∧ Pl K CC true zs ps l H x pd c ∧ s ≤ e ∧ e ≤ l.length ∧ e - s ≤ n ∧ e - s ≤ 30 ∧
  ∀ H', SameB c H H' → Pl K CC true zs ps l H' x pd c → Q (.str (S (cp (szN zs) (szI ps) (sg l s e)))) H'
def sp_completedL : Nat → Program → World → Addr → PySem.W.Frag → Sp
  | 0 => fun _ _ _ _ _ _ _ _ => False
  | n + 1 => sp_completedN n
def sp_Planner__completed (P : Program) (w : World) (CC : Addr) (K : PySem.W.Frag) : Sp := sp_completedN 30 P w CC K
theorem completedL_mk {n : Nat} {P : Program} {w : World} {CC : Addr} {K : PySem.W.Frag} {vs : List V} {H : Hp} {Q : VK} {E : XK} (h : ∃ (x pd c : Addr) (zs ps : List Int) (l : List Nat) (s e : Nat), vs = [.ref x, .int (s : Nat), .int (e : Nat)] ∧ PlS zs ps l ∧ Pl K CC true zs ps l H x pd c ∧ s ≤ e ∧ e ≤ l.length ∧ e - s < n ∧ e - s ≤ 30 ∧
    ∀ H', SameB c H H' → Pl K CC true zs ps l H' x pd c → Q (.str (S (cp (szN zs) (szI ps) (sg l s e)))) H') : sp_completedL n P w CC K vs H Q E := by
  obtain ⟨x, pd, c, zs, ps, l, s, e, a1, a2, a3, a4, a5, a6, a7⟩ := h
  cases n with
  | zero => exact absurd a6 (Nat.not_lt_zero _)
  | succ n => exact ⟨x, pd, c, zs, ps, l, s, e, a1, a2, a3, a4, a5, Nat.le_of_lt_succ a6, a7⟩
theorem ok_completedN {n : Nat} {f : Addr} {fd : FuncData} (F : Fun K "completed" "Planner.completed" s_Planner__completed f fd) (B : Bi mg) {CC : Addr} (T : PlnT K CC) (C_size_of : Cal P w K mg base CX0 1 "size_of" ["sizes", "color"] (sp_size_of K)) (C_Planner__fill : MCal P w K mg base CX0 66 CC "fill" ["self", "start", "end", "color", "missing"] (sp_Planner__fill P w CC K)) (C_self : MCal P w K mg base CX0 (66 + n) CC "completed" ["self", "start", "end"] (sp_completedL n P w CC K)) : FnOk P w K mg base CX0 (67 + n) f fd ["self", "start", "end"] (sp_completedN n P w CC K) := by
  rw [show 67 + n = (66 + n) + 1 by omega]
  refine F.ok sc_Planner__completed (fun vs H Q E h => ?_) (fun cdv A outer s0 H vs Q E hr h => ?_)
  · obtain ⟨x, pd, c, zs, ps, l, s, e, rfl, _⟩ := h
    rfl
  obtain ⟨x, pd, c, zs, ps, l, s, e, rfl, S0, hP, hse, hel, hn, hn30, q⟩ := h
  have h6 := S0.z.six
  have hl40 := S0.n
  refine ⟨_, (pss_cons (ps_set (i := 3) sc_Planner__completed.nd rfl (.inl rfl) (pe_strC [] (by decide +kernel)))
      (pss_cons (ps_while PassesOwn.never (pt_cmpG op_ltG (gv 1) (gv 2) (nomark _))
      (pss_cons (ps_set (i := 4) sc_Planner__completed.nd rfl (.inl rfl) (pe_ix (ixG (K := K)) (pe_fldG (K := K) (gv 0)) (gv 1) (fun _ _ => rfl)))
      (pss_cons (ps_augG (i := 3) sc_Planner__completed.nd rfl (.inl rfl) (gv 4) (iop_addG (K := K)))
      (pss_cons (ps_par (i := 1) (j := 5) rfl sc_Planner__completed.nd rfl rfl (by decide) rfl rfl (pa_cons (pe_op (op_addG (K := K)) (gv 1) pe_int) (pa_cons (pe_op op_subG (pe_cal C_size_of (hr.mono (by omega)) pass0 (pa_cons (pe_fldG (K := K) (gv 0)) (pa_cons (gv 4) pa_nil))) pe_int) pa_nil)) rfl)
      (pss_one (ps_while PassesOwn.never (pt_cmpG op_gtG (gv 5) pe_int (nomark _))
      (pss_cons (ps_set (i := 6) sc_Planner__completed.nd rfl (.inl rfl) (pe_ix (ixG (K := K)) (pe_mcal (gv 0) C_Planner__fill (hr.mono (by omega)) pass0 (pa_cons (gv 1) (pa_cons (gv 2) (pa_cons (gv 4) (pa_cons (gv 5) pa_nil))))) pe_int (fun _ _ => rfl)))
      (pss_one (ps_if (pt_cmpG op_isG (gv 6) pe_non (nomark _))
      (pss_cons (ps_augG (i := 3) sc_Planner__completed.nd rfl (.inl rfl) (pe_op (op_mulG (K := K)) (gv 4) (gv 5)) (iop_addG (K := K)))
      (pss_one (ps_set (i := 5) sc_Planner__completed.nd rfl (.inl rfl) pe_int)))
      (pss_cons (ps_augG (i := 3) sc_Planner__completed.nd rfl (.inl rfl) (pe_op (op_addG (K := K)) (pe_mcal (gv 0) C_self (hr.mono (by omega)) pass0 (pa_cons (gv 1) (pa_cons (gv 6) pa_nil))) (gv 4)) (iop_addG (K := K)))
      (pss_one (ps_par (i := 1) (j := 5) rfl sc_Planner__completed.nd rfl rfl (by decide) rfl rfl (pa_cons (pe_op (op_addG (K := K)) (gv 6) pe_int) (pa_cons (pe_op op_subG (gv 5) pe_int) pa_nil)) rfl))))))))))))
      (pss_one (ps_ret (gv 3))))), ?_⟩
  have htl : (cp (szN zs) (szI ps) (sg l s e)).length ≤ 160 := by
    have := (cp_len (pr := szI ps) (szN_le4 S0.z) _).1 (sg l s e) (Nat.le_refl _)
    rw [sg_len hel] at this
    omega
  generalize hT : cp (szN zs) (szI ps) (sg l s e) = Tot at *
  refine ⟨fun m σ H' => ∃ (i : Nat) (acc : List Nat) (y4 y5 y6 : Option V), σ = [some (.ref x), some (.int (i : Nat)), some (.int (e : Nat)), some (.str (S acc)), y4, y5, y6] ∧ SameB c H H' ∧ Pl K CC true zs ps l H' x pd c ∧ s ≤ i ∧ i ≤ e ∧ acc ++ cp (szN zs) (szI ps) (sg l i e) = Tot ∧ m = e - i, ⟨_, s, [], none, none, none, rfl, SameB.refl c H, hP, Nat.le_refl _, hse, hT, rfl⟩, ?_⟩
  rintro m σ H1 ⟨i, acc, y4, y5, y6, rfl, b1, P1, hsi, hie, hacc, rfl⟩
  refine iteB ⟨fun he => ?_, fun he => ?_⟩
  · have hlt : i < e := by have := of_decide_eq_true he; omega
    obtain ⟨d, hd, hsg⟩ := sg_cons hlt hel
    have hdR := S0.r d (List.mem_of_getElem? hd)
    obtain ⟨a, dx, ex, hTa⟩ := P1.ex
    rw [hsg, cp] at hacc
    have hm : szI zs d - 1 = ((szN zs d - 1 : Nat) : Int) := by have := szN_pos S0.z d; unfold szN at this ⊢; omega
    have hm4 := szN_le4 S0.z d
    have hal : acc.length + 1 ≤ 160 := by
      have := congrArg List.length hacc
      rw [List.length_append, List.length_cons] at this
      omega
    refine ⟨_, fun _ _ h => h, CC, dx, _, _, ex, T.cl, T.n2, rfl, d, by rw [tl_S]; omega, atI_nat hd, by rw [tl_S, tl_S]; show acc.length + 1 ≤ 1000000; omega, ?_⟩
    refine ⟨CC, dx, _, _, ex, T.cl, T.n1, rfl, a, zs, d, rfl, hTa, hdR.1, hdR.2, h6, ?_⟩
    refine ⟨_, _, rfl, fun m σ H' => ∃ (j : Nat) (acc : List Nat) (y6 : Option V), σ = [some (.ref x), some (.int (j : Nat)), some (.int (e : Nat)), some (.str (S acc)), some (.str (S [d])), some (.int (m : Nat)), y6] ∧ SameB c H H' ∧ Pl K CC true zs ps l H' x pd c ∧ i < j ∧ j ≤ e ∧ m ≤ 4 ∧ acc ++ cf (szN zs) (szI ps) (sg l j e) d m = Tot, ⟨szN zs d - 1, i + 1, acc ++ [d], y6, ?_, b1, P1, by omega, by omega, by omega, by rw [← hacc, List.append_assoc]; rfl⟩, ?_⟩
    · show [_, _, _, _, _, some (V.int (szI zs d - 1)), _] = _
      rw [hm]
      rfl
    · rintro m σ H2 ⟨j, acc2, y6, rfl, b2, P2, hij, hje, hm4, hacc2⟩
      have hsum : acc2.length + (cf (szN zs) (szI ps) (sg l j e) d m).length ≤ 160 := by
        rw [← List.length_append, hacc2]
        exact htl
      refine iteB ⟨fun he => ?_, fun he => ?_⟩
      · obtain ⟨m, rfl⟩ : ∃ m', m = m' + 1 := ⟨m - 1, by have := of_decide_eq_true he; omega⟩
        obtain ⟨a2, dx2, ex2, _⟩ := P2.ex
        have hsub : ((m + 1 : Nat) : Int) - 1 = ((m : Nat) : Int) := by omega
        refine ⟨_, fun _ _ h => h, dx2, _, ex2, rfl, x, pd, c, true, zs, ps, l, j, e, d, m + 1, rfl, S0, P2, by omega, hel, by omega, hdR.1, hdR.2, hm4, fun H3 v b3 P3 hv => ?_⟩
        obtain ⟨t, rfl, ht⟩ := hv
        refine ⟨_, _, .inr ht, atI_nat (j := 1) rfl, ?_⟩
        rw [cf] at hacc2 hsum
        cases hfp : fp true (szN zs) (szI ps) (sg l j e) d (m + 1) with
        | none =>
          rw [hfp] at hacc2 hsum
          have hacc2 : acc2 ++ (List.replicate (m + 1) d ++ cp (szN zs) (szI ps) (sg l j e)) = Tot := hacc2
          have hsum : acc2.length + (List.replicate (m + 1) d ++ cp (szN zs) (szI ps) (sg l j e)).length ≤ 160 := hsum
          rw [List.length_append, List.length_replicate] at hsum
          have hr1 : repL (m + 1) [d] = List.replicate (m + 1) d := repL_one _ _
          refine ⟨⟨by omega, by omega, ?_⟩, ?_⟩
          · rw [tl_S]
            show 1 * (((m + 1 : Nat) : Int)).toNat ≤ 1000000
            omega
          · show _ ∧ _
            refine ⟨?_, 0, Nat.zero_lt_succ _, j, acc2 ++ List.replicate (m + 1) d, some .non, ?_, b2.trans b3, P3, hij, hje, by omega, by rw [cf, List.append_assoc]; exact hacc2⟩
            · rw [tl_S, tl_S, tl_S]
              show acc2.length + (repL (m + 1) [d]).length ≤ 1000000
              rw [hr1, List.length_replicate]
              omega
            · show [_, _, _, some (V.str (S (acc2 ++ repL (m + 1) [d]))), _, _, _] = _
              rw [hr1]
              rfl
        | some jj =>
          rw [hfp] at hacc2 hsum
          obtain ⟨m', em, hjl, _, _⟩ := fp_some hfp
          cases em
          rw [sg_len hel] at hjl
          have hacc2 : acc2 ++ (if jj < (sg l j e).length then cp (szN zs) (szI ps) ((sg l j e).take jj) ++ d :: cf (szN zs) (szI ps) ((sg l j e).drop (jj + 1)) d m else []) = Tot := hacc2
          rw [if_pos (by rw [sg_len hel]; exact hjl), sg_take (by omega), sg_drop] at hacc2
          have hl3 := congrArg List.length hacc2
          rw [List.length_append, List.length_append, List.length_cons] at hl3
          obtain ⟨a3, dx3, ex3, _⟩ := P3.ex
          refine ⟨dx3, _, ex3, rfl, completedL_mk ⟨x, pd, c, zs, ps, l, j, j + jj, rfl, S0, P3, by omega, by omega, by omega, by omega, fun H4 b4 P4 => ?_⟩⟩
          refine ⟨by rw [tl_S, tl_S]; show _ + 1 ≤ 1000000; omega, by rw [tl_S, tl_S, tl_S, List.length_append]; show acc2.length + (_ + 1) ≤ 1000000; omega, ?_⟩
          refine ⟨_, _, rfl, m, Nat.lt_succ_self _, j + jj + 1, acc2 ++ (cp (szN zs) (szI ps) (sg l j (j + jj)) ++ [d]), some (.int ((j + jj : Nat) : Int)), ?_, b2.trans (b3.trans b4), P4, by omega, by omega, by omega, ?_⟩
          · show [_, _, _, _, _, some (V.int (((m + 1 : Nat) : Int) - 1)), _] = _
            rw [hsub]
            rfl
          · rw [← hacc2, List.append_assoc, List.append_assoc]
            rfl
      · obtain rfl : m = 0 := by
          have : ¬ (0 : Int) < ((m : Nat) : Int) := fun z => he (decide_eq_true z)
          omega
        rw [cf] at hacc2
        exact ⟨e - j, by omega, j, acc2, _, _, y6, rfl, b2, P2, by omega, hje, hacc2, rfl⟩
  · have : i = e := by
      have : ¬ ((i : Nat) : Int) < ((e : Nat) : Int) := fun z => he (decide_eq_true z)
      omega
    subst this
    rw [sg_nil (Nat.le_refl _), cp, List.append_nil] at hacc
    rw [hacc]
    exact q H1 b1 P1
theorem ok_Planner__completed {f : Addr} {fd : FuncData} (F : Fun K "completed" "Planner.completed" s_Planner__completed f fd) (B : Bi mg) {CC : Addr} (T : PlnT K CC) (MT : Meth K CC "completed" f) (Bd : Binds K fd ["self", "start", "end"] []) (C_size_of : Cal P w K mg base CX0 1 "size_of" ["sizes", "color"] (sp_size_of K)) (C_Planner__fill : MCal P w K mg base CX0 66 CC "fill" ["self", "start", "end", "color", "missing"] (sp_Planner__fill P w CC K)) : FnOk P w K mg base CX0 97 f fd ["self", "start", "end"] (sp_Planner__completed P w CC K) := by
  have : ∀ n : Nat, FnOk P w K mg base CX0 (66 + n) f fd ["self", "start", "end"] (sp_completedL n P w CC K) := by
    intro n
    induction n with
    | zero => exact F.ok sc_Planner__completed (fun vs H Q E h => h.elim) (fun cdv A outer s H vs Q E hr h => h.elim)
    | succ n ih =>
      have := ok_completedN F B T C_size_of C_Planner__fill ⟨T.cl, f, fd, MT, Bd, ih⟩
      rw [show 67 + n = 66 + (n + 1) by omega] at this
      exact this
  exact this 31
abbrev s_Planner__deleted : Stmt := (C8.clsBody (topS 23)).getD 4 (.Pass ⟨0, 0, 0, 0⟩)
theorem sc_Planner__deleted : FnScope ["self", "start", "end", "result", "choice", "bead", "missing", "position"] ["self", "start", "end"] (defScope s_Planner__deleted) := ⟨rfl, rfl, rfl, by decide +kernel, rfl, by decide +kernel, by decide +kernel⟩

theorem Asc.len {s n : Nat} {ps : List Nat} (h : Asc s n ps) : ps.length ≤ n := by
  have nd : ps.Nodup := h.o.imp fun hab => Nat.ne_of_lt hab
  have := nd.length_le_of_subset (l₂ := List.range' s n) fun p hp => by
    have := h.r p hp
    rw [List.mem_range'_1]
    exact this
  rwa [List.length_range'] at this
theorem dl_len {sz : Nat → Nat} {pr : Nat → Int} (s : Nat) (x : List Nat) : (dl sz pr s x).length ≤ x.length := ((dl_ok x.length).1 x s (Nat.le_refl _)).1.len
def sp_deletedN (n : Nat) (P : Program) (w : World) (CC : Addr) (K : PySem.W.Frag) : Sp := fun vs H Q _ => ∃ (x pd c : Addr) (zs ps : List Int) (l : List Nat) (s e : Nat), vs = [.ref x, .int (s : Nat), .int (e : Nat)] ∧ PlS zs ps l ∧ Pl K CC false zs ps l H x pd c ∧ s ≤ e ∧ e ≤ l.length ∧ e - s ≤ n ∧ e - s ≤ 30 ∧
  ∀ H' D, H D = none → SameB c H H' → Pl K CC false zs ps l H' x pd c → H' D = some (.lst ((dl (szN zs) (szI ps) s (sg l s e)).map iv)) → Q (.ref D) H'
def sp_deletedL : Nat → Program → World → Addr → PySem.W.Frag → Sp
  | 0 => fun _ _ _ _ _ _ _ _ => False
  | n + 1 => sp_deletedN n
def sp_Planner__deleted (P : Program) (w : World) (CC : Addr) (K : PySem.W.Frag) : Sp := sp_deletedN 30 P w CC K
theorem deletedL_mk {n : Nat} {P : Program} {w : World} {CC : Addr} {K : PySem.W.Frag} {vs : List V} {H : Hp} {Q : VK} {E : XK} (h : ∃ (x pd c : Addr) (zs ps : List Int) (l : List Nat) (s e : Nat), vs = [.ref x, .int (s : Nat), .int (e : Nat)] ∧ PlS zs ps l ∧ Pl K CC false zs ps l H x pd c ∧ s ≤ e ∧ e ≤ l.length ∧ e - s < n ∧ e - s ≤ 30 ∧
    ∀ H' D, H D = none → SameB c H H' → Pl K CC false zs ps l H' x pd c → H' D = some (.lst ((dl (szN zs) (szI ps) s (sg l s e)).map iv)) → Q (.ref D) H') : sp_deletedL n P w CC K vs H Q E := by
  obtain ⟨x, pd, c, zs, ps, l, s, e, a1, a2, a3, a4, a5, a6, a7⟩ := h
  cases n with
  | zero => exact absurd a6 (Nat.not_lt_zero _)
  | succ n => exact ⟨x, pd, c, zs, ps, l, s, e, a1, a2, a3, a4, a5, Nat.le_of_lt_succ a6, a7⟩
theorem ok_deletedN {n : Nat} {f : Addr} {fd : FuncData} (F : Fun K "deleted" "Planner.deleted" s_Planner__deleted f fd) (B : Bi mg) {CC : Addr} (T : PlnT K CC) (C_size_of : Cal P w K mg base CX0 1 "size_of" ["sizes", "color"] (sp_size_of K)) (C_Planner__clear : MCal P w K mg base CX0 65 CC "clear" ["self", "start", "end"] (sp_Planner__clear P w CC K)) (C_Planner__fill : MCal P w K mg base CX0 66 CC "fill" ["self", "start", "end", "color", "missing"] (sp_Planner__fill P w CC K)) (C_self : MCal P w K mg base CX0 (66 + n) CC "deleted" ["self", "start", "end"] (sp_deletedL n P w CC K)) : FnOk P w K mg base CX0 (67 + n) f fd ["self", "start", "end"] (sp_deletedN n P w CC K) := by
  rw [show 67 + n = (66 + n) + 1 by omega]
  refine F.ok sc_Planner__deleted (fun vs H Q E h => ?_) (fun cdv A outer s0 H vs Q E hr h => ?_)
  · obtain ⟨x, pd, c, zs, ps, l, s, e, rfl, _⟩ := h
    rfl
  obtain ⟨x, pd, c, zs, ps, l, s, e, rfl, S0, hP, hse, hel, hn, hn30, q⟩ := h
  have h6 := S0.z.six
  have hl40 := S0.n
  refine ⟨_, (pss_cons (ps_set (i := 3) sc_Planner__deleted.nd rfl (.inl rfl) (pe_lst pa_nil))
      (pss_cons (ps_while PassesOwn.never (pt_cmpG op_ltG (gv 1) (gv 2) (nomark _))
      (pss_cons (ps_set (i := 4) sc_Planner__deleted.nd rfl (.inl rfl) (pe_ix (ixG (K := K)) (pe_mcal (gv 0) C_Planner__clear (hr.mono (by omega)) pass0 (pa_cons (gv 1) (pa_cons (gv 2) pa_nil))) pe_int (fun _ _ => rfl)))
      (pss_cons (ps_set (i := 5) sc_Planner__deleted.nd rfl (.inl rfl) (pe_ix (ixG (K := K)) (pe_fldG (K := K) (gv 0)) (gv 1) (fun _ _ => rfl)))
      (pss_cutG (ps_if (pt_cmpG (op_eqG (K := K) hr.units) (gv 4) (pe_strC [100, 101, 108, 101, 116, 101] (by decide +kernel)) (nomark _))
      (pss_one (ps_expr (pe_bmG (K := K) PySem.F.plainAttrs_list PySem.F.slot_list_append PySem.F.type_list_append mt_appendG (gv 3) (pa_cons (gv 1) pa_nil))))
      pss_nil)
      (pss_cutG (ps_set (i := 6) sc_Planner__deleted.nd rfl (.inl rfl) (pe_ifExp (pt_cmpG (op_eqG (K := K) hr.units) (gv 4) (pe_strC [112, 97, 99, 107] (by decide +kernel)) (nomark _)) (pe_op op_subG (pe_cal C_size_of (hr.mono (by omega)) pass0 (pa_cons (pe_fldG (K := K) (gv 0)) (pa_cons (gv 5) pa_nil))) pe_int) pe_int))
      (pss_cons (ps_augG (i := 1) sc_Planner__deleted.nd rfl (.inl rfl) pe_int (iop_addG (K := K)))
      (pss_one (ps_while PassesOwn.never (pt_cmpG op_gtG (gv 6) pe_int (nomark _))
      (pss_cons (ps_set (i := 7) sc_Planner__deleted.nd rfl (.inl rfl) (pe_ix (ixG (K := K)) (pe_mcal (gv 0) C_Planner__fill (hr.mono (by omega)) pass0 (pa_cons (gv 1) (pa_cons (gv 2) (pa_cons (gv 5) (pa_cons (gv 6) pa_nil))))) pe_int (fun _ _ => rfl)))
      (pss_cons (ps_expr (pe_bmG (K := K) PySem.F.plainAttrs_list PySem.F.slot_list_extend PySem.F.type_list_extend mt_extendG (gv 3) (pa_cons (pe_mcal (gv 0) C_self (hr.mono (by omega)) pass0 (pa_cons (gv 1) (pa_cons (gv 7) pa_nil))) pa_nil)))
      (pss_one (ps_par (i := 1) (j := 6) rfl sc_Planner__deleted.nd rfl rfl (by decide) rfl rfl (pa_cons (pe_op (op_addG (K := K)) (gv 7) pe_int) (pa_cons (pe_op op_subG (gv 6) pe_int) pa_nil)) rfl))))))))))))
      (pss_one (ps_ret (gv 3))))), ?_⟩
  have htl : (dl (szN zs) (szI ps) s (sg l s e)).length ≤ 40 := by
    have := dl_len (sz := szN zs) (pr := szI ps) s (sg l s e)
    rw [sg_len hel] at this
    omega
  generalize hT : dl (szN zs) (szI ps) s (sg l s e) = Tot at *
  refine ⟨by show 0 ≤ sizeLine; decide, fun D hD => ?_⟩
  have sD := same_upd (o := .lst []) hD
  have P0 := hP.same sD
  have nDc : D ≠ c := (by obtain ⟨_, ec, _⟩ := hP.ch; exact (ne_of_none ec hD).symm)
  have eD0 : upd H D (.lst []) D = some (.lst (([] : List Nat).map iv)) := upd_same
  have B0 : SameB c H (upd H D (.lst [])) := SameB.of sD
  generalize upd H D (.lst []) = H0 at *
  refine ⟨fun m σ H' => ∃ (i : Nat) (acc : List Nat) (y4 y5 y6 y7 : Option V), σ = [some (.ref x), some (.int (i : Nat)), some (.int (e : Nat)), some (.ref D), y4, y5, y6, y7] ∧ SameB c H H' ∧ Pl K CC false zs ps l H' x pd c ∧ H' D = some (.lst (acc.map iv)) ∧ s ≤ i ∧ i ≤ e ∧ acc ++ dl (szN zs) (szI ps) i (sg l i e) = Tot ∧ m = e - i, ⟨_, s, [], none, none, none, none, rfl, B0, P0, eD0, Nat.le_refl _, hse, hT, rfl⟩, ?_⟩
  rintro m σ H1 ⟨i, acc, y4, y5, y6, y7, rfl, b1, P1, eD1, hsi, hie, hacc, rfl⟩
  refine iteB ⟨fun he => ?_, fun he => ?_⟩
  · have hlt : i < e := by have := of_decide_eq_true he; omega
    obtain ⟨d, hd, hsg⟩ := sg_cons hlt hel
    have hdR := S0.r d (List.mem_of_getElem? hd)
    obtain ⟨a, dx, ex, hTa⟩ := P1.ex
    have hm : szI zs d - 1 = ((szN zs d - 1 : Nat) : Int) := by have := szN_pos S0.z d; unfold szN at this ⊢; omega
    have hm4 := szN_le4 S0.z d
    have hal : acc.length ≤ 40 := by
      have := congrArg List.length hacc
      rw [List.length_append] at this
      omega
    refine ⟨_, fun _ _ h => h, dx, _, ex, rfl, x, pd, c, false, zs, ps, l, i, e, rfl, S0, P1, hie, hel, by omega, fun H2 v b2 P2 hv => ?_⟩
    obtain ⟨t, rfl, ht⟩ := hv
    refine ⟨_, _, .inr ht, atI_nat (j := 1) rfl, ?_⟩
    obtain ⟨a2, dx2, ex2, hTa2⟩ := P2.ex
    refine ⟨CC, dx2, _, _, ex2, T.cl, T.n2, rfl, d, by rw [tl_S]; omega, atI_nat hd, ?_⟩
    have eD2 := b2 _ _ nDc eD1
    rw [hsg]
    rw [hsg, dl] at hacc
    have hfl : isDel (szN zs) (szI ps) d (sg l (i + 1) e) = false → ∃ v, fl false (szN zs) (szI ps) (sg l (i + 1) e) d (szN zs d - 1) = some v := fun z => by
      rcases isDel_cl (sz := szN zs) (pr := szI ps) (d := d) (x := sg l (i + 1) e) with ⟨e1, _⟩ | ⟨_, e1⟩
      · rw [z] at e1; cases e1
      · exact ⟨_, e1⟩
    have B2 := b1.trans b2
    refine ⟨fun σ H' => ∃ acc2, (isDel (szN zs) (szI ps) d (sg l (i + 1) e) = true ∧ σ = [some (.ref x), some (.int (i : Nat)), some (.int (e : Nat)), some (.ref D), some (.str (S delW)), some (.str (S [d])), y6, y7] ∧ acc2 ++ df (szN zs) (szI ps) (i + 1) (sg l (i + 1) e) d 0 = Tot ∨ isDel (szN zs) (szI ps) d (sg l (i + 1) e) = false ∧ σ = [some (.ref x), some (.int (i : Nat)), some (.int (e : Nat)), some (.ref D), some (.str (S pckW)), some (.str (S [d])), y6, y7] ∧ acc2 ++ df (szN zs) (szI ps) (i + 1) (sg l (i + 1) e) d (szN zs d - 1) = Tot) ∧ SameB c H H' ∧ Pl K CC false zs ps l H' x pd c ∧ H' D = some (.lst (acc2.map iv)), ?_, ?_⟩
    · by_cases hdel : isDel (szN zs) (szI ps) d (sg l (i + 1) e) = true
      · have hch : chV false (szN zs) (szI ps) (d :: sg l (i + 1) e) = .str (S delW) := by
          show (if isDel (szN zs) (szI ps) d (sg l (i + 1) e) = true then _ else _) = _
          rw [if_pos hdel]
        rw [hch]
        rw [if_pos hdel] at hacc
        refine ⟨.inl ⟨rfl, _, SqL.of eD2⟩, _, eD2, by rw [List.length_map]; omega, acc ++ [i], .inl ⟨hdel, rfl, ?_⟩, B2.at hD, P2.wr eD2 sameB_upd, ?_⟩
        · rw [df, List.append_assoc]
          exact hacc
        · rw [List.map_append]
          exact upd_same
      · have hch : chV false (szN zs) (szI ps) (d :: sg l (i + 1) e) = .str (S pckW) := by
          show (if isDel (szN zs) (szI ps) d (sg l (i + 1) e) = true then _ else _) = _
          rw [if_neg hdel]
        rw [hch]
        rw [if_neg hdel] at hacc
        exact ⟨acc, .inr ⟨by simpa using hdel, rfl, hacc⟩, B2, P2, eD2⟩
    rintro σ H3 ⟨acc2, hσ, B3, P3, eD3⟩
    clear hacc hal eD1 eD2 ht
    obtain ⟨a3, dx3, ex3, hTa3⟩ := P3.ex
    refine ⟨fun σ H' => ∃ (m : Nat) (y4 : Option V), σ = [some (.ref x), some (.int (i : Nat)), some (.int (e : Nat)), some (.ref D), y4, some (.str (S [d])), some (.int (m : Nat)), y7] ∧ H' = H3 ∧ m ≤ 4 ∧ acc2 ++ df (szN zs) (szI ps) (i + 1) (sg l (i + 1) e) d m = Tot ∧ ∃ v, fl false (szN zs) (szI ps) (sg l (i + 1) e) d m = some v, ?_, ?_⟩
    · rcases hσ with ⟨hdel, rfl, hacc⟩ | ⟨hdel, rfl, hacc⟩
      · exact ⟨0, _, rfl, rfl, by omega, hacc, _, fl_zero _ _ _ _ _⟩
      · refine ⟨CC, dx3, _, _, ex3, T.cl, T.n1, rfl, a3, zs, d, rfl, hTa3, hdR.1, hdR.2, h6, ?_⟩
        refine ⟨szN zs d - 1, some (.str (S pckW)), ?_, rfl, by omega, hacc, hfl hdel⟩
        show [_, _, _, _, _, _, some (V.int (szI zs d - 1)), _] = _
        rw [hm]
    rintro σ H4 ⟨m, y4, rfl, rfl, hm4, hacc, hv⟩
    clear hσ
    refine ⟨fun m σ H' => ∃ (j : Nat) (acc : List Nat) (y4 y7 : Option V), σ = [some (.ref x), some (.int (j : Nat)), some (.int (e : Nat)), some (.ref D), y4, some (.str (S [d])), some (.int (m : Nat)), y7] ∧ SameB c H H' ∧ Pl K CC false zs ps l H' x pd c ∧ H' D = some (.lst (acc.map iv)) ∧ i < j ∧ j ≤ e ∧ m ≤ 4 ∧ acc ++ df (szN zs) (szI ps) j (sg l j e) d m = Tot ∧ ∃ v, fl false (szN zs) (szI ps) (sg l j e) d m = some v, ⟨m, i + 1, acc2, _, y7, rfl, B3, P3, eD3, by omega, by omega, hm4, hacc, hv⟩, ?_⟩
    clear hacc hv hm4 eD3 P3 B3 ex3 hTa3
    rintro m σ H5 ⟨j, acc3, y4, y7, rfl, b5, P5, eD5, hij, hje, hm4, hacc, v, hv⟩
    have hsum : acc3.length + (df (szN zs) (szI ps) j (sg l j e) d m).length ≤ 40 := by
      rw [← List.length_append, hacc]
      exact htl
    refine iteB ⟨fun he => ?_, fun he => ?_⟩
    · obtain ⟨m, rfl⟩ : ∃ m', m = m' + 1 := ⟨m - 1, by have := of_decide_eq_true he; omega⟩
      obtain ⟨a5, dx5, ex5, _⟩ := P5.ex
      have hsub : ((m + 1 : Nat) : Int) - 1 = ((m : Nat) : Int) := by omega
      refine ⟨_, fun _ _ h => h, dx5, _, ex5, rfl, x, pd, c, false, zs, ps, l, j, e, d, m + 1, rfl, S0, P5, by omega, hel, by omega, hdR.1, hdR.2, hm4, fun H6 v6 b6 P6 hv6 => ?_⟩
      obtain ⟨t6, rfl, ht6⟩ := hv6
      refine ⟨_, _, .inr ht6, atI_nat (j := 1) rfl, ?_⟩
      rw [df] at hacc hsum
      cases hfp : fp false (szN zs) (szI ps) (sg l j e) d (m + 1) with
      | none => obtain ⟨z, _⟩ := fp_none hfp hv; cases z
      | some jj =>
        rw [hfp] at hacc hsum
        obtain ⟨m', em, hjl, _, w', hw', _⟩ := fp_some hfp
        cases em
        rw [sg_len hel] at hjl
        have hacc : acc3 ++ (if jj < (sg l j e).length then dl (szN zs) (szI ps) j ((sg l j e).take jj) ++ df (szN zs) (szI ps) (j + jj + 1) ((sg l j e).drop (jj + 1)) d m else []) = Tot := hacc
        rw [if_pos (by rw [sg_len hel]; exact hjl), sg_take (by omega), sg_drop] at hacc
        rw [sg_drop] at hw'
        have hl3 := congrArg List.length hacc
        rw [List.length_append, List.length_append] at hl3
        obtain ⟨a6, dx6, ex6, _⟩ := P6.ex
        have eD6 := b6 _ _ nDc eD5
        refine ⟨.inl ⟨rfl, _, SqL.of eD6⟩, dx6, _, ex6, rfl, deletedL_mk ⟨x, pd, c, zs, ps, l, j, j + jj, rfl, S0, P6, by omega, by omega, by omega, by omega, fun H7 D7 hD7 b7 P7 e7 => ?_⟩⟩
        have eD7 := b7 _ _ nDc eD6
        refine ⟨_, _, eD7, e7, by rw [List.length_map, List.length_map]; omega, ?_⟩
        refine ⟨_, _, rfl, m, Nat.lt_succ_self _, j + jj + 1, acc3 ++ dl (szN zs) (szI ps) j (sg l j (j + jj)), y4, some (.int ((j + jj : Nat) : Int)), ?_, (b5.trans (b6.trans b7)).at hD, P7.wr eD7 sameB_upd, ?_, by omega, by omega, by omega, ?_, _, hw'⟩
        · show [_, _, _, _, _, _, some (V.int (((m + 1 : Nat) : Int) - 1)), _] = _
          rw [hsub]
          rfl
        · rw [List.map_append]
          exact upd_same
        · rw [← hacc, List.append_assoc]
          rfl
    · obtain rfl : m = 0 := by
        have : ¬ (0 : Int) < ((m : Nat) : Int) := fun z => he (decide_eq_true z)
        omega
      rw [df] at hacc
      exact ⟨e - j, by omega, j, acc3, _, _, _, _, rfl, b5, P5, eD5, by omega, hje, hacc, rfl⟩
  · have : i = e := by
      have : ¬ ((i : Nat) : Int) < ((e : Nat) : Int) := fun z => he (decide_eq_true z)
      omega
    subst this
    rw [sg_nil (Nat.le_refl _), dl, List.append_nil] at hacc
    rw [hacc] at eD1
    exact q H1 D hD b1 P1 eD1
theorem ok_Planner__deleted {f : Addr} {fd : FuncData} (F : Fun K "deleted" "Planner.deleted" s_Planner__deleted f fd) (B : Bi mg) {CC : Addr} (T : PlnT K CC) (MT : Meth K CC "deleted" f) (Bd : Binds K fd ["self", "start", "end"] []) (C_size_of : Cal P w K mg base CX0 1 "size_of" ["sizes", "color"] (sp_size_of K)) (C_Planner__clear : MCal P w K mg base CX0 65 CC "clear" ["self", "start", "end"] (sp_Planner__clear P w CC K)) (C_Planner__fill : MCal P w K mg base CX0 66 CC "fill" ["self", "start", "end", "color", "missing"] (sp_Planner__fill P w CC K)) : FnOk P w K mg base CX0 97 f fd ["self", "start", "end"] (sp_Planner__deleted P w CC K) := by
  have : ∀ n : Nat, FnOk P w K mg base CX0 (66 + n) f fd ["self", "start", "end"] (sp_deletedL n P w CC K) := by
    intro n
    induction n with
    | zero => exact F.ok sc_Planner__deleted (fun vs H Q E h => h.elim) (fun cdv A outer s H vs Q E hr h => h.elim)
    | succ n ih =>
      have := ok_deletedN F B T C_size_of C_Planner__clear C_Planner__fill ⟨T.cl, f, fd, MT, Bd, ih⟩
      rw [show 67 + n = 66 + (n + 1) by omega] at this
      exact this
  exact this 31

-- NEEDS plan3
/-! cheapest_insertion, cheapest_deletion -/
theorem Pl.mk0 {K : PySem.W.Frag} {CC : Addr} {I : Bool} {zs ps : List Int} {l : List Nat} {H : Hp} {x pd c a dx : Addr} (e1 : H x = some (.ins CC dx (fsP a l pd I c))) (e2 : SqT K H a (zs.map V.int)) (e3 : H pd = some (.dK (prD zs ps))) (e4 : H c = some (.dT [])) : Pl K CC I zs ps l H x pd c :=
  ⟨⟨a, dx, e1, e2⟩, e3, [], e4, ⟨List.nodup_nil, fun e he => by cases he⟩⟩
/-- check_input, all good -/
abbrev s_check_input : Stmt := topS 24
theorem sc_check_input : FnScope ["sizes", "row", "prices"] ["sizes", "row", "prices"] (defScope s_check_input) := ⟨rfl, rfl, rfl, by decide +kernel, rfl, by decide +kernel, by decide +kernel⟩

def sp_check_input (K : PySem.W.Frag) : Sp := fun vs H Q _ => ∃ (a c : Addr) (zs ps : List Int) (l : List Nat), vs = [.ref a, .str (S l), .ref c] ∧ SqT K H a (zs.map V.int) ∧ OkZ zs ∧ OkR zs l ∧ l.length ≤ 40 ∧ SqT K H c (ps.map V.int) ∧ OkP zs ps ∧ ∀ H', Same H H' → Q .non H'
theorem ok_check_input {f : Addr} {fd : FuncData} (F : Fun K "check_input" "check_input" s_check_input f fd) (B : Bi mg) (C_check_sizes : Cal P w K mg base CX0 2 "check_sizes" ["sizes"] (sp_check_sizes K)) (C_check_row : Cal P w K mg base CX0 2 "check_row" ["sizes", "row"] (sp_check_row K)) (C_check_prices : Cal P w K mg base CX0 2 "check_prices" ["sizes", "prices"] (sp_check_prices K)) : FnOk P w K mg base CX0 3 f fd ["sizes", "row", "prices"] (sp_check_input K) := by
  refine F.ok sc_check_input (fun vs H Q E h => ?_) (fun cdv A outer s H vs Q E hr h => ?_)
  · obtain ⟨a, c, zs, ps, l, rfl, _⟩ := h
    rfl
  obtain ⟨a, c, zs, ps, l, rfl, hT, hZ, hL, hl, hP, hO, q⟩ := h
  refine ⟨_, (pss_cons (ps_expr (pe_cal C_check_sizes (hr.mono (by decide)) pass0 (pa_cons (gv 0) pa_nil)))
      (pss_cons (ps_expr (pe_cal C_check_row (hr.mono (by decide)) pass0 (pa_cons (gv 0) (pa_cons (gv 1) pa_nil))))
      (pss_one (ps_expr (pe_cal C_check_prices (hr.mono (by decide)) pass0 (pa_cons (gv 0) (pa_cons (gv 2) pa_nil))))))), ?_⟩
  exact ⟨a, zs, rfl, hT, hZ, fun H1 s1 => ⟨a, zs, l, rfl, s1.tup hT, hZ, hL, hl, fun H2 s2 => ⟨a, c, zs, ps, rfl, (s1.trans s2).tup hT, (s1.trans s2).tup hP, hZ, hO, fun H3 s3 => q _ ((s1.trans s2).trans s3)⟩⟩⟩
abbrev s_cheapest_insertion : Stmt := topS 25
theorem sc_cheapest_insertion : FnScope ["sizes", "row", "prices", "planner"] ["sizes", "row", "prices"] (defScope s_cheapest_insertion) := ⟨rfl, rfl, rfl, by decide +kernel, rfl, by decide +kernel, by decide +kernel⟩

def sp_cheapest_insertion (K : PySem.W.Frag) : Sp := fun vs H Q _ => ∃ (a c : Addr) (zs ps : List Int) (l : List Nat), vs = [.ref a, .str (S l), .ref c] ∧ SqT K H a (zs.map V.int) ∧ SqT K H c (ps.map V.int) ∧ PlS zs ps l ∧ l.length ≤ 30 ∧ ∀ H' t, Same H H' → H t = none → H' t = some (.tup [.int (cl true (szN zs) (szI ps) l), .str (S (cp (szN zs) (szI ps) l))]) → Q (.ref t) H'
theorem ok_cheapest_insertion {f : Addr} {fd : FuncData} (F : Fun K "cheapest_insertion" "cheapest_insertion" s_cheapest_insertion f fd) (B : Bi mg) {CC : Addr} (T : PlnT K CC) (C_check_input : Cal P w K mg base CX0 3 "check_input" ["sizes", "row", "prices"] (sp_check_input K)) (C_Planner____init__ : KCalK P w K mg base CX0 2 "Planner" CC 4 ["self", "sizes", "row", "prices", "inserts"] "inserts" (sp_Planner____init__ P w CC K)) (C_Planner__clear : MCal P w K mg base CX0 65 CC "clear" ["self", "start", "end"] (sp_Planner__clear P w CC K)) (C_Planner__completed : MCal P w K mg base CX0 97 CC "completed" ["self", "start", "end"] (sp_Planner__completed P w CC K)) : FnOk P w K mg base CX0 98 f fd ["sizes", "row", "prices"] (sp_cheapest_insertion K) := by
  refine F.ok sc_cheapest_insertion (fun vs H Q E h => ?_) (fun cdv A outer s H vs Q E hr h => ?_)
  · obtain ⟨a, c, zs, ps, l, rfl, _⟩ := h
    rfl
  obtain ⟨a, c, zs, ps, l, rfl, hT, hP, S0, hl, q⟩ := h
  refine ⟨_, (pss_cons (ps_expr (pe_cal C_check_input (hr.mono (by decide)) pass0 (pa_cons (gv 0) (pa_cons (gv 1) (pa_cons (gv 2) pa_nil)))))
      (pss_cons (ps_set (i := 3) sc_cheapest_insertion.nd rfl (.inl rfl) (pe_kcalK C_Planner____init__ (hr.mono (by decide)) pass0 (pa_cons (gv 0) (pa_cons (gv 1) (pa_cons (gv 2) pa_nil))) (pk_cons pe_bl pk_nil)))
      (pss_one (ps_ret (pe_tup (pa_cons (pe_ix (ixG (K := K)) (pe_mcal (gv 3) C_Planner__clear (hr.mono (by decide)) pass0 (pa_cons pe_int (pa_cons (pe_callB (cr_lenG (K := K)) (by rfl) B.len bt_len (pa_cons (gv 1) pa_nil)) pa_nil))) pe_int (fun _ _ => rfl)) (pa_cons (pe_mcal (gv 3) C_Planner__completed (hr.mono (by decide)) pass0 (pa_cons pe_int (pa_cons (pe_callB (cr_lenG (K := K)) (by rfl) B.len bt_len (pa_cons (gv 1) pa_nil)) pa_nil))) pa_nil))))))), ?_⟩
  refine ⟨a, c, zs, ps, l, rfl, hT, S0.z, S0.r, S0.n, hP, S0.p, fun H1 s1 => ⟨rfl, rfl, fun x dx hx hdx hne => ?_⟩⟩
  have sx : Same H1 (upd (upd H1 dx (.own x)) x (.ins CC dx [])) := (same_upd hdx).trans (same_upd (by rw [upd_ne hne.symm]; exact hx))
  have s2 := s1.trans sx
  refine ⟨x, a, c, dx, zs, ps, l, true, rfl, upd_same, s2.tup hT, S0.z, s2.tup hP, S0.p, fun H3 pd ca b3 npd nca npc e3 epd eca => ⟨rfl, ?_⟩⟩
  have s13 : Same H1 H3 := fun b o e => b3 _ _ (ne_of_none e hx) (sx _ _ e)
  have P3 : Pl K CC true zs ps l H3 x pd ca := Pl.mk0 e3 ((s1.trans s13).tup hT) epd eca
  refine ⟨dx, _, e3, rfl, by rw [tl_S]; omega, x, pd, ca, true, zs, ps, l, 0, l.length, rfl, S0, P3, Nat.zero_le _, Nat.le_refl _, by omega, fun H4 v b4 P4 hv => ?_⟩
  obtain ⟨t, rfl, ht⟩ := hv
  obtain ⟨a4, dx4, e4, _⟩ := P4.ex
  refine ⟨_, _, .inr ht, atI_nat (j := 0) rfl, dx4, _, e4, rfl, by rw [tl_S]; omega, x, pd, ca, zs, ps, l, 0, l.length, rfl, S0, P4, Nat.zero_le _, Nat.le_refl _, by omega, by omega, fun H5 b5 P5 => ⟨by show 2 ≤ sizeLine; decide, fun u hu => ?_⟩⟩
  have s15 : Same H1 H5 := fun b o e => (b4.trans b5) _ _ (ne_of_none (sx _ _ e) nca) (s13 _ _ e)
  have sF := (s1.trans s15).trans (same_upd (o := .tup [.int (cl true (szN zs) (szI ps) (sg l 0 l.length)), .str (S (cp (szN zs) (szI ps) (sg l 0 l.length)))]) hu)
  refine q _ u sF ((s1.trans s15).free hu) ?_
  conv => rhs; rw [← sg_all l]
  exact upd_same
abbrev s_cheapest_deletion : Stmt := topS 26
theorem sc_cheapest_deletion : FnScope ["sizes", "row", "prices", "planner"] ["sizes", "row", "prices"] (defScope s_cheapest_deletion) := ⟨rfl, rfl, rfl, by decide +kernel, rfl, by decide +kernel, by decide +kernel⟩

def sp_cheapest_deletion (K : PySem.W.Frag) : Sp := fun vs H Q _ => ∃ (a c : Addr) (zs ps : List Int) (l : List Nat), vs = [.ref a, .str (S l), .ref c] ∧ SqT K H a (zs.map V.int) ∧ SqT K H c (ps.map V.int) ∧ PlS zs ps l ∧ l.length ≤ 30 ∧ ∀ H' t u, Same H H' → H t = none → H u = none → H' u = some (.tup ((dl (szN zs) (szI ps) 0 l).map iv)) → H' t = some (.tup [.int (cl false (szN zs) (szI ps) l), .ref u]) → Q (.ref t) H'
theorem ok_cheapest_deletion {f : Addr} {fd : FuncData} (F : Fun K "cheapest_deletion" "cheapest_deletion" s_cheapest_deletion f fd) (B : Bi mg) {CC : Addr} (T : PlnT K CC) (C_check_input : Cal P w K mg base CX0 3 "check_input" ["sizes", "row", "prices"] (sp_check_input K)) (C_Planner____init__ : KCalK P w K mg base CX0 2 "Planner" CC 4 ["self", "sizes", "row", "prices", "inserts"] "inserts" (sp_Planner____init__ P w CC K)) (C_Planner__clear : MCal P w K mg base CX0 65 CC "clear" ["self", "start", "end"] (sp_Planner__clear P w CC K)) (C_Planner__deleted : MCal P w K mg base CX0 97 CC "deleted" ["self", "start", "end"] (sp_Planner__deleted P w CC K)) : FnOk P w K mg base CX0 98 f fd ["sizes", "row", "prices"] (sp_cheapest_deletion K) := by
  refine F.ok sc_cheapest_deletion (fun vs H Q E h => ?_) (fun cdv A outer s H vs Q E hr h => ?_)
  · obtain ⟨a, c, zs, ps, l, rfl, _⟩ := h
    rfl
  obtain ⟨a, c, zs, ps, l, rfl, hT, hP, S0, hl, q⟩ := h
  refine ⟨_, (pss_cons (ps_expr (pe_cal C_check_input (hr.mono (by decide)) pass0 (pa_cons (gv 0) (pa_cons (gv 1) (pa_cons (gv 2) pa_nil)))))
      (pss_cons (ps_set (i := 3) sc_cheapest_deletion.nd rfl (.inl rfl) (pe_kcalK C_Planner____init__ (hr.mono (by decide)) pass0 (pa_cons (gv 0) (pa_cons (gv 1) (pa_cons (gv 2) pa_nil))) (pk_cons pe_bl pk_nil)))
      (pss_one (ps_ret (pe_tup (pa_cons (pe_ix (ixG (K := K)) (pe_mcal (gv 3) C_Planner__clear (hr.mono (by decide)) pass0 (pa_cons pe_int (pa_cons (pe_callB (cr_lenG (K := K)) (by rfl) B.len bt_len (pa_cons (gv 1) pa_nil)) pa_nil))) pe_int (fun _ _ => rfl)) (pa_cons (pe_callTy (cr_tupleG (K := K)) (by rfl) B.tuple bt_tuple (pa_cons (pe_mcal (gv 3) C_Planner__deleted (hr.mono (by decide)) pass0 (pa_cons pe_int (pa_cons (pe_callB (cr_lenG (K := K)) (by rfl) B.len bt_len (pa_cons (gv 1) pa_nil)) pa_nil))) pa_nil)) pa_nil))))))), ?_⟩
  refine ⟨a, c, zs, ps, l, rfl, hT, S0.z, S0.r, S0.n, hP, S0.p, fun H1 s1 => ⟨rfl, rfl, fun x dx hx hdx hne => ?_⟩⟩
  have sx : Same H1 (upd (upd H1 dx (.own x)) x (.ins CC dx [])) := (same_upd hdx).trans (same_upd (by rw [upd_ne hne.symm]; exact hx))
  have s2 := s1.trans sx
  refine ⟨x, a, c, dx, zs, ps, l, false, rfl, upd_same, s2.tup hT, S0.z, s2.tup hP, S0.p, fun H3 pd ca b3 npd nca npc e3 epd eca => ⟨rfl, ?_⟩⟩
  have s13 : Same H1 H3 := fun b o e => b3 _ _ (ne_of_none e hx) (sx _ _ e)
  have P3 : Pl K CC false zs ps l H3 x pd ca := Pl.mk0 e3 ((s1.trans s13).tup hT) epd eca
  refine ⟨dx, _, e3, rfl, by rw [tl_S]; omega, x, pd, ca, false, zs, ps, l, 0, l.length, rfl, S0, P3, Nat.zero_le _, Nat.le_refl _, by omega, fun H4 v b4 P4 hv => ?_⟩
  obtain ⟨t, rfl, ht⟩ := hv
  obtain ⟨a4, dx4, e4, _⟩ := P4.ex
  refine ⟨_, _, .inr ht, atI_nat (j := 0) rfl, dx4, _, e4, rfl, by rw [tl_S]; omega, x, pd, ca, zs, ps, l, 0, l.length, rfl, S0, P4, Nat.zero_le _, Nat.le_refl _, by omega, by omega, fun H5 D hD b5 P5 e5 => ⟨_, .inl (.inl e5), fun y hy => ⟨by show 2 ≤ sizeLine; decide, fun u hu => ?_⟩⟩⟩
  have s15 : Same H1 H5 := fun b o e => (b4.trans b5) _ _ (ne_of_none (sx _ _ e) nca) (s13 _ _ e)
  have sy := same_upd (o := .tup ((dl (szN zs) (szI ps) 0 (sg l 0 l.length)).map iv)) hy
  have su := same_upd (o := .tup [.int (cl false (szN zs) (szI ps) (sg l 0 l.length)), .ref y]) hu
  refine q _ u y ((s1.trans s15).trans (sy.trans su)) (((s1.trans s15).trans sy).free hu) ((s1.trans s15).free hy) ?_ ?_
  · conv => rhs; rw [← sg_all l]
    exact su _ _ upd_same
  · conv => rhs; rw [← sg_all l]
    exact upd_same

-- NEEDS plan4
/-! what the laws about the planner use: prices, the price of beads, a row within a row -/
theorem at_4 {u v x y r : Int} (h0 : 0 ≤ r) (h1 : r < 4) : atI [V.int u, V.int v, V.int x, V.int y] r = some (.int (if r = 0 then u else if r = 1 then v else if r = 2 then x else y)) := by
  have e : r = 0 ∨ r = 1 ∨ r = 2 ∨ r = 3 := by omega
  rcases e with rfl | rfl | rfl | rfl <;> rfl
abbrev s__law_prices : Stmt := topS 33
theorem sc__law_prices : FnScope ["_law_d", "_law_sizes_here", "_law_largest", "_law_size_here"] ["_law_d", "_law_sizes_here"] (defScope s__law_prices) := ⟨rfl, rfl, rfl, by decide +kernel, rfl, by decide +kernel, by decide +kernel⟩

theorem ok__law_prices {f : Addr} {fd : FuncData} (F : Fun K "_law_prices" "_law_prices" s__law_prices f fd) (B : Bi mg) (C__law_below : Cal P w K mg base CX0 1 "_law_below" ["_law_d", "_law_limit"] (sp__law_below K)) : FnOk P w K mg base CX0 2 f fd ["_law_d", "_law_sizes_here"] (sp__law_prices K) := by
  refine F.ok sc__law_prices (fun vs H Q E h => ?_) (fun cdv A outer s H vs Q E hr h => ?_)
  · obtain ⟨d, a, xs, zs, rfl, _⟩ := h
    rfl
  obtain ⟨d, a, xs, zs, rfl, hd, hR, hT, hZ, q⟩ := h
  refine ⟨_, (pss_cons (ps_if (pt_cmpG (op_eqG (K := K) hr.units) (pe_cal C__law_below (hr.mono (by decide)) pass0 (pa_cons (gv 0) (pa_cons pe_int pa_nil))) pe_int (nomark _))
      (pss_one (ps_ret (pe_callTy (cr_tupleG (K := K)) (by rfl) B.tuple bt_tuple (pa_cons (pe_lc (own := [("_law_size_here", 3)]) (by rfl) sc__law_prices.nd (pi_seqG (K := K) (gv 1)) (blkOk_by (N := ["_law_d", "_law_sizes_here", "_law_largest", "_law_size_here"]) (sc := defScope s__law_prices) (by decide +kernel)) (fun _ _ _ _ _ => (pg_name (i := 3) sc__law_prices.nd rfl (.inl rfl))) (fun _ _ _ _ _ => pts_nil) (fun _ _ _ _ _ => (pe_op (op_addG (K := K)) pe_int (pe_cal C__law_below (hr.mono (by decide)) pass0 (pa_cons (gv 0) (pa_cons pe_int pa_nil)))))) pa_nil))))
      pss_nil)
      (pss_cons (ps_set (i := 2) sc__law_prices.nd rfl (.inr rfl) (pe_ix (ixG (K := K)) (pe_lst (pa_cons pe_int (pa_cons pe_int (pa_cons pe_int (pa_cons pe_int pa_nil))))) (pe_cal C__law_below (hr.mono (by decide)) pass0 (pa_cons (gv 0) (pa_cons pe_int pa_nil))) (fun _ _ => rfl)))
      (pss_one (ps_ret (pe_callTy (cr_tupleG (K := K)) (by rfl) B.tuple bt_tuple (pa_cons (pe_lc (own := [("_law_size_here", 3)]) (by rfl) sc__law_prices.nd (pi_seqG (K := K) (gv 1)) (blkOk_by (N := ["_law_d", "_law_sizes_here", "_law_largest", "_law_size_here"]) (sc := defScope s__law_prices) (by decide +kernel)) (fun _ _ _ _ _ => (pg_name (i := 3) sc__law_prices.nd rfl (.inl rfl))) (fun _ _ _ _ _ => pts_nil) (fun _ _ _ _ _ => (pe_op (op_addG (K := K)) pe_int (pe_cal C__law_below (hr.mono (by decide)) pass0 (pa_cons (gv 0) (pa_cons (gv 2) pa_nil)))))) pa_nil)))))), ?_⟩
  have h6 := hZ.six
  refine ⟨d, 4, xs, rfl, hd, hR, by decide, by decide, fun r ys0 h0 h1 hR0 => ?_⟩
  have sB : SameB d H (upd H d (.lst ys0)) := sameB_upd
  have hT0 : SqT K (upd H d (.lst ys0)) a (zs.map V.int) := sB.tup hd hT
  have hd0 : upd H d (.lst ys0) d = some (.lst ys0) := upd_same
  generalize upd H d (.lst ys0) = H0 at *
  have fin : ∀ (H1 : Hp) (D : Addr), SameB d H H1 → (∃ ys, H1 d = some (.lst ys) ∧ Rnd ys) → (∃ ps : List Int, H1 D = some (.lst (ps.map V.int)) ∧ ps.length = zs.length ∧ ∀ p ∈ ps, 1 ≤ p ∧ p ≤ 99) → ∃ xs, SqL K H1 D xs ∧ ∀ t, H1 t = none → Q (.ref t) (upd H1 t (.tup xs)) := by
    rintro H1 D s1 ⟨ys, hd1, hR1⟩ ⟨ps, hD1, hpl, hpa⟩
    refine ⟨_, SqL.of hD1, fun t ht => ?_⟩
    have htd : t ≠ d := (ne_of_none hd1 ht).symm
    have ht0 := s1.free ht htd
    exact q _ t ys ps (s1.at ht0) (by rw [upd_ne htd.symm]; exact hd1) hR1 ht0 upd_same ⟨hpl, hpa⟩
  refine iteB ⟨fun _ => ?_, fun _ => ?_⟩
  · refine .inr ⟨_, hT0, fun D hD => ?_⟩
    have hDd : D ≠ d := (ne_of_none hd0 hD).symm
    have hD0 : H D = none := sB.free hD hDd
    refine lc_it (walk_tup (xs := zs.map V.int)) (fun j H' => SameB d H H' ∧ SqT K H' a (zs.map V.int) ∧ (∃ ys, H' d = some (.lst ys) ∧ Rnd ys) ∧ ∃ ps : List Int, H' D = some (.lst (ps.map V.int)) ∧ ps.length = j ∧ ∀ p ∈ ps, 1 ≤ p ∧ p ≤ 99) ⟨sB.at hD0, (same_upd hD).tup hT0, ⟨ys0, by rw [upd_ne hDd.symm]; exact hd0, hR0⟩, [], upd_same, rfl, by simp⟩ ?_ ?_ ?_
    · rintro j H1 _ ⟨s1, t1, _⟩
      exact t1
    · rintro j x H1 H2 hj ⟨s1, t1, ⟨ys, hd1, hR1⟩, ps, hD1, hpl, hpa⟩ ⟨rfl, hx⟩
      rw [List.length_map] at hj
      refine ⟨rfl, d, 10, ys, rfl, hd1, hR1, by decide, by decide, fun r ys2 h0 h1 hR2 => ?_⟩
      have t2 : SqT K (upd H2 d (.lst ys2)) a (zs.map V.int) := (sameB_upd (d := d)).tup hd1 t1
      have hD2 : upd H2 d (.lst ys2) D = some (.lst (ps.map V.int)) := by rw [upd_ne hDd]; exact hD1
      have hd2 : upd H2 d (.lst ys2) d = some (.lst ys2) := upd_same
      refine ⟨_, hD2, small1000 (by rw [List.length_map]; omega), s1.d.at hD0, (sameB_upd (d := D)).tup hD2 t2, ⟨ys2, by rw [upd_ne hDd.symm]; exact hd2, hR2⟩, ps ++ [90 + r], by rw [upd_same, List.map_append]; rfl, by simp [hpl], fun z hz => ?_⟩
      rcases List.mem_append.mp hz with hz | hz
      · exact hpa z hz
      · rw [List.mem_singleton.mp hz]; omega
    · rintro H1 ⟨s1, _, h1, ps, e1, e2, e3⟩
      rw [List.length_map] at e2
      obtain ⟨xs', g1, g2⟩ := fin H1 D s1 h1 ⟨ps, e1, e2, e3⟩
      exact ⟨xs', g1, g2⟩
  · refine ⟨by show 4 ≤ sizeLine; decide, fun p hp => ?_⟩
    have hpd : p ≠ d := (ne_of_none hd0 hp).symm
    have hp0 : H p = none := sB.free hp hpd
    refine ⟨d, 4, ys0, rfl, by rw [upd_ne hpd.symm]; exact hd0, hR0, by decide, by decide, fun r2 ys3 h2 h3 hR3 => ?_⟩
    have sB3 : SameB d H (upd (upd H0 p (.lst [.int 1, .int 3, .int 9, .int 99])) d (.lst ys3)) := (sB.at hp0).d
    have hT3 : SqT K (upd (upd H0 p (.lst [.int 1, .int 3, .int 9, .int 99])) d (.lst ys3)) a (zs.map V.int) := (sameB_upd (d := d)).tup (show upd H0 p (.lst [.int 1, .int 3, .int 9, .int 99]) d = some (.lst ys0) by rw [upd_ne hpd.symm]; exact hd0) ((same_upd hp).tup hT0)
    have hp3 : upd (upd H0 p (.lst [.int 1, .int 3, .int 9, .int 99])) d (.lst ys3) p = some (.lst [.int 1, .int 3, .int 9, .int 99]) := by rw [upd_ne hpd]; exact upd_same
    have hd3 : upd (upd H0 p (.lst [.int 1, .int 3, .int 9, .int 99])) d (.lst ys3) d = some (.lst ys3) := upd_same
    generalize upd (upd H0 p (.lst [.int 1, .int 3, .int 9, .int 99])) d (.lst ys3) = H3 at *
    refine ⟨_, _, .inl (SqL.of hp3), at_4 h2 h3, ?_⟩
    have hm1 : 1 ≤ (if r2 = 0 then (1 : Int) else if r2 = 1 then 3 else if r2 = 2 then 9 else 99) := by split <;> (try split) <;> (try split) <;> omega
    have hm2 : (if r2 = 0 then (1 : Int) else if r2 = 1 then 3 else if r2 = 2 then 9 else 99) ≤ 99 := by split <;> (try split) <;> (try split) <;> omega
    generalize (if r2 = 0 then (1 : Int) else if r2 = 1 then 3 else if r2 = 2 then 9 else 99) = M at *
    refine .inr ⟨_, hT3, fun D hD => ?_⟩
    have hDd : D ≠ d := (ne_of_none hd3 hD).symm
    have hD0 : H D = none := sB3.free hD hDd
    refine lc_it (walk_tup (xs := zs.map V.int)) (fun j H' => SameB d H H' ∧ SqT K H' a (zs.map V.int) ∧ (∃ ys, H' d = some (.lst ys) ∧ Rnd ys) ∧ ∃ ps : List Int, H' D = some (.lst (ps.map V.int)) ∧ ps.length = j ∧ ∀ p ∈ ps, 1 ≤ p ∧ p ≤ 99) ⟨sB3.at hD0, (same_upd hD).tup hT3, ⟨ys3, by rw [upd_ne hDd.symm]; exact hd3, hR3⟩, [], upd_same, rfl, by simp⟩ ?_ ?_ ?_
    · rintro j H1 _ ⟨s1, t1, _⟩
      exact t1
    · rintro j x H1 H2 hj ⟨s1, t1, ⟨ys, hd1, hR1⟩, ps, hD1, hpl, hpa⟩ ⟨rfl, hx⟩
      rw [List.length_map] at hj
      refine ⟨rfl, d, M, ys, rfl, hd1, hR1, hm1, by omega, fun r ys2 h0 h1 hR2 => ?_⟩
      have t2 : SqT K (upd H2 d (.lst ys2)) a (zs.map V.int) := (sameB_upd (d := d)).tup hd1 t1
      have hD2 : upd H2 d (.lst ys2) D = some (.lst (ps.map V.int)) := by rw [upd_ne hDd]; exact hD1
      have hd2 : upd H2 d (.lst ys2) d = some (.lst ys2) := upd_same
      refine ⟨_, hD2, small1000 (by rw [List.length_map]; omega), s1.d.at hD0, (sameB_upd (d := D)).tup hD2 t2, ⟨ys2, by rw [upd_ne hDd.symm]; exact hd2, hR2⟩, ps ++ [1 + r], by rw [upd_same, List.map_append]; rfl, by simp [hpl], fun z hz => ?_⟩
      rcases List.mem_append.mp hz with hz | hz
      · exact hpa z hz
      · rw [List.mem_singleton.mp hz]; omega
    · rintro H1 ⟨s1, _, h1, ps, e1, e2, e3⟩
      rw [List.length_map] at e2
      obtain ⟨xs', g1, g2⟩ := fin H1 D s1 h1 ⟨ps, e1, e2, e3⟩
      exact ⟨xs', g1, g2⟩
abbrev s__law_price_of : Stmt := topS 38
theorem sc__law_price_of : FnScope ["_law_beads", "_law_prices_here", "_law_bead"] ["_law_beads", "_law_prices_here"] (defScope s__law_price_of) := ⟨rfl, rfl, rfl, by decide +kernel, rfl, by decide +kernel, by decide +kernel⟩

def sp__law_price_of (K : PySem.W.Frag) : Sp := fun vs H Q _ => ∃ (a : Addr) (zs ps : List Int) (l : List Nat), vs = [.str (S l), .ref a] ∧ SqT K H a (ps.map V.int) ∧ OkZ zs ∧ OkP zs ps ∧ OkR zs l ∧ l.length ≤ 1000 ∧ ∀ H', Same H H' → Q (.int (wt (szI ps) l)) H'
theorem ok__law_price_of {f : Addr} {fd : FuncData} (F : Fun K "_law_price_of" "_law_price_of" s__law_price_of f fd) (B : Bi mg) : FnOk P w K mg base CX0 1 f fd ["_law_beads", "_law_prices_here"] (sp__law_price_of K) := by
  refine F.ok sc__law_price_of (fun vs H Q E h => ?_) (fun cdv A outer s H vs Q E hr h => ?_)
  · obtain ⟨a, zs, ps, l, rfl, _⟩ := h
    rfl
  obtain ⟨a, zs, ps, l, rfl, hT, hZ, hO, hL, hl, q⟩ := h
  refine ⟨_, (pss_one (ps_ret (pe_callB (cr_sumG2 (K := K) rfl) (by rfl) B.sum bt_sum (pa_cons (pe_lc (own := [("_law_bead", 2)]) (by rfl) sc__law_price_of.nd (pi_seqG (K := K) (gv 0)) (blkOk_by (N := ["_law_beads", "_law_prices_here", "_law_bead"]) (sc := defScope s__law_price_of) (by decide +kernel)) (fun _ _ _ _ _ => (pg_name (i := 2) sc__law_price_of.nd rfl (.inl rfl))) (fun _ _ _ _ _ => pts_nil) (fun _ _ _ _ _ => (pe_ix (ixG (K := K)) (gv 1) (pe_bmG (K := K) PySem.F.plainAttrs_str PySem.F.slot_str_index PySem.F.type_str_index mt_indexG (pe_strC [97, 98, 99, 100, 101, 102] (by decide +kernel)) (pa_cons (gv 2) pa_nil)) (fun _ _ => rfl)))) pa_nil)))), fun D hD => ?_⟩
  have h6 := hZ.six
  refine lc_it walk_str (fun j H' => Same H H' ∧ H' D = some (.lst (((l.take j).map (szI ps)).map V.int))) ⟨same_upd hD, upd_same⟩ ?_ ?_ ?_
  · intros; trivial
  · rintro j x H1 H2 hj ⟨s1, hD1⟩ ⟨rfl, k, hk, rfl⟩
    have hk : l[j]? = some k := by simpa using hk
    have hk1 := hL k (List.mem_of_getElem? hk)
    refine ⟨rfl, rfl, k, rfl, rfl, ⟨hk1.1, by omega⟩, _, _, .inr (s1.tup hT), at_szI hk1.1 (by rw [hO.len]; exact hk1.2), _, hD1, small1000 (by rw [List.length_map, List.length_map, List.length_take]; omega), s1.at hD, ?_⟩
    rw [upd_same]
    congr 1
    congr 1
    have hj' : j < l.length := (List.getElem?_eq_some_iff.mp hk).1
    rw [List.take_succ, hk, List.map_append, List.map_append]
    rfl
  · rintro H1 ⟨s1, hD1⟩
    rw [size_S, List.take_length] at hD1
    exact ⟨_, .inl (SqL.of hD1), q _ s1⟩
abbrev s__law_is_within : Stmt := topS 37
theorem sc__law_is_within : FnScope ["_law_row_here", "_law_filled", "_law_at", "_law_bead"] ["_law_row_here", "_law_filled"] (defScope s__law_is_within) := ⟨rfl, rfl, rfl, by decide +kernel, rfl, by decide +kernel, by decide +kernel⟩

def sp__law_is_within (K : PySem.W.Frag) : Sp := fun vs H Q _ => ∃ (l F : List Nat), vs = [.str (S l), .str (S F)] ∧ l.Sublist F ∧ l.length ≤ 1000 ∧ Q (.bl true) H
theorem ok__law_is_within {f : Addr} {fd : FuncData} (F : Fun K "_law_is_within" "_law_is_within" s__law_is_within f fd) (B : Bi mg) : FnOk P w K mg base CX0 1 f fd ["_law_row_here", "_law_filled"] (sp__law_is_within K) := by
  refine F.ok sc__law_is_within (fun vs H Q E h => ?_) (fun cdv A outer s H vs Q E hr h => ?_)
  · obtain ⟨l, F, rfl, _⟩ := h
    rfl
  obtain ⟨l, F, rfl, hS, hl, q⟩ := h
  refine ⟨_, (pss_cons (ps_set (i := 2) sc__law_is_within.nd rfl (.inl rfl) pe_int)
      (pss_cons (ps_for PassesOwn.never rfl (pi_seqG (K := K) (gv 1)) (pg_name (i := 3) sc__law_is_within.nd rfl (.inl rfl))
      (pss_one (ps_if (pw_and (pt_cmpG op_ltG (gv 2) (pe_callB (cr_lenG (K := K)) (by rfl) B.len bt_len (pa_cons (gv 0) pa_nil)) (nomark _)) (pw_and1 (pt_cmpG (op_eqG (K := K) hr.units) (pe_ix (ixG (K := K)) (gv 0) (gv 2) (fun _ _ => rfl)) (gv 3) (nomark _)))).pt
      (pss_one (ps_set (i := 2) sc__law_is_within.nd rfl (.inl rfl) (pe_op (op_addG (K := K)) (gv 2) pe_int)))
      pss_nil)))
      (pss_one (ps_ret (pe_cmpR (op_eqG (K := K) hr.units) (gv 2) (pe_callB (cr_lenG (K := K)) (by rfl) B.len bt_len (pa_cons (gv 0) pa_nil)) (nomark _)))))), ?_⟩
  refine for_it walk_str (fun j σ H' => ∃ (i : Nat) (y3 : Option V), σ = [some (.str (S l)), some (.str (S F)), some (.int (i : Nat)), y3] ∧ H' = H ∧ i ≤ l.length ∧ (l.drop i).Sublist (F.drop j)) ⟨0, none, rfl, rfl, Nat.zero_le _, hS⟩ ?_ ?_ ?_
  · intros; trivial
  · rintro j x σ H1 H2 hj ⟨i, y3, rfl, rfl, hi, hs⟩ ⟨rfl, k, hk, rfl⟩
    have hk : F[j]? = some k := by simpa using hk
    have hj' : j < F.length := (List.getElem?_eq_some_iff.mp hk).1
    have eF : F.drop j = k :: F.drop (j + 1) := by
      rw [List.drop_eq_getElem_cons hj']
      congr 1
      exact (List.getElem?_eq_some_iff.mp hk).2
    rw [eF] at hs
    refine ⟨by rw [tl_S]; omega, iteB ⟨fun e => ?_, fun e => ?_⟩⟩
    · have hlt : i < l.length := by have := of_decide_eq_true e; rw [tl_S] at this; omega
      have hg := List.getElem?_eq_getElem hlt
      refine ⟨l[i], by rw [tl_S]; omega, atI_nat hg, iteB ⟨fun e2 => ?_, fun e2 => ?_⟩⟩
      · have e2 : l[i] = k := by have := of_decide_eq_true e2; simpa using this
        refine ⟨i + 1, _, rfl, rfl, hlt, ?_⟩
        rw [List.drop_eq_getElem_cons hlt, e2] at hs
        exact List.cons_sublist_cons.mp hs
      · have e2 : ¬ l[i] = k := fun z => e2 (decide_eq_true (by rw [z]))
        refine ⟨i, _, rfl, rfl, hi, ?_⟩
        rcases List.sublist_cons_iff.mp hs with hs | ⟨r, er, _⟩
        · exact hs
        · rw [List.drop_eq_getElem_cons hlt] at er
          exact absurd (List.cons.inj er).1 e2
    · have : i = l.length := by
        have : ¬ ((i : Nat) : Int) < ((l.length : Nat) : Int) := fun z => e (decide_eq_true z)
        omega
      refine ⟨i, _, rfl, rfl, hi, ?_⟩
      rw [this, List.drop_length]
      exact List.nil_sublist _
  · rintro σ H1 ⟨i, y3, rfl, rfl, hi, hs⟩
    rw [size_S, List.drop_length, List.sublist_nil] at hs
    have hil : i = l.length := by
      have := congrArg List.length hs
      rw [List.length_drop, List.length_nil] at this
      omega
    subst hil
    refine ⟨by rw [tl_S]; omega, ?_⟩
    have : (decide (((l.length : Nat) : Int) = ((l.length : Nat) : Int))) = true := decide_eq_true rfl
    show Q (.bl (decide (((l.length : Nat) : Int) = (((tl (S l)).length : Nat) : Int)))) H1
    rw [tl_S, this]
    exact q

-- NEEDS plan5
/-! all rows that arise by deleting beads, with the price of what is deleted -/
section
theorem snoc_ind {M : List Nat → Prop} (h0 : M []) (hs : ∀ x d, M x → M (x ++ [d])) : ∀ x, M x := by
  intro x
  rw [← x.reverse_reverse]
  generalize x.reverse = y
  induction y with
  | nil => exact h0
  | cons d r ih => rw [List.reverse_cons]; exact hs _ _ ih
variable {pr : Nat → Int}
def sbStep (pr : Nat → Int) (L : List (List Nat × Int)) (d : Nat) : List (List Nat × Int) := L.map (fun e => (e.1 ++ [d], e.2)) ++ L.map (fun e => (e.1, e.2 + pr d))
def sbs (pr : Nat → Int) (x : List Nat) : List (List Nat × Int) := x.foldl (sbStep pr) [([], 0)]
theorem sbs_snoc (x : List Nat) (d : Nat) : sbs pr (x ++ [d]) = sbStep pr (sbs pr x) d := by
  unfold sbs
  rw [List.foldl_append]
  rfl
theorem sbs_sub : ∀ x : List Nat, ∀ e ∈ sbs pr x, e.1.Sublist x ∧ e.2 = wt pr x - wt pr e.1 := by
  refine snoc_ind (fun e he => ?_) fun x d ih e he => ?_
  · rw [List.mem_singleton.mp he]
    exact ⟨List.Sublist.refl _, rfl⟩
  · rw [sbs_snoc] at he
    rcases List.mem_append.mp he with he | he
    · obtain ⟨e', he', rfl⟩ := List.mem_map.mp he
      obtain ⟨h1, h2⟩ := ih e' he'
      refine ⟨h1.append (List.Sublist.refl _), ?_⟩
      show e'.2 = _ - wt pr (e'.1 ++ [d])
      rw [wt_app, wt_app]
      omega
    · obtain ⟨e', he', rfl⟩ := List.mem_map.mp he
      obtain ⟨h1, h2⟩ := ih e' he'
      refine ⟨h1.trans (List.sublist_append_left _ _), ?_⟩
      show e'.2 + pr d = _ - wt pr e'.1
      rw [wt_app, wt_cons, wt_nil]
      omega
theorem sbs_all : ∀ x k : List Nat, k.Sublist x → (k, wt pr x - wt pr k) ∈ sbs pr x := by
  refine snoc_ind (fun k hk => ?_) fun x d ih k hk => ?_
  · rw [List.sublist_nil.mp hk]
    exact List.mem_singleton.mpr rfl
  · obtain ⟨k1, k2, rfl, h1, h2⟩ := List.sublist_append_iff.mp hk
    rw [sbs_snoc]
    have h3 := ih k1 h1
    rcases List.sublist_cons_iff.mp h2 with h | ⟨r, rfl, h⟩
    · rw [List.sublist_nil.mp h, List.append_nil]
      refine List.mem_append.mpr (.inr (List.mem_map.mpr ⟨_, h3, ?_⟩))
      show (k1, _) = (k1, _)
      rw [wt_app, wt_cons, wt_nil]
      congr 1
      omega
    · rw [List.sublist_nil.mp h]
      refine List.mem_append.mpr (.inl (List.mem_map.mpr ⟨_, h3, ?_⟩))
      show (k1 ++ [d], _) = (k1 ++ [d], _)
      rw [wt_app, wt_app]
      congr 1
      omega
theorem sbs_len : ∀ x : List Nat, (sbs pr x).length = 2 ^ x.length := by
  refine snoc_ind rfl fun x d ih => ?_
  rw [sbs_snoc]
  unfold sbStep
  rw [List.length_append, List.length_map, List.length_map, ih, List.length_append, List.length_singleton, Nat.pow_succ]
  omega
/-- the least price of all that have no residue -/
theorem sbs_min {sz : Nat → Nat} (hs : ∀ k, 1 ≤ sz k) (hp : ∀ k, 0 ≤ pr k) {x : List Nat} {m : Int} (h1 : m ∈ ((sbs pr x).filter fun e => decide (res sz e.1 = [])).map (·.2)) (h2 : ∀ y ∈ ((sbs pr x).filter fun e => decide (res sz e.1 = [])).map (·.2), m ≤ y) : m = cl false sz pr x := by
  obtain ⟨e, he, rfl⟩ := List.mem_map.mp h1
  obtain ⟨he, hr⟩ := List.mem_filter.mp he
  obtain ⟨e1, e2⟩ := sbs_sub x e he
  have k1 := cl_leastD hs hp (of_decide_eq_true hr) e1
  obtain ⟨_, g2, g3⟩ := (dl_ok (sz := sz) (pr := pr) x.length).1 x 0 (Nat.le_refl _)
  have k2 := h2 _ (List.mem_map.mpr ⟨_, List.mem_filter.mpr ⟨sbs_all x _ (kp_sub (dl sz pr 0 x) x 0), decide_eq_true ((res_gr hs).mpr g2)⟩, rfl⟩)
  have k2 : e.2 ≤ wt pr x - wt pr (kp 0 (dl sz pr 0 x) x) := k2
  omega
end
/-- rows with prices as tuples in the heap -/
structure SbL (K : PySem.W.Frag) (H : Hp) (ys : List V) (L : List (List Nat × Int)) : Prop where
  len : ys.length = L.length
  at_ : ∀ (i : Nat) (e : List Nat × Int), L[i]? = some e → ∃ t, ys[i]? = some (.ref t) ∧ SqT K H t [.str (S e.1), .int e.2]
section
variable {K : PySem.W.Frag} {H H' : Hp} {ys zs : List V} {L M : List (List Nat × Int)}
theorem SbL.nil : SbL K H [] [] := ⟨rfl, fun i e h => by simp at h⟩
theorem SbL.frx (h : SbL K H ys L) (f : ∀ a xs, SqT K H a xs → SqT K H' a xs) : SbL K H' ys L := ⟨h.len, fun i e he => (h.at_ i e he).elim fun t ⟨a, b⟩ => ⟨t, a, f _ _ b⟩⟩
theorem SbL.same (h : SbL K H ys L) (s : Same H H') : SbL K H' ys L := h.frx fun _ _ z => s.tup z
theorem SbL.app (h : SbL K H ys L) (g : SbL K H zs M) : SbL K H (ys ++ zs) (L ++ M) := by
  refine ⟨by rw [List.length_append, List.length_append, h.len, g.len], fun i e he => ?_⟩
  by_cases hi : i < L.length
  · rw [List.getElem?_append_left hi] at he
    rw [List.getElem?_append_left (by rw [h.len]; exact hi)]
    exact h.at_ i e he
  · rw [List.getElem?_append_right (by omega)] at he
    rw [List.getElem?_append_right (by rw [h.len]; omega), h.len]
    exact g.at_ _ e he
theorem SbL.one {t : Addr} {e : List Nat × Int} (ht : SqT K H t [.str (S e.1), .int e.2]) : SbL K H [.ref t] [e] := ⟨rfl, fun i e' he => by
  cases i with
  | zero => cases he; exact ⟨t, rfl, ht⟩
  | succ i => simp at he⟩
theorem SbL.get (h : SbL K H ys L) {i : Nat} {v : V} (hv : ys[i]? = some v) : ∃ e t, L[i]? = some e ∧ v = .ref t ∧ SqT K H t [.str (S e.1), .int e.2] := by
  have hi : i < L.length := by rw [← h.len]; exact (List.getElem?_eq_some_iff.mp hv).1
  obtain ⟨t, h1, h2⟩ := h.at_ i _ (List.getElem?_eq_getElem hi)
  rw [hv] at h1
  exact ⟨_, t, List.getElem?_eq_getElem hi, Option.some.inj h1, h2⟩
end
theorem take_snoc {α : Type} {l : List α} {j : Nat} {d : α} (h : l[j]? = some d) : l.take (j + 1) = l.take j ++ [d] := by
  rw [List.take_succ, h]
  rfl
theorem SameB.sqt {K : PySem.W.Frag} {d a : Addr} {H H' : Hp} {ys xs : List V} (s : SameB d H H') (hd : H d = some (.lst ys)) (h : SqT K H a xs) : SqT K H' a xs := s.tup hd h
/-- the rows kept, the positions that are deleted -/
theorem eqV_iv (i j : Nat) : eqV (iv i) (iv j) = decide (i = j) := by
  show decide (((i : Nat) : Int) = ((j : Nat) : Int)) = _
  rw [Bool.eq_iff_iff, decide_eq_true_iff, decide_eq_true_iff]
  omega
theorem inV_iv {i : Nat} {W : List Nat} : inV (iv i) (W.map iv) = decide (i ∈ W) := by
  induction W with
  | nil => simp [inV]
  | cons y r ih =>
    show (eqV (iv y) (iv i) || inV (iv i) (r.map iv)) = _
    rw [ih, eqV_iv]
    rw [Bool.eq_iff_iff, Bool.or_eq_true, decide_eq_true_iff, decide_eq_true_iff, decide_eq_true_iff, List.mem_cons]
    exact ⟨fun h => h.elim (fun h => .inl h.symm) .inr, fun h => h.elim (fun h => .inl h.symm) .inr⟩
theorem flat_iv (W : List Nat) : (W.map iv).all flatV = true := by
  rw [List.all_eq_true]
  intro v hv
  obtain ⟨n, _, rfl⟩ := List.mem_map.mp hv
  rfl
theorem keys_int : ∀ {ds : List Key}, (∀ k ∈ ds, ∃ n : Int, k = .inl n) → ∃ ns : List Int, ds = ns.map fun n => (.inl n : Key)
  | [], _ => ⟨[], rfl⟩
  | k :: r, h => by
    obtain ⟨n, rfl⟩ := h k (by simp)
    obtain ⟨ns, rfl⟩ := keys_int (ds := r) fun k hk => h k (by simp [hk])
    exact ⟨n :: ns, rfl⟩
theorem map_iv_int (W : List Nat) : W.map iv = (W.map fun n => ((n : Nat) : Int)).map V.int := by rw [List.map_map]; rfl
theorem asc_uniq {ps : List Nat} {s n : Nat} (h : Asc s n ps) {ds : List Key} {ns ms : List Int} (e : ds = ns.map fun n => (.inl n : Key)) (nd : ds.Nodup) (hm : ∀ k, k ∈ ds ↔ k ∈ ps.map fun p => (.inl ((p : Nat) : Int) : Key)) (hp : ms.Perm ns) (hs : ms.Pairwise (· ≤ ·)) : ms = ps.map fun n => ((n : Nat) : Int) := by
  subst e
  have nd1 : ns.Nodup := (List.pairwise_map.mp nd).imp fun h z => h (by rw [z])
  have so : (ps.map fun n => ((n : Nat) : Int)).Pairwise (· < ·) := List.pairwise_map.mpr (h.o.imp fun h => by omega)
  have nd2 : (ps.map fun n => ((n : Nat) : Int)).Nodup := so.imp fun h => Int.ne_of_lt h
  have hp2 : ns.Perm (ps.map fun n => ((n : Nat) : Int)) := (List.perm_ext_iff_of_nodup nd1 nd2).mpr fun i => by
    have := hm (.inl i)
    rw [List.mem_map, List.mem_map] at this
    rw [List.mem_map]
    constructor
    · intro hi
      obtain ⟨p, hp, e⟩ := this.mp ⟨i, hi, rfl⟩
      exact ⟨p, hp, Sum.inl.inj e⟩
    · rintro ⟨p, hp, rfl⟩
      obtain ⟨j, hj, e⟩ := this.mpr ⟨p, hp, rfl⟩
      rw [← Sum.inl.inj e]
      exact hj
  exact List.Perm.eq_of_pairwise (fun x y _ _ h1 h2 => Int.le_antisymm h1 h2) hs (so.imp fun h => Int.le_of_lt h) (hp.trans hp2)
theorem kp_snoc (ps l : List Nat) {j d : Nat} (h : l[j]? = some d) : kp 0 ps (l.take (j + 1)) = kp 0 ps (l.take j) ++ if j ∈ ps then [] else [d] := by
  have hj : j < l.length := (List.getElem?_eq_some_iff.mp h).1
  rw [take_snoc h, kp_app, List.length_take, show 0 + min j l.length = j by omega]
  congr 1
theorem flat_ch (l : List Nat) : (l.map fun c => [c]).flatten = l := by
  induction l with
  | nil => rfl
  | cons d r ih => rw [List.map_cons, List.flatten_cons, ih]; rfl
abbrev chV1 (l : List Nat) : List V := (l.map fun c => [c]).map fun l => V.str (S l)
theorem sum_ch (l : List Nat) : ((l.map fun c => [c]).map List.length).sum = l.length := by
  rw [← List.length_flatten, flat_ch]
/-- only colors of the row are inserted -/
theorem cp_mem {sz : Nat → Nat} {pr : Nat → Int} : ∀ n : Nat, (∀ x : List Nat, x.length ≤ n → ∀ k ∈ cp sz pr x, k ∈ x) ∧ ∀ (x : List Nat) (c m : Nat), x.length ≤ n → ∀ k ∈ cf sz pr x c m, k = c ∨ k ∈ x := by
  have step : ∀ n : Nat, (∀ x : List Nat, x.length ≤ n → ∀ k ∈ cp sz pr x, k ∈ x) → (∀ (x : List Nat) (c m : Nat), x.length < n → ∀ k ∈ cf sz pr x c m, k = c ∨ k ∈ x) → ∀ (x : List Nat) (c m : Nat), x.length ≤ n → ∀ k ∈ cf sz pr x c m, k = c ∨ k ∈ x := by
    intro n h1 h2 x c m hx k hk
    cases m with
    | zero => rw [cf] at hk; exact .inr (h1 x hx k hk)
    | succ m =>
      rw [cf] at hk
      cases e : fp true sz pr x c (m + 1) with
      | none =>
        rw [e] at hk
        have hk : k ∈ List.replicate (m + 1) c ++ cp sz pr x := hk
        rcases List.mem_append.mp hk with hk | hk
        · exact .inl (List.eq_of_mem_replicate hk)
        · exact .inr (h1 x hx k hk)
      | some j =>
        rw [e] at hk
        have hk : k ∈ (if j < x.length then cp sz pr (x.take j) ++ c :: cf sz pr (x.drop (j + 1)) c m else []) := hk
        by_cases hj : j < x.length
        · rw [if_pos hj] at hk
          rcases List.mem_append.mp hk with hk | hk
          · exact .inr (List.mem_of_mem_take (h1 (x.take j) (by rw [List.length_take]; omega) k hk))
          · rcases List.mem_cons.mp hk with hk | hk
            · exact .inl hk
            · rcases h2 (x.drop (j + 1)) c m (by rw [List.length_drop]; omega) k hk with hk | hk
              · exact .inl hk
              · exact .inr (List.mem_of_mem_drop hk)
        · rw [if_neg hj] at hk
          cases hk
  intro n
  induction n with
  | zero =>
    have h1 : ∀ x : List Nat, x.length ≤ 0 → ∀ k ∈ cp sz pr x, k ∈ x := fun x hx => by
      have : x = [] := List.length_eq_zero_iff.mp (by omega)
      subst this
      rw [cp]
      exact fun k hk => hk
    exact ⟨h1, step 0 h1 fun x c m hx => absurd hx (Nat.not_lt_zero _)⟩
  | succ n ih =>
    obtain ⟨i1, i2⟩ := ih
    have h1 : ∀ x : List Nat, x.length ≤ n + 1 → ∀ k ∈ cp sz pr x, k ∈ x := fun x hx => by
      cases x with
      | nil => rw [cp]; exact fun k hk => hk
      | cons d x =>
        rw [List.length_cons] at hx
        rw [cp]
        intro k hk
        rcases List.mem_cons.mp hk with rfl | hk
        · exact List.mem_cons_self
        · rcases i2 x d (sz d - 1) (by omega) k hk with rfl | hk
          · exact List.mem_cons_self
          · exact List.mem_cons_of_mem _ hk
    exact ⟨h1, step (n + 1) h1 fun x c m hx => i2 x c m (by omega)⟩

-- NEEDS m_sbs
/-! a pack anywhere changes no least price -/
section
variable {I : Bool} {sz : Nat → Nat} {pr : Nat → Int}
theorem fle_fewer {x : List Nat} {c m : Nat} {v : Int} (h : FLe false sz pr x c (m + 1) v) : FLe false sz pr x c m (v + pr c) := by
  rcases fle_cases h with ⟨z, _⟩ | ⟨a, b, rfl, e⟩
  · cases z
  · have h1 := fle_pre (a ++ [c]) e
    rw [List.append_assoc] at h1
    refine h1.le ?_
    have := cl_app (I := false) (sz := sz) (pr := pr) a [c]
    have := cl_del (sz := sz) (pr := pr) (d := c) (x := [])
    rw [cl_nil] at this
    omega
/-- an open pack that misses m beads: they come, or they are inserted, or what there is of it is deleted -/
def FA (I : Bool) (sz : Nat → Nat) (pr : Nat → Int) (x : List Nat) (c m : Nat) (v : Int) : Prop := FLe I sz pr x c m v ∨ (I = false ∧ ((sz c - m : Nat) : Int) * pr c + cl I sz pr x ≤ v)
theorem FA.le {x : List Nat} {c m : Nat} {v v' : Int} (h : FA I sz pr x c m v) (h' : v ≤ v') : FA I sz pr x c m v' := h.imp (fun h => h.le h') fun ⟨a, b⟩ => ⟨a, by omega⟩
/-- the same, what is missing counted modulo the size -/
def FM (I : Bool) (sz : Nat → Nat) (pr : Nat → Int) (x : List Nat) (c : Nat) (z : Int) (v : Int) : Prop := ∃ (m : Nat) (q : Int), m < sz c ∧ z = (m : Int) + q * ((sz c : Nat) : Int) ∧ FA I sz pr x c m v
def ep (I : Bool) : Int := if I then 1 else -1
variable {x y u v' : List Nat} {c d m : Nat} {z z' v w : Int}
theorem FM.cong (h : FM I sz pr x c z v) (q : Int) (e : z' = z + q * ((sz c : Nat) : Int)) : FM I sz pr x c z' v := by
  obtain ⟨m, q0, hm, e0, h⟩ := h
  exact ⟨m, q0 + q, hm, by rw [Int.add_mul]; omega, h⟩
theorem FM.le (h : FM I sz pr x c z v) (h' : v ≤ w) : FM I sz pr x c z w := by
  obtain ⟨m, q0, hm, e0, h⟩ := h
  exact ⟨m, q0, hm, e0, h.le h'⟩
theorem FM.of (hm : m < sz c) (h : FA I sz pr x c m v) : FM I sz pr x c (m : Int) v := ⟨m, 0, hm, by omega, h⟩
theorem FM.to (hm : m < sz c) (h : FM I sz pr x c (m : Int) v) : FA I sz pr x c m v := by
  obtain ⟨m', q, hm', e, h⟩ := h
  have : q = 0 := by
    rcases Int.lt_trichotomy q 0 with hq | hq | hq
    · have := Int.mul_le_mul_of_nonneg_right (show q ≤ -1 by omega) (show 0 ≤ ((sz c : Nat) : Int) by omega)
      omega
    · exact hq
    · have := Int.mul_le_mul_of_nonneg_right (show 1 ≤ q by omega) (show 0 ≤ ((sz c : Nat) : Int) by omega)
      omega
  subst this
  obtain rfl : m = m' := by omega
  exact h
section
variable (hs : ∀ k, 1 ≤ sz k) (hp : ∀ k, 0 ≤ pr k)
include hs hp
theorem FA.zero : FA I sz pr x c 0 v ↔ cl I sz pr x ≤ v := by
  constructor
  · rintro (h | ⟨_, h⟩)
    · exact fle_zero.mp h
    · have := mul_pr_nonneg hp (sz c - 0) c
      omega
  · exact fun h => .inl (fle_zero.mpr h)
theorem cl_fa : cl I sz pr (c :: x) ≤ v ↔ FA I sz pr x c (sz c - 1) v := by
  have e : ((sz c - (sz c - 1) : Nat) : Int) = 1 := by have := hs c; omega
  constructor
  · intro h
    rcases cl_cases h with ⟨h1, h2⟩ | h
    · exact .inr ⟨h1, by rw [e]; omega⟩
    · exact .inl h
  · rintro (h | ⟨rfl, h⟩)
    · exact cl_le h
    · have := cl_del (sz := sz) (pr := pr) (d := c) (x := x)
      rw [e] at h
      omega
theorem FM.pre (x : List Nat) (h : FM I sz pr y c z v) : FM I sz pr (x ++ y) c z (cl I sz pr x + v) := by
  obtain ⟨m, q, hm, e, h⟩ := h
  refine ⟨m, q, hm, e, h.imp (fun h => fle_pre x h) fun ⟨a, b⟩ => ⟨a, ?_⟩⟩
  have := cl_app (I := I) (sz := sz) (pr := pr) x y
  omega
theorem FM.sh (h : FM I sz pr x c z v) : FM I sz pr x c (z + ep I) (v + pr c) := by
  obtain ⟨m, q, hm, e, h⟩ := h
  have hc := hs c
  cases I with
  | true =>
    have h : FLe true sz pr x c m v := h.elim id fun ⟨a, _⟩ => by cases a
    by_cases hm1 : m + 1 < sz c
    · exact ⟨m + 1, q, hm1, by show z + 1 = _; omega, .inl ((fle_more hp h).le (by omega))⟩
    · refine ⟨0, q + 1, hc, by show z + 1 = _; rw [Int.add_mul]; omega, .inl (fle_zero.mpr ?_)⟩
      have := cl_open hp hm h
      rw [show sz c - m = 1 by omega] at this
      omega
  | false =>
    cases m with
    | zero =>
      have h := (FA.zero hs hp).mp h
      refine ⟨sz c - 1, q - 1, by omega, by show z + -1 = _; rw [Int.sub_mul]; omega, .inr ⟨rfl, ?_⟩⟩
      rw [show sz c - (sz c - 1) = 1 by omega]
      omega
    | succ m =>
      refine ⟨m, q, by omega, by show z + -1 = _; omega, h.imp fle_fewer fun ⟨a, b⟩ => ⟨a, ?_⟩⟩
      rw [show ((sz c - m : Nat) : Int) = ((sz c - (m + 1) : Nat) : Int) + 1 by omega, Int.add_mul]
      omega
theorem FM.shN (h : FM I sz pr x c z v) : ∀ N : Nat, FM I sz pr x c (z + ep I * (N : Nat)) (v + (N : Nat) * pr c)
  | 0 => by simpa using h
  | N + 1 => by
    have := (FM.shN h N).sh hs hp
    refine (this.cong 0 ?_).le ?_
    · rw [show ((N + 1 : Nat) : Int) = (N : Int) + 1 by omega, Int.mul_add]
      omega
    · rw [show ((N + 1 : Nat) : Int) = (N : Int) + 1 by omega, Int.add_mul]
      omega
theorem FM.pos (a : List Nat) (h : FM I sz pr y c z v) : FM I sz pr (a ++ c :: y) c (z + 1) (cl I sz pr a + v) := by
  obtain ⟨m, q, hm, e, h⟩ := h
  have hc := hs c
  have k1 := cl_app (I := I) (sz := sz) (pr := pr) a (c :: y)
  by_cases hm1 : m + 1 < sz c
  · refine ⟨m + 1, q, hm1, by omega, h.imp (fun h => fle_pos h) fun ⟨i, b⟩ => ⟨i, ?_⟩⟩
    subst i
    have := cl_del (sz := sz) (pr := pr) (d := c) (x := y)
    rw [show ((sz c - m : Nat) : Int) = ((sz c - (m + 1) : Nat) : Int) + 1 by omega, Int.add_mul] at b
    omega
  · refine ⟨0, q + 1, hc, by rw [Int.add_mul]; omega, (FA.zero hs hp).mpr ?_⟩
    obtain rfl : m = sz c - 1 := by omega
    have := (cl_fa hs hp).mpr h
    omega
theorem rep_split {c d j : Nat} {a b : List Nat} (h : List.replicate j c = a ++ d :: b) : ∃ j1 j2, d = c ∧ a = List.replicate j1 c ∧ b = List.replicate j2 c ∧ j = j1 + 1 + j2 := by
  have hd : d = c := List.eq_of_mem_replicate (by rw [h]; simp)
  subst hd
  obtain ⟨_, h1, h2⟩ := List.append_eq_replicate_iff.mp h.symm
  have hb : b = List.replicate b.length d := by
    refine List.eq_replicate_iff.mpr ⟨rfl, fun k hk => ?_⟩
    exact List.eq_of_mem_replicate (n := j) (by rw [h]; simp [hk])
  have := congrArg List.length h
  rw [List.length_replicate, List.length_append, List.length_cons] at this
  exact ⟨a.length, b.length, rfl, h1, hb, by omega⟩
/-- a row of one color -/
theorem cl_rep (c : Nat) : ∀ n j : Nat, j ≤ n → (∀ w, cl I sz pr (List.replicate j c) ≤ w → ∃ (N : Nat) (q : Int), (N : Nat) * pr c ≤ w ∧ ep I * (N : Nat) + (j : Int) = q * ((sz c : Nat) : Int)) ∧
    ∀ (m : Nat) (w : Int), m < sz c → FA I sz pr (List.replicate j c) c m w → ∃ (N : Nat) (q : Int), (N : Nat) * pr c ≤ w ∧ ep I * (N : Nat) + (j : Int) = (m : Int) + q * ((sz c : Nat) : Int) := by
  have step : ∀ n j : Nat, (∀ i, i < j → (∀ w, cl I sz pr (List.replicate i c) ≤ w → ∃ (N : Nat) (q : Int), (N : Nat) * pr c ≤ w ∧ ep I * (N : Nat) + (i : Int) = q * ((sz c : Nat) : Int)) ∧
      ∀ (m : Nat) (w : Int), m < sz c → FA I sz pr (List.replicate i c) c m w → ∃ (N : Nat) (q : Int), (N : Nat) * pr c ≤ w ∧ ep I * (N : Nat) + (i : Int) = (m : Int) + q * ((sz c : Nat) : Int)) →
      (∀ w, cl I sz pr (List.replicate j c) ≤ w → ∃ (N : Nat) (q : Int), (N : Nat) * pr c ≤ w ∧ ep I * (N : Nat) + (j : Int) = q * ((sz c : Nat) : Int)) ∧
      ∀ (m : Nat) (w : Int), m < sz c → FA I sz pr (List.replicate j c) c m w → ∃ (N : Nat) (q : Int), (N : Nat) * pr c ≤ w ∧ ep I * (N : Nat) + (j : Int) = (m : Int) + q * ((sz c : Nat) : Int) := by
    intro _ j ih
    have hc := hs c
    have C : ∀ w, cl I sz pr (List.replicate j c) ≤ w → ∃ (N : Nat) (q : Int), (N : Nat) * pr c ≤ w ∧ ep I * (N : Nat) + (j : Int) = q * ((sz c : Nat) : Int) := fun w h => by
      cases j with
      | zero =>
        rw [List.replicate_zero, cl_nil] at h
        exact ⟨0, 0, by simpa using h, by simp⟩
      | succ j =>
        rw [List.replicate_succ] at h
        obtain ⟨N, q, h1, h2⟩ := (ih j (Nat.lt_succ_self _)).2 _ _ (by omega) ((cl_fa hs hp).mp h)
        exact ⟨N, q + 1, h1, by rw [Int.add_mul]; omega⟩
    refine ⟨C, fun m w hm h => ?_⟩
    rcases h with h | ⟨hI, h⟩
    · cases m with
      | zero =>
        obtain ⟨N, q, h1, h2⟩ := C w (fle_zero.mp h)
        exact ⟨N, q, h1, by omega⟩
      | succ m =>
        rcases fle_cases h with ⟨hI, h⟩ | ⟨a, b, e, h⟩
        · obtain ⟨N, q, h1, h2⟩ := C (w - ((m + 1 : Nat) : Int) * pr c) (by omega)
          refine ⟨N + (m + 1), q, ?_, ?_⟩
          · rw [show ((N + (m + 1) : Nat) : Int) = (N : Int) + ((m + 1 : Nat) : Int) by omega, Int.add_mul]
            omega
          · subst hI
            have h2 : (1 : Int) * (N : Nat) + (j : Int) = q * ((sz c : Nat) : Int) := h2
            show (1 : Int) * ((N + (m + 1) : Nat) : Int) + _ = _
            omega
        · obtain ⟨j1, j2, _, rfl, rfl, ej⟩ := rep_split hs hp e
          obtain ⟨N1, q1, a1, a2⟩ := (ih j1 (by omega)).1 _ (Int.le_refl _)
          obtain ⟨N2, q2, b1, b2⟩ := (ih j2 (by omega)).2 m _ (by omega) (.inl h)
          refine ⟨N1 + N2, q1 + q2, ?_, ?_⟩
          · rw [show ((N1 + N2 : Nat) : Int) = (N1 : Int) + (N2 : Int) by omega, Int.add_mul]
            omega
          · rw [show ((N1 + N2 : Nat) : Int) = (N1 : Int) + (N2 : Int) by omega, Int.mul_add, Int.add_mul]
            omega
    · obtain ⟨N, q, h1, h2⟩ := C (w - ((sz c - m : Nat) : Int) * pr c) (by omega)
      subst hI
      refine ⟨N + (sz c - m), q - 1, ?_, ?_⟩
      · rw [show ((N + (sz c - m) : Nat) : Int) = (N : Int) + ((sz c - m : Nat) : Int) by omega, Int.add_mul]
        omega
      · have h2 : (-1 : Int) * (N : Nat) + (j : Int) = q * ((sz c : Nat) : Int) := h2
        show (-1 : Int) * ((N + (sz c - m) : Nat) : Int) + _ = _
        rw [Int.sub_mul]
        omega
  intro n
  induction n with
  | zero => exact fun j hj => step 0 j fun i hi => absurd hi (by omega)
  | succ n ih => exact fun j hj => step (n + 1) j fun i hi => ih i (by omega)
omit hs hp in
/-- where an open pack of another color ends -/
theorem fle_end {k : Nat} {y : List Nat} (hk : k ∉ y) : ∀ {n : Nat} {u : List Nat} {w : Int}, FLe I sz pr (u ++ y) k n w → ∃ a b w1 w2, u = a ++ b ∧ FLe I sz pr a k n w1 ∧ cl I sz pr (b ++ y) ≤ w2 ∧ w1 + w2 ≤ w
  | 0, u, w, h => ⟨[], u, 0, w, rfl, fle_zero.mpr (by rw [cl_nil]; exact Int.le_refl _), fle_zero.mp h, by omega⟩
  | n + 1, u, w, h => by
    rcases fle_cases h with ⟨rfl, h⟩ | ⟨a, b, e, h⟩
    · refine ⟨[], u, ((n + 1 : Nat) : Int) * pr k, w - ((n + 1 : Nat) : Int) * pr k, rfl, (fle_ins (x := [])).le (by rw [cl_nil]; omega), by omega, by omega⟩
    · rcases List.append_eq_append_iff.mp e with ⟨a2, e1, e2⟩ | ⟨a2, e1, e2⟩
      · exact absurd (by rw [e2]; simp) hk
      · cases a2 with
        | nil =>
          rw [List.nil_append] at e2
          exact absurd (by rw [← e2]; simp) hk
        | cons k' u2 =>
          rw [List.cons_append] at e2
          injection e2 with e3 e4
          subst e3
          subst e4
          obtain ⟨a3, b3, w1, w2, rfl, h1, h2, h3⟩ := fle_end hk h
          exact ⟨a ++ k :: a3, b3, _, w2, by rw [e1, List.append_assoc, List.cons_append], fle_pos h1, h2, by omega⟩
/-- two packs of one color become one -/
theorem fm_join (c : Nat) {v : List Nat} : ∀ L : Nat, (∀ (u : List Nat) (i : Nat) (w1 w2 R : Int), u.length ≤ L → cl I sz pr (u ++ List.replicate i c) ≤ w1 → FM I sz pr v c (R + (i : Nat)) w2 → FM I sz pr (u ++ v) c R (w1 + w2)) ∧
    ∀ (u : List Nat) (i n : Nat) (w1 w2 R : Int), u.length ≤ L → n < sz c → FA I sz pr (u ++ List.replicate i c) c n w1 → FM I sz pr v c (R + (i : Nat)) w2 → FM I sz pr (u ++ v) c ((n : Int) + R) (w1 + w2) := by
  have hc := hs c
  have stepF : ∀ L : Nat, (∀ (u : List Nat) (i : Nat) (w1 w2 R : Int), u.length ≤ L → cl I sz pr (u ++ List.replicate i c) ≤ w1 → FM I sz pr v c (R + (i : Nat)) w2 → FM I sz pr (u ++ v) c R (w1 + w2)) →
      (∀ (u : List Nat) (i n : Nat) (w1 w2 R : Int), u.length < L → n < sz c → FA I sz pr (u ++ List.replicate i c) c n w1 → FM I sz pr v c (R + (i : Nat)) w2 → FM I sz pr (u ++ v) c ((n : Int) + R) (w1 + w2)) →
      ∀ (u : List Nat) (i n : Nat) (w1 w2 R : Int), u.length ≤ L → n < sz c → FA I sz pr (u ++ List.replicate i c) c n w1 → FM I sz pr v c (R + (i : Nat)) w2 → FM I sz pr (u ++ v) c ((n : Int) + R) (w1 + w2) := by
    intro L hC hF u i n w1 w2 R hu hn h hv
    rcases h with h | ⟨hI, h⟩
    · cases n with
      | zero => exact (hC u i w1 w2 R hu (fle_zero.mp h) hv).cong 0 (by omega)
      | succ n =>
        rcases fle_cases h with ⟨hI, h⟩ | ⟨a, b, e, h5⟩
        · have := (hC u i (w1 - ((n + 1 : Nat) : Int) * pr c) w2 R hu (by omega) hv).shN hs hp (n + 1)
          subst hI
          have this : FM true sz pr (u ++ v) c (R + (1 : Int) * ((n + 1 : Nat) : Int)) _ := this
          exact (this.cong 0 (by omega)).le (by omega)
        · rcases List.append_eq_append_iff.mp e with ⟨a2, e1, e2⟩ | ⟨a2, e1, e2⟩
          · obtain ⟨i1, i2, _, rfl, rfl, ei⟩ := rep_split hs hp e2
            subst e1
            obtain ⟨N, q, h1, h2⟩ := (cl_rep hs hp c i2 i2 (Nat.le_refl _)).2 n _ (by omega) (.inl h5)
            have k1 := hC u i1 _ w2 (R + 1 + (i2 : Nat)) hu (Int.le_refl _) (hv.cong 0 (by omega))
            exact ((k1.shN hs hp N).cong (-q) (by rw [Int.neg_mul]; omega)).le (by omega)
          · cases a2 with
            | nil =>
              rw [List.nil_append] at e2
              rw [List.append_nil] at e1
              subst e1
              obtain ⟨i1, i2, _, e3, rfl, ei⟩ := rep_split (a := []) hs hp e2.symm
              have i10 : i1 = 0 := by cases i1 with | zero => rfl | succ i1 => simp [List.replicate_succ] at e3
              subst i10
              obtain ⟨N, q, h1, h2⟩ := (cl_rep hs hp c i2 i2 (Nat.le_refl _)).2 n _ (by omega) (.inl h5)
              have k1 := hC u 0 _ w2 (R + 1 + (i2 : Nat)) hu (by rw [List.replicate_zero, List.append_nil]; exact Int.le_refl _) (hv.cong 0 (by omega))
              exact ((k1.shN hs hp N).cong (-q) (by rw [Int.neg_mul]; omega)).le (by omega)
            | cons k u2 =>
              rw [List.cons_append] at e2
              injection e2 with e3 e4
              subst e3
              subst e4
              subst e1
              rw [List.length_append, List.length_cons] at hu
              have k1 := (hF u2 i n _ w2 R (by omega) (by omega) (.inl h5) hv).pos hs hp a
              rw [List.append_assoc, List.cons_append]
              exact (k1.cong 0 (by omega)).le (by omega)
    · have := (hC u i (w1 - ((sz c - n : Nat) : Int) * pr c) w2 R hu (by omega) hv).shN hs hp (sz c - n)
      subst hI
      have this : FM false sz pr (u ++ v) c (R + (-1 : Int) * ((sz c - n : Nat) : Int)) _ := this
      exact (this.cong 1 (by omega)).le (by omega)
  have nilC : ∀ (i : Nat) (w1 w2 R : Int), cl I sz pr (List.replicate i c) ≤ w1 → FM I sz pr v c (R + (i : Nat)) w2 → FM I sz pr v c R (w1 + w2) := by
    intro i w1 w2 R h hv
    obtain ⟨N, q, h1, h2⟩ := (cl_rep hs hp c i i (Nat.le_refl _)).1 _ h
    exact ((hv.shN hs hp N).cong (-q) (by rw [Int.neg_mul]; omega)).le (by omega)
  intro L
  induction L with
  | zero =>
    have hC : ∀ (u : List Nat) (i : Nat) (w1 w2 R : Int), u.length ≤ 0 → cl I sz pr (u ++ List.replicate i c) ≤ w1 → FM I sz pr v c (R + (i : Nat)) w2 → FM I sz pr (u ++ v) c R (w1 + w2) := by
      intro u i w1 w2 R hu h hv
      have : u = [] := List.length_eq_zero_iff.mp (by omega)
      subst this
      exact nilC i w1 w2 R h hv
    exact ⟨hC, stepF 0 hC fun u i n w1 w2 R hu => absurd hu (Nat.not_lt_zero _)⟩
  | succ L ih =>
    obtain ⟨iC, iF⟩ := ih
    have hC : ∀ (u : List Nat) (i : Nat) (w1 w2 R : Int), u.length ≤ L + 1 → cl I sz pr (u ++ List.replicate i c) ≤ w1 → FM I sz pr v c (R + (i : Nat)) w2 → FM I sz pr (u ++ v) c R (w1 + w2) := by
      intro u i w1 w2 R hu h hv
      cases u with
      | nil => exact nilC i w1 w2 R h hv
      | cons k u =>
        rw [List.length_cons] at hu
        rw [List.cons_append] at h
        by_cases hk : k = c
        · subst hk
          have k1 := (iF u i (sz k - 1) w1 w2 R (by omega) (by omega) ((cl_fa hs hp).mp h) hv).pos hs hp []
          rw [cl_nil] at k1
          exact (k1.cong (-1) (by omega)).le (by omega)
        · rcases cl_cases h with ⟨hI, h⟩ | h
          · have k1 := (iC u i (w1 - pr k) w2 R (by omega) (by omega) hv).pre hs hp [k]
            subst hI
            have := cl_del (sz := sz) (pr := pr) (d := k) (x := [])
            rw [cl_nil] at this
            exact k1.le (by omega)
          · obtain ⟨a, b, w3, w4, rfl, h1, h2, h3⟩ := fle_end (fun z => hk (List.eq_of_mem_replicate z)) h
            rw [List.length_append] at hu
            have k1 := (iC b i w4 w2 R (by omega) h2 hv).pre hs hp (k :: a)
            have := cl_le h1
            rw [List.cons_append, ← List.append_assoc] at k1
            exact k1.le (by omega)
    exact ⟨hC, stepF (L + 1) hC fun u i n w1 w2 R hu => iF u i n w1 w2 R (by omega)⟩
/-- beads of one color in front of a row -/
theorem fm_front (c : Nat) : ∀ n j : Nat, j ≤ n → (∀ (v : List Nat) (w : Int), cl I sz pr (List.replicate j c ++ v) ≤ w → FM I sz pr v c (-(j : Int)) w) ∧
    ∀ (v : List Nat) (m : Nat) (w : Int), m < sz c → FA I sz pr (List.replicate j c ++ v) c m w → FM I sz pr v c ((m : Int) - (j : Int)) w := by
  have hc := hs c
  have step : ∀ j : Nat, (∀ i, i < j → (∀ (v : List Nat) (w : Int), cl I sz pr (List.replicate i c ++ v) ≤ w → FM I sz pr v c (-(i : Int)) w) ∧
      ∀ (v : List Nat) (m : Nat) (w : Int), m < sz c → FA I sz pr (List.replicate i c ++ v) c m w → FM I sz pr v c ((m : Int) - (i : Int)) w) →
      (∀ (v : List Nat) (w : Int), cl I sz pr (List.replicate j c ++ v) ≤ w → FM I sz pr v c (-(j : Int)) w) ∧
      ∀ (v : List Nat) (m : Nat) (w : Int), m < sz c → FA I sz pr (List.replicate j c ++ v) c m w → FM I sz pr v c ((m : Int) - (j : Int)) w := by
    intro j ih
    have C : ∀ (v : List Nat) (w : Int), cl I sz pr (List.replicate j c ++ v) ≤ w → FM I sz pr v c (-(j : Int)) w := fun v w h => by
      cases j with
      | zero =>
        rw [List.replicate_zero, List.nil_append] at h
        exact (FM.of hc ((FA.zero hs hp).mpr h)).cong 0 (by omega)
      | succ j =>
        rw [List.replicate_succ, List.cons_append] at h
        exact ((ih j (Nat.lt_succ_self _)).2 v _ w (by omega) ((cl_fa hs hp).mp h)).cong (-1) (by omega)
    refine ⟨C, fun v m w hm h => ?_⟩
    rcases h with h | ⟨hI, h⟩
    · cases m with
      | zero => exact (C v w (fle_zero.mp h)).cong 0 (by omega)
      | succ m =>
        rcases fle_cases h with ⟨hI, h⟩ | ⟨a, b, e, h5⟩
        · have := (C v (w - ((m + 1 : Nat) : Int) * pr c) (by omega)).shN hs hp (m + 1)
          subst hI
          have this : FM true sz pr v c (-(j : Int) + (1 : Int) * ((m + 1 : Nat) : Int)) _ := this
          exact (this.cong 0 (by omega)).le (by omega)
        · have inv : ∀ v1, a = List.replicate j c ++ v1 → v = v1 ++ c :: b → FM I sz pr v c (((m + 1 : Nat) : Int) - (j : Int)) w := by
            rintro v1 rfl rfl
            obtain ⟨m', q, hm', e', h'⟩ := C v1 _ (Int.le_refl _)
            have k1 := (FM.of (show m < sz c by omega) (Or.inl h5 : FA I sz pr b c m _)).pos hs hp []
            rw [cl_nil, List.nil_append] at k1
            have k2 := (fm_join hs hp c (v := c :: b) v1.length).2 v1 0 m' _ _ ((m : Int) + 1) (Nat.le_refl _) hm' (by rw [List.replicate_zero, List.append_nil]; exact h') (k1.cong 0 (by omega))
            exact (k2.cong q (by omega)).le (by omega)
          rcases List.append_eq_append_iff.mp e with ⟨a2, e1, e2⟩ | ⟨a2, e1, e2⟩
          · exact inv a2 e1 e2
          · cases a2 with
            | nil =>
              rw [List.nil_append] at e2
              rw [List.append_nil] at e1
              exact inv [] (by rw [List.append_nil]; exact e1.symm) e2.symm
            | cons k u2 =>
              rw [List.cons_append] at e2
              injection e2 with e3 e4
              subst e3
              subst e4
              obtain ⟨j1, j2, _, rfl, rfl, ej⟩ := rep_split hs hp e1
              obtain ⟨N, q, h1, h2⟩ := (cl_rep hs hp c j1 j1 (Nat.le_refl _)).1 _ (Int.le_refl (cl I sz pr (List.replicate j1 c)))
              have k1 := ((ih j2 (by omega)).2 v m _ (by omega) (.inl h5)).shN hs hp N
              exact (k1.cong (-q) (by rw [Int.neg_mul]; omega)).le (by omega)
    · have := (C v (w - ((sz c - m : Nat) : Int) * pr c) (by omega)).shN hs hp (sz c - m)
      subst hI
      have this : FM false sz pr v c (-(j : Int) + (-1 : Int) * ((sz c - m : Nat) : Int)) _ := this
      exact (this.cong 1 (by omega)).le (by omega)
  intro n
  induction n with
  | zero => exact fun j hj => step j fun i hi => absurd hi (by omega)
  | succ n ih => exact fun j hj => step j fun i hi => ih i (by omega)
end
end

-- NEEDS m_plan5
section
variable {I : Bool} {sz : Nat → Nat} {pr : Nat → Int}
section
variable (hs : ∀ k, 1 ≤ sz k) (hp : ∀ k, 0 ≤ pr k)
include hs hp
theorem FA.pos {d m : Nat} {y : List Nat} {w : Int} (a : List Nat) (hm : m + 1 < sz d) (h : FA I sz pr y d m w) : FA I sz pr (a ++ d :: y) d (m + 1) (cl I sz pr a + w) :=
  FM.to hm (((FM.of (show m < sz d by omega) h).pos hs hp a).cong 0 (by omega))
theorem unpack_fa (c : Nat) : ∀ L : Nat, (∀ (u v : List Nat) (w : Int), u.length ≤ L → cl I sz pr (u ++ (List.replicate (sz c) c ++ v)) ≤ w → cl I sz pr (u ++ v) ≤ w) ∧
    ∀ (u v : List Nat) (d m : Nat) (w : Int), u.length ≤ L → m < sz d → FA I sz pr (u ++ (List.replicate (sz c) c ++ v)) d m w → FA I sz pr (u ++ v) d m w := by
  have hc := hs c
  have step : ∀ L : Nat, (∀ (u v : List Nat) (w : Int), u.length ≤ L → cl I sz pr (u ++ (List.replicate (sz c) c ++ v)) ≤ w → cl I sz pr (u ++ v) ≤ w) →
      (∀ (u v : List Nat) (d m : Nat) (w : Int), u.length < L → m < sz d → FA I sz pr (u ++ (List.replicate (sz c) c ++ v)) d m w → FA I sz pr (u ++ v) d m w) →
      ∀ (u v : List Nat) (d m : Nat) (w : Int), u.length ≤ L → m < sz d → FA I sz pr (u ++ (List.replicate (sz c) c ++ v)) d m w → FA I sz pr (u ++ v) d m w := by
    intro L hC hF u v d m w hu hm h
    rcases h with h | ⟨hI, h⟩
    · cases m with
      | zero => exact .inl (fle_zero.mpr (hC u v w hu (fle_zero.mp h)))
      | succ m =>
        rcases fle_cases h with ⟨hI, h⟩ | ⟨a, b, e, h5⟩
        · subst hI
          have := hC u v _ hu (Int.le_refl _)
          exact .inl (fle_ins.le (by omega))
        · have behind : ∀ a3, a = u ++ (List.replicate (sz c) c ++ a3) → v = a3 ++ d :: b → FA I sz pr (u ++ v) d (m + 1) w := by
            rintro a3 rfl rfl
            have k1 := hC u a3 _ hu (Int.le_refl _)
            have k2 := fle_pos (a := u ++ a3) h5
            rw [List.append_assoc] at k2
            exact .inl (k2.le (by omega))
          have inner : ∀ a2, a = u ++ a2 → List.replicate (sz c) c ++ v = a2 ++ d :: b → FA I sz pr (u ++ v) d (m + 1) w := by
            intro a2 e1 e2
            rcases List.append_eq_append_iff.mp e2 with ⟨a3, e3, e4⟩ | ⟨a3, e3, e4⟩
            · exact behind a3 (by rw [e1, e3]) e4
            · cases a3 with
              | nil =>
                rw [List.append_nil] at e3
                rw [List.nil_append] at e4
                exact behind [] (by rw [e1, List.append_nil, e3]) e4.symm
              | cons k b3 =>
                rw [List.cons_append] at e4
                injection e4 with e5 e6
                subst e5
                subst e6
                obtain ⟨i, j, rfl, rfl, rfl, ej⟩ := rep_split hs hp e3
                subst e1
                have k1 := (fm_front (I := I) hs hp d j j (Nat.le_refl _)).2 v m _ (by omega) (.inl h5)
                have k2 := (fm_join hs hp d u.length).1 u i _ _ ((m : Int) + 1) (Nat.le_refl _) (Int.le_refl _) (k1.cong 1 (by omega))
                exact (FM.to hm (k2.cong 0 (by omega))).le (by omega)
          rcases List.append_eq_append_iff.mp e with ⟨a2, e1, e2⟩ | ⟨a2, e1, e2⟩
          · exact inner a2 e1 e2
          · cases a2 with
            | nil =>
              rw [List.append_nil] at e1
              rw [List.nil_append] at e2
              exact inner [] (by rw [List.append_nil]; exact e1.symm) e2.symm
            | cons k u2 =>
              rw [List.cons_append] at e2
              injection e2 with e3 e4
              subst e3
              subst e4
              subst e1
              rw [List.length_append, List.length_cons] at hu
              have k1 := (hF u2 v d m _ (by omega) (by omega) (.inl h5)).pos hs hp a hm
              rw [List.append_assoc, List.cons_append]
              exact k1.le (by omega)
    · have := hC u v _ hu (Int.le_refl _)
      exact .inr ⟨hI, by omega⟩
  intro L
  induction L with
  | zero =>
    have hC : ∀ (u v : List Nat) (w : Int), u.length ≤ 0 → cl I sz pr (u ++ (List.replicate (sz c) c ++ v)) ≤ w → cl I sz pr (u ++ v) ≤ w := by
      intro u v w hu h
      have : u = [] := List.length_eq_zero_iff.mp (by omega)
      subst this
      have k1 := (fm_front hs hp c (sz c) (sz c) (Nat.le_refl _)).1 v w h
      exact (FA.zero hs hp).mp (FM.to hc (k1.cong 1 (by omega)))
    exact ⟨hC, step 0 hC fun u v d m w hu => absurd hu (Nat.not_lt_zero _)⟩
  | succ L ih =>
    obtain ⟨iC, iF⟩ := ih
    have hC : ∀ (u v : List Nat) (w : Int), u.length ≤ L + 1 → cl I sz pr (u ++ (List.replicate (sz c) c ++ v)) ≤ w → cl I sz pr (u ++ v) ≤ w := by
      intro u v w hu h
      cases u with
      | nil => exact iC [] v w (Nat.zero_le _) h
      | cons k u =>
        rw [List.length_cons] at hu
        rw [List.cons_append] at h ⊢
        have := hs k
        exact (cl_fa hs hp).mpr (iF u v k (sz k - 1) w (by omega) (by omega) ((cl_fa hs hp).mp h))
    exact ⟨hC, step (L + 1) hC fun u v d m w hu => iF u v d m w (by omega)⟩
theorem pack_fa (c : Nat) : ∀ L : Nat, (∀ (u v : List Nat) (w : Int), u.length ≤ L → cl I sz pr (u ++ v) ≤ w → cl I sz pr (u ++ (List.replicate (sz c) c ++ v)) ≤ w) ∧
    ∀ (u v : List Nat) (d m : Nat) (w : Int), u.length ≤ L → m < sz d → FA I sz pr (u ++ v) d m w → FA I sz pr (u ++ (List.replicate (sz c) c ++ v)) d m w := by
  have hc := hs c
  have step : ∀ L : Nat, (∀ (u v : List Nat) (w : Int), u.length ≤ L → cl I sz pr (u ++ v) ≤ w → cl I sz pr (u ++ (List.replicate (sz c) c ++ v)) ≤ w) →
      (∀ (u v : List Nat) (d m : Nat) (w : Int), u.length < L → m < sz d → FA I sz pr (u ++ v) d m w → FA I sz pr (u ++ (List.replicate (sz c) c ++ v)) d m w) →
      ∀ (u v : List Nat) (d m : Nat) (w : Int), u.length ≤ L → m < sz d → FA I sz pr (u ++ v) d m w → FA I sz pr (u ++ (List.replicate (sz c) c ++ v)) d m w := by
    intro L hC hF u v d m w hu hm h
    rcases h with h | ⟨hI, h⟩
    · cases m with
      | zero => exact .inl (fle_zero.mpr (hC u v w hu (fle_zero.mp h)))
      | succ m =>
        rcases fle_cases h with ⟨hI, h⟩ | ⟨a, b, e, h5⟩
        · subst hI
          have := hC u v _ hu (Int.le_refl _)
          exact .inl (fle_ins.le (by omega))
        · have behind : ∀ a2, a = u ++ a2 → v = a2 ++ d :: b → FA I sz pr (u ++ (List.replicate (sz c) c ++ v)) d (m + 1) w := by
            rintro a2 rfl rfl
            have k1 := hC u a2 _ hu (Int.le_refl _)
            have k2 := fle_pos (a := u ++ (List.replicate (sz c) c ++ a2)) h5
            rw [List.append_assoc, List.append_assoc] at k2
            exact .inl (k2.le (by omega))
          rcases List.append_eq_append_iff.mp e with ⟨a2, e1, e2⟩ | ⟨a2, e1, e2⟩
          · exact behind a2 e1 e2
          · cases a2 with
            | nil =>
              rw [List.append_nil] at e1
              rw [List.nil_append] at e2
              exact behind [] (by rw [List.append_nil]; exact e1.symm) e2.symm
            | cons k u2 =>
              rw [List.cons_append] at e2
              injection e2 with e3 e4
              subst e3
              subst e4
              subst e1
              rw [List.length_append, List.length_cons] at hu
              have k1 := (hF u2 v d m _ (by omega) (by omega) (.inl h5)).pos hs hp a hm
              rw [List.append_assoc, List.cons_append]
              exact k1.le (by omega)
    · have := hC u v _ hu (Int.le_refl _)
      exact .inr ⟨hI, by omega⟩
  have fr : ∀ (v : List Nat) (j : Nat), FLe I sz pr (List.replicate j c ++ v) c j (cl I sz pr v) := by
    intro v j
    induction j with
    | zero => exact fle_zero.mpr (Int.le_refl _)
    | succ j ih =>
      have := fle_pos (a := []) ih
      rw [cl_nil] at this
      rw [List.replicate_succ]
      exact this.le (by omega)
  intro L
  induction L with
  | zero =>
    have hC : ∀ (u v : List Nat) (w : Int), u.length ≤ 0 → cl I sz pr (u ++ v) ≤ w → cl I sz pr (u ++ (List.replicate (sz c) c ++ v)) ≤ w := by
      intro u v w hu h
      have : u = [] := List.length_eq_zero_iff.mp (by omega)
      subst this
      have k1 := cl_le (fr v (sz c - 1))
      rw [← List.cons_append, ← List.replicate_succ, show sz c - 1 + 1 = sz c by omega] at k1
      exact Int.le_trans k1 h
    exact ⟨hC, step 0 hC fun u v d m w hu => absurd hu (Nat.not_lt_zero _)⟩
  | succ L ih =>
    obtain ⟨iC, iF⟩ := ih
    have hC : ∀ (u v : List Nat) (w : Int), u.length ≤ L + 1 → cl I sz pr (u ++ v) ≤ w → cl I sz pr (u ++ (List.replicate (sz c) c ++ v)) ≤ w := by
      intro u v w hu h
      cases u with
      | nil => exact iC [] v w (Nat.zero_le _) h
      | cons k u =>
        rw [List.length_cons] at hu
        rw [List.cons_append] at h ⊢
        have := hs k
        exact (cl_fa hs hp).mpr (iF u v k (sz k - 1) w (by omega) (by omega) ((cl_fa hs hp).mp h))
    exact ⟨hC, step (L + 1) hC fun u v d m w hu => iF u v d m w (by omega)⟩
/-- the least price depends on the residue alone -/
theorem cl_res : ∀ x : List Nat, cl I sz pr x = cl I sz pr (res sz x) :=
  pack_ind hs (fun l h => by rw [h]) fun u c v h => by
    have k1 := (unpack_fa (I := I) hs hp c u.length).1 u v _ (Nat.le_refl _) (Int.le_refl _)
    have k2 := (pack_fa (I := I) hs hp c u.length).1 u v _ (Nat.le_refl _) (Int.le_refl _)
    rw [res_eq_of (stk_pack (sz := sz) (u := u) (v := v) (k := c) (fun y _ => hs y) (hs c)), ← h]
    omega
theorem cl_of_res {x y : List Nat} (h : res sz x = res sz y) : cl I sz pr x = cl I sz pr y := by rw [cl_res hs hp x, cl_res hs hp y, h]
theorem cl_false_res (x : List Nat) : cl false sz pr x ≤ wt pr (res sz x) := by
  rw [cl_res hs hp x]
  have := cl_wt (sz := sz) (pr := pr) (res sz x) []
  rw [List.append_nil, cl_nil] at this
  omega
end
theorem wt_sub (hp : ∀ k, 1 ≤ pr k) : ∀ {x t : List Nat}, x.Sublist t → wt pr x + ((t.length : Nat) : Int) ≤ wt pr t + ((x.length : Nat) : Int) := by
  intro x t h
  induction h with
  | slnil => exact Int.le_refl _
  | cons d _ ih =>
    have := hp d
    rw [wt_cons, List.length_cons]
    omega
  | cons_cons d _ ih =>
    rw [wt_cons, wt_cons, List.length_cons, List.length_cons]
    omega
theorem sub_same (hp : ∀ k, 1 ≤ pr k) {x t : List Nat} (h : x.Sublist t) (e : wt pr t ≤ wt pr x) : x = t := by
  have := wt_sub hp h
  have := h.length_le
  exact h.eq_of_length (by omega)
section
variable (hs : ∀ k, 1 ≤ sz k) (hp : ∀ k, 1 ≤ pr k)
include hs hp
theorem cl_zero {x : List Nat} : cl I sz pr x = 0 ↔ res sz x = [] := by
  have hp0 : ∀ k, 0 ≤ pr k := fun k => by have := hp k; omega
  constructor
  · intro h
    cases I with
    | true =>
      obtain ⟨g1, g2, g3⟩ := (cp_ok (sz := sz) (pr := pr) x.length).1 x (Nat.le_refl _)
      rw [sub_same hp g2 (by omega)]
      exact (res_gr hs).mpr g1
    | false =>
      obtain ⟨_, g2, g3⟩ := (dl_ok (sz := sz) (pr := pr) x.length).1 x 0 (Nat.le_refl _)
      have e := sub_same hp (kp_sub (dl sz pr 0 x) x 0) (by omega)
      rw [e] at g2
      exact (res_gr hs).mpr g2
  · intro h
    rw [cl_res hs hp0 x, h, cl_nil]
theorem wt_rev (x : List Nat) : wt pr x.reverse = wt pr x := by
  induction x with
  | nil => rfl
  | cons d x ih =>
    rw [List.reverse_cons, wt_app, ih, wt_cons, wt_cons, wt_nil]
    omega
theorem cl_rev_le (x : List Nat) : cl I sz pr x.reverse ≤ cl I sz pr x := by
  have hp0 : ∀ k, 0 ≤ pr k := fun k => by have := hp k; omega
  cases I with
  | true =>
    obtain ⟨g1, g2, g3⟩ := (cp_ok (sz := sz) (pr := pr) x.length).1 x (Nat.le_refl _)
    have k1 := cl_least hs hp0 (t := (cp sz pr x).reverse) (by rw [res_rev hs, (res_gr hs).mpr g1]; rfl) g2.reverse
    rw [wt_rev hs hp, wt_rev hs hp] at k1
    omega
  | false =>
    obtain ⟨_, g2, g3⟩ := (dl_ok (sz := sz) (pr := pr) x.length).1 x 0 (Nat.le_refl _)
    have k1 := cl_leastD hs hp0 (y := (kp 0 (dl sz pr 0 x) x).reverse) (by rw [res_rev hs, (res_gr hs).mpr g2]; rfl) (kp_sub (dl sz pr 0 x) x 0).reverse
    rw [wt_rev hs hp, wt_rev hs hp] at k1
    omega
theorem cl_rev (x : List Nat) : cl I sz pr x.reverse = cl I sz pr x := by
  have k1 := cl_rev_le (I := I) hs hp x
  have k2 := cl_rev_le (I := I) hs hp x.reverse
  rw [List.reverse_reverse] at k2
  omega
theorem cl_inv (x : List Nat) : cl true sz pr x ≤ wt pr (inv sz x) := by
  have hp0 : ∀ k, 0 ≤ pr k := fun k => by have := hp k; omega
  have k1 := cl_least hs hp0 (x := x) (t := x ++ inv sz x) (by unfold res; rw [inv_right hs]; rfl) (List.sublist_append_left _ _)
  rw [wt_app] at k1
  omega
/-- prices that are in proportion for the colors of the row -/
theorem cl_scale {pr2 : Nat → Int} (hp2 : ∀ k, 1 ≤ pr2 k) {x : List Nat} (n : Int) (h : ∀ k ∈ x, pr2 k = n * pr k) (hn : 0 ≤ n) : cl true sz pr2 x = n * cl true sz pr x := by
  have hp0 : ∀ k, 0 ≤ pr k := fun k => by have := hp k; omega
  have hp20 : ∀ k, 0 ≤ pr2 k := fun k => by have := hp2 k; omega
  have ew : ∀ t : List Nat, (∀ k ∈ t, k ∈ x) → wt pr2 t = n * wt pr t := by
    intro t
    induction t with
    | nil => intro _; rw [wt_nil, wt_nil, Int.mul_zero]
    | cons d t ih =>
      intro ht
      rw [wt_cons, wt_cons, ih fun k hk => ht k (by simp [hk]), h d (ht d (by simp)), Int.mul_add]
  obtain ⟨g1, g2, g3⟩ := (cp_ok (sz := sz) (pr := pr) x.length).1 x (Nat.le_refl _)
  obtain ⟨f1, f2, f3⟩ := (cp_ok (sz := sz) (pr := pr2) x.length).1 x (Nat.le_refl _)
  have k1 := cl_least hs hp20 ((res_gr hs).mpr g1) g2
  have k2 := cl_least hs hp0 ((res_gr hs).mpr f1) f2
  rw [ew _ ((cp_mem x.length).1 x (Nat.le_refl _)), ew x fun k hk => hk] at k1
  rw [ew _ ((cp_mem x.length).1 x (Nat.le_refl _)), ew x fun k hk => hk] at f3
  have e1 := congrArg (n * ·) g3
  simp only [Int.mul_add] at e1
  have k3 := Int.mul_le_mul_of_nonneg_left k2 hn
  rw [Int.mul_sub] at k3
  omega
end
end

-- NEEDS m_plan6 m_conn
-- G G26 G27 G28 G29 G30 G31 G32 G34 G35 G36 G47 G48 G49 G50
theorem szI_dbl {ps : List Int} {k : Nat} (h1 : 97 ≤ k) (h2 : k < 97 + ps.length) : szI (ps.map fun p => 2 * p) k = 2 * szI ps k := by
  unfold szI
  rw [List.getD_eq_getElem?_getD, List.getD_eq_getElem?_getD, List.getElem?_map, List.getElem?_eq_getElem (show k - 97 < ps.length by omega)]
  rfl
theorem foldl_max_le : ∀ {ns : List Int} {n B : Int}, ns.foldl max n ≤ B → n ≤ B ∧ ∀ x ∈ ns, x ≤ B
  | [], n, B, h => ⟨h, fun x hx => by cases hx⟩
  | m :: r, n, B, h => by
    obtain ⟨h1, h2⟩ := foldl_max_le (ns := r) (n := max n m) h
    refine ⟨by omega, fun x hx => ?_⟩
    rcases List.mem_cons.mp hx with rfl | hx
    · omega
    · exact h2 x hx
theorem dec_same {p q : Prop} [Decidable p] [Decidable q] (h : p ↔ q) : decide p = decide q := by
  rw [Bool.eq_iff_iff, decide_eq_true_iff, decide_eq_true_iff]
  exact h
abbrev s_law : Stmt := topS 43
theorem sc_law : FnScope ["_law_script", "_law_d", "_law_sizes_here", "_law_row_here", "_law_prices_here", "_law_cost", "_law_filled", "_law_price", "_law_positions", "_law_kept", "_law_rest", "_law_other", "_law_some", "_law_double", "_law_k", "_law_one"] ["_law_script"] (defScope s_law) := ⟨rfl, rfl, rfl, by decide +kernel, rfl, by decide +kernel, by decide +kernel⟩

def sp_law (K : PySem.W.Frag) : Sp := fun vs H Q _ => ∃ (a : Addr) (ns : List Int), vs = [.ref a] ∧ SqL K H a (ns.map V.int) ∧ ns.length ≤ 63 ∧ ∀ H', Q (.bl true) H'
theorem ok_law {f : Addr} {fd : FuncData} (F : Fun K "law" "law" s_law f fd) (B : Bi mg) (C__law_random : Cal P w K mg base CX0 1 "_law_random" ["_law_script", "_law_salt"] (sp__law_random K)) (C__law_sizes : Cal P w K mg base CX0 2 "_law_sizes" ["_law_d", "_law_limit"] (sp__law_sizes K)) (C__law_below : Cal P w K mg base CX0 1 "_law_below" ["_law_d", "_law_limit"] (sp__law_below K)) (C__law_row : Cal P w K mg base CX0 2 "_law_row" ["_law_d", "_law_sizes_here", "_law_limit"] (sp__law_row K)) (C__law_prices : Cal P w K mg base CX0 2 "_law_prices" ["_law_d", "_law_sizes_here"] (sp__law_prices K)) (C__law_price_of : Cal P w K mg base CX0 1 "_law_price_of" ["_law_beads", "_law_prices_here"] (sp__law_price_of K)) (C__law_residue : Cal P w K mg base CX0 3 "_law_residue" ["_law_sizes_here", "_law_row_here"] (sp__law_residue K)) (C__law_is_within : Cal P w K mg base CX0 1 "_law_is_within" ["_law_row_here", "_law_filled"] (sp__law_is_within K)) (C_cheapest_insertion : Cal P w K mg base CX0 98 "cheapest_insertion" ["sizes", "row", "prices"] (sp_cheapest_insertion K)) (C_cheapest_deletion : Cal P w K mg base CX0 98 "cheapest_deletion" ["sizes", "row", "prices"] (sp_cheapest_deletion K)) (C_inverse : Cal P w K mg base CX0 4 "inverse" ["sizes", "row"] (sp_inverse K)) (C_is_trivial : Cal P w K mg base CX0 4 "is_trivial" ["sizes", "row"] (sp_is_trivial K)) (C_residue : Cal P w K mg base CX0 4 "residue" ["sizes", "row"] (sp_residue K)) (C__law_stirred : Cal P w K mg base CX0 5 "_law_stirred" ["_law_d", "_law_sizes_here", "_law_row_here", "_law_steps"] (sp__law_stirred K)) : FnOk P w K mg base CX0 99 f fd ["_law_script"] (sp_law K) := by
  refine F.ok sc_law (fun vs H Q E h => ?_) (fun cdv A outer s H vs Q E hr h => ?_)
  · obtain ⟨a, ns, rfl, _⟩ := h
    rfl
  obtain ⟨a, ns, rfl, hS, hl, q⟩ := h
  refine ⟨_, (pss_cons (ps_set (i := 1) sc_law.nd rfl (.inl rfl) (pe_cal C__law_random (hr.mono (by decide)) pass0 (pa_cons (gv 0) (pa_cons pe_int pa_nil))))
      (pss_cons (ps_set (i := 2) sc_law.nd rfl (.inl rfl) (pe_cal C__law_sizes (hr.mono (by decide)) pass0 (pa_cons (gv 1) (pa_cons pe_int pa_nil))))
      (pss_cons (ps_set (i := 3) sc_law.nd rfl (.inr rfl) (pe_cal C__law_row (hr.mono (by decide)) pass0 (pa_cons (gv 1) (pa_cons (gv 2) (pa_cons (pe_ix (ixG (K := K)) (pe_lst (pa_cons pe_int (pa_cons pe_int pa_nil))) (pe_cal C__law_below (hr.mono (by decide)) pass0 (pa_cons (gv 1) (pa_cons pe_int pa_nil))) (fun _ _ => rfl)) pa_nil)))))
      (pss_cons (ps_set (i := 4) sc_law.nd rfl (.inl rfl) (pe_cal C__law_prices (hr.mono (by decide)) pass0 (pa_cons (gv 1) (pa_cons (gv 2) pa_nil))))
      (pss_cons (ps_asg (pe_cal C_cheapest_insertion (hr.mono (by decide)) pass0 (pa_cons (gv 2) (pa_cons (gv 3) (pa_cons (gv 4) pa_nil)))) (pg_nm (K := K) (is := [5, 6]) (pgs_cons (pg_name (i := 5) sc_law.nd rfl (.inl rfl)) (pgs_cons (pg_name (i := 6) sc_law.nd rfl (.inl rfl)) pgs_nil)) nm2))
      (pss_cons (ps_if (pw_or (pt_cmpG (op_neG (K := K) hr.units) (pe_cal C__law_residue (hr.mono (by decide)) pass0 (pa_cons (gv 2) (pa_cons (gv 6) pa_nil))) (pe_strC [] (by decide +kernel)) (nomark _)) (pw_or1 (pt_not (pt_truG (K := K) (pe_cal C__law_is_within (hr.mono (by decide)) pass0 (pa_cons (gv 3) (pa_cons (gv 6) pa_nil))))))).pt
      (pss_one (ps_ret pe_bl))
      pss_nil)
      (pss_cons (ps_if (pt_cmpG (op_neG (K := K) hr.units) (pe_op op_subG (pe_cal C__law_price_of (hr.mono (by decide)) pass0 (pa_cons (gv 6) (pa_cons (gv 4) pa_nil))) (pe_cal C__law_price_of (hr.mono (by decide)) pass0 (pa_cons (gv 3) (pa_cons (gv 4) pa_nil)))) (gv 5) (nomark _))
      (pss_one (ps_ret pe_bl))
      pss_nil)
      (pss_cons (ps_if (pw_or (pt_cmpG op_gtG (gv 5) (pe_cal C__law_price_of (hr.mono (by decide)) pass0 (pa_cons (pe_cal C_inverse (hr.mono (by decide)) pass0 (pa_cons (gv 2) (pa_cons (gv 3) pa_nil))) (pa_cons (gv 4) pa_nil))) (nomark _)) (pw_or1 (pt_cmpG (op_neG (K := K) hr.units) (pe_cmpR (op_eqG (K := K) hr.units) (gv 5) pe_int (nomark _)) (pe_cal C_is_trivial (hr.mono (by decide)) pass0 (pa_cons (gv 2) (pa_cons (gv 3) pa_nil))) (nomark _)))).pt
      (pss_one (ps_ret pe_bl))
      pss_nil)
      (pss_cons (ps_asg (pe_cal C_cheapest_deletion (hr.mono (by decide)) pass0 (pa_cons (gv 2) (pa_cons (gv 3) (pa_cons (gv 4) pa_nil)))) (pg_nm (K := K) (is := [7, 8]) (pgs_cons (pg_name (i := 7) sc_law.nd rfl (.inl rfl)) (pgs_cons (pg_name (i := 8) sc_law.nd rfl (.inr rfl)) pgs_nil)) nm2))
      (pss_cons (ps_set (i := 9) sc_law.nd rfl (.inl rfl) (pe_bmG (K := K) PySem.F.plainAttrs_str PySem.F.slot_str_join PySem.F.type_str_join (mt_joinG (K := K)) (pe_strC [] (by decide +kernel)) (pa_cons (pe_lc (own := [("_law_k", 14)]) (by rfl) sc_law.nd (pi_range1 (by rfl) B.range (pa_cons (pe_callB (cr_lenG (K := K)) (by rfl) B.len bt_len (pa_cons (gv 3) pa_nil)) pa_nil)) (blkOk_by (N := ["_law_script", "_law_d", "_law_sizes_here", "_law_row_here", "_law_prices_here", "_law_cost", "_law_filled", "_law_price", "_law_positions", "_law_kept", "_law_rest", "_law_other", "_law_some", "_law_double", "_law_k", "_law_one"]) (sc := defScope s_law) (by decide +kernel)) (fun _ _ _ _ _ => (pg_name (i := 14) sc_law.nd rfl (.inl rfl))) (fun _ _ _ _ _ => pts_one (pt_cmpG (op_notInG (K := K)) (gv 14) (gv 8) rfl)) (fun _ _ _ _ _ => (pe_ix (ixG (K := K)) (gv 3) (gv 14) (fun _ _ => rfl)))) pa_nil)))
      (pss_cons (ps_if (pt_not (pt_truG (K := K) (pe_cal C_is_trivial (hr.mono (by decide)) pass0 (pa_cons (gv 2) (pa_cons (gv 9) pa_nil)))))
      (pss_one (ps_ret pe_bl))
      pss_nil)
      (pss_cons (ps_if (pt_cmpG (op_neG (K := K) hr.units) (pe_op op_subG (pe_cal C__law_price_of (hr.mono (by decide)) pass0 (pa_cons (gv 3) (pa_cons (gv 4) pa_nil))) (pe_cal C__law_price_of (hr.mono (by decide)) pass0 (pa_cons (gv 9) (pa_cons (gv 4) pa_nil)))) (gv 7) (nomark _))
      (pss_one (ps_ret pe_bl))
      pss_nil)
      (pss_cons (ps_set (i := 10) sc_law.nd rfl (.inl rfl) (pe_cal C_residue (hr.mono (by decide)) pass0 (pa_cons (gv 2) (pa_cons (gv 3) pa_nil))))
      (pss_cons (ps_if (pw_or (pt_cmpG op_gtG (gv 7) (pe_cal C__law_price_of (hr.mono (by decide)) pass0 (pa_cons (gv 10) (pa_cons (gv 4) pa_nil))) (nomark _)) (pw_or1 (pt_cmpG (op_neG (K := K) hr.units) (pe_cmpR (op_eqG (K := K) hr.units) (gv 7) pe_int (nomark _)) (pe_cmpR (op_eqG (K := K) hr.units) (gv 10) (pe_strC [] (by decide +kernel)) (nomark _)) (nomark _)))).pt
      (pss_one (ps_ret pe_bl))
      pss_nil)
      (pss_cons (ps_set (i := 11) sc_law.nd rfl (.inl rfl) (pe_cal C__law_stirred (hr.mono (by decide)) pass0 (pa_cons (gv 1) (pa_cons (gv 2) (pa_cons (gv 3) (pa_cons pe_int pa_nil))))))
      (pss_cons (ps_for PassesOwn.never rfl (pi_seqG (K := K) (pe_lst (pa_cons (gv 10) (pa_cons (gv 11) (pa_cons (pe_revG (K := K) (gv 3)) pa_nil))))) (pg_name (i := 12) sc_law.nd rfl (.inl rfl))
      (pss_one (ps_if (pw_or (pt_cmpG (op_neG (K := K) hr.units) (pe_ix (ixG (K := K)) (pe_cal C_cheapest_insertion (hr.mono (by decide)) pass0 (pa_cons (gv 2) (pa_cons (gv 12) (pa_cons (gv 4) pa_nil)))) pe_int (fun _ _ => rfl)) (gv 5) (nomark _)) (pw_or1 (pt_cmpG (op_neG (K := K) hr.units) (pe_ix (ixG (K := K)) (pe_cal C_cheapest_deletion (hr.mono (by decide)) pass0 (pa_cons (gv 2) (pa_cons (gv 12) (pa_cons (gv 4) pa_nil)))) pe_int (fun _ _ => rfl)) (gv 7) (nomark _)))).pt
      (pss_one (ps_ret pe_bl))
      pss_nil)))
      (pss_cons (ps_set (i := 13) sc_law.nd rfl (.inl rfl) (pe_callTy (cr_tupleG (K := K)) (by rfl) B.tuple bt_tuple (pa_cons (pe_lc (own := [("_law_one", 15)]) (by rfl) sc_law.nd (pi_seqG (K := K) (gv 4)) (blkOk_by (N := ["_law_script", "_law_d", "_law_sizes_here", "_law_row_here", "_law_prices_here", "_law_cost", "_law_filled", "_law_price", "_law_positions", "_law_kept", "_law_rest", "_law_other", "_law_some", "_law_double", "_law_k", "_law_one"]) (sc := defScope s_law) (by decide +kernel)) (fun _ _ _ _ _ => (pg_name (i := 15) sc_law.nd rfl (.inl rfl))) (fun _ _ _ _ _ => pts_nil) (fun _ _ _ _ _ => (pe_op (op_mulG (K := K)) pe_int (gv 15)))) pa_nil)))
      (pss_one (ps_ret (pe_orG (pe_cmpR op_gtG (pe_callB (cr_maxT (K := K) rfl hr.units) (by rfl) B.max bt_max (pa_cons (gv 13) pa_nil)) pe_int (nomark _)) (pe_one (pe_cmpR (op_eqG (K := K) hr.units) (pe_ix (ixG (K := K)) (pe_cal C_cheapest_insertion (hr.mono (by decide)) pass0 (pa_cons (gv 2) (pa_cons (gv 3) (pa_cons (gv 13) pa_nil)))) pe_int (fun _ _ => rfl)) (pe_op (op_mulG (K := K)) pe_int (gv 5)) (nomark _))))))))))))))))))))))), ?_⟩
  refine ⟨a, 20, ns, rfl, hS, hl, by decide, by decide, fun H1 d ys s1 hd0 hd hR => ?_⟩
  clear s1 hd0 hS
  refine ⟨d, 4, ys, rfl, hd, hR, by decide, by decide, fun H3 t ys3 zs s3 hd3 hR3 ht0 ht hZ hz6 => ?_⟩
  refine ⟨by show 2 ≤ sizeLine; decide, fun p hp => ⟨d, 2, ys3, rfl, by rw [upd_ne (ne_of_none hd3 hp)]; exact hd3, hR3, by decide, by decide, fun r ys4 hr0 hr1 hR4 => ?_⟩⟩
  have hpd : p ≠ d := (ne_of_none hd3 hp).symm
  have htd : t ≠ d := ne_of ht hd3 (by intro z; cases z)
  refine ⟨_, _, .inl (SqL.of (by rw [upd_ne hpd]; exact upd_same)), at_2 hr0 hr1, ?_⟩
  have ht4 : SqT K (upd (upd H3 p (.lst [.int 10, .int 20])) d (.lst ys4)) t (zs.map V.int) := SqT.of (by rw [upd_ne htd, upd_ne (ne_of_none ht hp)]; exact ht)
  refine ⟨d, t, _, ys4, zs, rfl, upd_same, hR4, ht4, hZ, by split <;> decide, by split <;> decide, fun H5 ys5 l s5 hd5 hR5 hOk hl5 => ?_⟩
  have hl20 : l.length ≤ 20 := by split at hl5 <;> omega
  have ht5 := s5.tup upd_same ht4
  clear s5 s3 hp hl5 ht4
  refine ⟨d, t, ys5, zs, rfl, hd5, hR5, ht5, hZ, fun H6 pt ys6 ps s6 hd6 hR6 hpt0 hpt hO => ?_⟩
  have ht6 := s6.tup hd5 ht5
  have hpt6 : SqT K H6 pt (ps.map V.int) := SqT.of hpt
  clear s6 hpt0 hpt hd5 hR5 ht5 ht hd3 hR3 hd hR
  have hs : ∀ k, 1 ≤ szN zs k := fun k => szN_pos hZ k
  have S0 : PlS zs ps l := ⟨hZ, hO, hOk, by omega⟩
  have hp1 : ∀ k, 1 ≤ szI ps k := fun k => szI_ge ps (fun p hp => (hO.all p hp).1) k
  have hp0 : ∀ k, 0 ≤ szI ps k := fun k => by have := hp1 k; omega
  have h6 := hZ.six
  refine ⟨t, pt, zs, ps, l, rfl, ht6, hpt6, S0, by omega, fun H7 T s7 nT eT => ⟨_, SqT.of eT, ?_⟩⟩
  have ht7 := s7.tup ht6
  have hpt7 := s7.tup hpt6
  have hd7 := s7 _ _ hd6
  obtain ⟨g1, g2, g3⟩ := (cp_ok (sz := szN zs) (pr := szI ps) l.length).1 l (Nat.le_refl _)
  have g4 := (res_gr hs).mpr g1
  have g5 : (cp (szN zs) (szI ps) l).length ≤ 80 := by
    have := (cp_len (pr := szI ps) (szN_le4 hZ) _).1 l (Nat.le_refl _)
    omega
  have g7 : OkR zs (cp (szN zs) (szI ps) l) := fun k hk => hOk k ((cp_mem l.length).1 l (Nat.le_refl _) k hk)
  have g8 := cl_inv hs hp1 l
  have g9 := cl_zero (I := true) hs hp1 (x := l)
  have g10 := cl_zero (I := false) hs hp1 (x := l)
  have same1 := fun {y} (h : res (szN zs) y = res (szN zs) l) => cl_of_res (I := true) hs hp0 (pr := szI ps) h
  have same2 := fun {y} (h : res (szN zs) y = res (szN zs) l) => cl_of_res (I := false) hs hp0 (pr := szI ps) h
  have rev1 := cl_rev (I := true) hs hp1 l
  have rev2 := cl_rev (I := false) hs hp1 l
  have rst := cl_false_res hs hp0 l
  have dbl : OkP zs (ps.map fun p => 2 * p) → cl true (szN zs) (szI (ps.map fun p => 2 * p)) l = 2 * cl true (szN zs) (szI ps) l := fun hO2 =>
    cl_scale hs hp1 (fun k => szI_ge _ (fun p hp => (hO2.all p hp).1) k) 2 (fun k hk => szI_dbl (hOk k hk).1 (by rw [hO.len]; exact (hOk k hk).2)) (by decide)
  generalize hC : cl true (szN zs) (szI ps) l = C at *
  generalize cp (szN zs) (szI ps) l = F0 at *
  refine ⟨t, zs, F0, rfl, ht7, hZ, g7, by omega, fun H8 s8 => ?_⟩
  rw [g4]
  have ht8 := s8.tup ht7
  have hpt8 := s8.tup hpt7
  have hd8 := s8 _ _ hd7
  refine ⟨l, F0, rfl, g2, by omega, ?_⟩
  refine ⟨pt, zs, ps, F0, rfl, hpt8, hZ, hO, g7, by omega, fun H9 s9 => ⟨pt, zs, ps, l, rfl, s9.tup hpt8, hZ, hO, hOk, by omega, fun H10 s10 => ?_⟩⟩
  have s810 := s9.trans s10
  have ht10 := s810.tup ht8
  have hpt10 := s810.tup hpt8
  have hd10 := s810 _ _ hd8
  refine iteB ⟨fun z => ?_, fun _ => ?_⟩
  · have z : (!decide (wt (szI ps) F0 - wt (szI ps) l = C)) = true := z
    rw [decide_eq_true (by omega)] at z
    cases z
  clear s9 s10 s810 s8 s7 ht6 hpt6 hd6 ht7 hpt7 hd7 ht8 hpt8 hd8
  refine ⟨t, zs, l, rfl, ht10, hZ, hOk, by omega, fun H11 s11 => ⟨pt, zs, ps, inv (szN zs) l, rfl, s11.tup hpt10, hZ, hO, fun k hk => hOk k (inv_mem hk), by have := inv_len hZ hOk hl20; omega, fun H12 s12 => ?_⟩⟩
  refine iteB ⟨fun z => ?_, fun _ => ?_⟩
  · have z : wt (szI ps) (inv (szN zs) l) < C := of_decide_eq_true z
    omega
  have s1012 := s11.trans s12
  have ht12 := s1012.tup ht10
  have hpt12 := s1012.tup hpt10
  have hd12 := s1012 _ _ hd10
  clear s1012 s11 s12 ht10 hpt10 hd10
  refine ⟨t, zs, l, rfl, ht12, hZ, hOk, by omega, fun H13 s13 => ?_⟩
  have ht13 := s13.tup ht12
  have hpt13 := s13.tup hpt12
  have hd13 := s13 _ _ hd12
  refine iteB ⟨fun z => ?_, fun _ => ?_⟩
  · have z : (!decide (decide (C = 0) = decide (res (szN zs) l = []))) = true := z
    rw [decide_eq_true (dec_same g9)] at z
    cases z
  refine ⟨t, pt, zs, ps, l, rfl, ht13, hpt13, S0, by omega, fun H14 T2 u s14 nT2 nu eu eT2 => ⟨_, SqT.of eT2, ?_⟩⟩
  have ht14 := s14.tup ht13
  have hpt14 := s14.tup hpt13
  have hd14 := s14 _ _ hd13
  obtain ⟨k1, k2, k3⟩ := (dl_ok (sz := szN zs) (pr := szI ps) l.length).1 l 0 (Nat.le_refl _)
  have k5 := (res_gr hs).mpr k2
  have k6 := kp_sub (dl (szN zs) (szI ps) 0 l) l 0
  generalize hD : cl false (szN zs) (szI ps) l = D at *
  generalize dl (szN zs) (szI ps) 0 l = R at *
  clear s13 ht12 hpt12 hd12 ht13 hpt13 hd13 nT nT2 nu
  have k8 : (kp 0 R l).length ≤ 20 := by have := k6.length_le; omega
  have kR : OkR zs (kp 0 R l) := fun k hk => hOk k (k6.subset hk)
  refine ⟨rfl, by rw [tl_S]; omega, _, rfl, by rw [tl_S]; omega, by rw [tl_S]; omega, fun N3 hN3 => ?_⟩
  rw [tl_S]
  refine lc_range (fun i H' => Same H14 H' ∧ H' N3 = some (.lst (chV1 (kp 0 R (l.take i))))) ⟨same_upd hN3, upd_same⟩ ?_ ?_
  · rintro i H' hi ⟨s17, e17⟩
    have hk := List.getElem?_eq_getElem hi
    rw [Int.zero_add]
    refine ⟨rfl, _, .inr (s17.tup (SqT.of eu)), rfl, flat_iv R, ?_⟩
    rw [inV_iv, kp_snoc R l hk]
    refine iteB ⟨fun z => ?_, fun z => ?_⟩
    · have z : ¬ i ∈ R := by simpa using z
      refine ⟨l[i], by rw [tl_S]; omega, atI_nat hk, _, e17, ?_, s17.at hN3, ?_⟩
      · rw [List.length_map, List.length_map]
        have := (kp_sub R (l.take i) 0).length_le
        rw [List.length_take] at this
        exact small1000 (by omega)
      · rw [upd_same, if_neg z]
        show _ = some (HO.lst (((kp 0 R (l.take i) ++ [l[i]]).map fun c => [c]).map fun l => V.str (S l)))
        rw [List.map_append, List.map_append]
        rfl
    · have z : i ∈ R := by simpa using z
      rw [if_pos z, List.append_nil]
      exact ⟨s17, e17⟩
  rintro H17 ⟨s17, e17⟩
  rw [Int.toNat_natCast, List.take_length] at e17
  have j0 : ((kp 0 R l).map fun c => [c]).map List.length |>.sum |> fun n => n + ((kp 0 R l).map fun c => [c]).length * (tl (S [])).length ≤ 1000000 := by
    show ((((kp 0 R l).map fun c => [c]).map List.length).sum + _ * 0 ≤ 1000000)
    rw [sum_ch]
    omega
  have j1 : TL.joinL (tl (S [])) ((kp 0 R l).map fun c => [c]) = kp 0 R l := by
    show TL.joinL [] _ = _
    rw [joinL_nil, flat_ch]
  refine ⟨_, SqL.of e17, j0, ?_⟩
  rw [j1]
  have ht17 := s17.tup ht14
  have hpt17 := s17.tup hpt14
  have hd17 := s17 _ _ hd14
  generalize kp 0 R l = Kp at *
  clear s17 e17 hN3 j0 j1 ht14 hpt14 hd14 s14
  refine ⟨t, zs, Kp, rfl, ht17, hZ, kR, by omega, fun H18 s18 => ?_⟩
  rw [decide_eq_true k5]
  refine ⟨pt, zs, ps, l, rfl, s18.tup hpt17, hZ, hO, hOk, by omega, fun H19 s19 => ⟨pt, zs, ps, Kp, rfl, s19.tup (s18.tup hpt17), hZ, hO, kR, by omega, fun H20 s20 => ?_⟩⟩
  refine iteB ⟨fun z => ?_, fun _ => ?_⟩
  · have z : (!decide (wt (szI ps) l - wt (szI ps) Kp = D)) = true := z
    rw [decide_eq_true k3] at z
    cases z
  have s1720 := (s18.trans s19).trans s20
  have ht20 := s1720.tup ht17
  have hpt20 := s1720.tup hpt17
  have hd20 := s1720 _ _ hd17
  clear s18 s19 s20 s1720 ht17 hpt17 hd17
  have rR : OkR zs (res (szN zs) l) := OkR.res hOk
  have rl : (res (szN zs) l).length ≤ 20 := by have : (res (szN zs) l).length ≤ l.length := stk_len l; omega
  have rr := res_res hs l
  refine ⟨t, zs, l, rfl, ht20, hZ, hOk, by omega, fun H21 s21 => ⟨pt, zs, ps, res (szN zs) l, rfl, s21.tup hpt20, hZ, hO, rR, by omega, fun H22 s22 => ?_⟩⟩
  refine iteB ⟨fun z => ?_, fun _ => ?_⟩
  · have z : wt (szI ps) (res (szN zs) l) < D := of_decide_eq_true z
    omega
  refine iteB ⟨fun z => ?_, fun _ => ?_⟩
  · have z : (!decide (decide (D = 0) = decide (res (szN zs) l = []))) = true := z
    rw [decide_eq_true (dec_same g10)] at z
    cases z
  have s2022 := s21.trans s22
  have ht22 := s2022.tup ht20
  have hpt22 := s2022.tup hpt20
  have hd22 := s2022 _ _ hd20
  clear s21 s22 s2022 ht20 hpt20 hd20
  refine ⟨d, t, ys6, zs, l, 6, rfl, hd22, hR6, ht22, hZ, hOk, by omega, by decide, fun H23 ys23 x ms s23 hd23 hR23 hW hms hxR hxl => ?_⟩
  have ht23 := s23.tup hd22 ht22
  have hpt23 := s23.tup hd22 hpt22
  obtain ⟨_, w2⟩ := Way.keeps hs hW
  clear s23 hd22 ht22 hpt22 hms hW ms
  have hrevR : OkR zs l.reverse := fun k hk => hOk k (List.mem_reverse.mp hk)
  -- the same prices for the residue, after moves, from the other end
  refine ⟨by rw [tl_S]; omega, by show 3 ≤ sizeLine; decide, fun N4 hN4 => .inl ⟨_, SqL.of upd_same, ?_⟩⟩
  have hY : ∀ y ∈ [res (szN zs) l, x, l.reverse], OkR zs y ∧ y.length ≤ 20 ∧ cl true (szN zs) (szI ps) y = C ∧ cl false (szN zs) (szI ps) y = D := by
    intro y hy
    simp only [List.mem_cons, List.not_mem_nil, or_false] at hy
    rcases hy with rfl | rfl | rfl
    · exact ⟨rR, rl, same1 rr, same2 rr⟩
    · exact ⟨hxR, by omega, same1 w2, same2 w2⟩
    · exact ⟨hrevR, by rw [List.length_reverse]; omega, rev1, rev2⟩
  have s24 := same_upd (o := .lst ([res (szN zs) l, x, l.reverse].map fun l => V.str (S l))) hN4
  have ht24 := s24.tup ht23
  have hpt24 := s24.tup hpt23
  have e24 : upd H23 N4 (.lst ([res (szN zs) l, x, l.reverse].map fun l => V.str (S l))) N4 = some (.lst ([res (szN zs) l, x, l.reverse].map fun l => V.str (S l))) := upd_same
  rw [show upd H23 N4 (.lst [V.str (S (res (szN zs) l)), V.str (S x), V.str (S (tl (S l)).reverse)]) = upd H23 N4 (.lst ([res (szN zs) l, x, l.reverse].map fun l => V.str (S l))) from rfl]
  generalize upd H23 N4 (.lst ([res (szN zs) l, x, l.reverse].map fun l => V.str (S l))) = H24 at *
  generalize [res (szN zs) l, x, l.reverse] = Ys at *
  clear s24 hN4 rev1 rev2 same1 same2 ht23 hpt23 hd23 rR rl rr hxR hxl hrevR w2
  refine for_it (walk_list (xs := Ys.map fun l => V.str (S l))) (fun i σ H' => ∃ y12, σ = [some (.ref a), some (.ref d), some (.ref t), some (.str (S l)), some (.ref pt), some (.int C), some (.str (S F0)), some (.int D), some (.ref u), some (.str (S Kp)), some (.str (S (res (szN zs) l))), some (.str (S x)), y12, none, none, none] ∧ Same H24 H') ⟨_, rfl, Same.refl _⟩ ?_ ?_ ?_
  · rintro i σ H25 hi ⟨y12, rfl, s25⟩
    exact SqL.of (s25 _ _ e24)
  · rintro i v σ H25' H25 hi ⟨y12, rfl, s25⟩ ⟨rfl, hv⟩
    rw [List.getElem?_map] at hv
    obtain ⟨y, hy, rfl⟩ := Option.map_eq_some_iff.mp hv
    obtain ⟨y1, y2, y3, y4⟩ := hY y (List.mem_of_getElem? hy)
    have S1 : PlS zs ps y := ⟨hZ, hO, y1, by omega⟩
    refine ⟨t, pt, zs, ps, y, rfl, s25.tup ht24, s25.tup hpt24, S1, by omega, fun H26 T6 s26 nT6 eT6 => ⟨_, _, .inr (SqT.of eT6), atI_nat (j := 0) rfl, ?_⟩⟩
    have s2426 := s25.trans s26
    refine iteB ⟨fun z => ?_, fun _ => ?_⟩
    · have z : (!decide (cl true (szN zs) (szI ps) y = C)) = true := z
      rw [decide_eq_true y3] at z
      cases z
    refine ⟨t, pt, zs, ps, y, rfl, s2426.tup ht24, s2426.tup hpt24, S1, by omega, fun H27 T7 u7 s27 nT7 nu7 eu7 eT7 => ⟨_, _, .inr (SqT.of eT7), atI_nat (j := 0) rfl, ?_⟩⟩
    refine iteB ⟨fun z => ?_, fun _ => ?_⟩
    · have z : (!decide (cl false (szN zs) (szI ps) y = D)) = true := z
      rw [decide_eq_true y4] at z
      cases z
    exact ⟨_, rfl, s2426.trans s27⟩
  rintro σ H25 ⟨y12, rfl, s25⟩
  have ht25 := s25.tup ht24
  have hpt25 := s25.tup hpt24
  refine .inr ⟨_, hpt25, fun N5 hN5 => ?_⟩
  refine lc_it (walk_tup (xs := ps.map V.int)) (fun j H' => Same H25 H' ∧ H' N5 = some (.lst (((ps.take j).map fun p => 2 * p).map V.int))) ⟨same_upd hN5, upd_same⟩ ?_ ?_ ?_
  · rintro j H' _ ⟨s26, _⟩
    exact s26.tup hpt25
  · rintro j v H26' H26 hj ⟨s26, e26⟩ ⟨rfl, hv⟩
    rw [List.getElem?_map] at hv
    obtain ⟨p, hp, rfl⟩ := Option.map_eq_some_iff.mp hv
    have hpl := hO.len
    refine ⟨rfl, .inl ⟨by decide, by decide⟩, _, e26, by rw [List.length_map, List.length_map]; have := List.length_take_le j ps; rw [List.length_map] at hj; exact small1000 (by omega), s26.at hN5, ?_⟩
    rw [upd_same, take_snoc hp, List.map_append, List.map_append]
    rfl
  rintro H26 ⟨s26, e26⟩
  rw [List.length_map, List.take_length] at e26
  refine ⟨_, SqL.of e26, fun db hdb => ?_⟩
  have s27 := s26.trans (same_upd (o := .tup ((ps.map fun p => 2 * p).map V.int)) hdb)
  have edb : SqT K (upd H26 db (.tup ((ps.map fun p => 2 * p).map V.int))) db ((ps.map fun p => 2 * p).map V.int) := SqT.of upd_same
  have ht27 := s27.tup ht25
  generalize upd H26 db (.tup ((ps.map fun p => 2 * p).map V.int)) = H27 at *
  obtain ⟨p0, pr0, ep0⟩ : ∃ p0 pr0, ps = p0 :: pr0 := by
    cases ps with
    | nil => have h1 := hZ.pos; have h2 := hO.len; simp at h2; omega
    | cons p0 r => exact ⟨p0, r, rfl⟩
  refine ⟨2 * p0, pr0.map fun p => 2 * p, by rw [ep0] at edb; exact edb, ?_⟩
  refine iteB ⟨fun _ => q _, fun z => ?_⟩
  have z : (pr0.map fun p => 2 * p).foldl max (2 * p0) ≤ 99 := by
    have : ¬ (99 : Int) < (pr0.map fun p => 2 * p).foldl max (2 * p0) := fun y => z (decide_eq_true y)
    omega
  obtain ⟨z1, z2⟩ := foldl_max_le z
  have hO2 : OkP zs (ps.map fun p => 2 * p) := ⟨by rw [List.length_map]; exact hO.len, fun p hp => by
    obtain ⟨p', hp', rfl⟩ := List.mem_map.mp hp
    have h1 := (hO.all p' hp').1
    refine ⟨by omega, ?_⟩
    rw [ep0] at hp'
    rcases List.mem_cons.mp hp' with rfl | hp'
    · exact z1
    · exact z2 _ (List.mem_map.mpr ⟨p', hp', rfl⟩)⟩
  refine ⟨t, db, zs, ps.map fun p => 2 * p, l, rfl, ht27, edb, ⟨hZ, hO2, hOk, by omega⟩, by omega, fun H28 T8 s28 nT8 eT8 => ⟨_, _, .inr (SqT.of eT8), atI_nat (j := 0) rfl, .inl ⟨by decide, by decide⟩, ?_⟩⟩
  show Q (.bl (id (decide (cl true (szN zs) (szI (ps.map fun p => 2 * p)) l = 2 * C)))) H28
  rw [decide_eq_true (dbl hO2)]
  exact q _

end
theorem all_mk {l : PySem.W.OpenLaw} {w : World} {K : PySem.W.Frag} {h : Heap} {mg : Str → Option Value} {fa : Addr} (X : K.In h) (G : h.Ns mainGlobals mg) (hfa : mg "law" = some (.ref fa))
    {CC : Addr} (q0_Planner : PySem.W.nsIn K mainGlobals "Planner" = some (some (.ref CC))) (q1_Planner : PySem.W.plainGet K CC Str.empty = true) (q2_Planner : PySem.W.hasDictIn K CC = true) (q3_Planner : PySem.W.plainOver K CC = true) (q4_Planner : PySem.W.findIn K (.ref CC) "__setattr__" = some (some (.builtin "object.__setattr__"))) (q5_Planner : PySem.W.makesIn K CC = true) (q6_Planner : PySem.W.keepIn K (.ref CC) = true)
    (na0_Planner : PySem.W.findIn K (.ref CC) "sizes" = some none)
    (na1_Planner : PySem.W.findIn K (.ref CC) "row" = some none)
    (na2_Planner : PySem.W.findIn K (.ref CC) "price_of" = some none)
    (na3_Planner : PySem.W.findIn K (.ref CC) "inserts" = some none)
    (na4_Planner : PySem.W.findIn K (.ref CC) "cache" = some none)
    {f0 : Addr} {od0 an0 : Option Addr} {sl0 : Array (Option Value)} {oc0 kV0 dc0 pm0 cd0 ct0 : Value}
    (a0 : PySem.W.nsIn K mainGlobals "_law_random" = some (some (.ref f0))) (l0 : K.lookup f0 = some ⟨oc0, od0, .func (PySem.W.fnOf "_law_random" "_law_random" (defArgs s__law_random) (defBody s__law_random) (defScope s__law_random) .none kV0 dc0 pm0 an0 cd0 ct0), sl0⟩) (c0 : PySem.W.codeIn K cd0 "_law_random" = true) (k0 : PySem.W.keepIn K (.ref f0) = true)
    {f1 : Addr} {od1 an1 : Option Addr} {sl1 : Array (Option Value)} {oc1 kV1 dc1 pm1 cd1 ct1 : Value}
    (a1 : PySem.W.nsIn K mainGlobals "_law_below" = some (some (.ref f1))) (l1 : K.lookup f1 = some ⟨oc1, od1, .func (PySem.W.fnOf "_law_below" "_law_below" (defArgs s__law_below) (defBody s__law_below) (defScope s__law_below) .none kV1 dc1 pm1 an1 cd1 ct1), sl1⟩) (c1 : PySem.W.codeIn K cd1 "_law_below" = true) (k1 : PySem.W.keepIn K (.ref f1) = true)
    {f2 : Addr} {od2 an2 : Option Addr} {sl2 : Array (Option Value)} {oc2 kV2 dc2 pm2 cd2 ct2 : Value}
    (a2 : PySem.W.nsIn K mainGlobals "_law_sizes" = some (some (.ref f2))) (l2 : K.lookup f2 = some ⟨oc2, od2, .func (PySem.W.fnOf "_law_sizes" "_law_sizes" (defArgs s__law_sizes) (defBody s__law_sizes) (defScope s__law_sizes) .none kV2 dc2 pm2 an2 cd2 ct2), sl2⟩) (c2 : PySem.W.codeIn K cd2 "_law_sizes" = true) (k2 : PySem.W.keepIn K (.ref f2) = true)
    {f3 : Addr} {od3 an3 : Option Addr} {sl3 : Array (Option Value)} {oc3 kV3 dc3 pm3 cd3 ct3 : Value}
    (a3 : PySem.W.nsIn K mainGlobals "_law_row" = some (some (.ref f3))) (l3 : K.lookup f3 = some ⟨oc3, od3, .func (PySem.W.fnOf "_law_row" "_law_row" (defArgs s__law_row) (defBody s__law_row) (defScope s__law_row) .none kV3 dc3 pm3 an3 cd3 ct3), sl3⟩) (c3 : PySem.W.codeIn K cd3 "_law_row" = true) (k3 : PySem.W.keepIn K (.ref f3) = true)
    {f4 : Addr} {od4 an4 : Option Addr} {sl4 : Array (Option Value)} {oc4 kV4 dc4 pm4 cd4 ct4 : Value}
    (a4 : PySem.W.nsIn K mainGlobals "_law_prices" = some (some (.ref f4))) (l4 : K.lookup f4 = some ⟨oc4, od4, .func (PySem.W.fnOf "_law_prices" "_law_prices" (defArgs s__law_prices) (defBody s__law_prices) (defScope s__law_prices) .none kV4 dc4 pm4 an4 cd4 ct4), sl4⟩) (c4 : PySem.W.codeIn K cd4 "_law_prices" = true) (k4 : PySem.W.keepIn K (.ref f4) = true)
    {f5 : Addr} {od5 an5 : Option Addr} {sl5 : Array (Option Value)} {oc5 kV5 dc5 pm5 cd5 ct5 : Value}
    (a5 : PySem.W.nsIn K mainGlobals "_law_price_of" = some (some (.ref f5))) (l5 : K.lookup f5 = some ⟨oc5, od5, .func (PySem.W.fnOf "_law_price_of" "_law_price_of" (defArgs s__law_price_of) (defBody s__law_price_of) (defScope s__law_price_of) .none kV5 dc5 pm5 an5 cd5 ct5), sl5⟩) (c5 : PySem.W.codeIn K cd5 "_law_price_of" = true) (k5 : PySem.W.keepIn K (.ref f5) = true)
    {f6 : Addr} {od6 an6 : Option Addr} {sl6 : Array (Option Value)} {oc6 kV6 dc6 pm6 cd6 ct6 : Value}
    (a6 : PySem.W.nsIn K mainGlobals "_law_size" = some (some (.ref f6))) (l6 : K.lookup f6 = some ⟨oc6, od6, .func (PySem.W.fnOf "_law_size" "_law_size" (defArgs s__law_size) (defBody s__law_size) (defScope s__law_size) .none kV6 dc6 pm6 an6 cd6 ct6), sl6⟩) (c6 : PySem.W.codeIn K cd6 "_law_size" = true) (k6 : PySem.W.keepIn K (.ref f6) = true)
    {f7 : Addr} {od7 an7 : Option Addr} {sl7 : Array (Option Value)} {oc7 kV7 dc7 pm7 cd7 ct7 : Value}
    (a7 : PySem.W.nsIn K mainGlobals "_law_pack" = some (some (.ref f7))) (l7 : K.lookup f7 = some ⟨oc7, od7, .func (PySem.W.fnOf "_law_pack" "_law_pack" (defArgs s__law_pack) (defBody s__law_pack) (defScope s__law_pack) .none kV7 dc7 pm7 an7 cd7 ct7), sl7⟩) (c7 : PySem.W.codeIn K cd7 "_law_pack" = true) (k7 : PySem.W.keepIn K (.ref f7) = true)
    {f8 : Addr} {od8 an8 : Option Addr} {sl8 : Array (Option Value)} {oc8 kV8 dc8 pm8 cd8 ct8 : Value}
    (a8 : PySem.W.nsIn K mainGlobals "_law_residue" = some (some (.ref f8))) (l8 : K.lookup f8 = some ⟨oc8, od8, .func (PySem.W.fnOf "_law_residue" "_law_residue" (defArgs s__law_residue) (defBody s__law_residue) (defScope s__law_residue) .none kV8 dc8 pm8 an8 cd8 ct8), sl8⟩) (c8 : PySem.W.codeIn K cd8 "_law_residue" = true) (k8 : PySem.W.keepIn K (.ref f8) = true)
    {f9 : Addr} {od9 an9 : Option Addr} {sl9 : Array (Option Value)} {oc9 kV9 dc9 pm9 cd9 ct9 : Value}
    (a9 : PySem.W.nsIn K mainGlobals "_law_is_within" = some (some (.ref f9))) (l9 : K.lookup f9 = some ⟨oc9, od9, .func (PySem.W.fnOf "_law_is_within" "_law_is_within" (defArgs s__law_is_within) (defBody s__law_is_within) (defScope s__law_is_within) .none kV9 dc9 pm9 an9 cd9 ct9), sl9⟩) (c9 : PySem.W.codeIn K cd9 "_law_is_within" = true) (k9 : PySem.W.keepIn K (.ref f9) = true)
    {f10 : Addr} {od10 an10 : Option Addr} {sl10 : Array (Option Value)} {oc10 kV10 dc10 pm10 cd10 ct10 : Value}
    (a10 : PySem.W.nsIn K mainGlobals "is_int_in" = some (some (.ref f10))) (l10 : K.lookup f10 = some ⟨oc10, od10, .func (PySem.W.fnOf "is_int_in" "is_int_in" (defArgs s_is_int_in) (defBody s_is_int_in) (defScope s_is_int_in) .none kV10 dc10 pm10 an10 cd10 ct10), sl10⟩) (c10 : PySem.W.codeIn K cd10 "is_int_in" = true) (k10 : PySem.W.keepIn K (.ref f10) = true)
    {f11 : Addr} {od11 an11 : Option Addr} {sl11 : Array (Option Value)} {oc11 kV11 dc11 pm11 cd11 ct11 : Value}
    (a11 : PySem.W.nsIn K mainGlobals "check_sizes" = some (some (.ref f11))) (l11 : K.lookup f11 = some ⟨oc11, od11, .func (PySem.W.fnOf "check_sizes" "check_sizes" (defArgs s_check_sizes) (defBody s_check_sizes) (defScope s_check_sizes) .none kV11 dc11 pm11 an11 cd11 ct11), sl11⟩) (c11 : PySem.W.codeIn K cd11 "check_sizes" = true) (k11 : PySem.W.keepIn K (.ref f11) = true)
    {f12 : Addr} {od12 an12 : Option Addr} {sl12 : Array (Option Value)} {oc12 kV12 dc12 pm12 cd12 ct12 : Value}
    (a12 : PySem.W.nsIn K mainGlobals "colors_of" = some (some (.ref f12))) (l12 : K.lookup f12 = some ⟨oc12, od12, .func (PySem.W.fnOf "colors_of" "colors_of" (defArgs s_colors_of) (defBody s_colors_of) (defScope s_colors_of) .none kV12 dc12 pm12 an12 cd12 ct12), sl12⟩) (c12 : PySem.W.codeIn K cd12 "colors_of" = true) (k12 : PySem.W.keepIn K (.ref f12) = true)
    {f13 : Addr} {od13 an13 : Option Addr} {sl13 : Array (Option Value)} {oc13 kV13 dc13 pm13 cd13 ct13 : Value}
    (a13 : PySem.W.nsIn K mainGlobals "check_row" = some (some (.ref f13))) (l13 : K.lookup f13 = some ⟨oc13, od13, .func (PySem.W.fnOf "check_row" "check_row" (defArgs s_check_row) (defBody s_check_row) (defScope s_check_row) .none kV13 dc13 pm13 an13 cd13 ct13), sl13⟩) (c13 : PySem.W.codeIn K cd13 "check_row" = true) (k13 : PySem.W.keepIn K (.ref f13) = true)
    {f14 : Addr} {od14 an14 : Option Addr} {sl14 : Array (Option Value)} {oc14 kV14 dc14 pm14 cd14 ct14 : Value}
    (a14 : PySem.W.nsIn K mainGlobals "check_prices" = some (some (.ref f14))) (l14 : K.lookup f14 = some ⟨oc14, od14, .func (PySem.W.fnOf "check_prices" "check_prices" (defArgs s_check_prices) (defBody s_check_prices) (defScope s_check_prices) .none kV14 dc14 pm14 an14 cd14 ct14), sl14⟩) (c14 : PySem.W.codeIn K cd14 "check_prices" = true) (k14 : PySem.W.keepIn K (.ref f14) = true)
    {f15 : Addr} {od15 an15 : Option Addr} {sl15 : Array (Option Value)} {oc15 kV15 dc15 pm15 cd15 ct15 : Value}
    (a15 : PySem.W.nsIn K mainGlobals "check_input" = some (some (.ref f15))) (l15 : K.lookup f15 = some ⟨oc15, od15, .func (PySem.W.fnOf "check_input" "check_input" (defArgs s_check_input) (defBody s_check_input) (defScope s_check_input) .none kV15 dc15 pm15 an15 cd15 ct15), sl15⟩) (c15 : PySem.W.codeIn K cd15 "check_input" = true) (k15 : PySem.W.keepIn K (.ref f15) = true)
    {f16 : Addr} {od16 an16 : Option Addr} {sl16 : Array (Option Value)} {oc16 kV16 dc16 pm16 ct16 : Value} {cd16 : Value}
    (a16 : PySem.W.findIn K (.ref CC) "__init__" = some (some (.ref f16))) (i16 : PySem.W.isFn K (.ref f16) = true) (l16 : K.lookup f16 = some ⟨oc16, od16, .func (PySem.W.fnOf "__init__" "Planner.__init__" (defArgs s_Planner____init__) (defBody s_Planner____init__) (defScope s_Planner____init__) .none kV16 dc16 pm16 an16 cd16 ct16), sl16⟩) (c16 : PySem.W.codeIn K cd16 "Planner.__init__" = true) (k16 : PySem.W.keepIn K (.ref f16) = true)
    {f17 : Addr} {od17 an17 : Option Addr} {sl17 : Array (Option Value)} {oc17 kV17 dc17 pm17 cd17 ct17 : Value}
    (a17 : PySem.W.nsIn K mainGlobals "size_of" = some (some (.ref f17))) (l17 : K.lookup f17 = some ⟨oc17, od17, .func (PySem.W.fnOf "size_of" "size_of" (defArgs s_size_of) (defBody s_size_of) (defScope s_size_of) .none kV17 dc17 pm17 an17 cd17 ct17), sl17⟩) (c17 : PySem.W.codeIn K cd17 "size_of" = true) (k17 : PySem.W.keepIn K (.ref f17) = true)
    {f18 : Addr} {od18 an18 : Option Addr} {sl18 : Array (Option Value)} {oc18 kV18 dc18 pm18 ct18 : Value} {cd18 : Value}
    (a18 : PySem.W.findIn K (.ref CC) "clear" = some (some (.ref f18))) (i18 : PySem.W.isFn K (.ref f18) = true) (l18 : K.lookup f18 = some ⟨oc18, od18, .func (PySem.W.fnOf "clear" "Planner.clear" (defArgs s_Planner__clear) (defBody s_Planner__clear) (defScope s_Planner__clear) .none kV18 dc18 pm18 an18 cd18 ct18), sl18⟩) (c18 : PySem.W.codeIn K cd18 "Planner.clear" = true) (k18 : PySem.W.keepIn K (.ref f18) = true)
    {f19 : Addr} {od19 an19 : Option Addr} {sl19 : Array (Option Value)} {oc19 kV19 dc19 pm19 ct19 : Value} {cd19 : Value}
    (a19 : PySem.W.findIn K (.ref CC) "fill" = some (some (.ref f19))) (i19 : PySem.W.isFn K (.ref f19) = true) (l19 : K.lookup f19 = some ⟨oc19, od19, .func (PySem.W.fnOf "fill" "Planner.fill" (defArgs s_Planner__fill) (defBody s_Planner__fill) (defScope s_Planner__fill) .none kV19 dc19 pm19 an19 cd19 ct19), sl19⟩) (c19 : PySem.W.codeIn K cd19 "Planner.fill" = true) (k19 : PySem.W.keepIn K (.ref f19) = true)
    {f20 : Addr} {od20 an20 : Option Addr} {sl20 : Array (Option Value)} {oc20 kV20 dc20 pm20 ct20 : Value} {cd20 : Value}
    (a20 : PySem.W.findIn K (.ref CC) "completed" = some (some (.ref f20))) (i20 : PySem.W.isFn K (.ref f20) = true) (l20 : K.lookup f20 = some ⟨oc20, od20, .func (PySem.W.fnOf "completed" "Planner.completed" (defArgs s_Planner__completed) (defBody s_Planner__completed) (defScope s_Planner__completed) .none kV20 dc20 pm20 an20 cd20 ct20), sl20⟩) (c20 : PySem.W.codeIn K cd20 "Planner.completed" = true) (k20 : PySem.W.keepIn K (.ref f20) = true)
    {f21 : Addr} {od21 an21 : Option Addr} {sl21 : Array (Option Value)} {oc21 kV21 dc21 pm21 cd21 ct21 : Value}
    (a21 : PySem.W.nsIn K mainGlobals "cheapest_insertion" = some (some (.ref f21))) (l21 : K.lookup f21 = some ⟨oc21, od21, .func (PySem.W.fnOf "cheapest_insertion" "cheapest_insertion" (defArgs s_cheapest_insertion) (defBody s_cheapest_insertion) (defScope s_cheapest_insertion) .none kV21 dc21 pm21 an21 cd21 ct21), sl21⟩) (c21 : PySem.W.codeIn K cd21 "cheapest_insertion" = true) (k21 : PySem.W.keepIn K (.ref f21) = true)
    {f22 : Addr} {od22 an22 : Option Addr} {sl22 : Array (Option Value)} {oc22 kV22 dc22 pm22 ct22 : Value} {cd22 : Value}
    (a22 : PySem.W.findIn K (.ref CC) "deleted" = some (some (.ref f22))) (i22 : PySem.W.isFn K (.ref f22) = true) (l22 : K.lookup f22 = some ⟨oc22, od22, .func (PySem.W.fnOf "deleted" "Planner.deleted" (defArgs s_Planner__deleted) (defBody s_Planner__deleted) (defScope s_Planner__deleted) .none kV22 dc22 pm22 an22 cd22 ct22), sl22⟩) (c22 : PySem.W.codeIn K cd22 "Planner.deleted" = true) (k22 : PySem.W.keepIn K (.ref f22) = true)
    {f23 : Addr} {od23 an23 : Option Addr} {sl23 : Array (Option Value)} {oc23 kV23 dc23 pm23 cd23 ct23 : Value}
    (a23 : PySem.W.nsIn K mainGlobals "cheapest_deletion" = some (some (.ref f23))) (l23 : K.lookup f23 = some ⟨oc23, od23, .func (PySem.W.fnOf "cheapest_deletion" "cheapest_deletion" (defArgs s_cheapest_deletion) (defBody s_cheapest_deletion) (defScope s_cheapest_deletion) .none kV23 dc23 pm23 an23 cd23 ct23), sl23⟩) (c23 : PySem.W.codeIn K cd23 "cheapest_deletion" = true) (k23 : PySem.W.keepIn K (.ref f23) = true)
    {f24 : Addr} {od24 an24 : Option Addr} {sl24 : Array (Option Value)} {oc24 kV24 dc24 pm24 cd24 ct24 : Value}
    (a24 : PySem.W.nsIn K mainGlobals "split_runs" = some (some (.ref f24))) (l24 : K.lookup f24 = some ⟨oc24, od24, .func (PySem.W.fnOf "split_runs" "split_runs" (defArgs s_split_runs) (defBody s_split_runs) (defScope s_split_runs) .none kV24 dc24 pm24 an24 cd24 ct24), sl24⟩) (c24 : PySem.W.codeIn K cd24 "split_runs" = true) (k24 : PySem.W.keepIn K (.ref f24) = true)
    {f25 : Addr} {od25 an25 : Option Addr} {sl25 : Array (Option Value)} {oc25 kV25 dc25 pm25 cd25 ct25 : Value}
    (a25 : PySem.W.nsIn K mainGlobals "invert_row" = some (some (.ref f25))) (l25 : K.lookup f25 = some ⟨oc25, od25, .func (PySem.W.fnOf "invert_row" "invert_row" (defArgs s_invert_row) (defBody s_invert_row) (defScope s_invert_row) .none kV25 dc25 pm25 an25 cd25 ct25), sl25⟩) (c25 : PySem.W.codeIn K cd25 "invert_row" = true) (k25 : PySem.W.keepIn K (.ref f25) = true)
    {f26 : Addr} {od26 an26 : Option Addr} {sl26 : Array (Option Value)} {oc26 kV26 dc26 pm26 cd26 ct26 : Value}
    (a26 : PySem.W.nsIn K mainGlobals "inverse" = some (some (.ref f26))) (l26 : K.lookup f26 = some ⟨oc26, od26, .func (PySem.W.fnOf "inverse" "inverse" (defArgs s_inverse) (defBody s_inverse) (defScope s_inverse) .none kV26 dc26 pm26 an26 cd26 ct26), sl26⟩) (c26 : PySem.W.codeIn K cd26 "inverse" = true) (k26 : PySem.W.keepIn K (.ref f26) = true)
    {f27 : Addr} {od27 an27 : Option Addr} {sl27 : Array (Option Value)} {oc27 kV27 dc27 pm27 cd27 ct27 : Value}
    (a27 : PySem.W.nsIn K mainGlobals "reduce_row" = some (some (.ref f27))) (l27 : K.lookup f27 = some ⟨oc27, od27, .func (PySem.W.fnOf "reduce_row" "reduce_row" (defArgs s_reduce_row) (defBody s_reduce_row) (defScope s_reduce_row) .none kV27 dc27 pm27 an27 cd27 ct27), sl27⟩) (c27 : PySem.W.codeIn K cd27 "reduce_row" = true) (k27 : PySem.W.keepIn K (.ref f27) = true)
    {f28 : Addr} {od28 an28 : Option Addr} {sl28 : Array (Option Value)} {oc28 kV28 dc28 pm28 cd28 ct28 : Value}
    (a28 : PySem.W.nsIn K mainGlobals "is_trivial" = some (some (.ref f28))) (l28 : K.lookup f28 = some ⟨oc28, od28, .func (PySem.W.fnOf "is_trivial" "is_trivial" (defArgs s_is_trivial) (defBody s_is_trivial) (defScope s_is_trivial) .none kV28 dc28 pm28 an28 cd28 ct28), sl28⟩) (c28 : PySem.W.codeIn K cd28 "is_trivial" = true) (k28 : PySem.W.keepIn K (.ref f28) = true)
    {f29 : Addr} {od29 an29 : Option Addr} {sl29 : Array (Option Value)} {oc29 kV29 dc29 pm29 cd29 ct29 : Value}
    (a29 : PySem.W.nsIn K mainGlobals "residue" = some (some (.ref f29))) (l29 : K.lookup f29 = some ⟨oc29, od29, .func (PySem.W.fnOf "residue" "residue" (defArgs s_residue) (defBody s_residue) (defScope s_residue) .none kV29 dc29 pm29 an29 cd29 ct29), sl29⟩) (c29 : PySem.W.codeIn K cd29 "residue" = true) (k29 : PySem.W.keepIn K (.ref f29) = true)
    {f30 : Addr} {od30 an30 : Option Addr} {sl30 : Array (Option Value)} {oc30 kV30 dc30 pm30 cd30 ct30 : Value}
    (a30 : PySem.W.nsIn K mainGlobals "_law_reason" = some (some (.ref f30))) (l30 : K.lookup f30 = some ⟨oc30, od30, .func (PySem.W.fnOf "_law_reason" "_law_reason" (defArgs s__law_reason) (defBody s__law_reason) (defScope s__law_reason) .none kV30 dc30 pm30 an30 cd30 ct30), sl30⟩) (c30 : PySem.W.codeIn K cd30 "_law_reason" = true) (k30 : PySem.W.keepIn K (.ref f30) = true)
    {f31 : Addr} {od31 an31 : Option Addr} {sl31 : Array (Option Value)} {oc31 kV31 dc31 pm31 cd31 ct31 : Value}
    (a31 : PySem.W.nsIn K mainGlobals "_law_moves" = some (some (.ref f31))) (l31 : K.lookup f31 = some ⟨oc31, od31, .func (PySem.W.fnOf "_law_moves" "_law_moves" (defArgs s__law_moves) (defBody s__law_moves) (defScope s__law_moves) .none kV31 dc31 pm31 an31 cd31 ct31), sl31⟩) (c31 : PySem.W.codeIn K cd31 "_law_moves" = true) (k31 : PySem.W.keepIn K (.ref f31) = true)
    {f32 : Addr} {od32 an32 : Option Addr} {sl32 : Array (Option Value)} {oc32 kV32 dc32 pm32 cd32 ct32 : Value}
    (a32 : PySem.W.nsIn K mainGlobals "_law_moved" = some (some (.ref f32))) (l32 : K.lookup f32 = some ⟨oc32, od32, .func (PySem.W.fnOf "_law_moved" "_law_moved" (defArgs s__law_moved) (defBody s__law_moved) (defScope s__law_moved) .none kV32 dc32 pm32 an32 cd32 ct32), sl32⟩) (c32 : PySem.W.codeIn K cd32 "_law_moved" = true) (k32 : PySem.W.keepIn K (.ref f32) = true)
    {f33 : Addr} {od33 an33 : Option Addr} {sl33 : Array (Option Value)} {oc33 kV33 dc33 pm33 cd33 ct33 : Value}
    (a33 : PySem.W.nsIn K mainGlobals "_law_stirred" = some (some (.ref f33))) (l33 : K.lookup f33 = some ⟨oc33, od33, .func (PySem.W.fnOf "_law_stirred" "_law_stirred" (defArgs s__law_stirred) (defBody s__law_stirred) (defScope s__law_stirred) .none kV33 dc33 pm33 an33 cd33 ct33), sl33⟩) (c33 : PySem.W.codeIn K cd33 "_law_stirred" = true) (k33 : PySem.W.keepIn K (.ref f33) = true)
    {f34 : Addr} {od34 an34 : Option Addr} {sl34 : Array (Option Value)} {oc34 kV34 dc34 pm34 cd34 ct34 : Value}
    (a34 : PySem.W.nsIn K mainGlobals "law" = some (some (.ref f34))) (l34 : K.lookup f34 = some ⟨oc34, od34, .func (PySem.W.fnOf "law" "law" (defArgs s_law) (defBody s_law) (defScope s_law) .none kV34 dc34 pm34 an34 cd34 ct34), sl34⟩) (c34 : PySem.W.codeIn K cd34 "law" = true) (k34 : PySem.W.keepIn K (.ref f34) = true)
    {v_COLORS : Str} {t_COLORS : Tok} (n_COLORS : PySem.W.nsIn K mainGlobals "COLORS" = some (some (.str v_COLORS t_COLORS))) (e_COLORS : v_COLORS = S [97, 98, 99, 100, 101, 102])
    {v_MAX_SIZE : Int} {t_MAX_SIZE : Tok} (n_MAX_SIZE : PySem.W.nsIn K mainGlobals "MAX_SIZE" = some (some (.int v_MAX_SIZE t_MAX_SIZE))) (e_MAX_SIZE : v_MAX_SIZE = 4)
    {v_MAX_BEADS : Int} {t_MAX_BEADS : Tok} (n_MAX_BEADS : PySem.W.nsIn K mainGlobals "MAX_BEADS" = some (some (.int v_MAX_BEADS t_MAX_BEADS))) (e_MAX_BEADS : v_MAX_BEADS = 40)
    {v_MAX_PRICE : Int} {t_MAX_PRICE : Tok} (n_MAX_PRICE : PySem.W.nsIn K mainGlobals "MAX_PRICE" = some (some (.int v_MAX_PRICE t_MAX_PRICE))) (e_MAX_PRICE : v_MAX_PRICE = 99)
    (z_len : PySem.W.nsIn K mainGlobals "len" = some none)
    (z_range : PySem.W.nsIn K mainGlobals "range" = some none)
    (z_enumerate : PySem.W.nsIn K mainGlobals "enumerate" = some none)
    (z_isinstance : PySem.W.nsIn K mainGlobals "isinstance" = some none)
    (z_tuple : PySem.W.nsIn K mainGlobals "tuple" = some none)
    (z_list : PySem.W.nsIn K mainGlobals "list" = some none)
    (z_abs : PySem.W.nsIn K mainGlobals "abs" = some none)
    (z_all : PySem.W.nsIn K mainGlobals "all" = some none)
    (z_zip : PySem.W.nsIn K mainGlobals "zip" = some none)
    (z_sum : PySem.W.nsIn K mainGlobals "sum" = some none)
    (z_int : PySem.W.nsIn K mainGlobals "int" = some none)
    (z_min : PySem.W.nsIn K mainGlobals "min" = some none)
    (z_max : PySem.W.nsIn K mainGlobals "max" = some none)
    (z_sorted : PySem.W.nsIn K mainGlobals "sorted" = some none)
    (z_set : PySem.W.nsIn K mainGlobals "set" = some none)
    (z_dict : PySem.W.nsIn K mainGlobals "dict" = some none)
    (z_str : PySem.W.nsIn K mainGlobals "str" = some none)
    (z_any : PySem.W.nsIn K mainGlobals "any" = some none)
    (z_bool : PySem.W.nsIn K mainGlobals "bool" = some none) :
    ∃ fd : FuncData, (∀ (s : Shared) (v : Value), BindsTo s fd ⟨[v], []⟩ [("_law_script", v)]) ∧ ∀ base : Heap, K.In base → base.Ns mainGlobals mg → FnOk l.prog w K mg base CX0 99 fa fd ["_law_script"] (sp_law K) := by
  have e := hfa.symm.trans (PySem.W.mg_of X G a34)
  cases e
  have B : Bi mg := ⟨PySem.W.mg_none_of X G z_len, PySem.W.mg_none_of X G z_range, PySem.W.mg_none_of X G z_enumerate, PySem.W.mg_none_of X G z_isinstance, PySem.W.mg_none_of X G z_tuple, PySem.W.mg_none_of X G z_list, PySem.W.mg_none_of X G z_abs, PySem.W.mg_none_of X G z_all, PySem.W.mg_none_of X G z_zip, PySem.W.mg_none_of X G z_sum, PySem.W.mg_none_of X G z_int, PySem.W.mg_none_of X G z_min, PySem.W.mg_none_of X G z_max, PySem.W.mg_none_of X G z_sorted, PySem.W.mg_none_of X G z_set, PySem.W.mg_none_of X G z_dict, PySem.W.mg_none_of X G z_str, PySem.W.mg_none_of X G z_any, PySem.W.mg_none_of X G z_bool⟩
  have m_COLORS : ∃ t, mg "COLORS" = some (.str (S [97, 98, 99, 100, 101, 102]) t) := ⟨t_COLORS, by rw [← e_COLORS]; exact PySem.W.mg_of X G n_COLORS⟩
  have m_MAX_SIZE : ∃ t, mg "MAX_SIZE" = some (.int 4 t) := ⟨t_MAX_SIZE, by rw [← e_MAX_SIZE]; exact PySem.W.mg_of X G n_MAX_SIZE⟩
  have m_MAX_BEADS : ∃ t, mg "MAX_BEADS" = some (.int 40 t) := ⟨t_MAX_BEADS, by rw [← e_MAX_BEADS]; exact PySem.W.mg_of X G n_MAX_BEADS⟩
  have m_MAX_PRICE : ∃ t, mg "MAX_PRICE" = some (.int 99 t) := ⟨t_MAX_PRICE, by rw [← e_MAX_PRICE]; exact PySem.W.mg_of X G n_MAX_PRICE⟩
  have T : PlnT K CC := ⟨⟨q1_Planner, q2_Planner, q3_Planner, q4_Planner⟩, na0_Planner, na1_Planner, na2_Planner, na3_Planner, na4_Planner⟩
  have F0 := fun_mk (st := s__law_random) l0 c0 k0
  have b0 := F0.binds (ps := ["_law_script", "_law_salt"]) fun _ _ _ _ _ _ us hl => match us, hl with | [_, _], _ => rfl
  have F1 := fun_mk (st := s__law_below) l1 c1 k1
  have b1 := F1.binds (ps := ["_law_d", "_law_limit"]) fun _ _ _ _ _ _ us hl => match us, hl with | [_, _], _ => rfl
  have F2 := fun_mk (st := s__law_sizes) l2 c2 k2
  have b2 := F2.binds (ps := ["_law_d", "_law_limit"]) fun _ _ _ _ _ _ us hl => match us, hl with | [_, _], _ => rfl
  have F3 := fun_mk (st := s__law_row) l3 c3 k3
  have b3 := F3.binds (ps := ["_law_d", "_law_sizes_here", "_law_limit"]) fun _ _ _ _ _ _ us hl => match us, hl with | [_, _, _], _ => rfl
  have F4 := fun_mk (st := s__law_prices) l4 c4 k4
  have b4 := F4.binds (ps := ["_law_d", "_law_sizes_here"]) fun _ _ _ _ _ _ us hl => match us, hl with | [_, _], _ => rfl
  have F5 := fun_mk (st := s__law_price_of) l5 c5 k5
  have b5 := F5.binds (ps := ["_law_beads", "_law_prices_here"]) fun _ _ _ _ _ _ us hl => match us, hl with | [_, _], _ => rfl
  have F6 := fun_mk (st := s__law_size) l6 c6 k6
  have b6 := F6.binds (ps := ["_law_sizes_here", "_law_bead"]) fun _ _ _ _ _ _ us hl => match us, hl with | [_, _], _ => rfl
  have F7 := fun_mk (st := s__law_pack) l7 c7 k7
  have b7 := F7.binds (ps := ["_law_sizes_here", "_law_row_here", "_law_at"]) fun _ _ _ _ _ _ us hl => match us, hl with | [_, _, _], _ => rfl
  have F8 := fun_mk (st := s__law_residue) l8 c8 k8
  have b8 := F8.binds (ps := ["_law_sizes_here", "_law_row_here"]) fun _ _ _ _ _ _ us hl => match us, hl with | [_, _], _ => rfl
  have F9 := fun_mk (st := s__law_is_within) l9 c9 k9
  have b9 := F9.binds (ps := ["_law_row_here", "_law_filled"]) fun _ _ _ _ _ _ us hl => match us, hl with | [_, _], _ => rfl
  have F10 := fun_mk (st := s_is_int_in) l10 c10 k10
  have b10 := F10.binds (ps := ["value", "low", "high"]) fun _ _ _ _ _ _ us hl => match us, hl with | [_, _, _], _ => rfl
  have F11 := fun_mk (st := s_check_sizes) l11 c11 k11
  have b11 := F11.binds (ps := ["sizes"]) fun _ _ _ _ _ _ us hl => match us, hl with | [_], _ => rfl
  have F12 := fun_mk (st := s_colors_of) l12 c12 k12
  have b12 := F12.binds (ps := ["sizes"]) fun _ _ _ _ _ _ us hl => match us, hl with | [_], _ => rfl
  have F13 := fun_mk (st := s_check_row) l13 c13 k13
  have b13 := F13.binds (ps := ["sizes", "row"]) fun _ _ _ _ _ _ us hl => match us, hl with | [_, _], _ => rfl
  have F14 := fun_mk (st := s_check_prices) l14 c14 k14
  have b14 := F14.binds (ps := ["sizes", "prices"]) fun _ _ _ _ _ _ us hl => match us, hl with | [_, _], _ => rfl
  have F15 := fun_mk (st := s_check_input) l15 c15 k15
  have b15 := F15.binds (ps := ["sizes", "row", "prices"]) fun _ _ _ _ _ _ us hl => match us, hl with | [_, _, _], _ => rfl
  have F16 := fun_mk (st := s_Planner____init__) l16 c16 k16
  have F17 := fun_mk (st := s_size_of) l17 c17 k17
  have b17 := F17.binds (ps := ["sizes", "color"]) fun _ _ _ _ _ _ us hl => match us, hl with | [_, _], _ => rfl
  have F18 := fun_mk (st := s_Planner__clear) l18 c18 k18
  have b18 := F18.binds (ps := ["self", "start", "end"]) fun _ _ _ _ _ _ us hl => match us, hl with | [_, _, _], _ => rfl
  have F19 := fun_mk (st := s_Planner__fill) l19 c19 k19
  have b19 := F19.binds (ps := ["self", "start", "end", "color", "missing"]) fun _ _ _ _ _ _ us hl => match us, hl with | [_, _, _, _, _], _ => rfl
  have F20 := fun_mk (st := s_Planner__completed) l20 c20 k20
  have b20 := F20.binds (ps := ["self", "start", "end"]) fun _ _ _ _ _ _ us hl => match us, hl with | [_, _, _], _ => rfl
  have F21 := fun_mk (st := s_cheapest_insertion) l21 c21 k21
  have b21 := F21.binds (ps := ["sizes", "row", "prices"]) fun _ _ _ _ _ _ us hl => match us, hl with | [_, _, _], _ => rfl
  have F22 := fun_mk (st := s_Planner__deleted) l22 c22 k22
  have b22 := F22.binds (ps := ["self", "start", "end"]) fun _ _ _ _ _ _ us hl => match us, hl with | [_, _, _], _ => rfl
  have F23 := fun_mk (st := s_cheapest_deletion) l23 c23 k23
  have b23 := F23.binds (ps := ["sizes", "row", "prices"]) fun _ _ _ _ _ _ us hl => match us, hl with | [_, _, _], _ => rfl
  have F24 := fun_mk (st := s_split_runs) l24 c24 k24
  have b24 := F24.binds (ps := ["sizes", "row"]) fun _ _ _ _ _ _ us hl => match us, hl with | [_, _], _ => rfl
  have F25 := fun_mk (st := s_invert_row) l25 c25 k25
  have b25 := F25.binds (ps := ["sizes", "row"]) fun _ _ _ _ _ _ us hl => match us, hl with | [_, _], _ => rfl
  have F26 := fun_mk (st := s_inverse) l26 c26 k26
  have b26 := F26.binds (ps := ["sizes", "row"]) fun _ _ _ _ _ _ us hl => match us, hl with | [_, _], _ => rfl
  have F27 := fun_mk (st := s_reduce_row) l27 c27 k27
  have b27 := F27.binds (ps := ["sizes", "row"]) fun _ _ _ _ _ _ us hl => match us, hl with | [_, _], _ => rfl
  have F28 := fun_mk (st := s_is_trivial) l28 c28 k28
  have b28 := F28.binds (ps := ["sizes", "row"]) fun _ _ _ _ _ _ us hl => match us, hl with | [_, _], _ => rfl
  have F29 := fun_mk (st := s_residue) l29 c29 k29
  have b29 := F29.binds (ps := ["sizes", "row"]) fun _ _ _ _ _ _ us hl => match us, hl with | [_, _], _ => rfl
  have F30 := fun_mk (st := s__law_reason) l30 c30 k30
  have b30 := F30.binds (ps := ["_law_sizes_here", "_law_row_here", "_law_move"]) fun _ _ _ _ _ _ us hl => match us, hl with | [_, _, _], _ => rfl
  have F31 := fun_mk (st := s__law_moves) l31 c31 k31
  have b31 := F31.binds (ps := ["_law_sizes_here", "_law_row_here"]) fun _ _ _ _ _ _ us hl => match us, hl with | [_, _], _ => rfl
  have F32 := fun_mk (st := s__law_moved) l32 c32 k32
  have b32 := F32.binds (ps := ["_law_sizes_here", "_law_row_here", "_law_move"]) fun _ _ _ _ _ _ us hl => match us, hl with | [_, _, _], _ => rfl
  have F33 := fun_mk (st := s__law_stirred) l33 c33 k33
  have b33 := F33.binds (ps := ["_law_d", "_law_sizes_here", "_law_row_here", "_law_steps"]) fun _ _ _ _ _ _ us hl => match us, hl with | [_, _, _, _], _ => rfl
  have F34 := fun_mk (st := s_law) l34 c34 k34
  have b34 := F34.binds (ps := ["_law_script"]) fun _ _ _ _ _ _ us hl => match us, hl with | [_], _ => rfl
  refine ⟨PySem.W.fnOf "law" "law" (defArgs s_law) (defBody s_law) (defScope s_law) .none kV34 dc34 pm34 an34 cd34 ct34, fun s v => .of_eq rfl, fun base _ _ => ?_⟩
  have C__law_random : Cal l.prog w K mg base CX0 1 "_law_random" ["_law_script", "_law_salt"] (sp__law_random K) := Cal.mk' F0 (PySem.W.mg_of X G a0) b0 (ok__law_random (P := l.prog) (w := w) (K := K) (mg := mg) (base := base) (F := F0) (B := B))
  have C__law_below : Cal l.prog w K mg base CX0 1 "_law_below" ["_law_d", "_law_limit"] (sp__law_below K) := Cal.mk' F1 (PySem.W.mg_of X G a1) b1 (ok__law_below (P := l.prog) (w := w) (K := K) (mg := mg) (base := base) (F := F1) (B := B))
  have C__law_sizes : Cal l.prog w K mg base CX0 2 "_law_sizes" ["_law_d", "_law_limit"] (sp__law_sizes K) := Cal.mk' F2 (PySem.W.mg_of X G a2) b2 (ok__law_sizes (P := l.prog) (w := w) (K := K) (mg := mg) (base := base) (F := F2) (B := B) (C__law_below := C__law_below))
  have C__law_row : Cal l.prog w K mg base CX0 2 "_law_row" ["_law_d", "_law_sizes_here", "_law_limit"] (sp__law_row K) := Cal.mk' F3 (PySem.W.mg_of X G a3) b3 (ok__law_row (P := l.prog) (w := w) (K := K) (mg := mg) (base := base) (F := F3) (B := B) (C__law_below := C__law_below))
  have C__law_prices : Cal l.prog w K mg base CX0 2 "_law_prices" ["_law_d", "_law_sizes_here"] (sp__law_prices K) := Cal.mk' F4 (PySem.W.mg_of X G a4) b4 (ok__law_prices (P := l.prog) (w := w) (K := K) (mg := mg) (base := base) (F := F4) (B := B) (C__law_below := C__law_below))
  have C__law_price_of : Cal l.prog w K mg base CX0 1 "_law_price_of" ["_law_beads", "_law_prices_here"] (sp__law_price_of K) := Cal.mk' F5 (PySem.W.mg_of X G a5) b5 (ok__law_price_of (P := l.prog) (w := w) (K := K) (mg := mg) (base := base) (F := F5) (B := B))
  have C__law_size : Cal l.prog w K mg base CX0 1 "_law_size" ["_law_sizes_here", "_law_bead"] (sp__law_size K) := Cal.mk' F6 (PySem.W.mg_of X G a6) b6 (ok__law_size (P := l.prog) (w := w) (K := K) (mg := mg) (base := base) (F := F6) (B := B))
  have C__law_pack : Cal l.prog w K mg base CX0 2 "_law_pack" ["_law_sizes_here", "_law_row_here", "_law_at"] (sp__law_pack K) := Cal.mk' F7 (PySem.W.mg_of X G a7) b7 (ok__law_pack (P := l.prog) (w := w) (K := K) (mg := mg) (base := base) (F := F7) (B := B) (C__law_size := C__law_size))
  have C__law_residue : Cal l.prog w K mg base CX0 3 "_law_residue" ["_law_sizes_here", "_law_row_here"] (sp__law_residue K) := Cal.mk' F8 (PySem.W.mg_of X G a8) b8 (ok__law_residue (P := l.prog) (w := w) (K := K) (mg := mg) (base := base) (F := F8) (B := B) (C__law_pack := C__law_pack) (C__law_size := C__law_size))
  have C__law_is_within : Cal l.prog w K mg base CX0 1 "_law_is_within" ["_law_row_here", "_law_filled"] (sp__law_is_within K) := Cal.mk' F9 (PySem.W.mg_of X G a9) b9 (ok__law_is_within (P := l.prog) (w := w) (K := K) (mg := mg) (base := base) (F := F9) (B := B))
  have C_is_int_in : Cal l.prog w K mg base CX0 1 "is_int_in" ["value", "low", "high"] (sp_is_int_in K) := Cal.mk' F10 (PySem.W.mg_of X G a10) b10 (ok_is_int_in (P := l.prog) (w := w) (K := K) (mg := mg) (base := base) (F := F10) (B := B))
  have C_check_sizes : Cal l.prog w K mg base CX0 2 "check_sizes" ["sizes"] (sp_check_sizes K) := Cal.mk' F11 (PySem.W.mg_of X G a11) b11 (ok_check_sizes (P := l.prog) (w := w) (K := K) (mg := mg) (base := base) (F := F11) (B := B) (C_is_int_in := C_is_int_in) (m_COLORS := m_COLORS) (m_MAX_SIZE := m_MAX_SIZE))
  have C_colors_of : Cal l.prog w K mg base CX0 1 "colors_of" ["sizes"] (sp_colors_of K) := Cal.mk' F12 (PySem.W.mg_of X G a12) b12 (ok_colors_of (P := l.prog) (w := w) (K := K) (mg := mg) (base := base) (F := F12) (B := B) (m_COLORS := m_COLORS))
  have C_check_row : Cal l.prog w K mg base CX0 2 "check_row" ["sizes", "row"] (sp_check_row K) := Cal.mk' F13 (PySem.W.mg_of X G a13) b13 (ok_check_row (P := l.prog) (w := w) (K := K) (mg := mg) (base := base) (F := F13) (B := B) (C_colors_of := C_colors_of) (m_MAX_BEADS := m_MAX_BEADS))
  have C_check_prices : Cal l.prog w K mg base CX0 2 "check_prices" ["sizes", "prices"] (sp_check_prices K) := Cal.mk' F14 (PySem.W.mg_of X G a14) b14 (ok_check_prices (P := l.prog) (w := w) (K := K) (mg := mg) (base := base) (F := F14) (B := B) (C_is_int_in := C_is_int_in) (m_MAX_PRICE := m_MAX_PRICE))
  have C_check_input : Cal l.prog w K mg base CX0 3 "check_input" ["sizes", "row", "prices"] (sp_check_input K) := Cal.mk' F15 (PySem.W.mg_of X G a15) b15 (ok_check_input (P := l.prog) (w := w) (K := K) (mg := mg) (base := base) (F := F15) (B := B) (C_check_sizes := C_check_sizes) (C_check_row := C_check_row) (C_check_prices := C_check_prices))
  have C_Planner____init__ : KCalK l.prog w K mg base CX0 2 "Planner" CC 4 ["self", "sizes", "row", "prices", "inserts"] "inserts" (sp_Planner____init__ l.prog w CC K) := ⟨f16, _, ⟨q5_Planner, a16, i16, q6_Planner⟩, PySem.W.mg_of X G q0_Planner, fun s us d hl => match us, hl with | [_, _, _, _], _ => .of_eq rfl, rfl, ok_Planner____init__ (P := l.prog) (w := w) (K := K) (mg := mg) (base := base) (F := F16) (B := B) (C_colors_of := C_colors_of) (T := T)⟩
  have C_size_of : Cal l.prog w K mg base CX0 1 "size_of" ["sizes", "color"] (sp_size_of K) := Cal.mk' F17 (PySem.W.mg_of X G a17) b17 (ok_size_of (P := l.prog) (w := w) (K := K) (mg := mg) (base := base) (F := F17) (B := B) (m_COLORS := m_COLORS))
  have C_Planner__clear : MCal l.prog w K mg base CX0 65 CC "clear" ["self", "start", "end"] (sp_Planner__clear l.prog w CC K) := ⟨T.cl, f18, _, ⟨a18, i18, k18⟩, b18, ok_Planner__clear (P := l.prog) (w := w) (K := K) (mg := mg) (base := base) (F := F18) (B := B) (C_size_of := C_size_of) (F2 := F19) (MT2 := ⟨a19, i19, k19⟩) (Bd2 := b19) (T := T) (MT := ⟨a18, i18, k18⟩) (Bd := b18)⟩
  have C_Planner__fill : MCal l.prog w K mg base CX0 66 CC "fill" ["self", "start", "end", "color", "missing"] (sp_Planner__fill l.prog w CC K) := ⟨T.cl, f19, _, ⟨a19, i19, k19⟩, b19, ok_Planner__fill (P := l.prog) (w := w) (K := K) (mg := mg) (base := base) (F := F19) (B := B) (C_size_of := C_size_of) (F2 := F18) (MT2 := ⟨a18, i18, k18⟩) (Bd2 := b18) (T := T) (MT := ⟨a19, i19, k19⟩) (Bd := b19)⟩
  have C_Planner__completed : MCal l.prog w K mg base CX0 97 CC "completed" ["self", "start", "end"] (sp_Planner__completed l.prog w CC K) := ⟨T.cl, f20, _, ⟨a20, i20, k20⟩, b20, ok_Planner__completed (P := l.prog) (w := w) (K := K) (mg := mg) (base := base) (F := F20) (B := B) (C_size_of := C_size_of) (C_Planner__fill := C_Planner__fill) (T := T) (MT := ⟨a20, i20, k20⟩) (Bd := b20)⟩
  have C_cheapest_insertion : Cal l.prog w K mg base CX0 98 "cheapest_insertion" ["sizes", "row", "prices"] (sp_cheapest_insertion K) := Cal.mk' F21 (PySem.W.mg_of X G a21) b21 (ok_cheapest_insertion (P := l.prog) (w := w) (K := K) (mg := mg) (base := base) (F := F21) (B := B) (C_check_input := C_check_input) (C_Planner____init__ := C_Planner____init__) (C_Planner__clear := C_Planner__clear) (C_Planner__completed := C_Planner__completed) (T := T))
  have C_Planner__deleted : MCal l.prog w K mg base CX0 97 CC "deleted" ["self", "start", "end"] (sp_Planner__deleted l.prog w CC K) := ⟨T.cl, f22, _, ⟨a22, i22, k22⟩, b22, ok_Planner__deleted (P := l.prog) (w := w) (K := K) (mg := mg) (base := base) (F := F22) (B := B) (C_size_of := C_size_of) (C_Planner__clear := C_Planner__clear) (C_Planner__fill := C_Planner__fill) (T := T) (MT := ⟨a22, i22, k22⟩) (Bd := b22)⟩
  have C_cheapest_deletion : Cal l.prog w K mg base CX0 98 "cheapest_deletion" ["sizes", "row", "prices"] (sp_cheapest_deletion K) := Cal.mk' F23 (PySem.W.mg_of X G a23) b23 (ok_cheapest_deletion (P := l.prog) (w := w) (K := K) (mg := mg) (base := base) (F := F23) (B := B) (C_check_input := C_check_input) (C_Planner____init__ := C_Planner____init__) (C_Planner__clear := C_Planner__clear) (C_Planner__deleted := C_Planner__deleted) (T := T))
  have C_split_runs : Cal l.prog w K mg base CX0 2 "split_runs" ["sizes", "row"] (sp_split_runs K) := Cal.mk' F24 (PySem.W.mg_of X G a24) b24 (ok_split_runs (P := l.prog) (w := w) (K := K) (mg := mg) (base := base) (F := F24) (B := B) (C_size_of := C_size_of))
  have C_invert_row : Cal l.prog w K mg base CX0 3 "invert_row" ["sizes", "row"] (sp_invert_row K) := Cal.mk' F25 (PySem.W.mg_of X G a25) b25 (ok_invert_row (P := l.prog) (w := w) (K := K) (mg := mg) (base := base) (F := F25) (B := B) (C_split_runs := C_split_runs) (C_size_of := C_size_of))
  have C_inverse : Cal l.prog w K mg base CX0 4 "inverse" ["sizes", "row"] (sp_inverse K) := Cal.mk' F26 (PySem.W.mg_of X G a26) b26 (ok_inverse (P := l.prog) (w := w) (K := K) (mg := mg) (base := base) (F := F26) (B := B) (C_check_sizes := C_check_sizes) (C_check_row := C_check_row) (C_invert_row := C_invert_row))
  have C_reduce_row : Cal l.prog w K mg base CX0 3 "reduce_row" ["sizes", "row"] (sp_reduce_row K) := Cal.mk' F27 (PySem.W.mg_of X G a27) b27 (ok_reduce_row (P := l.prog) (w := w) (K := K) (mg := mg) (base := base) (F := F27) (B := B) (C_split_runs := C_split_runs))
  have C_is_trivial : Cal l.prog w K mg base CX0 4 "is_trivial" ["sizes", "row"] (sp_is_trivial K) := Cal.mk' F28 (PySem.W.mg_of X G a28) b28 (ok_is_trivial (P := l.prog) (w := w) (K := K) (mg := mg) (base := base) (F := F28) (B := B) (C_check_sizes := C_check_sizes) (C_check_row := C_check_row) (C_reduce_row := C_reduce_row))
  have C_residue : Cal l.prog w K mg base CX0 4 "residue" ["sizes", "row"] (sp_residue K) := Cal.mk' F29 (PySem.W.mg_of X G a29) b29 (ok_residue (P := l.prog) (w := w) (K := K) (mg := mg) (base := base) (F := F29) (B := B) (C_check_sizes := C_check_sizes) (C_check_row := C_check_row) (C_reduce_row := C_reduce_row))
  have C__law_reason : Cal l.prog w K mg base CX0 3 "_law_reason" ["_law_sizes_here", "_law_row_here", "_law_move"] (sp__law_reason K) := Cal.mk' F30 (PySem.W.mg_of X G a30) b30 (ok__law_reason (P := l.prog) (w := w) (K := K) (mg := mg) (base := base) (F := F30) (B := B) (C__law_pack := C__law_pack) (C__law_size := C__law_size))
  have C__law_moves : Cal l.prog w K mg base CX0 4 "_law_moves" ["_law_sizes_here", "_law_row_here"] (sp__law_moves K) := Cal.mk' F31 (PySem.W.mg_of X G a31) b31 (ok__law_moves (P := l.prog) (w := w) (K := K) (mg := mg) (base := base) (F := F31) (B := B) (C__law_reason := C__law_reason))
  have C__law_moved : Cal l.prog w K mg base CX0 2 "_law_moved" ["_law_sizes_here", "_law_row_here", "_law_move"] (sp__law_moved K) := Cal.mk' F32 (PySem.W.mg_of X G a32) b32 (ok__law_moved (P := l.prog) (w := w) (K := K) (mg := mg) (base := base) (F := F32) (B := B) (C__law_size := C__law_size))
  have C__law_stirred : Cal l.prog w K mg base CX0 5 "_law_stirred" ["_law_d", "_law_sizes_here", "_law_row_here", "_law_steps"] (sp__law_stirred K) := Cal.mk' F33 (PySem.W.mg_of X G a33) b33 (ok__law_stirred (P := l.prog) (w := w) (K := K) (mg := mg) (base := base) (F := F33) (B := B) (C__law_below := C__law_below) (C__law_moves := C__law_moves) (C__law_moved := C__law_moved))
  exact ok_law (P := l.prog) (w := w) (K := K) (mg := mg) (base := base) (F := F34) (B := B) (C__law_random := C__law_random) (C__law_sizes := C__law_sizes) (C__law_below := C__law_below) (C__law_row := C__law_row) (C__law_prices := C__law_prices) (C__law_price_of := C__law_price_of) (C__law_residue := C__law_residue) (C__law_is_within := C__law_is_within) (C_cheapest_insertion := C_cheapest_insertion) (C_cheapest_deletion := C_cheapest_deletion) (C_inverse := C_inverse) (C_is_trivial := C_is_trivial) (C_residue := C_residue) (C__law_stirred := C__law_stirred)
end Pk
open PySem PySem.W PyProof.Rows
set_option maxRecDepth 100000 in
set_option maxHeartbeats 0 in
theorem PySem.Challenge.cw_packrow_k20_whole_completion_holds : PySem.Challenge.rw_packrow_k20_whole_completion.Holds := by
  w_on; o_law; k_head; (case hw => w_witness2)
  k_fill
  refine L2.walk_of (l := PySem.Challenge.rw_packrow_k20_whole_completion) (n := 63) (k := 99) (x := "_law_script") (CX := fun _ => L2.CX0) (sp := fun w => Pk.sp_law _) rfl (by decide) rfl ⟨rfl, by decide, by decide⟩ (fun w h Y => PySem.W.kIn_of Y) ?F (fun _ _ a ns hl _ hS => ⟨a, ns, rfl, hS, hl, fun _ => rfl⟩) (fun _ _ _ _ _ h => h)
  case F =>
    intro w mg fa h KX G hmg
    refine' Pk.all_mk KX G hmg ?q0_Planner ?q1_Planner ?q2_Planner ?q3_Planner ?q4_Planner ?q5_Planner ?q6_Planner ?na0_Planner ?na1_Planner ?na2_Planner ?na3_Planner ?na4_Planner ?a0 ?l0 ?c0 ?k0 ?a1 ?l1 ?c1 ?k1 ?a2 ?l2 ?c2 ?k2 ?a3 ?l3 ?c3 ?k3 ?a4 ?l4 ?c4 ?k4 ?a5 ?l5 ?c5 ?k5 ?a6 ?l6 ?c6 ?k6 ?a7 ?l7 ?c7 ?k7 ?a8 ?l8 ?c8 ?k8 ?a9 ?l9 ?c9 ?k9 ?a10 ?l10 ?c10 ?k10 ?a11 ?l11 ?c11 ?k11 ?a12 ?l12 ?c12 ?k12 ?a13 ?l13 ?c13 ?k13 ?a14 ?l14 ?c14 ?k14 ?a15 ?l15 ?c15 ?k15 ?a16 ?i16 ?l16 ?c16 ?k16 ?a17 ?l17 ?c17 ?k17 ?a18 ?i18 ?l18 ?c18 ?k18 ?a19 ?i19 ?l19 ?c19 ?k19 ?a20 ?i20 ?l20 ?c20 ?k20 ?a21 ?l21 ?c21 ?k21 ?a22 ?i22 ?l22 ?c22 ?k22 ?a23 ?l23 ?c23 ?k23 ?a24 ?l24 ?c24 ?k24 ?a25 ?l25 ?c25 ?k25 ?a26 ?l26 ?c26 ?k26 ?a27 ?l27 ?c27 ?k27 ?a28 ?l28 ?c28 ?k28 ?a29 ?l29 ?c29 ?k29 ?a30 ?l30 ?c30 ?k30 ?a31 ?l31 ?c31 ?k31 ?a32 ?l32 ?c32 ?k32 ?a33 ?l33 ?c33 ?k33 ?a34 ?l34 ?c34 ?k34 ?n_COLORS ?e_COLORS ?n_MAX_SIZE ?e_MAX_SIZE ?n_MAX_BEADS ?e_MAX_BEADS ?n_MAX_PRICE ?e_MAX_PRICE ?z_len ?z_range ?z_enumerate ?z_isinstance ?z_tuple ?z_list ?z_abs ?z_all ?z_zip ?z_sum ?z_int ?z_min ?z_max ?z_sorted ?z_set ?z_dict ?z_str ?z_any ?z_bool
    (case q0_Planner => k_is); (case q1_Planner => k_is); (case q2_Planner => k_is); (case q3_Planner => k_is); (case q4_Planner => k_is); (case q5_Planner => k_is); (case q6_Planner => k_is); (case na0_Planner => k_is); (case na1_Planner => k_is); (case na2_Planner => k_is); (case na3_Planner => k_is); (case na4_Planner => k_is); (case a0 => k_is); (case l0 => k_is); (case c0 => k_is); (case k0 => k_is); (case a1 => k_is); (case l1 => k_is); (case c1 => k_is); (case k1 => k_is); (case a2 => k_is); (case l2 => k_is); (case c2 => k_is); (case k2 => k_is); (case a3 => k_is); (case l3 => k_is); (case c3 => k_is); (case k3 => k_is); (case a4 => k_is); (case l4 => k_is); (case c4 => k_is); (case k4 => k_is); (case a5 => k_is); (case l5 => k_is); (case c5 => k_is); (case k5 => k_is); (case a6 => k_is); (case l6 => k_is); (case c6 => k_is); (case k6 => k_is); (case a7 => k_is); (case l7 => k_is); (case c7 => k_is); (case k7 => k_is); (case a8 => k_is); (case l8 => k_is); (case c8 => k_is); (case k8 => k_is); (case a9 => k_is); (case l9 => k_is); (case c9 => k_is); (case k9 => k_is); (case a10 => k_is); (case l10 => k_is); (case c10 => k_is); (case k10 => k_is); (case a11 => k_is); (case l11 => k_is); (case c11 => k_is); (case k11 => k_is); (case a12 => k_is); (case l12 => k_is); (case c12 => k_is); (case k12 => k_is); (case a13 => k_is); (case l13 => k_is); (case c13 => k_is); (case k13 => k_is); (case a14 => k_is); (case l14 => k_is); (case c14 => k_is); (case k14 => k_is); (case a15 => k_is); (case l15 => k_is); (case c15 => k_is); (case k15 => k_is); (case a16 => k_is); (case i16 => k_is); (case l16 => k_is); (case c16 => k_is); (case k16 => k_is); (case a17 => k_is); (case l17 => k_is); (case c17 => k_is); (case k17 => k_is); (case a18 => k_is); (case i18 => k_is); (case l18 => k_is); (case c18 => k_is); (case k18 => k_is); (case a19 => k_is); (case i19 => k_is); (case l19 => k_is); (case c19 => k_is); (case k19 => k_is); (case a20 => k_is); (case i20 => k_is); (case l20 => k_is); (case c20 => k_is); (case k20 => k_is); (case a21 => k_is); (case l21 => k_is); (case c21 => k_is); (case k21 => k_is); (case a22 => k_is); (case i22 => k_is); (case l22 => k_is); (case c22 => k_is); (case k22 => k_is); (case a23 => k_is); (case l23 => k_is); (case c23 => k_is); (case k23 => k_is); (case a24 => k_is); (case l24 => k_is); (case c24 => k_is); (case k24 => k_is); (case a25 => k_is); (case l25 => k_is); (case c25 => k_is); (case k25 => k_is); (case a26 => k_is); (case l26 => k_is); (case c26 => k_is); (case k26 => k_is); (case a27 => k_is); (case l27 => k_is); (case c27 => k_is); (case k27 => k_is); (case a28 => k_is); (case l28 => k_is); (case c28 => k_is); (case k28 => k_is); (case a29 => k_is); (case l29 => k_is); (case c29 => k_is); (case k29 => k_is); (case a30 => k_is); (case l30 => k_is); (case c30 => k_is); (case k30 => k_is); (case a31 => k_is); (case l31 => k_is); (case c31 => k_is); (case k31 => k_is); (case a32 => k_is); (case l32 => k_is); (case c32 => k_is); (case k32 => k_is); (case a33 => k_is); (case l33 => k_is); (case c33 => k_is); (case k33 => k_is); (case a34 => k_is); (case l34 => k_is); (case c34 => k_is); (case k34 => k_is); (case n_COLORS => k_is); (case n_MAX_SIZE => k_is); (case n_MAX_BEADS => k_is); (case n_MAX_PRICE => k_is); (case z_len => k_is); (case z_range => k_is); (case z_enumerate => k_is); (case z_isinstance => k_is); (case z_tuple => k_is); (case z_list => k_is); (case z_abs => k_is); (case z_all => k_is); (case z_zip => k_is); (case z_sum => k_is); (case z_int => k_is); (case z_min => k_is); (case z_max => k_is); (case z_sorted => k_is); (case z_set => k_is); (case z_dict => k_is); (case z_str => k_is); (case z_any => k_is); (case z_bool => k_is)
    (case e_COLORS => decide +kernel); (case e_MAX_SIZE => decide +kernel); (case e_MAX_BEADS => decide +kernel); (case e_MAX_PRICE => decide +kernel)
