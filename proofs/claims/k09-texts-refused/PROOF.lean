import PyProof.Rows.All
import Wide.All
import OpenK.AllK
import Wide.FinOn
import HandS.ForMost
import HandS.ForExc
import HandS.Walk
import HandS.Evl
import HandS.FStr
import HandS.Star
import HandS.Codes
import HandS.Defaults
import HandS.SortInts
import HandS.ExcInit
import HandS.IsInst
import HandS.SortRule
import HandS.SetFor
import HandS.TupSets
import HandS.Zip
import HandS.Property
import HandS.ExcInitHot
import HandS.MakeKw
import HandS.CallLocal
import HandS.Deep
import KE.LtSeq
import HandS.Style
import PyProof.StrBlock2
import KE.KTryMore
import HandS.ExcIs
import HandS.ExcField
import HandS.ExcValue
import HandS.Lambda
import KE.KExcIs
import HandS.RaiseMore
import HandS.ClsMeth
import HandS.HeadWalk
import HandS.Head0
import HandS.Head1
import HandS.Head2
import HandS.HeadHook4
import HandS.HeadNt
import PySem.Challenge.RW_dayrecipes_k09_whole_calendar_texts_refu
section
set_option Elab.async false
set_option linter.all false
set_option maxRecDepth 100000
set_option maxHeartbeats 4000000
/-! numbers written by words -/
namespace K9
open PySem PySem.Spec PyProof.Rows L2 TL
def dig (c : Nat) : Bool := decide (48 ≤ c) && decide (c ≤ 57)
/-- a number without needless zeros, of at most twelve digits -/
def canon (l : List Nat) : Option Nat :=
  if l.length ≤ 12 ∧ l.all dig = true ∧ (l = [48] ∨ (l ≠ [] ∧ l.head? ≠ some 48)) then some (NumText.digitsVal l) else none
theorem dig_all {l : List Nat} (h : l.all dig = true) : NumText.AllDigits l := fun c hc => by
  have z := List.all_eq_true.mp h c hc
  unfold dig at z
  simp only [Bool.and_eq_true, decide_eq_true_eq] at z
  exact z
theorem all_dig {l : List Nat} (h : NumText.AllDigits l) : l.all dig = true := List.all_eq_true.mpr fun c hc => by
  have z := h c hc
  unfold dig
  simp only [Bool.and_eq_true, decide_eq_true_eq]
  exact z
theorem val_snoc (l : List Nat) (c : Nat) : NumText.digitsVal (l ++ [c]) = NumText.digitsVal l * 10 + (c - 48) := by
  unfold NumText.digitsVal
  rw [List.foldl_append]
  rfl
theorem val_pos : ∀ (l : List Nat) (c : Nat), 49 ≤ c → 1 ≤ NumText.digitsVal (c :: l) := by
  intro l c hc
  have key : ∀ (l : List Nat) (a : Nat), a ≤ l.foldl (fun acc c => acc * 10 + (c - 48)) a := by
    intro l
    induction l with
    | nil => intro a; exact Nat.le_refl _
    | cons d l ih => intro a; exact Nat.le_trans (by omega) (ih (a * 10 + (d - 48)))
  unfold NumText.digitsVal
  exact Nat.le_trans (by omega) (key l (0 * 10 + (c - 48)))
theorem val_lt {l : List Nat} (h : NumText.AllDigits l) : NumText.digitsVal l < 10 ^ l.length := by
  have key : ∀ (l : List Nat) (a : Nat), NumText.AllDigits l → l.foldl (fun acc c => acc * 10 + (c - 48)) a < (a + 1) * 10 ^ l.length := by
    intro l
    induction l with
    | nil => intro a _; simp
    | cons d l ih =>
      intro a hh
      have h1 := ih (a * 10 + (d - 48)) hh.tail
      have h2 := hh.head
      show l.foldl _ (a * 10 + (d - 48)) < _
      have h3 : (a * 10 + (d - 48) + 1) * 10 ^ l.length ≤ (a + 1) * 10 ^ (l.length + 1) := by
        rw [Nat.pow_succ, Nat.mul_comm (10 ^ l.length) 10, ← Nat.mul_assoc]
        exact Nat.mul_le_mul_right _ (by omega)
      exact Nat.lt_of_lt_of_le h1 h3
  have z := key l 0 h
  unfold NumText.digitsVal
  simpa using z
/-- what such a word writes is written so -/
theorem num_back : ∀ (n : Nat) (l : List Nat), l.length = n → NumText.AllDigits l → (l = [48] ∨ (l ≠ [] ∧ l.head? ≠ some 48)) → numL (NumText.digitsVal l) = l := by
  intro n
  induction n with
  | zero =>
    intro l hl hd hc
    have e : l = [] := List.length_eq_zero_iff.mp hl
    subst e
    rcases hc with h | ⟨h, _⟩
    · cases h
    · exact absurd rfl h
  | succ n ih =>
    intro l hl hd hc
    have hne : l ≠ [] := by
      intro e
      rw [e] at hl
      cases hl
    obtain ⟨l', c, rfl⟩ : ∃ l' c, l = l' ++ [c] := ⟨l.dropLast, l.getLast hne, (List.dropLast_concat_getLast hne).symm⟩
    have hcd : 48 ≤ c ∧ c ≤ 57 := hd c (by simp)
    rw [val_snoc]
    cases hl' : l' with
    | nil =>
      have e0 : NumText.digitsVal [] * 10 + (c - 48) = c - 48 := by
        show 0 * 10 + (c - 48) = c - 48
        omega
      rw [e0, numL_lt (by omega)]
      show [48 + (c - 48)] = [c]
      congr 1
      omega
    | cons d r =>
      have hlen : l'.length = n := by
        rw [List.length_append] at hl
        simpa using hl
      have hd' : NumText.AllDigits l' := fun x hx => hd x (List.mem_append_left _ hx)
      have hhead : l'.head? ≠ some 48 := by
        rcases hc with h | ⟨_, h⟩
        · rw [hl'] at h
          simp at h
        · rw [hl'] at h ⊢
          simpa using h
      have hne' : l' ≠ [] := by rw [hl']; simp
      have e1 := ih l' hlen hd' (.inr ⟨hne', hhead⟩)
      have hd49 : 49 ≤ d := by
        have a := hd' d (by rw [hl']; simp)
        have b : d ≠ 48 := fun z => hhead (by rw [hl', z]; rfl)
        omega
      have hp : 1 ≤ NumText.digitsVal l' := by rw [hl']; exact val_pos r d hd49
      rw [← hl', numL_step (by omega)]
      have e2 : (NumText.digitsVal l' * 10 + (c - 48)) / 10 = NumText.digitsVal l' := by omega
      have e3 : 48 + (NumText.digitsVal l' * 10 + (c - 48)) % 10 = c := by omega
      rw [e2, e3, e1]
theorem canon_some {l : List Nat} {n : Nat} (h : canon l = some n) : numL n = l ∧ n < 10 ^ 12 ∧ l.length ≤ 12 ∧ NumText.AllDigits l ∧ l ≠ [] ∧ n = NumText.digitsVal l := by
  unfold canon at h
  split at h
  · rename_i hc
    obtain ⟨h1, h2, h3⟩ := hc
    cases h
    have hd := dig_all h2
    refine ⟨num_back _ l rfl hd h3, Nat.lt_of_lt_of_le (val_lt hd) (Nat.pow_le_pow_right (by decide) h1), h1, hd, ?_, rfl⟩
    rcases h3 with e | ⟨e, _⟩
    · rw [e]; simp
    · exact e
  · cases h
theorem numL_head {n : Nat} (h : 1 ≤ n) : (numL n).head? ≠ some 48 := by
  induction n using Nat.strongRecOn with
  | _ n ih =>
    by_cases hn : n < 10
    · rw [numL_lt hn]
      simp
      omega
    · rw [numL_step (by omega)]
      have z := ih (n / 10) (by omega) (by omega)
      cases e : numL (n / 10) with
      | nil => exact absurd e (numL_ne _)
      | cons a r =>
        rw [e] at z
        simpa using z
theorem canon_num {n : Nat} (h : n < 10 ^ 12) : canon (numL n) = some n := by
  have hd := numL_digits n
  have hz : numL n = [48] ∨ (numL n ≠ [] ∧ (numL n).head? ≠ some 48) := by
    by_cases h0 : n = 0
    · subst h0
      exact .inl (numL_lt (by decide))
    · exact .inr ⟨numL_ne n, numL_head (by omega)⟩
  unfold canon
  rw [if_pos ⟨numL_len (by decide) h, all_dig hd, hz⟩, numL_val]
/-- the digits of a word write back the word only if there are no needless zeros -/
theorem canon_iff {l : List Nat} (hd : NumText.AllDigits l) (h1 : l ≠ []) (h2 : l.length ≤ 12) : (numL (NumText.digitsVal l) = l ↔ canon l = some (NumText.digitsVal l)) := by
  constructor
  · intro e
    have hlt : NumText.digitsVal l < 10 ^ 12 := Nat.lt_of_lt_of_le (val_lt hd) (Nat.pow_le_pow_right (by decide) h2)
    have z := canon_num hlt
    rw [e] at z
    exact z
  · intro h
    exact (canon_some h).1
/-- the number from lo to hi that a word writes -/
def bnd (lo hi : Int) (w : Str) : Option Int := match canon (tl w) with
  | some n => if lo ≤ (n : Int) ∧ (n : Int) ≤ hi then some (n : Int) else none
  | none => none
theorem bnd_some {lo hi i : Int} {w : Str} (h : bnd lo hi w = some i) : ∃ n : Nat, i = (n : Int) ∧ tl w = numL n ∧ n < 10 ^ 12 ∧ lo ≤ i ∧ i ≤ hi := by
  unfold bnd at h
  cases e : canon (tl w) with
  | none => rw [e] at h; cases h
  | some n =>
    rw [e] at h
    have h2 : (if lo ≤ (n : Int) ∧ (n : Int) ≤ hi then some (n : Int) else none) = some i := h
    split at h2
    · rename_i hb
      cases h2
      obtain ⟨e1, e2, _⟩ := canon_some e
      exact ⟨n, rfl, e1.symm, e2, hb.1, hb.2⟩
    · cases h2
/-- the text of a number -/
abbrev numS (i : Int) : Str := Str.ofString (toString i)
theorem tl_numS {i : Int} (h : 0 ≤ i) : tl (numS i) = numL i.toNat := by
  obtain ⟨n, rfl⟩ := Int.eq_ofNat_of_zero_le h
  exact tl_num n
theorem bnd_num {lo hi i : Int} {w : Str} (h : bnd lo hi w = some i) : w = numS i := by
  obtain ⟨n, rfl, e, _⟩ := bnd_some h
  exact ext_tl (e.trans (tl_num n).symm)
theorem bnd_of {lo hi i : Int} (h0 : 0 ≤ i) (hl : lo ≤ i) (hh : i ≤ hi) (hb : i < 10 ^ 12) : bnd lo hi (numS i) = some i := by
  obtain ⟨n, rfl⟩ := Int.eq_ofNat_of_zero_le h0
  have hn : n < 10 ^ 12 := by
    have z : ((n : Nat) : Int) < ((10 ^ 12 : Nat) : Int) := by simpa using hb
    exact Int.ofNat_lt.mp z
  unfold bnd
  rw [show tl (numS (n : Int)) = numL n from tl_num n, canon_num hn]
  show (if lo ≤ (n : Int) ∧ (n : Int) ≤ hi then some (n : Int) else none) = _
  rw [if_pos ⟨hl, hh⟩]
/-- all words are such numbers -/
def nums (lo hi : Int) : List Str → Option (List Int)
  | [] => some []
  | w :: ws => match bnd lo hi w with
    | some i => (nums lo hi ws).map (i :: ·)
    | none => none
theorem nums_some {lo hi : Int} : ∀ {ws : List Str} {is : List Int}, nums lo hi ws = some is → ws = is.map numS ∧ (∀ i ∈ is, lo ≤ i ∧ i ≤ hi ∧ 0 ≤ i ∧ i < 10 ^ 12)
  | [], is, h => by
    cases h
    exact ⟨rfl, fun i hi => by cases hi⟩
  | w :: ws, is, h => by
    have h1 : (match bnd lo hi w with
      | some i => (nums lo hi ws).map (i :: ·)
      | none => none) = some is := h
    cases e : bnd lo hi w with
    | none => rw [e] at h1; cases h1
    | some i =>
      rw [e] at h1
      have h2 : (nums lo hi ws).map (i :: ·) = some is := h1
      cases e2 : nums lo hi ws with
      | none => rw [e2] at h2; cases h2
      | some js =>
        rw [e2] at h2
        cases h2
        obtain ⟨a1, a2⟩ := nums_some e2
        obtain ⟨n, b1, _, b3, b4, b5⟩ := bnd_some e
        refine ⟨by rw [List.map_cons, ← a1, ← bnd_num e], fun j hj => ?_⟩
        rcases List.mem_cons.mp hj with rfl | hj
        · refine ⟨b4, b5, by omega, ?_⟩
          rw [b1]
          have z : ((n : Nat) : Int) < ((10 ^ 12 : Nat) : Int) := Int.ofNat_lt.mpr b3
          simpa using z
        · exact a2 j hj
theorem nums_of {lo hi : Int} : ∀ {is : List Int}, (∀ i ∈ is, lo ≤ i ∧ i ≤ hi ∧ 0 ≤ i ∧ i < 10 ^ 12) → nums lo hi (is.map numS) = some is
  | [], _ => rfl
  | i :: is, h => by
    obtain ⟨h1, h2, h3, h4⟩ := h i List.mem_cons_self
    have e := nums_of (lo := lo) (hi := hi) (is := is) fun j hj => h j (List.mem_cons_of_mem _ hj)
    show (match bnd lo hi (numS i) with
      | some i => (nums lo hi (is.map numS)).map (i :: ·)
      | none => none) = some (i :: is)
    rw [bnd_of h3 h1 h2 h4, e]
    rfl
theorem nums_len {lo hi : Int} {ws : List Str} {is : List Int} (h : nums lo hi ws = some is) : is.length = ws.length := by
  obtain ⟨e, _⟩ := nums_some h
  rw [e, List.length_map]
end K9
end
section
set_option Elab.async false
set_option linter.all false
set_option maxRecDepth 100000
set_option maxHeartbeats 4000000
/-! more of what evaluates to what (over HandS.Evl) -/
namespace K9
open PySem PySem.Spec PyProof.Rows L2 Evl
/-! ### some value, told by a property -/
def EvP (te : TE) (σ : L2.St) (H : Hp) (R : V → Hp → Prop) : Prop := ∀ H1, Ex H H1 → ∀ Q : VK, (∀ v H2, Ex H1 H2 → R v H2 → Q v H2) → te σ H1 Q
section
variable {K : PySem.W.Frag} {σ : L2.St} {H H' : Hp} {ta tb tc te tx : TE} {t u : TT} {x y z v : V} {r r' : R2} {R R' : V → Hp → Prop}
theorem EvP.mono (e : Ex H H') (h : EvP te σ H R) : EvP te σ H' R := fun H1 a Q q => h H1 (e.trans a) Q q
theorem EvP.imp (h : EvP te σ H R) (k : ∀ v H1, Ex H H1 → R v H1 → R' v H1) : EvP te σ H R' := fun H1 e Q q => h H1 e Q fun v H2 e2 r => q v H2 e2 (k v H2 (e.trans e2) r)
theorem ep_ev (h : Ev te σ H v) : EvP te σ H (fun x _ => x = v) := fun H1 e Q q => h H1 e Q fun H2 e2 => q v H2 e2 rfl
theorem ep_l {xs : List V} (h : EvL te σ H xs) : EvP te σ H (fun x H2 => ∃ p, x = .ref p ∧ H p = none ∧ H2 p = some (.lst xs)) := fun H1 e Q q => h H1 e Q fun p H2 hp e2 h2 => q _ H2 e2 ⟨p, rfl, fresh_back e hp, h2⟩
theorem ep_u {xs : List V} (h : EvU te σ H xs) : EvP te σ H (fun x H2 => ∃ p, x = .ref p ∧ H p = none ∧ H2 p = some (.tup xs)) := fun H1 e Q q => h H1 e Q fun p H2 hp e2 h2 => q _ H2 e2 ⟨p, rfl, fresh_back e hp, h2⟩
theorem ep_if {b : Bool} (h : EvT t σ H b) (h1 : b = true → EvP ta σ H R) (h2 : b = false → EvP tb σ H R) : EvP (tIf t ta tb) σ H R := fun H1 e Q q => h H1 e _ fun H2 e2 => by
  cases b with
  | true =>
    show ta σ H2 Q
    exact h1 rfl H2 (e.trans e2) Q fun v H3 e3 r => q v H3 (e2.trans e3) r
  | false =>
    show tb σ H2 Q
    exact h2 rfl H2 (e.trans e2) Q fun v H3 e3 r => q v H3 (e2.trans e3) r
def SpP (sp : Sp) (vs : List V) (H : Hp) (R : V → Hp → Prop) : Prop := ∀ H1, Ex H H1 → ∀ Q : VK, (∀ v H2, Ex H1 H2 → R v H2 → Q v H2) → ∀ E : XK, sp vs H1 Q E
theorem ep_call {sp : Sp} {dvs vs : List V} {E : XK} {ta : TA} (h : EvA ta σ H vs) (hs : SpP sp (vs ++ dvs) H R) : EvP (tCall sp dvs E ta) σ H R := fun H1 e Q q =>
  h H1 e _ fun H2 e2 => hs H2 (e.trans e2) Q (fun v H3 e3 r => q v H3 (e2.trans e3) r) E
/-- what stands behind an evaluation is used by the next one -/
theorem ep_op (ha : EvP ta σ H R) (hb : ∀ x H1, Ex H H1 → R x H1 → Ev tb σ H1 y) (hr : ∀ x H1, Ex H H1 → R x H1 → RV r x y H1 z) (hm : ∀ x H1 H2, R x H1 → Ex H1 H2 → R x H2) : Ev (tOp r ta tb) σ H z := fun H1 e Q q =>
  ha H1 e _ fun x H2 e2 hx => hb x H2 (e.trans e2) hx H2 (Ex.refl H2) _ fun H3 e3 => hr x H3 ((e.trans e2).trans e3) (hm x H2 H3 hx e3) H3 (Ex.refl H3) Q fun H4 e4 => q H4 ((e2.trans e3).trans e4)
/-! ### statements -/
variable {D : Ends} {tu tw tz : TS}
theorem s_asgP {i : Nat} (h : EvP te σ H R) (k : ∀ v H1, Ex H H1 → R v H1 → D.nx (σ.set i (some v)) H1) : tAsg te (gName i) D σ H := h H (Ex.refl H) _ fun v H1 e r => k v H1 e r
theorem q_asgP {i : Nat} (h : EvP te σ H R) (k : ∀ v H1, Ex H H1 → R v H1 → tz D (σ.set i (some v)) H1) : tSeq (tAsg te (gName i)) tz D σ H := s_asgP (D := { D with nx := tz D }) h k
theorem s_retP (h : EvP te σ H R) (k : ∀ v H1, Ex H H1 → R v H1 → D.rt v H1) : tRet te D σ H := h H (Ex.refl H) _ fun v H1 e r => k v H1 e r
/-! ### texts -/
theorem ev_slS {tl th : TO} {w : Str} {lo hi : Option Int} (h : Ev te σ H (.str w)) (h1 : EvO tl σ H lo) (h2 : EvO th σ H hi) (hz : w.length ≤ sizeLine) : Ev (tSl rSlS te tl th) σ H (.str (cutS w lo hi)) := fun H1 e Q q =>
  h H1 e _ fun H2 e2 => h1 H2 (e.trans e2) _ fun H3 e3 => h2 H3 ((e.trans e2).trans e3) _ fun H4 e4 => ⟨w, rfl, hz, q H4 ((e2.trans e3).trans e4)⟩
theorem cut_from {w : Str} {a : Nat} : TL.tl (cutS w (some (a : Int)) none) = (TL.tl w).drop a := by
  have hl : w.length = w.cps.toList.length := by simp [Str.length]
  show ((w.cps.toList.drop (HT.sIx w.length 0 (some (a : Int)))).take (HT.sIx w.length w.length none - HT.sIx w.length 0 (some (a : Int)))) = w.cps.toList.drop a
  rw [HT.sIx_nat, HT.sIx_none, hl]
  by_cases ha : a ≤ w.cps.toList.length
  · rw [Nat.min_eq_left ha]
    exact List.take_of_length_le (by rw [List.length_drop]; omega)
  · rw [Nat.min_eq_right (by omega), Nat.sub_self, List.take_zero, List.drop_eq_nil_of_le (by omega)]
theorem cut_to {w : Str} {b : Nat} : TL.tl (cutS w none (some (b : Int))) = (TL.tl w).take b := by
  have hl : w.length = w.cps.toList.length := by simp [Str.length]
  show ((w.cps.toList.drop (HT.sIx w.length 0 none)).take (HT.sIx w.length w.length (some (b : Int)) - HT.sIx w.length 0 none)) = w.cps.toList.take b
  rw [HT.sIx_nat, HT.sIx_none, hl, List.drop_zero, Nat.sub_zero]
  by_cases hb : b ≤ w.cps.toList.length
  · rw [Nat.min_eq_left hb]
  · rw [Nat.min_eq_right (by omega), List.take_of_length_le (Nat.le_refl _), List.take_of_length_le (by omega)]
/-! ### tests -/
theorem ev_chain {a b : Bool} (ha : Ev ta σ H x) (hb : Ev tb σ H y) (hr : RV r x y H (.bl a)) (hc : a = true → Ev tc σ H z) (hr' : a = true → RV r' y z H (.bl b)) : Ev (tChain r r' ta tb tc) σ H (.bl (a && b)) := fun H1 e Q q =>
  ha H1 e _ fun H2 e2 => hb H2 (e.trans e2) _ fun H3 e3 => hr H3 ((e.trans e2).trans e3) _ fun H4 e4 => ⟨a, rfl, by
    cases a with
    | true =>
      show tc σ H4 fun w' H5 => r' y w' H5 Q
      exact hc rfl H4 (((e.trans e2).trans e3).trans e4) _ fun H5 e5 => hr' rfl H5 ((((e.trans e2).trans e3).trans e4).trans e5) Q fun H6 e6 => q H6 ((((e2.trans e3).trans e4).trans e5).trans e6)
    | false =>
      show Q (.bl false) H4
      exact q H4 ((e2.trans e3).trans e4)⟩
theorem rv_str {w s : Str} : RV rEq (.str w) (.str s) H (.bl (decide (w = s))) := fun H1 _ Q q => ⟨rfl, by
  have e : decide (V.str w = V.str s) = decide (w = s) := by
    by_cases h : w = s
    · subst h
      rw [decide_eq_true rfl, decide_eq_true rfl]
    · rw [decide_eq_false h, decide_eq_false fun z => h (V.str.inj z)]
  rw [e]
  exact q H1 (Ex.refl H1)⟩
theorem rv_strN {w s : Str} : RV rNe (.str w) (.str s) H (.bl (!decide (w = s))) := fun H1 _ Q q => ⟨rfl, by
  have e : decide (V.str w = V.str s) = decide (w = s) := by
    by_cases h : w = s
    · subst h
      rw [decide_eq_true rfl, decide_eq_true rfl]
    · rw [decide_eq_false h, decide_eq_false fun z => h (V.str.inj z)]
  rw [e]
  exact q H1 (Ex.refl H1)⟩
theorem rv_int {i j : Int} : RV rEq (.int i) (.int j) H (.bl (decide (i = j))) := fun H1 _ Q q => ⟨rfl, by
  rw [dec_int, ← Bool.beq_eq_decide_eq] at *
  exact q H1 (Ex.refl H1)⟩
theorem rv_intN {i j : Int} : RV rNe (.int i) (.int j) H (.bl (!decide (i = j))) := fun H1 _ Q q => ⟨rfl, by
  rw [dec_int, ← Bool.beq_eq_decide_eq] at *
  exact q H1 (Ex.refl H1)⟩
/-! ### comprehensions over anything that stands still -/
theorem cw_turn2 {H H' : Hp} {f : Nat → Bool} {v : Nat → V} {Dl : Addr} {i : Nat} {σ2 : L2.St} (p : Cw H f v Dl i H') (hi : i < sizeLine) (ht : EvT t σ2 H (f i)) (he : f i = true → Ev te σ2 H (v i)) :
    t σ2 H' fun b H3 => if b = true then te σ2 H3 fun y H4 => ∃ acc, H4 Dl = some (.lst acc) ∧ acc.length < sizeLine ∧ Cw H f v Dl (i + 1) (upd H4 Dl (.lst (acc ++ [y]))) else Cw H f v Dl (i + 1) H3 := by
  obtain ⟨p1, p2, p3⟩ := p
  refine ht H' p2 _ fun H3 e3 => ?_
  cases hf : f i with
  | true =>
    show te σ2 H3 fun y H4 => ∃ acc, H4 Dl = some (.lst acc) ∧ acc.length < sizeLine ∧ Cw H f v Dl (i + 1) (upd H4 Dl (.lst (acc ++ [y])))
    refine he hf H3 (p2.trans e3) _ fun H4 e4 => ⟨given i f v, e4 Dl _ (e3 Dl _ p3), Nat.lt_of_le_of_lt (given_len i f v) hi, p1, Ex.mut ((p2.trans e3).trans e4) p1, ?_⟩
    rw [given_yes hf]
    exact upd_same
  | false =>
    show Cw H f v Dl (i + 1) H3
    refine ⟨p1, p2.trans e3, ?_⟩
    rw [given_no hf]
    exact e3 Dl _ p3
/-- the target is a name, the items are given by their place -/
theorem lc_evN {J : It} {n j : Nat} {G : Hp → Prop} {vs : List Nat} {it : Nat → V} {H1 : Hp} {Dl : Addr} {Qd : Hp → Prop} (w : Walk J n G (fun i H x H' => H' = H ∧ x = it i)) (f : Nat → Bool) (v : Nat → V) (hn : n ≤ sizeLine) (hD : H1 Dl = none)
    (hG : ∀ H', Ex H1 H' → G H') (hw : ∀ x, wipe ((wipe σ vs).set j (some x)) vs = wipe σ vs)
    (ht : ∀ i, i < n → EvT t ((wipe σ vs).set j (some (it i))) H1 (f i)) (he : ∀ i, i < n → f i = true → Ev te ((wipe σ vs).set j (some (it i))) H1 (v i))
    (hd : ∀ H', Ex H1 H' → H' Dl = some (.lst (given n f v)) → Qd H') :
    ∃ W : Nat → Nat → Hp → Prop, (∃ m, W 0 m (upd H1 Dl (.lst []))) ∧ ∀ i m H, W i m H →
      (J.stop i H ∧ Qd H) ∨ (J.go i H ∧ ∃ Nx : Hp → Prop, (∀ H', Nx H' → ∃ m', m' < m ∧ W (i + 1) m' H') ∧ ∀ x H', J.yld i H x H' → gName j x (wipe σ vs) H' fun σ2 H2 => wipe σ2 vs = wipe σ vs ∧ t σ2 H2 fun b H3 =>
        if b = true then te σ2 H3 fun y H4 => ∃ acc, H4 Dl = some (.lst acc) ∧ acc.length < sizeLine ∧ Nx (upd H4 Dl (.lst (acc ++ [y]))) else Nx H3) :=
  lc_it w (g := gName j) (Cw H1 f v Dl) ⟨hD, Ex.new hD, upd_same⟩ (fun i H' _ p => hG H' p.2.1)
    (fun i x H2 H' hi p y => by
      obtain ⟨e1, e2⟩ := y
      subst e1 e2
      exact ⟨hw _, cw_turn2 p (Nat.lt_of_lt_of_le hi hn) (ht i hi) (he i hi)⟩)
    (fun H' p => hd H' p.2.1 p.2.2)
theorem el_lcSt {tl : TE} {j : Nat} {vs : List Nat} {w : Str} (f : Nat → Bool) (v : Nat → V) (h : Ev tl σ H (.str w)) (hz : w.cps.size ≤ sizeLine) (hw : ∀ x, wipe ((wipe σ vs).set j (some x)) vs = wipe σ vs)
    (ht : ∀ i H1, Ex H H1 → i < w.cps.size → EvT t ((wipe σ vs).set j (some (.str ⟨#[w.cps.getD i 0]⟩))) H1 (f i)) (he : ∀ i H1, Ex H H1 → i < w.cps.size → f i = true → Ev te ((wipe σ vs).set j (some (.str ⟨#[w.cps.getD i 0]⟩))) H1 (v i)) :
    EvL (tLc (iStr tl) (gName j) t te vs) σ H (given w.cps.size f v) := fun H0 e Q q => h H0 e _ fun H1 e1 => ⟨w, rfl, fun Dl hD =>
  lc_evN (it := fun i => .str ⟨#[w.cps.getD i 0]⟩) (walk_str.mono (fun _ h => h) fun i H x H' hi _ y => by
      obtain ⟨y1, c, y2, y3⟩ := y
      refine ⟨y1, ?_⟩
      rw [y3]
      have e2 : w.cps.getD i 0 = c := by simp [Array.getD, hi]; exact (by rw [Array.getElem?_eq_getElem hi] at y2; exact Option.some.inj y2)
      rw [e2]) f v hz hD (fun _ _ => trivial) hw (fun i hi => ht i H1 (e.trans e1) hi) (fun i hi => he i H1 (e.trans e1) hi) fun H' e' h' => q Dl H' (fresh_back e1 hD) (e1.trans e') h'⟩
theorem el_lcR {ta : TA} {j : Nat} {vs : List Nat} {n : Int} (f : Nat → Bool) (v : Nat → V) (h : EvA ta σ H [.int n]) (hn : -(2 ^ 62) ≤ n ∧ n ≤ 16777216) (hw : ∀ x, wipe ((wipe σ vs).set j (some x)) vs = wipe σ vs)
    (ht : ∀ (i : Nat) H1, Ex H H1 → (i : Int) < n → EvT t ((wipe σ vs).set j (some (.int (i : Int)))) H1 (f i)) (he : ∀ (i : Nat) H1, Ex H H1 → (i : Int) < n → f i = true → Ev te ((wipe σ vs).set j (some (.int (i : Int)))) H1 (v i)) :
    EvL (tLc (iRng1 ta) (gName j) t te vs) σ H (given n.toNat f v) := fun H0 e Q q => h H0 e _ fun H1 e1 => ⟨n, rfl, hn.1, by omega, fun Dl hD =>
  lc_evN (it := fun i => .int (i : Int)) (walk_range.mono (fun _ h => h) fun i H x H' hi _ y => ⟨y.1, by rw [y.2]; show V.int (0 + (i : Int)) = V.int (i : Int); rw [Int.zero_add]⟩) f v (by rw [sizeLine_eq]; omega) hD (fun _ _ => trivial) hw (fun i hi => ht i H1 (e.trans e1) (by omega)) (fun i hi => he i H1 (e.trans e1) (by omega))
    fun H' e' h' => q Dl H' (fresh_back e1 hD) (e1.trans e') h'⟩
theorem el_lcLi {a : Addr} {xs : List V} {tl : TE} {j : Nat} {vs : List Nat} (f : Nat → Bool) (v : Nat → V) (h : Ev tl σ H (.ref a)) (hx : SqL K H a xs) (hz : xs.length ≤ sizeLine) (hw : ∀ x, wipe ((wipe σ vs).set j (some x)) vs = wipe σ vs)
    (ht : ∀ (i : Nat) H1, Ex H H1 → i < xs.length → EvT t ((wipe σ vs).set j (some (xs.getD i .non))) H1 (f i)) (he : ∀ (i : Nat) H1, Ex H H1 → i < xs.length → f i = true → Ev te ((wipe σ vs).set j (some (xs.getD i .non))) H1 (v i)) :
    EvL (tLc (iList K tl) (gName j) t te vs) σ H (given xs.length f v) := fun H0 e Q q => h H0 e _ fun H1 e1 => ⟨a, rfl, ⟨xs, ex_l (e.trans e1) hx⟩, fun Dl hD =>
  lc_evN (it := fun i => xs.getD i .non) (walk_list.mono (fun _ h => h) fun i H x H' hi _ y => ⟨y.1, by rw [List.getD_eq_getElem?_getD, y.2]; rfl⟩) f v hz hD (fun H' e' => ex_l ((e.trans e1).trans e') hx) hw (fun i hi => ht i H1 (e.trans e1) hi) (fun i hi => he i H1 (e.trans e1) hi)
    fun H' e' h' => q Dl H' (fresh_back e1 hD) (e1.trans e') h'⟩
/-- over a new list -/
theorem el_lcNLi {xs : List V} {tl : TE} {j : Nat} {vs : List Nat} (f : Nat → Bool) (v : Nat → V) (h : EvL tl σ H xs) (hz : xs.length ≤ sizeLine) (hw : ∀ x, wipe ((wipe σ vs).set j (some x)) vs = wipe σ vs)
    (ht : ∀ (i : Nat) H1, Ex H H1 → i < xs.length → EvT t ((wipe σ vs).set j (some (xs.getD i .non))) H1 (f i)) (he : ∀ (i : Nat) H1, Ex H H1 → i < xs.length → f i = true → Ev te ((wipe σ vs).set j (some (xs.getD i .non))) H1 (v i)) :
    EvL (tLc (iList K tl) (gName j) t te vs) σ H (given xs.length f v) := fun H0 e Q q => h H0 e _ fun a H1 ha e1 hx => ⟨a, rfl, ⟨xs, sq_of hx⟩, fun Dl hD =>
  lc_evN (it := fun i => xs.getD i .non) ((walk_list (K := K)).mono (fun _ h => h) fun i H x H' hi _ y => ⟨y.1, by rw [List.getD_eq_getElem?_getD, y.2]; rfl⟩) f v hz hD (fun H' e' => sq_of (e' a _ hx)) hw (fun i hi => ht i H1 (e.trans e1) hi) (fun i hi => he i H1 (e.trans e1) hi)
    fun H' e' h' => q Dl H' (fresh_back e1 hD) (e1.trans e') h'⟩
theorem et_yes : EvT tYes σ H true := fun H1 _ Q q => q H1 (Ex.refl H1)
theorem given_all {n : Nat} {v : Nat → V} : given n (fun _ => true) v = (List.range n).map v := by
  unfold given
  rw [List.filter_eq_self.mpr fun _ _ => rfl]
theorem given_list {α : Type} (xs : List α) (d : α) (g : α → V) : (List.range xs.length).map (fun i => g (xs.getD i d)) = xs.map g := by
  apply List.ext_getElem
  · simp
  · intro i h1 h2
    simp at h1
    simp [h1]
/-! ### calls of built-ins -/
theorem ev_all {bs : List Bool} (h : EvL ta σ H (bs.map V.bl)) : Ev (tCB (rAll K) (tCons ta tNil)) σ H (.bl (bs.all id)) := fun H1 e Q q =>
  h H1 e _ fun p H2 _ e2 hp => ⟨p, bs, rfl, SqL.of hp, q H2 e2⟩
theorem ev_lenS {w : Str} (h : Ev ta σ H (.str w)) (hz : w.length ≤ sizeLine) : Ev (tCB (fun xs H Q => ∃ z, xs = [.str z] ∧ z.length ≤ sizeLine ∧ Q (.int z.length) H) (tCons ta tNil)) σ H (.int w.length) := fun H1 e Q q =>
  h H1 e _ fun H2 e2 => ⟨w, rfl, hz, q H2 e2⟩
theorem ev_intS {w : Str} {n : Int} (h : Ev ta σ H (.str w)) (hn : PySem.intText? w = some n) (hz : w.length ≤ 640) : Ev (tCB (fun xs H Q => ∃ a n, xs = [.str a] ∧ PySem.intText? a = some n ∧ a.length ≤ 640 ∧ Q (.int n) H) (tCons ta tNil)) σ H (.int n) := fun H1 e Q q =>
  h H1 e _ fun H2 e2 => ⟨w, n, rfl, hn, hz, q H2 e2⟩
end
end K9
end
section
set_option Elab.async false
set_option linter.all false
set_option maxRecDepth 100000
set_option maxHeartbeats 4000000
/-! the program's text by places, what its top leaves -/
namespace K9
open PySem PySem.Spec PyProof.Rows L2 Evl
/-- the i-th statement of the top -/
def top (i : Nat) : Stmt := PySem.Challenge.pw_dayrecipes_k09_whole_calendar_texts_refu.main.body.getD i (.Pass ⟨0, 0, 0, 0⟩)
/-- a def of the top as it stands behind it -/
abbrev FnP (K : PySem.W.Frag) (x : Str) (st : Stmt) (f : Addr) (fd : FuncData) : Prop := FunD K x x (defArgs st) (defBody st) (defScope st) [] [] f fd
def optV : Option Int → V
  | none => .non
  | some i => .int i
def GcI (mg : Str → Option Value) (x : Str) (i : Int) : Prop := ∃ u, mg x = some u ∧ RelV (.int i) u
def GcS (mg : Str → Option Value) (x s : Str) : Prop := ∃ u, mg x = some u ∧ RelV (.str s) u
/-- the names that the module does not bind, its constants -/
structure Txt (mg : Str → Option Value) : Prop where
  abs : mg "abs" = none
  all : mg "all" = none
  int : mg "int" = none
  isinstance : mg "isinstance" = none
  len : mg "len" = none
  list : mg "list" = none
  min : mg "min" = none
  range : mg "range" = none
  repr : mg "repr" = none
  set : mg "set" = none
  sorted : mg "sorted" = none
  str : mg "str" = none
  sum : mg "sum" = none
  tuple : mg "tuple" = none
  bool : mg "bool" = none
  ValueError : mg "ValueError" = none
  MAX_PERIOD : GcI mg "MAX_PERIOD" 200000
  MAX_YEARS : GcI mg "MAX_YEARS" 400
  MAX_MONTHS : GcI mg "MAX_MONTHS" 14
  MAX_DAYS : GcI mg "MAX_DAYS" 40
  MAX_WEEK : GcI mg "MAX_WEEK" 10
  SHORT_PERIOD : GcI mg "SHORT_PERIOD" 2000
  DIGITS : GcS mg "DIGITS" "0123456789"
/-- a def that may be called by its name and lets nothing out -/
abbrev CalN (P : Program) (w : World) (K : PySem.W.Frag) (mg : Str → Option Value) (base : Heap) (k : Nat) (x : Str) (sp : Sp) : Prop := C8.Cal P w K mg base k x sp []
/-- the shape of most promises: arguments, the answer told by a property of the heap behind it; nothing that stood is changed -/
def spR (pre : List V → Hp → (V → Hp → Prop) → Prop) : Sp := fun vs H Q _ => ∃ R, pre vs H R ∧ ∀ v H', Ex H H' → R v H' → Q v H'
theorem spP_of {pre : List V → Hp → (V → Hp → Prop) → Prop} {vs : List V} {H : Hp} {R : V → Hp → Prop} (h : ∀ H1, Ex H H1 → ∃ R1, pre vs H1 R1 ∧ ∀ v H2, Ex H1 H2 → R1 v H2 → R v H2) : SpP (spR pre) (vs ++ []) H R := fun H1 e Q q E => by
  obtain ⟨R1, h1, h2⟩ := h H1 e
  rw [List.append_nil]
  exact ⟨R1, h1, fun v H2 e2 r => q v H2 e2 (h2 v H2 e2 r)⟩
section
variable {P : Program} {w : World} {K : PySem.W.Frag} {mg : Str → Option Value} {base : Heap}
theorem cal_of {x : Str} {st : Stmt} {f : Addr} {fd : FuncData} {ps : List Str} {k : Nat} {sp : Sp} (F : FnP K x st f fd) (hm : mg x = some (.ref f)) (ok : FnOk P w K mg base CX0 k f fd ps sp)
    (h : ∀ (kV doc pm : Value) (an : Option Addr) (cdv ct : Value) (us : List Value), us.length = ps.length → bindArgs (PySem.W.fnOf x x (defArgs st) (defBody st) (defScope st) .none kV doc pm an cdv ct) ⟨us, []⟩ = pure (ps.zip us)) : CalN P w K mg base k x sp :=
  ⟨f, fd, ps, [], ok, hm, F.kp, F.bindsN h, .nil⟩
end
end K9
end
section
set_option Elab.async false
set_option linter.all false
set_option maxRecDepth 100000
set_option maxHeartbeats 4000000
namespace K9
open PySem PySem.Spec PyProof.Rows L2 Evl
/-! ### number_in: the number that a word writes, also a negative one -/
/-- of at most twelve signs, by their codes -/
def numL? (l : List Nat) : Option Int :=
  let d := if l.take 1 = [45] then l.drop 1 else l
  if 1 ≤ d.length ∧ d.length ≤ 12 ∧ d.all dig = true then (if l = [48] ∨ d.head? ≠ some 48 then PySem.intText? ⟨l.toArray⟩ else none) else none
def sp12 : Sp := spR fun vs H R => ∃ w : Str, vs = [.str w, .int 12] ∧ w.length ≤ 1000000 ∧ R = fun v _ => v = optV (numL? (TL.tl w))
abbrev s12 : Stmt := top 12
theorem sc12 : FnScope ["word", "most", "digits", "sign"] ["word", "most"] (defScope s12) := ⟨rfl, rfl, rfl, by decide +kernel, rfl, by decide +kernel, by decide +kernel⟩
theorem mem_digits {c : Nat} : decide (c ∈ (Str.ofString "0123456789").cps.toList) = dig c := by
  have e : (Str.ofString "0123456789").cps.toList = [48, 49, 50, 51, 52, 53, 54, 55, 56, 57] := by decide +kernel
  rw [e]
  unfold dig
  rw [Bool.eq_iff_iff]
  simp only [decide_eq_true_eq, Bool.and_eq_true, List.mem_cons, List.not_mem_nil, or_false]
  omega
/-- the word without a minus ahead -/
def dgs (l : List Nat) : Str := ⟨(if l.take 1 = [45] then l.drop 1 else l).toArray⟩
theorem tl_dgs (l : List Nat) : TL.tl (dgs l) = if l.take 1 = [45] then l.drop 1 else l := rfl
theorem minus_iff {z : Str} : cutS z none (some 1) = Str.ofString "-" ↔ (TL.tl z).take 1 = [45] := by
  have e : TL.tl (Str.ofString "-") = [45] := by decide +kernel
  have e2 : TL.tl (cutS z none (some 1)) = (TL.tl z).take 1 := cut_to (b := 1)
  constructor
  · intro h
    rw [← e2, h, e]
  · intro h
    exact TL.ext_tl (by rw [e2, h, e])
theorem el_is {te : TE} {σ : L2.St} {H : Hp} {xs ys : List V} (h : EvL te σ H xs) (e : xs = ys) : EvL te σ H ys := e ▸ h
theorem given_str (z : Str) (g : Nat → Bool) : given z.cps.size (fun _ => true) (fun i => .bl (g (z.cps.getD i 0))) = ((TL.tl z).map g).map V.bl := by
  rw [given_all, List.map_map]
  have e := given_list (TL.tl z) 0 fun c => V.bl (g c)
  have el : (TL.tl z).length = z.cps.size := by simp [TL.tl]
  rw [el] at e
  rw [← show (TL.tl z).map (fun c => V.bl (g c)) = (TL.tl z).map (V.bl ∘ g) from rfl, ← e]
  refine List.map_congr_left fun i hi => ?_
  have hi' : i < z.cps.size := List.mem_range.mp hi
  simp [TL.tl, Array.getD, hi', List.getD_eq_getElem?_getD]
theorem rv_sign {c : Nat} {z : Str} {H : Hp} {b : Bool} (e : decide (c ∈ z.cps.toList) = b) : RV (fun x y H Q => ∃ (c : Nat) (z : Str), x = .str ⟨#[c]⟩ ∧ y = .str z ∧ Q (.bl (decide (c ∈ z.cps.toList))) H) (.str ⟨#[c]⟩) (.str z) H (.bl b) := fun H1 _ Q q =>
  ⟨c, z, rfl, rfl, by rw [e]; exact q H1 (Ex.refl H1)⟩
theorem numL_no {l : List Nat} (h : ¬ (1 ≤ (TL.tl (dgs l)).length ∧ (TL.tl (dgs l)).length ≤ 12 ∧ (TL.tl (dgs l)).all dig = true)) : numL? l = none := if_neg h
theorem numL_yes {l : List Nat} (h : 1 ≤ (TL.tl (dgs l)).length ∧ (TL.tl (dgs l)).length ≤ 12 ∧ (TL.tl (dgs l)).all dig = true) (h2 : l = [48] ∨ (TL.tl (dgs l)).head? ≠ some 48) : numL? l = PySem.intText? ⟨l.toArray⟩ := (if_pos h).trans (if_pos h2)
theorem numL_zero {l : List Nat} (h : 1 ≤ (TL.tl (dgs l)).length ∧ (TL.tl (dgs l)).length ≤ 12 ∧ (TL.tl (dgs l)).all dig = true) (h2 : ¬ (l = [48] ∨ (TL.tl (dgs l)).head? ≠ some 48)) : numL? l = none := (if_pos h).trans (if_neg h2)
theorem num_there {l : List Nat} (h : 1 ≤ (TL.tl (dgs l)).length ∧ (TL.tl (dgs l)).length ≤ 12 ∧ (TL.tl (dgs l)).all dig = true) : ∃ n, PySem.intText? ⟨l.toArray⟩ = some n := by
  obtain ⟨h1, h2, h3⟩ := h
  rw [tl_dgs] at h1 h2 h3
  have hd := dig_all h3
  by_cases c : l.take 1 = [45]
  · rw [if_pos c] at h1 h2 hd
    have e : l = 45 :: l.drop 1 := by
      cases l with
      | nil => cases c
      | cons a r =>
        have z : [a] = [45] := c
        rw [(List.cons.inj z).1]
        rfl
    exact ⟨_, PySem.intText_neg (x := ⟨l.toArray⟩) e hd (fun z => by rw [z] at h1; exact absurd h1 (by decide)) (by rw [TL.len_tl, TL.tl_mk, e, List.length_cons]; omega)⟩
  · rw [if_neg c] at h1 h2 hd
    exact ⟨_, PySem.intText_digits (x := ⟨l.toArray⟩) hd (fun z => by have z2 : l = [] := z; rw [z2] at h1; exact absurd h1 (by decide)) (by rw [TL.len_tl, TL.tl_mk]; omega)⟩
/-- in bounds that are not negative: the word's own number -/
theorem numL_bnd {l : List Nat} {lo hi : Int} (h0 : 0 ≤ lo) : (match numL? l with
    | some i => if lo ≤ i ∧ i ≤ hi then some i else none
    | none => none) = bnd lo hi ⟨l.toArray⟩ := by
  unfold bnd
  rw [TL.tl_mk]
  by_cases hc : 1 ≤ (TL.tl (dgs l)).length ∧ (TL.tl (dgs l)).length ≤ 12 ∧ (TL.tl (dgs l)).all dig = true
  · by_cases c : l.take 1 = [45]
    · have hcan : canon l = none := by
        unfold canon
        rw [if_neg]
        rintro ⟨_, h2, _⟩
        cases l with
        | nil => cases c
        | cons a r =>
          have z : [a] = [45] := c
          rw [(List.cons.inj z).1, List.all_cons] at h2
          exact absurd (Bool.and_eq_true_iff.mp h2).1 (by decide)
      rw [hcan]
      by_cases h2 : l = [48] ∨ (TL.tl (dgs l)).head? ≠ some 48
      · rw [numL_yes hc h2]
        obtain ⟨h1, h2', h3⟩ := hc
        rw [tl_dgs, if_pos c] at h1 h2' h3
        have hd := dig_all h3
        have e : l = 45 :: l.drop 1 := by
          cases l with
          | nil => cases c
          | cons a r =>
            have z : [a] = [45] := c
            rw [(List.cons.inj z).1]
            rfl
        rw [PySem.intText_neg (x := ⟨l.toArray⟩) e hd (fun z => by rw [z] at h1; exact absurd h1 (by decide)) (by rw [TL.len_tl, TL.tl_mk, e, List.length_cons]; omega)]
        have hp : 1 ≤ NumText.digitsVal (l.drop 1) := by
          rcases h2 with h2 | h2
          · rw [h2] at c
            exact absurd c (by decide)
          · rw [tl_dgs, if_pos c] at h2
            cases e3 : l.drop 1 with
            | nil => rw [e3] at h1; exact absurd h1 (by decide)
            | cons a r =>
              rw [e3] at h2 hd
              have a1 := hd.head
              have a2 : a ≠ 48 := fun z => h2 (by rw [z]; rfl)
              exact val_pos r a (by omega)
        show (if lo ≤ -((NumText.digitsVal (l.drop 1) : Nat) : Int) ∧ _ then _ else none) = none
        rw [if_neg (by omega)]
      · rw [numL_zero hc h2]
    · by_cases h2 : l = [48] ∨ (TL.tl (dgs l)).head? ≠ some 48
      · rw [numL_yes hc h2]
        obtain ⟨h1, h2', h3⟩ := hc
        rw [tl_dgs, if_neg c] at h1 h2' h3
        rw [tl_dgs, if_neg c] at h2
        have hd := dig_all h3
        have hne : l ≠ [] := fun z => by rw [z] at h1; exact absurd h1 (by decide)
        rw [PySem.intText_digits (x := ⟨l.toArray⟩) hd hne (by rw [TL.len_tl, TL.tl_mk]; omega)]
        have hcan : canon l = some (NumText.digitsVal l) := by
          unfold canon
          rw [if_pos ⟨h2', h3, h2.imp id fun z => ⟨hne, z⟩⟩]
        rw [hcan]
      · rw [numL_zero hc h2]
        have hcan : canon l = none := by
          unfold canon
          rw [if_neg]
          rintro ⟨_, _, z⟩
          rw [tl_dgs, if_neg c] at h2
          exact h2 (z.imp id fun y => y.2)
        rw [hcan]
  · rw [numL_no hc]
    have hcan : canon l = none := by
      unfold canon
      rw [if_neg]
      rintro ⟨h1, h2, h3⟩
      have c : l.take 1 ≠ [45] := by
        intro c
        cases l with
        | nil => cases c
        | cons a r =>
          have z : [a] = [45] := c
          rw [(List.cons.inj z).1, List.all_cons] at h2
          exact absurd (Bool.and_eq_true_iff.mp h2).1 (by decide)
      refine hc ?_
      rw [tl_dgs, if_neg c]
      refine ⟨?_, h1, h2⟩
      rcases h3 with h3 | ⟨h3, _⟩
      · rw [h3]; decide
      · cases l with
        | nil => exact absurd rfl h3
        | cons a r => simp
    rw [hcan]
section
variable {P : Program} {w : World} {K : PySem.W.Frag} {mg : Str → Option Value} {base : Heap} {f : Addr} {fd : FuncData}
theorem ok12 (F : FnP K "number_in" s12 f fd) (T : Txt mg) : FnOk P w K mg base CX0 1 f fd ["word", "most"] sp12 := by
  refine F.ok sc12 (fun vs H Q E h => ?_) (fun cdv A outer s H vs Q E hr h => ?_)
  · obtain ⟨R, ⟨w, rfl, _⟩, _⟩ := h
    rfl
  · obtain ⟨R, ⟨z, rfl, hz, rfl⟩, k⟩ := h
    have nd := sc12.nd
    have hzs : z.length ≤ sizeLine := Nat.le_trans hz (by rw [sizeLine_eq]; decide)
    generalize hl : TL.tl z = l at k
    refine ⟨_, PSs.nox (pss_cons (ps_set (i := 2) nd rfl (Or.inl rfl) (pe_ifExp (pt_cmpR op_eq (pe_slice sl_str (pv 0) po_none (po_some pe_int)) pe_str (nomark _)) (pe_slice sl_str (pv 0) (po_some pe_int) po_none) (pv 0)))
    (pss_cons (ps_if (PW.pt (pw_or (pt_not (pt_chain op_le op_le pe_int (pe_callB call_len_str (by rfl) T.len (by decide +kernel) (pa_cons (pv 2) pa_nil)) (pv 1))) (pw_or1 (pt_not (pt_val (pe_callB (cr_all rfl) (by rfl) T.all (by decide +kernel) (pa_cons (pe_lc (own := [("sign", 3)]) (g := gName 3) rfl nd (pi_str (pv 2)) (blkOk_by (own := [("sign", 3)]) (N := ["word", "most", "digits", "sign"]) (sc := defScope s12) (by decide +kernel)) (fun _ _ _ _ _ => (pg_name (i := 3) nd rfl (Or.inl rfl))) (fun _ _ _ _ _ => pts_nil) (fun _ _ _ _ _ => (pe_cmpR op_in_sign (pv 3) (C8.pe_gc (by rfl) T.DIGITS) (by rfl)))) pa_nil))))))) (pss_one (ps_ret pe_non)) pss_nil)
    (pss_one (ps_ret (pe_ifExp (PW.pt (pw_or (pt_cmpR op_eq (pv 0) pe_str (nomark _)) (pw_or1 (pt_cmpR op_ne (pe_ix ix_str (pv 2) pe_int (fun _ _ => rfl)) pe_str (nomark _))))) (pe_callTy call_int_str (by rfl) T.int (by decide +kernel) (pa_cons (pv 0) pa_nil)) pe_non))))), ?_⟩
    refine q_asg (v := .str (dgs l)) ?_ fun H1 e1 => ?_
    · refine ev_if (et_test (ev_op (ev_slS (ev_var rfl) eo_none (eo_some ev_c) hzs) ev_c rv_str)) (fun h => ?_) (fun h => ?_)
      · refine ev_is (ev_slS (ev_var rfl) (eo_some ev_c) eo_none hzs) (congrArg V.str (TL.ext_tl ?_))
        rw [show TL.tl (cutS z (some 1) none) = (TL.tl z).drop 1 from cut_from (a := 1), hl, tl_dgs, if_pos (hl ▸ minus_iff.mp (of_decide_eq_true h))]
      · refine ev_is (ev_var rfl) (congrArg V.str (TL.ext_tl ?_))
        rw [hl, tl_dgs, if_neg fun c => of_decide_eq_false h (minus_iff.mpr (hl ▸ c))]
    have hd : (TL.tl (dgs l)).length ≤ 1000000 := by
      rw [tl_dgs]
      have : l.length ≤ 1000000 := by rw [← hl, ← TL.len_tl]; exact hz
      split
      · rw [List.length_drop]; omega
      · exact this
    have hds : (dgs l).length ≤ sizeLine := by rw [TL.len_tl, sizeLine_eq]; omega
    have eb : (!(decide ((1 : Int) ≤ ((dgs l).length : Int)) && decide (((dgs l).length : Int) ≤ 12)) || !(((TL.tl (dgs l)).map dig).all id)) = !decide (1 ≤ (TL.tl (dgs l)).length ∧ (TL.tl (dgs l)).length ≤ 12 ∧ (TL.tl (dgs l)).all dig = true) := by
      have e1 : (dgs l).length = (TL.tl (dgs l)).length := TL.len_tl _
      rw [e1, List.all_map]
      show (_ || !((TL.tl (dgs l)).all dig)) = _
      generalize (TL.tl (dgs l)).length = m
      cases (TL.tl (dgs l)).all dig <;> rw [Bool.eq_iff_iff] <;> simp <;> omega
    refine q_when (et_is (et_or (et_not (et_test (ev_chain ev_c (ev_lenS (ev_var rfl) hds) rv_I0 (fun _ => ev_var rfl) (fun _ => rv_I0))))
      (fun _ => et_not (et_B (ev_all (bs := (TL.tl (dgs l)).map dig) (el_is (el_lcSt (fun _ => true) (fun i => .bl (dig ((dgs l).cps.getD i 0))) (ev_var rfl) hds (fun _ => by rfl) (fun _ _ _ _ => et_yes) (fun i H1 _ _ _ => ev_op (ev_var (v := .str ⟨#[(dgs l).cps.getD i 0]⟩) rfl) ev_c (rv_sign mem_digits))) (given_str _ dig)))))) eb) ?_ ?_
    · intro h H2 e2
      refine s_ret ev_c fun H3 e3 => k _ _ ((e1.trans e2).trans e3) ?_
      rw [numL_no fun c => by rw [decide_eq_true c] at h; cases h]
      rfl
    · intro h H2 e2
      have hc : 1 ≤ (TL.tl (dgs l)).length ∧ (TL.tl (dgs l)).length ≤ 12 ∧ (TL.tl (dgs l)).all dig = true := by
        cases e : decide (1 ≤ (TL.tl (dgs l)).length ∧ (TL.tl (dgs l)).length ≤ 12 ∧ (TL.tl (dgs l)).all dig = true) with
        | true => exact of_decide_eq_true e
        | false => rw [e] at h; cases h
      obtain ⟨d, ds, hdd⟩ : ∃ d ds, TL.tl (dgs l) = d :: ds := by
        cases e : TL.tl (dgs l) with
        | nil => rw [e] at hc; exact absurd hc.1 (by decide)
        | cons d ds => exact ⟨d, ds, rfl⟩
      have hzl : z.length ≤ 640 := by
        have q := hc.2.1
        rw [tl_dgs] at q
        rw [TL.len_tl, hl]
        split at q
        · rw [List.length_drop] at q; omega
        · omega
      have ez : z = ⟨l.toArray⟩ := TL.ext_tl hl
      obtain ⟨n, hn⟩ := num_there hc
      have ed : Ev (tIf (tOr (tTest (tOp rEq (tVar 0) (tC (.str (Str.ofString "0"))))) (tTest (tOp rNe (tOp rIxS (tVar 2) (tC (.int 0))) (tC (.str (Str.ofString "0")))))) (tCB (fun xs H Q => ∃ a n, xs = [.str a] ∧ PySem.intText? a = some n ∧ a.length ≤ 640 ∧ Q (.int n) H) (tCons (tVar 0) tNil)) (tC .non))
          [some (.str z), some (.int 12), some (.str (dgs l)), none] H2 (optV (numL? l)) := by
        refine ev_if (et_is (et_or (et_test (ev_op (ev_var rfl) ev_c rv_str)) (fun _ => et_test (ev_op (ev_op (ev_var rfl) ev_c (rv_ixS (c := d) (by have := hc.2.1; rw [TL.len_tl]; omega) (by rw [show (dgs l).cps.toList = d :: ds from hdd]; exact atI_nat (j := 0) rfl))) ev_c rv_strN)))
          (b := decide (l = [48] ∨ (TL.tl (dgs l)).head? ≠ some 48)) ?_) (fun h2 => ?_) (fun h2 => ?_)
        · rw [hdd, ← hl]
          have e0 : TL.tl (Str.ofString "0") = [48] := by decide +kernel
          have a1 : decide (z = Str.ofString "0") = decide (TL.tl z = [48]) := by
            rw [← e0]
            exact decide_eq_decide.mpr ⟨fun h => by rw [h], TL.ext_tl⟩
          have a2 : decide ((⟨#[d]⟩ : Str) = Str.ofString "0") = decide (d = 48) := by
            refine decide_eq_decide.mpr ⟨fun h => ?_, fun h => TL.ext_tl (by rw [e0, h])⟩
            have z2 := congrArg TL.tl h
            rw [e0] at z2
            exact (List.cons.inj z2).1
          rw [a1, a2]
          rw [Bool.eq_iff_iff]
          simp
        · refine ev_is (ev_intS (ev_var rfl) (n := n) (by rw [ez]; exact hn) hzl) ?_
          rw [numL_yes hc (of_decide_eq_true h2), hn]
          rfl
        · refine ev_is ev_c ?_
          rw [numL_zero hc (of_decide_eq_false h2)]
          rfl
      exact s_ret ed fun H3 e3 => k _ _ ((e1.trans e2).trans e3) rfl
end
end K9
end
section
set_option Elab.async false
set_option linter.all false
set_option maxRecDepth 100000
set_option maxHeartbeats 4000000
namespace K9
open PySem PySem.Spec PyProof.Rows L2 Evl
/-! ### more of what evaluates to what -/
theorem len_ok {n : Nat} (h : n ≤ 1000000) : n ≤ sizeLine := Nat.le_trans h (by rw [sizeLine_eq]; decide)
section
variable {K : PySem.W.Frag} {σ : L2.St} {H : Hp} {ta : TA} {te tf : TE} {vs : List V} {x y z : V} {E : XK}
theorem ev_sp {pre : List V → Hp → (V → Hp → Prop) → Prop} (h : EvA ta σ H vs) (hp : ∀ H1, Ex H H1 → ∃ R1, pre vs H1 R1 ∧ ∀ v H2, Ex H1 H2 → R1 v H2 → v = z) : Ev (tCall (spR pre) [] E ta) σ H z := fun H1 e Q q => by
  refine h H1 e _ fun H2 e2 => ?_
  obtain ⟨R1, h1, h2⟩ := hp H2 (e.trans e2)
  rw [List.append_nil]
  refine ⟨R1, h1, fun v H3 e3 r => ?_⟩
  rw [h2 v H3 e3 r]
  exact q H3 (e2.trans e3)
theorem ep_sp {pre : List V → Hp → (V → Hp → Prop) → Prop} {R : V → Hp → Prop} (h : EvA ta σ H vs) (hp : ∀ H1, Ex H H1 → ∃ R1, pre vs H1 R1 ∧ ∀ v H2, Ex H1 H2 → R1 v H2 → R v H2) : EvP (tCall (spR pre) [] E ta) σ H R := ep_call h (spP_of hp)
/-- a new list of texts -/
theorem el_split {a b : Str} (h : Ev te σ H (.str a)) (hb : Ev tf σ H (.str b)) (h1 : (b.length == 0) = false) (hz : a.length ≤ 1000000) :
    EvL (tM1 (fun x xs H Q => ∃ a b, x = .str a ∧ xs = [.str b] ∧ (b.length == 0) = false ∧ a.length + 2 ≤ sizeLine ∧ rNewStrs (Txt.split a b) H Q) te tf) σ H ((Txt.split a b).map V.str) := fun H1 e Q q =>
  h H1 e _ fun H2 e2 => ⟨⟨a, rfl⟩, hb H2 (e.trans e2) _ fun H3 e3 => ⟨a, b, rfl, rfl, h1, by rw [sizeLine_eq]; omega, fun p hp => q p _ (fresh_back (e2.trans e3) hp) ((e2.trans e3).trans (Ex.new hp)) upd_same⟩⟩
theorem ev_lenQ {p : Addr} {xs : List V} (ha : Ev te σ H (.ref p)) (h : SqL K H p xs) : Ev (tCB (fun xs H Q => ∃ p ys, xs = [.ref p] ∧ (SqL K H p ys ∨ SqT K H p ys) ∧ Q (.int ys.length) H) (tCons te tNil)) σ H (.int (xs.length : Int)) := ev_len ha h
theorem rv_isN : RV (fun x y H Q => y = .non ∧ Q (.bl (decide (x = .non))) H) x .non H (.bl (decide (x = .non))) := fun H1 _ Q q => ⟨rfl, q H1 (Ex.refl H1)⟩
theorem rv_isNo {o : Option Int} : RV (fun x y H Q => y = .non ∧ Q (.bl (decide (x = .non))) H) (optV o) .non H (.bl o.isNone) := fun H1 _ Q q => ⟨rfl, by
  cases o with
  | none => exact q H1 (Ex.refl H1)
  | some i => exact q H1 (Ex.refl H1)⟩
end
/-! ### bounded_in -/
def sp13 : Sp := spR fun vs H R => ∃ (z : Str) (lo hi : Int), vs = [.str z, .int lo, .int hi] ∧ 0 ≤ lo ∧ z.length ≤ 1000000 ∧ R = fun v _ => v = optV (bnd lo hi z)
abbrev s13 : Stmt := top 13
theorem sc13 : FnScope ["word", "low", "high", "number"] ["word", "low", "high"] (defScope s13) := ⟨rfl, rfl, rfl, by decide +kernel, rfl, by decide +kernel, by decide +kernel⟩
section
variable {P : Program} {w : World} {K : PySem.W.Frag} {mg : Str → Option Value} {base : Heap} {f : Addr} {fd : FuncData}
theorem ok13 (F : FnP K "bounded_in" s13 f fd) (C_number_in : CalN P w K mg base 1 "number_in" sp12) : FnOk P w K mg base L2.CX0 2 f fd ["word", "low", "high"] sp13 := by
  refine F.ok sc13 (fun vs H Q E h => ?_) (fun cdv A outer s H vs Q E hr h => ?_)
  · obtain ⟨R, ⟨z, lo, hi, rfl, _⟩, _⟩ := h
    rfl
  · obtain ⟨R, ⟨z, lo, hi, rfl, h0, hz, rfl⟩, k⟩ := h
    have nd := sc13.nd
    refine ⟨_, PSs.nox (pss_cons (ps_set (i := 3) nd rfl (Or.inl rfl) (C8.pe_c (C_number_in) hr (by decide) (by rfl) (pa_cons (pv 0) (pa_cons pe_int pa_nil))))
    (pss_one (ps_ret (pe_ifExp (PW.pt (pw_or (pt_cmpR op_isN (pv 3) pe_non (nomark _)) (pw_or1 (pt_not (pt_chain op_le op_le (pv 1) (pv 3) (pv 2)))))) pe_non (pv 3))))), ?_⟩
    refine q_asg (v := optV (numL? (TL.tl z))) (ev_sp (vs := [.str z, .int 12]) (ea_cons (ev_var rfl) (ea_cons ev_c ea_nil)) fun H1 _ => ⟨_, ⟨z, rfl, hz, rfl⟩, fun v H2 _ r => r⟩) fun H1 e1 => ?_
    have eb := numL_bnd (l := TL.tl z) (lo := lo) (hi := hi) h0
    rw [TL.mk_tl] at eb
    refine s_ret (v := optV (bnd lo hi z)) ?_ fun H2 e2 => k _ _ (e1.trans e2) rfl
    rw [← eb]
    cases hn : numL? (TL.tl z) with
    | none => exact ev_if (b := true) (et_or (a := true) (b := true) (et_test (ev_op (ev_var (v := .non) rfl) ev_c rv_isN)) (fun h => by cases h)) (fun _ => ev_c) (fun h => by cases h)
    | some i =>
      refine ev_if (et_or (et_test (ev_op (ev_var rfl) ev_c rv_isN)) (fun _ => et_not (et_test (ev_chain (ev_var rfl) (ev_var rfl) rv_I0 (fun _ => ev_var rfl) (fun _ => rv_I0))))) (fun h => ?_) (fun h => ?_)
      · refine ev_is ev_c ?_
        show V.non = optV (if lo ≤ i ∧ i ≤ hi then some i else none)
        rw [if_neg]
        · rfl
        · rintro ⟨h1, h2⟩
          simp [optV, h1, h2] at h
      · refine ev_is (ev_var rfl) ?_
        show V.int i = optV (if lo ≤ i ∧ i ≤ hi then some i else none)
        rw [if_pos]
        · rfl
        · simpa [optV] using h
end
/-! ### week_in -/
def sep1 : Str := Str.ofString " "
def wordsOf (z : Str) : List Str := Txt.split z sep1
def weekP (line : Str) : Option (Int × Int) := match wordsOf line with
  | [a, x, b, y] => if a = Str.ofString "week" ∧ b = Str.ofString "first" then (match bnd 1 10 x with
    | some k => (bnd 0 (k - 1) y).map fun j => (k, j)
    | none => none) else none
  | _ => none
/-- a new tuple of two ints, or None -/
def OptP (H : Hp) : Option (Int × Int) → V → Hp → Prop
  | none => fun v _ => v = .non
  | some p => fun v H2 => ∃ t, v = .ref t ∧ H t = none ∧ H2 t = some (.tup [.int p.1, .int p.2])
/-- a new list of ints, or None -/
def OptL (H : Hp) : Option (List Int) → V → Hp → Prop
  | none => fun v _ => v = .non
  | some l => fun v H2 => ∃ t, v = .ref t ∧ H t = none ∧ H2 t = some (.lst (l.map V.int))
theorem OptP.back {H H' : Hp} {o : Option (Int × Int)} {v : V} {H2 : Hp} (e : Ex H H') (h : OptP H' o v H2) : OptP H o v H2 := by
  cases o with
  | none => exact h
  | some p =>
    obtain ⟨t, h1, h2, h3⟩ := h
    exact ⟨t, h1, fresh_back e h2, h3⟩
theorem OptL.back {H H' : Hp} {o : Option (List Int)} {v : V} {H2 : Hp} (e : Ex H H') (h : OptL H' o v H2) : OptL H o v H2 := by
  cases o with
  | none => exact h
  | some p =>
    obtain ⟨t, h1, h2, h3⟩ := h
    exact ⟨t, h1, fresh_back e h2, h3⟩
theorem OptP.fwd {H : Hp} {o : Option (Int × Int)} {v : V} {H2 H3 : Hp} (h : OptP H o v H2) (e : Ex H2 H3) : OptP H o v H3 := by
  cases o with
  | none => exact h
  | some p =>
    obtain ⟨t, h1, h2, h3⟩ := h
    exact ⟨t, h1, h2, e _ _ h3⟩
theorem OptL.fwd {H : Hp} {o : Option (List Int)} {v : V} {H2 H3 : Hp} (h : OptL H o v H2) (e : Ex H2 H3) : OptL H o v H3 := by
  cases o with
  | none => exact h
  | some p =>
    obtain ⟨t, h1, h2, h3⟩ := h
    exact ⟨t, h1, h2, e _ _ h3⟩
theorem sep1_ok : (sep1.length == 0) = false := by decide +kernel
theorem tl_sep1 : TL.tl sep1 = [32] := by decide +kernel
/-- the parts of a text together are no longer than it -/
theorem spl_short {c : Nat} : ∀ (l acc : List Nat) (p : List Nat), p ∈ TL.spl [c] 0 acc l → p.length ≤ acc.length + l.length
  | [], acc, p, h => by
    rw [TL.spl_nil] at h
    have e : p = acc := by simpa using h
    rw [e]
    omega
  | d :: l, acc, p, h => by
    by_cases hd : d = c
    · subst hd
      rw [TL.spl_hit (by simp [TL.pre])] at h
      rcases List.mem_cons.mp h with e | h
      · rw [e]; omega
      · have z := spl_short l [] p h
        simp only [List.length_nil, List.length_cons] at z ⊢
        omega
    · rw [TL.spl_miss (TL.pre_of_head [] l hd)] at h
      have z := spl_short l (acc ++ [d]) p h
      simp only [List.length_append, List.length_cons, List.length_nil] at z ⊢
      omega
theorem split_tl {z s : Str} {c : Nat} (e : TL.tl s = [c]) (hc : c < 256) : (Txt.split z s).map TL.tl = TL.spl [c] 0 [] (TL.tl z) := by
  have h := TL.split_spl z s (by rw [e]; simp) (TL.kind_ok (by rw [← Array.all_toList]; show (TL.tl s).all _ = true; rw [e]; simp; exact hc))
  rw [e] at h
  exact h
theorem words_short {z x : Str} (h : x ∈ wordsOf z) : x.length ≤ z.length := by
  have h2 : TL.tl x ∈ (wordsOf z).map TL.tl := List.mem_map.mpr ⟨x, h, rfl⟩
  rw [show (wordsOf z).map TL.tl = _ from split_tl tl_sep1 (by decide)] at h2
  have z2 := spl_short _ _ _ h2
  rw [TL.len_tl, TL.len_tl]
  simpa using z2
theorem spl_ne {c : Nat} : ∀ (l acc : List Nat), TL.spl [c] 0 acc l ≠ []
  | [], acc => by rw [TL.spl_nil]; simp
  | d :: l, acc => by
    by_cases hd : d = c
    · subst hd
      rw [TL.spl_hit (by simp [TL.pre])]
      simp
    · rw [TL.spl_miss (TL.pre_of_head [] l hd)]
      exact spl_ne l _
theorem words_ne (z : Str) : wordsOf z ≠ [] := fun h => by
  have e := split_tl (z := z) tl_sep1 (by decide)
  rw [show Txt.split z sep1 = [] from h] at e
  exact spl_ne _ _ e.symm
theorem spl_len {c : Nat} : ∀ (l acc : List Nat), (TL.spl [c] 0 acc l).length ≤ l.length + 1
  | [], acc => by rw [TL.spl_nil]; simp
  | d :: l, acc => by
    by_cases hd : d = c
    · subst hd
      rw [TL.spl_hit (by simp [TL.pre]), List.length_cons, List.length_cons]
      have := spl_len (c := d) l []
      simp only [List.length_cons, List.length_nil, Nat.add_one_sub_one, Nat.zero_add, Nat.sub_self] at this ⊢
      omega
    · rw [TL.spl_miss (TL.pre_of_head [] l hd), List.length_cons]
      have := spl_len (c := c) l (acc ++ [d])
      omega
theorem words_len (z : Str) : (wordsOf z).length ≤ z.length + 1 := by
  have e := split_tl (z := z) tl_sep1 (by decide)
  have e2 := congrArg List.length e
  rw [List.length_map] at e2
  show (Txt.split z sep1).length ≤ _
  rw [e2, TL.len_tl]
  exact spl_len _ _
def sp15 : Sp := spR fun vs H R => ∃ z : Str, vs = [.str z] ∧ z.length ≤ 1000000 ∧ R = OptP H (weekP z)
abbrev s15 : Stmt := top 15
theorem sc15 : FnScope ["line", "words", "week", "first"] ["line"] (defScope s15) := ⟨rfl, rfl, rfl, by decide +kernel, rfl, by decide +kernel, by decide +kernel⟩
section
variable {P : Program} {w : World} {K : PySem.W.Frag} {mg : Str → Option Value} {base : Heap} {f : Addr} {fd : FuncData}
theorem ev_bnd {σ : L2.St} {H : Hp} {E : XK} {ta tb tc : TE} {z : Str} {lo hi : Int} (ha : Ev ta σ H (.str z)) (hb : Ev tb σ H (.int lo)) (hc : Ev tc σ H (.int hi)) (h0 : 0 ≤ lo) (hz : z.length ≤ 1000000) :
    Ev (tCall sp13 [] E (tCons ta (tCons tb (tCons tc tNil)))) σ H (optV (bnd lo hi z)) :=
  ev_sp (ea_cons ha (ea_cons hb (ea_cons hc ea_nil))) fun H1 _ => ⟨_, ⟨z, lo, hi, rfl, h0, hz, rfl⟩, fun v H2 _ r => r⟩
theorem ok15 (F : FnP K "week_in" s15 f fd) (T : Txt mg) (C_bounded_in : CalN P w K mg base 2 "bounded_in" sp13) : FnOk P w K mg base L2.CX0 3 f fd ["line"] sp15 := by
  refine F.ok sc15 (fun vs H Q E h => ?_) (fun cdv A outer s H vs Q E hr h => ?_)
  · obtain ⟨R, ⟨z, rfl, _⟩, _⟩ := h
    rfl
  · obtain ⟨R, ⟨z, rfl, hz, rfl⟩, k⟩ := h
    have nd := sc15.nd
    refine ⟨_, PSs.nox (pss_cons (ps_set (i := 1) nd rfl (Or.inl rfl) (pe_split (pv 0) pe_str))
    (pss_cons (ps_if (PW.pt (pw_or (pt_cmpR op_ne (pe_callB call_len_seq (by rfl) T.len (by decide +kernel) (pa_cons (pv 1) pa_nil)) pe_int (nomark _)) (pw_or (pt_cmpR op_ne (pe_ix ix_list (pv 1) pe_int (fun _ _ => rfl)) pe_str (nomark _)) (pw_or1 (pt_cmpR op_ne (pe_ix ix_list (pv 1) pe_int (fun _ _ => rfl)) pe_str (nomark _)))))) (pss_one (ps_ret pe_non)) pss_nil)
    (pss_cons (ps_set (i := 2) nd rfl (Or.inl rfl) (C8.pe_c (C_bounded_in) hr (by decide) (by rfl) (pa_cons (pe_ix ix_list (pv 1) pe_int (fun _ _ => rfl)) (pa_cons pe_int (pa_cons (C8.pe_gc (by rfl) T.MAX_WEEK) pa_nil)))))
    (pss_cons (ps_set (i := 3) nd rfl (Or.inl rfl) (pe_ifExp (pt_cmpR op_isN (pv 2) pe_non (nomark _)) pe_non (C8.pe_c (C_bounded_in) hr (by decide) (by rfl) (pa_cons (pe_ix ix_list (pv 1) pe_int (fun _ _ => rfl)) (pa_cons pe_int (pa_cons (pe_op op_sub (pv 2) pe_int) pa_nil))))))
    (pss_one (ps_ret (pe_ifExp (pt_cmpR op_isN (pv 3) pe_non (nomark _)) pe_non (pe_tup (pa_cons (pv 2) (pa_cons (pv 3) pa_nil)))))))))), ?_⟩
    refine q_asgL (el_split (ev_var rfl) ev_c sep1_ok hz) fun p H1 hp e1 h1 => ?_
    have hsh : ∀ x ∈ wordsOf z, x.length ≤ 1000000 := fun x hx => Nat.le_trans (words_short hx) hz
    have hW : (Txt.split z (Str.ofString " ")) = wordsOf z := rfl
    rw [hW] at h1
    have no : weekP z = none → ∀ H2, Ex H1 H2 → Q .non H2 := fun h H2 e2 => k _ _ (e1.trans e2) (by rw [h]; rfl)
    generalize hw : wordsOf z = ws at *
    have hlen : Ev (tCB (fun xs H Q => ∃ p ys, xs = [.ref p] ∧ (SqL K H p ys ∨ SqT K H p ys) ∧ Q (.int ys.length) H) (tCons (tVar 1) tNil)) [some (.str z), some (.ref p), none, none] H1 (.int ((ws.map V.str).length : Int)) := ev_lenQ (ev_var rfl) (sq_of h1)
    have ix : ∀ {i : Nat} {x : Str}, ws[i]? = some x → ∀ {j : Option V} {j2 : Option V} {H2 : Hp}, Ex H1 H2 → Ev (tOp (rIxL K) (tVar 1) (tC (.int (i : Int)))) [some (.str z), some (.ref p), j, j2] H2 (.str x) := fun {i x} hx {j j2 H2} e2 =>
      ev_op (ev_var rfl) ev_c (rv_ixL (sq_of (e2 _ _ h1)) (atI_nat (by rw [List.getElem?_map, hx]; rfl)))
    by_cases h4 : ws.length = 4
    · obtain ⟨a, x, b, y, rfl⟩ : ∃ a x b y, ws = [a, x, b, y] := by
        match ws, h4 with
        | [a, x, b, y], _ => exact ⟨a, x, b, y, rfl⟩
      have hp4 : weekP z = if a = Str.ofString "week" ∧ b = Str.ofString "first" then (match bnd 1 10 x with
          | some k => (bnd 0 (k - 1) y).map fun j => (k, j)
          | none => none) else none := by
        unfold weekP
        rw [hw]
      refine q_when (et_or (et_test (ev_op hlen ev_c rv_intN)) (fun _ => et_or (et_test (ev_op (ix (i := 0) rfl (Ex.refl _)) ev_c rv_strN)) (fun _ => et_test (ev_op (ix (i := 2) rfl (Ex.refl _)) ev_c rv_strN)))) ?_ ?_
      · intro h H2 e2
        refine s_ret ev_c fun H3 e3 => no ?_ H3 (e2.trans e3)
        rw [hp4, if_neg]
        rintro ⟨h5, h6⟩
        rw [h5, h6] at h
        simp at h
      · intro h H2 e2
        have h56 : a = Str.ofString "week" ∧ b = Str.ofString "first" := by
          simpa using h
        rw [if_pos h56] at hp4
        refine q_asg (ev_bnd (ix (i := 1) rfl e2) ev_c ev_c (by decide) (hsh x (by simp))) fun H3 e3 => ?_
        cases hx : bnd 1 10 x with
        | none =>
          rw [hx] at hp4
          refine q_asg (v := .non) (ev_if (b := true) (et_test (ev_op (ev_var rfl) ev_c rv_isN)) (fun _ => ev_c) (fun h => by cases h)) fun H4 e4 => ?_
          refine s_retP (ep_if (b := true) (et_test (ev_op (ev_var rfl) ev_c rv_isN)) (fun _ => ep_ev ev_c) (fun h => by cases h)) fun v H5 e5 r => ?_
          rw [r]
          exact no hp4 H5 (((e2.trans e3).trans e4).trans e5)
        | some kk =>
          replace hp4 : weekP z = (bnd 0 (kk - 1) y).map fun j => (kk, j) := by rw [hp4, hx]
          refine q_asg (v := optV (bnd 0 (kk - 1) y)) (ev_if (b := false) (et_test (ev_op (ev_var rfl) ev_c rv_isN)) (fun h => by cases h) (fun _ => ev_bnd (ix (i := 3) rfl (e2.trans e3)) ev_c (ev_op (ev_var rfl) ev_c rv_I0) (by decide) (hsh y (by simp)))) fun H4 e4 => ?_
          cases hy : bnd 0 (kk - 1) y with
          | none =>
            rw [hy] at hp4
            refine s_retP (ep_if (b := true) (et_test (ev_op (ev_var rfl) ev_c rv_isN)) (fun _ => ep_ev ev_c) (fun h => by cases h)) fun v H5 e5 r => ?_
            rw [r]
            exact no hp4 H5 (((e2.trans e3).trans e4).trans e5)
          | some j =>
            rw [hy] at hp4
            refine s_retP (ep_if (b := false) (et_test (ev_op (ev_var rfl) ev_c rv_isN)) (fun h => by cases h) (fun _ => ep_u (eu_tup (ea_cons (ev_var rfl) (ea_cons (ev_var rfl) ea_nil)) (by show 2 ≤ 100000; decide)))) fun v H5 e5 r => ?_
            obtain ⟨t, rfl, ht, h5⟩ := r
            refine k _ _ ((((e1.trans e2).trans e3).trans e4).trans e5) ?_
            rw [hp4]
            exact ⟨t, rfl, fresh_back (((e1.trans e2).trans e3).trans e4) ht, h5⟩
    · have hp4 : weekP z = none := by
        unfold weekP
        rw [hw]
        match ws, h4 with
        | [], _ => rfl
        | [_], _ => rfl
        | [_, _], _ => rfl
        | [_, _, _], _ => rfl
        | [_, _, _, _], h => exact absurd rfl h
        | _ :: _ :: _ :: _ :: _ :: _, _ => rfl
      refine q_when (b := true) (et_is (et_or (et_test (ev_op hlen ev_c rv_intN)) (b := false) (fun h => ?_)) ?_) (fun _ H2 e2 => s_ret ev_c fun H3 e3 => no hp4 H3 (e2.trans e3)) (fun h => by cases h)
      · exfalso
        rw [List.length_map] at h
        simp at h
        omega
      · rw [List.length_map]
        simp
        omega
end
end K9
end
section
set_option Elab.async false
set_option linter.all false
set_option maxRecDepth 100000
set_option maxHeartbeats 4000000
namespace K9
open PySem PySem.Spec PyProof.Rows L2 Evl
/-! ### numbers_in -/
def numbersP (line word : Str) (lo hi : Int) : Option (List Int) := match wordsOf line with
  | [] => none
  | a :: ws => if a = word then nums lo hi ws else none
def sp16 : Sp := spR fun vs H R => ∃ (z wd : Str) (lo hi : Int), vs = [.str z, .str wd, .int lo, .int hi] ∧ 0 ≤ lo ∧ z.length ≤ 1000000 ∧ R = OptL H (numbersP z wd lo hi)
abbrev s16 : Stmt := top 16
theorem sc16 : FnScope ["line", "word", "low", "high", "words", "found", "one"] ["line", "word", "low", "high"] (defScope s16) := ⟨rfl, rfl, rfl, by decide +kernel, rfl, by decide +kernel, by decide +kernel⟩
theorem drop1_cut (xs : List V) : cutV xs (some 1) none = xs.drop 1 := by
  show (xs.drop (HT.sIx xs.length 0 (some ((1 : Nat) : Int)))).take (HT.sIx xs.length xs.length none - HT.sIx xs.length 0 (some ((1 : Nat) : Int))) = xs.drop 1
  rw [HT.sIx_nat, HT.sIx_none]
  cases xs with
  | nil => rfl
  | cons a r =>
    rw [Nat.min_eq_left (by simp)]
    exact List.take_of_length_le (by simp)
theorem nums_none {lo hi : Int} : ∀ {ws : List Str}, nums lo hi ws = none ↔ none ∈ ws.map (bnd lo hi)
  | [] => by simp [nums]
  | w :: ws => by
    have ih := nums_none (lo := lo) (hi := hi) (ws := ws)
    cases e : bnd lo hi w with
    | none => simp [nums, e]
    | some i =>
      simp only [nums, e, List.map_cons, List.mem_cons]
      rw [Option.map_eq_none_iff, ih]
      simp
theorem nums_map {lo hi : Int} : ∀ {ws : List Str} {is : List Int}, nums lo hi ws = some is → ws.map (bnd lo hi) = is.map some
  | [], is, h => by cases h; rfl
  | w :: ws, is, h => by
    have h1 : (match bnd lo hi w with
      | some i => (nums lo hi ws).map (i :: ·)
      | none => none) = some is := h
    cases e : bnd lo hi w with
    | none => rw [e] at h1; cases h1
    | some i =>
      rw [e] at h1
      have h2 : (nums lo hi ws).map (i :: ·) = some is := h1
      cases e2 : nums lo hi ws with
      | none => rw [e2] at h2; cases h2
      | some js =>
        rw [e2] at h2
        cases h2
        rw [List.map_cons, e, nums_map e2]
        rfl
theorem inV_none (os : List (Option Int)) : inV .non (os.map optV) = decide (none ∈ os) := by
  unfold inV
  induction os with
  | nil => rfl
  | cons o os ih =>
    rw [List.map_cons, List.any_cons, ih]
    cases o with
    | none => simp [optV, eqV]
    | some i => simp [optV, eqV]
theorem flat_opt (os : List (Option Int)) : (os.map optV).all flatV = true := by
  rw [List.all_map, List.all_eq_true]
  intro o _
  cases o <;> rfl
section
variable {P : Program} {w : World} {K : PySem.W.Frag} {mg : Str → Option Value} {base : Heap} {f : Addr} {fd : FuncData}
theorem ok16 (F : FnP K "numbers_in" s16 f fd) (C_bounded_in : CalN P w K mg base 2 "bounded_in" sp13) : FnOk P w K mg base L2.CX0 3 f fd ["line", "word", "low", "high"] sp16 := by
  refine F.ok sc16 (fun vs H Q E h => ?_) (fun cdv A outer s H vs Q E hr h => ?_)
  · obtain ⟨R, ⟨z, wd, lo, hi, rfl, _⟩, _⟩ := h
    rfl
  · obtain ⟨R, ⟨z, wd, lo, hi, rfl, h0, hz, rfl⟩, k⟩ := h
    have nd := sc16.nd
    refine ⟨_, PSs.nox (pss_cons (ps_set (i := 4) nd rfl (Or.inl rfl) (pe_split (pv 0) pe_str))
    (pss_cons (ps_setLc (i := 5) (own := [("one", 6)]) (g := gName 6) rfl nd rfl rfl (sw_true rfl rfl rfl (by decide +kernel)) (pi_list (pe_slice sl_list (pv 4) (po_some pe_int) po_none)) (blkOk_by (own := [("one", 6)]) (N := ["line", "word", "low", "high", "words", "found", "one"]) (sc := defScope s16) (by decide +kernel)) (fun _ _ _ _ _ => (pg_name (i := 6) nd rfl (Or.inl rfl))) (fun _ _ _ _ _ => pts_nil) (fun _ _ _ _ _ => (C8.pe_c (C_bounded_in) hr (by decide) (by rfl) (pa_cons (pv 6) (pa_cons (pv 2) (pa_cons (pv 3) pa_nil))))))
    (pss_one (ps_ret (pe_ifExp (PW.pt (pw_or (pt_cmpR op_ne (pe_ix ix_list (pv 4) pe_int (fun _ _ => rfl)) (pv 1) (nomark _)) (pw_or1 (pt_cmpR op_in_seq pe_non (pv 5) (by rfl))))) pe_non (pv 5)))))), ?_⟩
    refine q_asgL (el_split (ev_var rfl) ev_c sep1_ok hz) fun p H1 hp e1 h1 => ?_
    have hW : (Txt.split z (Str.ofString " ")) = wordsOf z := rfl
    rw [hW] at h1
    have hsh : ∀ x ∈ wordsOf z, x.length ≤ 1000000 := fun x hx => Nat.le_trans (words_short hx) hz
    have hlen := words_len z
    obtain ⟨a, ws, hw⟩ : ∃ a ws, wordsOf z = a :: ws := by
      cases e : wordsOf z with
      | nil => exact absurd e (words_ne z)
      | cons a ws => exact ⟨a, ws, rfl⟩
    have hP : numbersP z wd lo hi = if a = wd then nums lo hi ws else none := by
      unfold numbersP
      rw [hw]
    rw [hw] at h1 hsh hlen
    refine q_asgL (xs := (ws.map (bnd lo hi)).map optV) (el_is (el_lcNLi (xs := ws.map V.str) (fun _ => true) (fun i => optV (bnd lo hi (ws.getD i Str.empty)))
      (el_is (el_sl (ev_var rfl) (eo_some ev_c) eo_none (sq_of h1)) (by rw [drop1_cut]; rfl)) (by rw [List.length_map]; simp at hlen; exact len_ok (by omega)) (fun _ => by rfl) (fun _ _ _ _ => et_yes)
      (fun i H2 e2 hi' _ => ?_)) ?_) fun q H2 hq e2 h2 => ?_
    · have hi2 : i < ws.length := by simpa using hi'
      have ex : (ws.map V.str).getD i .non = .str (ws.getD i Str.empty) := by
        rw [List.getD_eq_getElem?_getD, List.getD_eq_getElem?_getD, List.getElem?_map, List.getElem?_eq_getElem hi2]
        rfl
      rw [ex]
      refine ev_bnd (ev_var rfl) (ev_var rfl) (ev_var rfl) h0 (hsh _ ?_)
      rw [List.getD_eq_getElem?_getD, List.getElem?_eq_getElem hi2]
      exact List.mem_cons_of_mem _ (List.getElem_mem hi2)
    · rw [given_all, List.length_map, List.map_map]
      exact given_list ws Str.empty fun x => optV (bnd lo hi x)
    have ht : EvT (tOr (tTest (tOp rNe (tOp (rIxL K) (tVar 4) (tC (.int 0))) (tVar 1))) (tTest (tOp (rIn K false) (tC .non) (tVar 5)))) [some (.str z), some (.str wd), some (.int lo), some (.int hi), some (.ref p), some (.ref q), none] H2 (!decide (a = wd) || decide (none ∈ ws.map (bnd lo hi))) :=
      et_or (et_test (ev_op (ev_op (ev_var rfl) ev_c (rv_ixL (sq_of (e2 _ _ h1)) (atI_nat (j := 0) rfl))) (ev_var rfl) rv_strN)) (fun _ => et_is (et_test (ev_op ev_c (ev_var rfl) (rv_isL (sq_of h2) rfl (flat_opt _)))) (inV_none _))
    cases hb : (!decide (a = wd) || decide (none ∈ ws.map (bnd lo hi))) with
    | true =>
      rw [hb] at ht
      refine s_ret (ev_if ht (fun _ => ev_c) (fun h => by cases h)) fun H3 e3 => k _ _ ((e1.trans e2).trans e3) ?_
      have e0 : numbersP z wd lo hi = none := by
        rw [hP]
        by_cases h5 : a = wd
        · rw [if_pos h5]
          refine nums_none.mpr ?_
          simpa [h5] using hb
        · rw [if_neg h5]
      rw [e0]
      rfl
    | false =>
      rw [hb] at ht
      refine s_ret (ev_if ht (fun h => by cases h) (fun _ => ev_var rfl)) fun H3 e3 => k _ _ ((e1.trans e2).trans e3) ?_
      have hb2 : a = wd ∧ none ∉ ws.map (bnd lo hi) := by simpa using hb
      cases hn : nums lo hi ws with
      | none => exact absurd (nums_none.mp hn) hb2.2
      | some is =>
        have e0 : numbersP z wd lo hi = some is := by rw [hP, if_pos hb2.1, hn]
        rw [e0]
        refine ⟨q, rfl, fresh_back e1 hq, ?_⟩
        rw [e3 _ _ h2, nums_map hn, List.map_map]
        rfl
end
/-! ### rest_in -/
def ascB (l : List Int) : Bool := (List.range (l.length - 1)).all fun i => decide (l.getD i 0 < l.getD (i + 1) 0)
def restP (line : Str) (week : Int) : Option (List Int) := match numbersP line (Str.ofString "rest") 0 (week - 1) with
  | some l => if ascB l = true then some l else none
  | none => none
def sp17 : Sp := spR fun vs H R => ∃ (z : Str) (wk : Int), vs = [.str z, .int wk] ∧ z.length ≤ 1000000 ∧ R = OptL H (restP z wk)
abbrev s17 : Stmt := top 17
theorem sc17 : FnScope ["line", "week", "found", "at"] ["line", "week"] (defScope s17) := ⟨rfl, rfl, rfl, by decide +kernel, rfl, by decide +kernel, by decide +kernel⟩
theorem numbers_len {z wd : Str} {lo hi : Int} {l : List Int} (h : numbersP z wd lo hi = some l) : l.length ≤ z.length := by
  unfold numbersP at h
  have e := words_len z
  cases hw : wordsOf z with
  | nil => rw [hw] at h; cases h
  | cons a ws =>
    rw [hw] at h e
    have h1 : (if a = wd then nums lo hi ws else none) = some l := h
    split at h1
    · rw [nums_len h1]
      simp at e
      exact e
    · cases h1
section
variable {P : Program} {w : World} {K : PySem.W.Frag} {mg : Str → Option Value} {base : Heap} {f : Addr} {fd : FuncData}
theorem ep_numbers {σ : L2.St} {H : Hp} {E : XK} {ta tb tc td : TE} {z wd : Str} {lo hi : Int} (ha : Ev ta σ H (.str z)) (hb : Ev tb σ H (.str wd)) (hc : Ev tc σ H (.int lo)) (hd : Ev td σ H (.int hi)) (h0 : 0 ≤ lo) (hz : z.length ≤ 1000000) :
    EvP (tCall sp16 [] E (tCons ta (tCons tb (tCons tc (tCons td tNil))))) σ H (OptL H (numbersP z wd lo hi)) :=
  ep_sp (ea_cons ha (ea_cons hb (ea_cons hc (ea_cons hd ea_nil)))) fun H1 e => ⟨_, ⟨z, wd, lo, hi, rfl, h0, hz, rfl⟩, fun v H2 _ r => r.back e⟩
theorem ok17 (F : FnP K "rest_in" s17 f fd) (T : Txt mg) (C_numbers_in : CalN P w K mg base 3 "numbers_in" sp16) : FnOk P w K mg base L2.CX0 4 f fd ["line", "week"] sp17 := by
  refine F.ok sc17 (fun vs H Q E h => ?_) (fun cdv A outer s H vs Q E hr h => ?_)
  · obtain ⟨R, ⟨z, wk, rfl, _⟩, _⟩ := h
    rfl
  · obtain ⟨R, ⟨z, wk, rfl, hz, rfl⟩, k⟩ := h
    have nd := sc17.nd
    refine ⟨_, PSs.nox (pss_cons (ps_set (i := 2) nd rfl (Or.inr rfl) (C8.pe_c (C_numbers_in) hr (by decide) (by rfl) (pa_cons (pv 0) (pa_cons pe_str (pa_cons pe_int (pa_cons (pe_op op_sub (pv 1) pe_int) pa_nil))))))
    (pss_cons (ps_if (PW.pt (pw_or (pt_cmpR op_isN (pv 2) pe_non (nomark _)) (pw_or1 (pt_not (pt_val (pe_callB (cr_all rfl) (by rfl) T.all (by decide +kernel) (pa_cons (pe_lc (own := [("at", 3)]) (g := gName 3) rfl nd (pi_range1 (by rfl) T.range (pa_cons (pe_op op_sub (pe_callB call_len_seq (by rfl) T.len (by decide +kernel) (pa_cons (pv 2) pa_nil)) pe_int) pa_nil)) (blkOk_by (own := [("at", 3)]) (N := ["line", "week", "found", "at"]) (sc := defScope s17) (by decide +kernel)) (fun _ _ _ _ _ => (pg_name (i := 3) nd rfl (Or.inl rfl))) (fun _ _ _ _ _ => pts_nil) (fun _ _ _ _ _ => (pe_cmpR op_lt (pe_ix (r := rIxL K) ix_list (pv 2) (pv 3) (fun _ _ => rfl)) (pe_ix (r := rIxL K) ix_list (pv 2) (pe_op op_add (pv 3) pe_int) (fun _ _ => rfl)) (nomark _)))) pa_nil))))))) (pss_one (ps_ret pe_non)) pss_nil)
    (pss_one (ps_ret (pv 2))))), ?_⟩
    refine q_asgP (ep_numbers (ev_var rfl) ev_c ev_c (ev_op (ev_var rfl) ev_c rv_I0) (by decide) hz) fun v H1 e1 r1 => ?_
    cases hn : numbersP z (Str.ofString "rest") 0 (wk - 1) with
    | none =>
      rw [hn] at r1
      cases r1
      refine q_when (b := true) (et_or (a := true) (b := true) (et_test (ev_op (ev_var (v := .non) rfl) ev_c rv_isN)) (fun h => by cases h)) (fun _ H2 e2 => ?_) (fun h => by cases h)
      refine s_ret ev_c fun H3 e3 => k _ _ ((e1.trans e2).trans e3) ?_
      unfold restP
      rw [hn]
      rfl
    | some l =>
      rw [hn] at r1
      obtain ⟨q, rfl, hq, h1⟩ := r1
      have hlen := numbers_len hn
      have ix : ∀ {i : Nat} {te : TE} {σ : L2.St} {H2 : Hp} (_ : Ex H1 H2) (_ : i < l.length) (_ : σ[2]? = some (some (.ref q))) (_ : Ev te σ H2 (.int (i : Int))), Ev (tOp (rIxL K) (tVar 2) te) σ H2 (.int (l.getD i 0)) := fun {i te σ H2} e2 hi hs he =>
        ev_op (ev_var hs) he (rv_ixL (sq_of (e2 _ _ h1)) (atI_nat (by rw [List.getElem?_map, List.getD_eq_getElem?_getD, List.getElem?_eq_getElem hi]; rfl)))
      have ht : EvT (tOr (tTest (tOp (fun x y H Q => y = .non ∧ Q (.bl (decide (x = .non))) H) (tVar 2) (tC .non))) (tNot (tB (tCB (rAll K) (tCons (tLc (iRng1 (tCons (tOp (rI0 fun i j => .int (i - j)) (tCB (fun xs H Q => ∃ p ys, xs = [.ref p] ∧ (SqL K H p ys ∨ SqT K H p ys) ∧ Q (.int ys.length) H) (tCons (tVar 2) tNil)) (tC (.int 1))) tNil)) (gName 3) tYes
          (tOp (rI0 fun i j => .bl (decide (i < j))) (tOp (rIxL K) (tVar 2) (tVar 3)) (tOp (rIxL K) (tVar 2) (tOp (rI0 fun i j => .int (i + j)) (tVar 3) (tC (.int 1))))) [3]) tNil)))))
          [some (.str z), some (.int wk), some (.ref q), none] H1 (!ascB l) := by
        refine et_or (a := false) (et_test (ev_op (ev_var rfl) ev_c rv_isN)) (fun _ => et_not (et_B (ev_is (ev_all (bs := (List.range (l.length - 1)).map fun i => decide (l.getD i 0 < l.getD (i + 1) 0)) (el_is
          (el_lcR (fun _ => true) (fun i => .bl (decide (l.getD i 0 < l.getD (i + 1) 0))) (ea_cons (ev_op (ev_lenQ (ev_var rfl) (sq_of h1)) ev_c rv_I0) ea_nil) (by rw [List.length_map]; omega) (fun _ => by rfl) (fun _ _ _ _ => et_yes) (fun i H2 e2 hi' _ => ?_)) ?_)) ?_)))
        · rw [List.length_map] at hi'
          refine ev_op (ix e2 (by omega) rfl (ev_var rfl)) (ix e2 (by omega) rfl (ev_is (ev_op (ev_var rfl) ev_c rv_I0) ?_)) rv_I0
          rfl
        · rw [given_all, List.length_map, List.map_map]
          congr 2
          omega
        · unfold ascB
          rw [List.all_map]
          rfl
      refine q_when ht (fun h H2 e2 => ?_) (fun h H2 e2 => ?_)
      · refine s_ret ev_c fun H3 e3 => k _ _ ((e1.trans e2).trans e3) ?_
        unfold restP
        rw [hn]
        show OptL H (if ascB l = true then some l else none) _ _
        rw [if_neg (by simpa using h)]
        rfl
      · refine s_ret (ev_var rfl) fun H3 e3 => k _ _ ((e1.trans e2).trans e3) ?_
        unfold restP
        rw [hn]
        show OptL H (if ascB l = true then some l else none) _ _
        rw [if_pos (by simpa using h)]
        exact ⟨q, rfl, hq, e3 _ _ (e2 _ _ h1)⟩
end
end K9
end
section
set_option Elab.async false
set_option linter.all false
set_option maxRecDepth 100000
set_option maxHeartbeats 4000000
namespace K9
open PySem PySem.Spec PyProof.Rows L2 Evl
/-! ### data in the heap -/
/-- the i-th of xs is told by the i-th of ps -/
abbrev All2 {β : Type} (F : V → β → Prop) (xs : List V) (ps : List β) : Prop := Paired F xs ps
def IsPr (H : Hp) (v : V) (p : Int × Int) : Prop := ∃ t, v = .ref t ∧ H t = some (.tup [.int p.1, .int p.2])
def IsRow (H : Hp) (v : V) (r : List Int) : Prop := ∃ t, v = .ref t ∧ H t = some (.lst (r.map V.int))
abbrev PrsAt (H : Hp) (xs : List V) (ps : List (Int × Int)) : Prop := Paired (IsPr H) xs ps
abbrev RowsAt (H : Hp) (xs : List V) (rs : List (List Int)) : Prop := Paired (IsRow H) xs rs
theorem IsPr.fwd {H H' : Hp} {v : V} {p : Int × Int} (h : IsPr H v p) (e : Ex H H') : IsPr H' v p := by
  obtain ⟨t, h1, h2⟩ := h
  exact ⟨t, h1, e _ _ h2⟩
theorem IsRow.fwd {H H' : Hp} {v : V} {p : List Int} (h : IsRow H v p) (e : Ex H H') : IsRow H' v p := by
  obtain ⟨t, h1, h2⟩ := h
  exact ⟨t, h1, e _ _ h2⟩
theorem PrsAt.fwd {H H' : Hp} {xs : List V} {ps : List (Int × Int)} (h : PrsAt H xs ps) (e : Ex H H') : PrsAt H' xs ps := Paired.mapP h fun _ _ r => r.fwd e
theorem RowsAt.fwd {H H' : Hp} {xs : List V} {ps : List (List Int)} (h : RowsAt H xs ps) (e : Ex H H') : RowsAt H' xs ps := Paired.mapP h fun _ _ r => r.fwd e
theorem paired_get {α β : Type} {F : α → β → Prop} : ∀ {xs : List α} {ys : List β} {i : Nat} {x : α}, Paired F xs ys → xs[i]? = some x → ∃ y, ys[i]? = some y ∧ F x y
  | _, _, _, _, .nil, e => by simp at e
  | _, _, 0, _, .cons r _, e => by simp at e; subst e; exact ⟨_, rfl, r⟩
  | _, _, i + 1, x, .cons _ t, e => by
    obtain ⟨u, h1, h2⟩ := paired_get (i := i) (x := x) t (by simpa using e)
    exact ⟨u, by simpa using h1, h2⟩
theorem paired_get2 {α β : Type} {F : α → β → Prop} : ∀ {xs : List α} {ys : List β} {i : Nat} {y : β}, Paired F xs ys → ys[i]? = some y → ∃ x, xs[i]? = some x ∧ F x y
  | _, _, _, _, .nil, e => by simp at e
  | _, _, 0, _, .cons r _, e => by simp at e; subst e; exact ⟨_, rfl, r⟩
  | _, _, i + 1, x, .cons _ t, e => by
    obtain ⟨u, h1, h2⟩ := paired_get2 (i := i) (y := x) t (by simpa using e)
    exact ⟨u, by simpa using h1, h2⟩
theorem paired_snoc {α β : Type} {F : α → β → Prop} : ∀ {xs : List α} {ys : List β} {x : α} {y : β}, Paired F xs ys → F x y → Paired F (xs ++ [x]) (ys ++ [y])
  | _, _, _, _, .nil, h => .cons h .nil
  | _, _, _, _, .cons r t, h => .cons r (paired_snoc t h)
theorem paired_app {α β : Type} {F : α → β → Prop} : ∀ {xs : List α} {ys : List β} {us : List α} {vs : List β}, Paired F xs ys → Paired F us vs → Paired F (xs ++ us) (ys ++ vs)
  | _, _, _, _, .nil, h => h
  | _, _, _, _, .cons r t, h => .cons r (paired_app t h)
/-- plain data of some depth -/
def dP (p : Int × Int) : PyData := .tuple [.int p.1, .int p.2]
def dL (l : List Int) : PyData := .list (l.map .int)
theorem dpall_of {K : PySem.W.Frag} {H : Hp} {β : Type} {F : V → β → Prop} {g : β → PyData} (h : ∀ v b, F v b → Dp K H v (g b)) : ∀ {xs : List V} {ps : List β}, Paired F xs ps → DpAll K H xs (ps.map g)
  | _, _, .nil => .nil
  | _, _, .cons r t => .cons (h _ _ r) (dpall_of h t)
theorem dpall_ints {K : PySem.W.Frag} {H : Hp} : ∀ l : List Int, DpAll K H (l.map V.int) (l.map PyData.int)
  | [] => .nil
  | i :: l => .cons (.int i) (dpall_ints l)
theorem dpall_strs {K : PySem.W.Frag} {H : Hp} : ∀ l : List Str, DpAll K H (l.map V.str) (l.map PyData.str)
  | [] => .nil
  | i :: l => .cons (.str i) (dpall_strs l)
theorem dp_pr {K : PySem.W.Frag} {H : Hp} {v : V} {p : Int × Int} (h : IsPr H v p) : Dp K H v (dP p) := by
  obtain ⟨t, h1, h2⟩ := h
  subst h1
  exact .tup (SqT.of h2) (.cons (.int _) (.cons (.int _) .nil))
theorem dp_row {K : PySem.W.Frag} {H : Hp} {v : V} {r : List Int} (h : IsRow H v r) : Dp K H v (dL r) := by
  obtain ⟨t, h1, h2⟩ := h
  subst h1
  exact .lst (SqL.of h2) (dpall_ints _)
theorem dp_prs {K : PySem.W.Frag} {H : Hp} {a : Addr} {xs : List V} {ps : List (Int × Int)} (hs : SqL K H a xs) (h : PrsAt H xs ps) : Dp K H (.ref a) (.list (ps.map dP)) := .lst hs (dpall_of (fun _ _ r => dp_pr r) h)
theorem dp_rows {K : PySem.W.Frag} {H : Hp} {a : Addr} {xs : List V} {ps : List (List Int)} (hs : SqL K H a xs) (h : RowsAt H xs ps) : Dp K H (.ref a) (.list (ps.map dL)) := .lst hs (dpall_of (fun _ _ r => dp_row r) h)
def pl (d : PyData) (n : Nat) : Prop := d.canLay0 = true ∧ d.depth ≤ n
theorem pl_all : ∀ {ds : List PyData} {n : Nat}, (∀ d ∈ ds, pl d n) → PyData.canLayAll0 ds = true ∧ PyData.depthAll ds ≤ n
  | [], n, _ => by simp [PyData.canLayAll0, PyData.depthAll]
  | d :: ds, n, h => by
    obtain ⟨h1, h2⟩ := h d List.mem_cons_self
    obtain ⟨h3, h4⟩ := pl_all fun e he => h e (List.mem_cons_of_mem _ he)
    exact ⟨by simp [PyData.canLayAll0, h1, h3], by simp only [PyData.depthAll]; omega⟩
theorem pl_list {ds : List PyData} {n : Nat} (h : ∀ d ∈ ds, pl d n) : pl (.list ds) (n + 1) := by
  obtain ⟨h1, h2⟩ := pl_all h
  exact ⟨by simp only [PyData.canLay0]; exact h1, by simp only [PyData.depth]; omega⟩
theorem pl_tup {ds : List PyData} {n : Nat} (h : ∀ d ∈ ds, pl d n) : pl (.tuple ds) (n + 1) := by
  obtain ⟨h1, h2⟩ := pl_all h
  exact ⟨by simp only [PyData.canLay0]; exact h1, by simp only [PyData.depth]; omega⟩
theorem pl_int {i : Int} : pl (.int i) 0 := ⟨by simp [PyData.canLay0], by simp [PyData.depth]⟩
theorem pl_non : pl .none 0 := ⟨by simp [PyData.canLay0], by simp [PyData.depth]⟩
theorem pl_str {x : Str} (h : ∀ c ∈ TL.tl x, c < 0x110000) : pl (.str x) 0 := by
  refine ⟨?_, by simp [PyData.depth]⟩
  simp only [PyData.canLay0]
  show x.cps.all (· < 0x110000) = true
  rw [← Array.all_toList, List.all_eq_true]
  intro c hc
  exact decide_eq_true (h c hc)
theorem pl.mono {d : PyData} {n m : Nat} (h : pl d n) (k : n ≤ m) : pl d m := ⟨h.1, Nat.le_trans h.2 k⟩
theorem sh_of {d : PyData} {n : Nat} (h : pl d n) (k : n ≤ 64) : SeqAt.shaped d = true := by
  unfold SeqAt.shaped
  rw [h.1, decide_eq_true (Nat.le_trans h.2 k)]
  rfl
theorem pl_prs (ps : List (Int × Int)) : pl (.list (ps.map dP)) 2 := pl_list fun d hd => by
  obtain ⟨p, _, rfl⟩ := List.mem_map.mp hd
  exact pl_tup fun e he => by
    rcases List.mem_cons.mp he with rfl | he
    · exact pl_int
    · rcases List.mem_cons.mp he with rfl | he
      · exact pl_int
      · cases he
theorem pl_dL (l : List Int) : pl (dL l) 1 := pl_list fun d hd => by
  obtain ⟨i, _, rfl⟩ := List.mem_map.mp hd
  exact pl_int
theorem pl_rows (rs : List (List Int)) : pl (.list (rs.map dL)) 2 := pl_list fun d hd => by
  obtain ⟨r, _, rfl⟩ := List.mem_map.mp hd
  exact pl_dL r
theorem pl_nil : pl (.list []) 1 := pl_list fun d hd => nomatch hd
theorem eqv_nil (ds : List PyData) : PyData.eqv (.list ds) (.list []) = ds.isEmpty := by
  cases ds <;> simp [PyData.eqv, PyData.eqvAll]
section
variable {K : PySem.W.Frag} {σ : L2.St} {H : Hp} {ta tb : TE} {x : V}
/-- x == [] , x != [] -/
theorem ev_eqNil {d : List PyData} {n : Nat} (ha : Ev ta σ H x) (hd : ∀ H1, Ex H H1 → Dp K H1 x (.list d)) (hp : pl (.list d) n) (hn : n ≤ 64) : Ev (tOp (rEqD K) ta (tLst tNil)) σ H (.bl d.isEmpty) :=
  ev_opL ha (el_lst ea_nil (by decide)) fun p H1 h1 e1 H2 e2 Q q => ⟨_, _, hd H2 (e1.trans e2), .lst (SqL.of (e2 _ _ h1)) .nil, sh_of hp hn, sh_of pl_nil (by decide), by rw [eqv_nil]; exact q H2 (Ex.refl H2)⟩
theorem ev_neNil {d : List PyData} {n : Nat} (ha : Ev ta σ H x) (hd : ∀ H1, Ex H H1 → Dp K H1 x (.list d)) (hp : pl (.list d) n) (hn : n ≤ 64) : Ev (tOp (rNeD K) ta (tLst tNil)) σ H (.bl (!d.isEmpty)) :=
  ev_opL ha (el_lst ea_nil (by decide)) fun p H1 h1 e1 H2 e2 Q q => ⟨_, _, hd H2 (e1.trans e2), .lst (SqL.of (e2 _ _ h1)) .nil, sh_of hp hn, sh_of pl_nil (by decide), by rw [eqv_nil]; exact q H2 (Ex.refl H2)⟩
/-- tuple(a list) -/
def rTupOf (K : PySem.W.Frag) : List V → Hp → VK → Prop := fun xs H Q => ∃ p ys, xs = [.ref p] ∧ ((SqL K H p ys ∧ ∀ l, H l = none → Q (.ref l) (upd H l (.tup ys))) ∨ (SqT K H p ys ∧ Q (.ref p) H))
theorem eu_tupOf {p : Addr} {ys : List V} (ha : Ev ta σ H (.ref p)) (h : SqL K H p ys) : EvU (tCB (rTupOf K) (tCons ta tNil)) σ H ys := fun H1 e Q q =>
  ha H1 e _ fun H2 e2 => ⟨p, ys, rfl, .inl ⟨ex_l (e.trans e2) h, fun l hl => q l _ (fresh_back e2 hl) (e2.trans (Ex.new hl)) upd_same⟩⟩
theorem rv_ltT {a b : Addr} {ns ms : List Int} (h1 : SqT K H a (ns.map V.int)) (h2 : SqT K H b (ms.map V.int)) : RV (rLtT K) (.ref a) (.ref b) H (.bl (HT.lexLt ns ms)) := fun H1 e Q q => ⟨a, b, ns, ms, rfl, rfl, ex_t e h1, ex_t e h2, q H1 (Ex.refl H1)⟩
theorem atI_end {α : Type} {xs : List α} {v : α} (h : xs.getLast? = some v) : atI xs (-1) = some v := by
  obtain ⟨ys, rfl⟩ := List.getLast?_eq_some_iff.mp h
  exact atI_last ys v
end
/-! ### holiday_in -/
def ltP (p q : Int × Int) : Bool := HT.lexLt [p.1, p.2] [q.1, q.2]
def holP (line : Str) (before : List (Int × Int)) : Option (Int × Int) := match numbersP line (Str.ofString "holiday") 1 40 with
  | some [m, d] => if m ≤ 14 ∧ (∀ q, before.getLast? = some q → ltP q (m, d) = true) then some (m, d) else none
  | _ => none
def sp18 (K : PySem.W.Frag) : Sp := spR fun vs H R => ∃ (z : Str) (p : Addr) (xs : List V) (ps : List (Int × Int)), vs = [.str z, .ref p] ∧ z.length ≤ 1000000 ∧ H p = some (.lst xs) ∧ PrsAt H xs ps ∧ R = OptP H (holP z ps)
abbrev s18 : Stmt := top 18
theorem sc18 : FnScope ["line", "before", "found"] ["line", "before"] (defScope s18) := ⟨rfl, rfl, rfl, by decide +kernel, rfl, by decide +kernel, by decide +kernel⟩
section
variable {P : Program} {w : World} {K : PySem.W.Frag} {mg : Str → Option Value} {base : Heap} {f : Addr} {fd : FuncData}
theorem ok18 (F : FnP K "holiday_in" s18 f fd) (T : Txt mg) (C_numbers_in : CalN P w K mg base 3 "numbers_in" sp16) : FnOk P w K mg base L2.CX0 4 f fd ["line", "before"] (sp18 K) := by
  refine F.ok sc18 (fun vs H Q E h => ?_) (fun cdv A outer s H vs Q E hr h => ?_)
  · obtain ⟨R, ⟨z, p, xs, ps, rfl, _⟩, _⟩ := h
    rfl
  · obtain ⟨R, ⟨z, p, xs, ps, rfl, hz, hp, hps, rfl⟩, k⟩ := h
    have nd := sc18.nd
    refine ⟨_, PSs.nox (pss_cons (ps_set (i := 2) nd rfl (Or.inl rfl) (C8.pe_c (C_numbers_in) hr (by decide) (by rfl) (pa_cons (pv 0) (pa_cons pe_str (pa_cons pe_int (pa_cons (C8.pe_gc (by rfl) T.MAX_DAYS) pa_nil))))))
    (pss_cons (ps_if (PW.pt (pw_or (pt_cmpR op_isN (pv 2) pe_non (nomark _)) (pw_or (pt_cmpR op_ne (pe_callB call_len_seq (by rfl) T.len (by decide +kernel) (pa_cons (pv 2) pa_nil)) pe_int (nomark _)) (pw_or1 (pt_cmpR op_gt (pe_ix ix_list (pv 2) pe_int (fun _ _ => rfl)) (C8.pe_gc (by rfl) T.MAX_MONTHS) (nomark _)))))) (pss_one (ps_ret pe_non)) pss_nil)
    (pss_one (ps_ret (pe_ifExp (PW.pt (pw_or (pt_cmpR (op_eqD hr.units) (pv 1) (pe_lst pa_nil) (nomark _)) (pw_or1 (pt_cmpR (op_ltT hr.units0) (pe_ix ix_list (pv 1) (pe_un un_neg pe_int) (fun _ _ => rfl)) (pe_callTy call_tuple_of (by rfl) T.tuple (by decide +kernel) (pa_cons (pv 2) pa_nil)) (nomark _))))) (pe_callTy call_tuple_of (by rfl) T.tuple (by decide +kernel) (pa_cons (pv 2) pa_nil)) pe_non))))), ?_⟩
    refine q_asgP (ep_numbers (ev_var rfl) ev_c ev_c ev_c (by decide) hz) fun v H1 e1 r1 => ?_
    have no : holP z ps = none → ∀ H2, Ex H1 H2 → Q .non H2 := fun h H2 e2 => k _ _ (e1.trans e2) (by rw [h]; rfl)
    cases hn : numbersP z (Str.ofString "holiday") 1 40 with
    | none =>
      rw [hn] at r1
      cases r1
      refine q_when (b := true) (et_or (a := true) (b := true) (et_test (ev_op (ev_var (v := .non) rfl) ev_c rv_isN)) (fun h => by cases h)) (fun _ H2 e2 => ?_) (fun h => by cases h)
      exact s_ret ev_c fun H3 e3 => no (by unfold holP; rw [hn]) _ (e2.trans e3)
    | some l =>
      rw [hn] at r1
      obtain ⟨q, rfl, hq, h1⟩ := r1
      have hlen := ev_lenQ (K := K) (σ := [some (.str z), some (.ref p), some (.ref q)]) (te := tVar 2) (H := H1) (ev_var rfl) (sq_of h1)
      by_cases h2 : l.length = 2
      · obtain ⟨m, d, rfl⟩ : ∃ m d, l = [m, d] := by
          match l, h2 with
          | [m, d], _ => exact ⟨m, d, rfl⟩
        have hP : holP z ps = if m ≤ 14 ∧ (∀ q, ps.getLast? = some q → ltP q (m, d) = true) then some (m, d) else none := by
          unfold holP
          rw [hn]
        refine q_when (et_or (a := false) (et_test (ev_op (ev_var rfl) ev_c rv_isN)) (fun _ => et_or (a := false) (et_test (ev_op hlen ev_c rv_intN)) (fun _ => et_test (ev_op (ev_op (ev_var rfl) ev_c (rv_ixL (sq_of h1) (atI_nat (j := 0) rfl))) ev_c rv_I0)))) ?_ ?_
        · intro h H2 e2
          refine s_ret ev_c fun H3 e3 => no ?_ _ (e2.trans e3)
          rw [hP, if_neg]
          rintro ⟨h3, _⟩
          have := of_decide_eq_true h
          omega
        · intro h H2 e2
          have hm : m ≤ 14 := by
            have := of_decide_eq_false h
            omega
          have ht : EvT (tOr (tTest (tOp (rEqD K) (tVar 1) (tLst tNil))) (tTest (tOp (rLtT K) (tOp (rIxL K) (tVar 1) (tUn (rU fun i => .int (-i)) (tC (.int 1)))) (tCB (rTupOf K) (tCons (tVar 2) tNil))))) [some (.str z), some (.ref p), some (.ref q)] H2
              (decide (∀ q, ps.getLast? = some q → ltP q (m, d) = true)) := by
            refine et_is (et_or (et_test (ev_eqNil (d := ps.map dP) (ev_var rfl) (fun H3 e3 => dp_prs (sq_of (e3 _ _ (e2 _ _ (e1 _ _ hp)))) (hps.fwd ((e1.trans e2).trans e3))) (pl_prs ps) (by decide))) (b := decide (∀ q, ps.getLast? = some q → ltP q (m, d) = true)) (fun hne => ?_)) ?_
            · obtain ⟨pl, hpl⟩ : ∃ q, ps.getLast? = some q := by
                cases e : ps.getLast? with
                | none =>
                  rw [List.getLast?_eq_none_iff.mp e] at hne
                  cases hne
                | some q => exact ⟨q, rfl⟩
              obtain ⟨x, hx, t, rfl, ht⟩ := paired_get2 (i := ps.length - 1) (y := pl) hps (by rw [← List.getLast?_eq_getElem?]; exact hpl)
              have hxl : xs.getLast? = some (.ref t) := by
                rw [List.getLast?_eq_getElem?, Paired.length hps]
                exact hx
              refine et_test (ev_opU (ev_op (ev_var rfl) (ev_un ev_c ru_neg) (rv_ixL (sq_of (e2 _ _ (e1 _ _ hp))) (atI_end hxl))) (eu_tupOf (ev_var rfl) (sq_of (e2 _ _ h1))) fun u H3 hu e3 => ?_)
              have hb : decide (∀ q, ps.getLast? = some q → ltP q (m, d) = true) = HT.lexLt [pl.1, pl.2] [m, d] := by
                rw [hpl]
                cases hc : HT.lexLt [pl.1, pl.2] [m, d] with
                | true =>
                  refine decide_eq_true fun q' hq' => ?_
                  cases hq'
                  exact hc
                | false =>
                  refine decide_eq_false fun h => ?_
                  have := h pl rfl
                  rw [show ltP pl (m, d) = HT.lexLt [pl.1, pl.2] [m, d] from rfl, hc] at this
                  cases this
              rw [hb]
              exact rv_ltT (ns := [pl.1, pl.2]) (ms := [m, d]) (st_of (e3 _ _ (e2 _ _ (e1 _ _ ht)))) (st_of hu)
            · cases ps with
              | nil => simp
              | cons a r => simp
          cases hb : decide (∀ q, ps.getLast? = some q → ltP q (m, d) = true) with
          | true =>
            rw [hb] at ht
            refine s_retP (ep_if ht (fun _ => ep_u (eu_tupOf (ev_var rfl) (sq_of (e2 _ _ h1)))) (fun h => by cases h)) fun v H3 e3 r => ?_
            obtain ⟨t, rfl, ht, h5⟩ := r
            refine k _ _ ((e1.trans e2).trans e3) ?_
            rw [hP, if_pos ⟨hm, of_decide_eq_true hb⟩]
            exact ⟨t, rfl, fresh_back (e1.trans e2) ht, h5⟩
          | false =>
            rw [hb] at ht
            refine s_ret (ev_if ht (fun h => by cases h) (fun _ => ev_c)) fun H3 e3 => no ?_ _ (e2.trans e3)
            rw [hP, if_neg fun h => of_decide_eq_false hb h.2]
      · have hP : holP z ps = none := by
          unfold holP
          rw [hn]
          match l, h2 with
          | [], _ => rfl
          | [_], _ => rfl
          | [_, _], h => exact absurd rfl h
          | _ :: _ :: _ :: _, _ => rfl
        refine q_when (b := true) (et_or (a := false) (et_test (ev_op (ev_var rfl) ev_c rv_isN)) (fun _ => et_or (a := true) (b := true) (et_is (et_test (ev_op hlen ev_c rv_intN)) ?_) (fun h => by cases h))) (fun _ H2 e2 => s_ret ev_c fun H3 e3 => no hP H3 (e2.trans e3)) (fun h => by cases h)
        rw [List.length_map]
        simp
        omega
end
/-! ### year_in -/
def yearP (line : Str) (years : List (List Int)) (hols : List (Int × Int)) : Option (List Int) := match numbersP line (Str.ofString "year") 1 40 with
  | some l => if (1 ≤ l.length ∧ l.length ≤ 14) ∧ years.length ≠ 400 ∧ (∀ y, years.head? = some y → y.length = l.length) ∧ (∀ q, hols.getLast? = some q → q.1 ≤ (l.length : Int)) then some l else none
  | none => none
def sp19 (K : PySem.W.Frag) : Sp := spR fun vs H R => ∃ (z : Str) (p p2 : Addr) (ys xs : List V) (rs : List (List Int)) (ps : List (Int × Int)), vs = [.str z, .ref p, .ref p2] ∧ z.length ≤ 1000000 ∧ H p = some (.lst ys) ∧ RowsAt H ys rs ∧ H p2 = some (.lst xs) ∧ PrsAt H xs ps ∧ R = OptL H (yearP z rs ps)
abbrev s19 : Stmt := top 19
theorem sc19 : FnScope ["line", "years", "holidays", "found"] ["line", "years", "holidays"] (defScope s19) := ⟨rfl, rfl, rfl, by decide +kernel, rfl, by decide +kernel, by decide +kernel⟩
section
variable {P : Program} {w : World} {K : PySem.W.Frag} {mg : Str → Option Value} {base : Heap} {f : Addr} {fd : FuncData}
theorem ok19 (F : FnP K "year_in" s19 f fd) (T : Txt mg) (C_numbers_in : CalN P w K mg base 3 "numbers_in" sp16) : FnOk P w K mg base L2.CX0 4 f fd ["line", "years", "holidays"] (sp19 K) := by
  refine F.ok sc19 (fun vs H Q E h => ?_) (fun cdv A outer s H vs Q E hr h => ?_)
  · obtain ⟨R, ⟨z, p, p2, ys, xs, rs, ps, rfl, _⟩, _⟩ := h
    rfl
  · obtain ⟨R, ⟨z, p, p2, ys, xs, rs, ps, rfl, hz, hp, hrs, hp2, hps, rfl⟩, k⟩ := h
    have nd := sc19.nd
    refine ⟨_, PSs.nox (pss_cons (ps_set (i := 3) nd rfl (Or.inl rfl) (C8.pe_c (C_numbers_in) hr (by decide) (by rfl) (pa_cons (pv 0) (pa_cons pe_str (pa_cons pe_int (pa_cons (C8.pe_gc (by rfl) T.MAX_DAYS) pa_nil))))))
    (pss_cons (ps_if (PW.pt (pw_or (pt_cmpR op_isN (pv 3) pe_non (nomark _)) (pw_or (pt_not (pt_chain op_le op_le pe_int (pe_callB call_len_seq (by rfl) T.len (by decide +kernel) (pa_cons (pv 3) pa_nil)) (C8.pe_gc (by rfl) T.MAX_MONTHS))) (pw_or1 (pt_cmpR op_eq (pe_callB call_len_seq (by rfl) T.len (by decide +kernel) (pa_cons (pv 1) pa_nil)) (C8.pe_gc (by rfl) T.MAX_YEARS) (nomark _)))))) (pss_one (ps_ret pe_non)) pss_nil)
    (pss_cons (ps_if (PW.pt (pw_or (PW.pt (pw_and (pt_cmpR (op_neD hr.units) (pv 1) (pe_lst pa_nil) (nomark _)) (pw_and1 (pt_cmpR op_ne (pe_callB call_len_seq (by rfl) T.len (by decide +kernel) (pa_cons (pe_ix ix_list (pv 1) pe_int (fun _ _ => rfl)) pa_nil)) (pe_callB call_len_seq (by rfl) T.len (by decide +kernel) (pa_cons (pv 3) pa_nil)) (nomark _))))) (pw_or1 (PW.pt (pw_and (pt_cmpR (op_neD hr.units) (pv 2) (pe_lst pa_nil) (nomark _)) (pw_and1 (pt_cmpR op_gt (pe_ix ix_tup (pe_ix ix_list (pv 2) (pe_un un_neg pe_int) (fun _ _ => rfl)) pe_int (fun _ _ => rfl)) (pe_callB call_len_seq (by rfl) T.len (by decide +kernel) (pa_cons (pv 3) pa_nil)) (nomark _)))))))) (pss_one (ps_ret pe_non)) pss_nil)
    (pss_one (ps_ret (pv 3)))))), ?_⟩
    refine q_asgP (ep_numbers (ev_var rfl) ev_c ev_c ev_c (by decide) hz) fun v H1 e1 r1 => ?_
    have no : yearP z rs ps = none → ∀ H2, Ex H1 H2 → Q .non H2 := fun h H2 e2 => k _ _ (e1.trans e2) (by rw [h]; rfl)
    cases hn : numbersP z (Str.ofString "year") 1 40 with
    | none =>
      rw [hn] at r1
      cases r1
      refine q_when (b := true) (et_or (a := true) (b := true) (et_test (ev_op (ev_var (v := .non) rfl) ev_c rv_isN)) (fun h => by cases h)) (fun _ H2 e2 => ?_) (fun h => by cases h)
      exact s_ret ev_c fun H3 e3 => no (by unfold yearP; rw [hn]) _ (e2.trans e3)
    | some l =>
      rw [hn] at r1
      obtain ⟨q, rfl, hq, h1⟩ := r1
      have hP : yearP z rs ps = if (1 ≤ l.length ∧ l.length ≤ 14) ∧ rs.length ≠ 400 ∧ (∀ y, rs.head? = some y → y.length = l.length) ∧ (∀ q, ps.getLast? = some q → q.1 ≤ (l.length : Int)) then some l else none := by
        unfold yearP
        rw [hn]
      have hlen : ∀ {H2 : Hp}, Ex H1 H2 → Ev (tCB (fun xs H Q => ∃ p ys, xs = [.ref p] ∧ (SqL K H p ys ∨ SqT K H p ys) ∧ Q (.int ys.length) H) (tCons (tVar 3) tNil)) [some (.str z), some (.ref p), some (.ref p2), some (.ref q)] H2 (.int (l.length : Int)) := fun {H2} e2 =>
        ev_is (ev_lenQ (ev_var rfl) (sq_of (e2 _ _ h1))) (by rw [List.length_map])
      refine q_when (et_is (et_or (a := false) (et_test (ev_op (ev_var rfl) ev_c rv_isN)) (fun _ => et_or (et_not (et_test (ev_chain ev_c (hlen (Ex.refl _)) rv_I0 (fun _ => ev_c) (fun _ => rv_I0)))) (fun _ => et_test (ev_op (ev_is (ev_lenQ (ev_var rfl) (sq_of (e1 _ _ hp))) (show _ = V.int (rs.length : Int) by rw [Paired.length hrs])) ev_c rv_int))))
        (b := !decide ((1 ≤ l.length ∧ l.length ≤ 14) ∧ rs.length ≠ 400)) ?_) ?_ ?_
      · rw [Bool.eq_iff_iff]
        cases l with
        | nil => simp
        | cons a l =>
          simp
          omega
      · intro h H2 e2
        refine s_ret ev_c fun H3 e3 => no ?_ _ (e2.trans e3)
        rw [hP, if_neg]
        rintro ⟨h3, h4, _⟩
        simp [h3, h4] at h
      · intro h H2 e2
        have hA : (1 ≤ l.length ∧ l.length ≤ 14) ∧ rs.length ≠ 400 := by simpa using h
        have e12 := e1.trans e2
        have c1 : EvT (tAnd (tTest (tOp (rNeD K) (tVar 1) (tLst tNil))) (tTest (tOp rNe (tCB (fun xs H Q => ∃ p ys, xs = [.ref p] ∧ (SqL K H p ys ∨ SqT K H p ys) ∧ Q (.int ys.length) H) (tCons (tOp (rIxL K) (tVar 1) (tC (.int 0))) tNil)) (tCB (fun xs H Q => ∃ p ys, xs = [.ref p] ∧ (SqL K H p ys ∨ SqT K H p ys) ∧ Q (.int ys.length) H) (tCons (tVar 3) tNil)))))
            [some (.str z), some (.ref p), some (.ref p2), some (.ref q)] H2 (!decide (∀ y, rs.head? = some y → y.length = l.length)) := by
          refine et_is (et_and (et_test (ev_neNil (d := rs.map dL) (ev_var rfl) (fun H3 e3 => dp_rows (sq_of (e3 _ _ (e12 _ _ hp))) (hrs.fwd (e12.trans e3))) (pl_rows rs) (by decide))) (b := !decide (∀ y, rs.head? = some y → y.length = l.length)) (fun hne => ?_)) ?_
          · obtain ⟨y, rr, rfl⟩ : ∃ y rr, rs = y :: rr := by
              cases rs with
              | nil => cases hne
              | cons y rr => exact ⟨y, rr, rfl⟩
            obtain ⟨x, hx, t, rfl, ht⟩ := paired_get2 (i := 0) (y := y) hrs rfl
            refine et_is (et_test (ev_op (ev_is (ev_lenQ (ev_op (ev_var rfl) ev_c (rv_ixL (sq_of (e12 _ _ hp)) (atI_nat (j := 0) hx))) (sq_of (e12 _ _ ht))) (show _ = V.int (y.length : Int) by rw [List.length_map])) (hlen e2) rv_intN)) ?_
            rw [Bool.eq_iff_iff]
            simp
            omega
          · cases rs <;> simp
        have c2 : EvT (tAnd (tTest (tOp (rNeD K) (tVar 2) (tLst tNil))) (tTest (tOp (rI0 fun i j => .bl (decide (j < i))) (tOp (rIxT K) (tOp (rIxL K) (tVar 2) (tUn (rU fun i => .int (-i)) (tC (.int 1)))) (tC (.int 0))) (tCB (fun xs H Q => ∃ p ys, xs = [.ref p] ∧ (SqL K H p ys ∨ SqT K H p ys) ∧ Q (.int ys.length) H) (tCons (tVar 3) tNil)))))
            [some (.str z), some (.ref p), some (.ref p2), some (.ref q)] H2 (!decide (∀ q, ps.getLast? = some q → q.1 ≤ (l.length : Int))) := by
          refine et_is (et_and (et_test (ev_neNil (d := ps.map dP) (ev_var rfl) (fun H3 e3 => dp_prs (sq_of (e3 _ _ (e12 _ _ hp2))) (hps.fwd (e12.trans e3))) (pl_prs ps) (by decide))) (b := !decide (∀ q, ps.getLast? = some q → q.1 ≤ (l.length : Int))) (fun hne => ?_)) ?_
          · obtain ⟨pl, hpl⟩ : ∃ q, ps.getLast? = some q := by
              cases e : ps.getLast? with
              | none =>
                rw [List.getLast?_eq_none_iff.mp e] at hne
                cases hne
              | some q => exact ⟨q, rfl⟩
            obtain ⟨x, hx, t, rfl, ht⟩ := paired_get2 (i := ps.length - 1) (y := pl) hps (by rw [← List.getLast?_eq_getElem?]; exact hpl)
            have hxl : xs.getLast? = some (.ref t) := by
              rw [List.getLast?_eq_getElem?, Paired.length hps]
              exact hx
            refine et_is (et_test (ev_op (ev_op (ev_op (ev_var rfl) (ev_un ev_c ru_neg) (rv_ixL (sq_of (e12 _ _ hp2)) (atI_end hxl))) ev_c (rv_ixT (st_of (e12 _ _ ht)) (atI_nat (j := 0) rfl))) (hlen e2) rv_I0)) ?_
            rw [Bool.eq_iff_iff]
            simp [hpl]
          · cases ps with
            | nil => simp
            | cons a r => simp
        refine q_when (et_or c1 (fun _ => c2)) ?_ ?_
        · intro h H3 e3
          refine s_ret ev_c fun H4 e4 => no ?_ _ ((e2.trans e3).trans e4)
          rw [hP, if_neg]
          rintro ⟨_, _, h5, h6⟩
          rw [decide_eq_true h5, decide_eq_true h6] at h
          cases h
        · intro h H3 e3
          refine s_ret (ev_var rfl) fun H4 e4 => k _ _ (((e1.trans e2).trans e3).trans e4) ?_
          simp at h
          rw [hP, if_pos ⟨hA.1, hA.2, h.1, fun q hq => h.2 _ _ hq⟩]
          exact ⟨q, rfl, hq, e4 _ _ (e3 _ _ (e2 _ _ h1))⟩
end
end K9
end
section
set_option Elab.async false
set_option linter.all false
set_option maxRecDepth 100000
set_option maxHeartbeats 4000000
namespace K9
open PySem PySem.Spec PyProof.Rows L2 Evl
/-- a method's def -/
abbrev FnQ (K : PySem.W.Frag) (x qual : Str) (st : Stmt) (f : Addr) (fd : FuncData) : Prop := FunD K x qual (defArgs st) (defBody st) (defScope st) [] [] f fd
/-! ### an exception class with one field -/
def spErr (K : PySem.W.Frag) (g : Str) : Sp := fun vs H Q _ => ∃ (a C : Addr) (y : V), vs = [.ref a, y] ∧ OexC K C ∧ PySem.W.findIn K (.ref C) g = some none ∧ H a = some (exo a C none) ∧
  ∀ dx, H dx = none → dx ≠ a → Q .non (upd (upd H dx (exd dx [(g, y)])) a (exo a C (some dx)))
structure ErrC (P : Program) (w : World) (K : PySem.W.Frag) (mg : Str → Option Value) (base : Heap) (x g : Str) (C : Addr) : Prop where
  mgC : mg x = some (.ref C)
  oex : OexC K C
  nof : PySem.W.findIn K (.ref C) g = some none
  ini : ∃ (fI : Addr) (fd : FuncData), PySem.W.findIn K (.ref C) "__init__" = some (some (.ref fI)) ∧ PySem.W.typeIn K (.ref fI) = some (.type "function") ∧ FnOk P w K mg base CX0 1 fI fd ["self", g] (spErr K g) ∧ Binds K fd ["self", g] []
def tErr (K : PySem.W.Frag) (C : Addr) (g : Str) (W : WX) (te : TE) : TS := fun _ σ H => tMkO C (spErr K g) [] (tCons te tNil) σ H fun cls d H' => W cls d σ H'
section
variable {X : Cx} {x g : Str} {C : Addr} {j : Nat} {W : WX} {e : Expr} {te : TE} {p pos pos2 : Pos}
theorem ps_err (R : ErrC X.prog X.w X.K X.mg X.base x g C) (hr : Room j X.A) (hj : 2 ≤ j) (hc : X.calm = true) (tk : Takes X W) (hg : Gl X x) (he : PE X e te)
    (hdb : (x == ("__debug__" : Str)) = false := by decide) (hs : starEach [e] X.env = (false, eval e X.env) :: starEach [] X.env := by rfl) (hpl : (backTo pos (starEach [] X.env)).any (·.1) = false := by rfl) :
    PS X (.Raise (some (.Call (.Name x p) [e] [] pos)) none pos2) (tErr X.K C g W te) := by
  obtain ⟨fI, fd, i1, i2, F1, b1⟩ := R.ini
  exact ps_raise hc tk (pmk_oex (k := 1) (dvs := []) (ds := []) R.oex i1 i2 F1 (hr.mono hj) b1 .nil pass0 hg R.mgC (pa_cons he pa_nil hs) hdb hs hpl)
theorem s_err {K : PySem.W.Frag} {σ : L2.St} {H : Hp} {y : V} {D : Ends} (T : OexC K C) (n : PySem.W.findIn K (.ref C) g = some none) (h : Ev te σ H y) (k : ∀ d H2, Ex H H2 → H2 d = some (.xd [(g, y)]) → W (.ref C) (some d) σ H2) : tErr K C g W te D σ H := by
  refine h H (Ex.refl H) _ fun H1 e1 => ⟨(by show 1 ≤ 1000; decide), fun a ha => ⟨a, C, y, rfl, T, n, upd_same, fun dx hd ne => ⟨rfl, dx, [(g, y)], upd_same, ?_, ?_, ?_⟩⟩⟩
  · rw [upd_ne ne, upd_same]
  · rw [upd_ne ne] at hd
    exact hd
  · refine k dx _ (e1.trans fun b o hb => ?_) upd_same
    rw [upd_ne ne] at hd
    rw [upd_ne (ne_of_none hb hd), del_ne (ne_of_none hb ha), upd_ne (ne_of_none hb ha), upd_ne (ne_of_none hb hd), upd_ne (ne_of_none hb ha)]
    exact hb
end
section
variable {P : Program} {w : World} {K : PySem.W.Frag} {mg : Str → Option Value} {base : Heap}
theorem okErr {qual g : Str} {st : Stmt} {f : Addr} {fd : FuncData} {p1 p2 p3 p4 : Pos} (F : FnQ K "__init__" qual st f fd) (S : FnScope ["self", g] ["self", g] (defScope st)) (hb : defBody st = [.Assign [.Attribute (.Name "self" p1) g p2] (.Name g p3) p4])
    (hg : (g == ("__debug__" : Str)) = false) (hc : (g == ("__classdict__" : Str)) = false) (hsw : ∀ env, swapsWith (.Name g p3) (some (.Attribute (.Name "self" p1) g p2)) p4.line env = pure false) : FnOk P w K mg base CX0 1 f fd ["self", g] (spErr K g) := by
  refine F.ok S (fun vs H Q E h => ?_) (fun cdv A outer s H vs Q E hr h => ?_)
  · obtain ⟨a, C, y, rfl, _⟩ := h
    rfl
  · obtain ⟨a, C, y, rfl, T, n, ha, k⟩ := h
    rw [hb]
    refine ⟨_, pss_one (ps_ost (pe_var (i := 0) rfl ((S.par "self" (by simp)).elim (fun z => .inl z) (fun z => .inr (.inl z)))) (pe_var (i := 1) rfl ((S.par g (by simp)).elim (fun z => .inl z) (fun z => .inr (.inl z))) hg hc) (hsw _)), ?_⟩
    exact ⟨y, rfl, .ref a, rfl, a, C, rfl, T, n, .inl ⟨ha, fun dx hd ne => k dx hd ne⟩⟩
end
/-! ### lines -/
def nl : Str := Str.ofString "\n"
def linesOf (z : Str) : List Str := Txt.split z nl
theorem nl_ok : (nl.length == 0) = false := by decide +kernel
theorem tl_nl : TL.tl nl = [10] := by decide +kernel
theorem lines_short {z x : Str} (h : x ∈ linesOf z) : x.length ≤ z.length := by
  have h2 : TL.tl x ∈ (linesOf z).map TL.tl := List.mem_map.mpr ⟨x, h, rfl⟩
  rw [show (linesOf z).map TL.tl = _ from split_tl tl_nl (by decide)] at h2
  have z2 := spl_short _ _ _ h2
  rw [TL.len_tl, TL.len_tl]
  simpa using z2
theorem lines_ne (z : Str) : linesOf z ≠ [] := fun h => by
  have e : (linesOf z).map TL.tl = _ := split_tl tl_nl (by decide)
  rw [h] at e
  exact spl_ne _ _ e.symm
theorem lines_len (z : Str) : (linesOf z).length ≤ z.length + 1 := by
  have e : (linesOf z).map TL.tl = _ := split_tl tl_nl (by decide)
  have h := congrArg List.length e
  rw [List.length_map] at h
  rw [h, TL.len_tl]
  exact spl_len _ _
/-! ### read_calendar -/
structure RD where
  years : List (List Int)
  week : Int
  first : Int
  rest : List Int
  hols : List (Int × Int)
  count : Nat
def readL : Nat → List Str → List (List Int) → List (Int × Int) → Except Nat (List (List Int) × List (Int × Int))
  | _, [], ys, hs => .ok (ys, hs)
  | i, l :: ls, ys, hs => match (if ys = [] then holP l hs else none) with
    | some h => readL (i + 1) ls ys (hs ++ [h])
    | none => match yearP l ys hs with
      | some y => readL (i + 1) ls (ys ++ [y]) hs
      | none => .error i
def readB (k j : Int) (rs : List Int) (r2 : List Str) : Except Nat RD := match readL 2 r2 [] [] with
  | .error i => .error i
  | .ok (ys, hs) => if ys = [] then .error (r2.length + 2) else .ok ⟨ys, k, j, rs, hs, r2.length + 2⟩
def readA (k j : Int) : List Str → Except Nat RD
  | [] => .error 1
  | l1 :: r2 => match restP l1 k with
    | none => .error 1
    | some rs => readB k j rs r2
def readH : List Str → Except Nat RD
  | [] => .error 0
  | l0 :: r => match weekP l0 with
    | none => .error 0
    | some p => readA p.1 p.2 r
def readT (z : Str) : Except Nat RD := readH (linesOf z)
def ReadV (d : RD) (v : V) (H : Hp) : Prop := ∃ (t py pr ph : Addr) (xs us : List V), v = .ref t ∧ H t = some (.tup [.ref py, .int d.week, .int d.first, .ref pr, .ref ph, .int d.count]) ∧ H py = some (.lst xs) ∧ RowsAt H xs d.years ∧
  H pr = some (.lst (d.rest.map V.int)) ∧ H ph = some (.lst us) ∧ PrsAt H us d.hols
def sp20 (K : PySem.W.Frag) (C : Addr) : Sp := fun vs H Q E => ∃ x, vs = [x] ∧
  ((∃ z, x = .str z ∧ z.length ≤ 90000 ∧ match readT z with
    | .ok d => ∀ v H', Ex H H' → ReadV d v H' → Q v H'
    | .error n => ∀ d H', Ex H H' → H' d = some (.xd [("index", .int (n : Int))]) → E (.ref C) (some d) H') ∨
   (∃ t, TyX K H x (.type t) ∧ kitB t "str" = some false ∧ ∀ d H', Ex H H' → H' d = some (.xd [("index", .int 0)]) → E (.ref C) (some d) H'))
theorem TyX.mono {K : PySem.W.Frag} {H H' : Hp} {x : V} {t : Value} (e : Ex H H') (h : TyX K H x t) : TyX K H' x t := by
  cases h with
  | base b =>
    refine .base ?_
    cases b with
    | non => exact .non
    | bl x => exact .bl x
    | int x => exact .int x
    | str x => exact .str x
    | flt x => exact .flt x
    | lst h => exact .lst (e _ _ h)
    | frz h => exact .frz (e _ _ h)
    | tup h => exact .tup (e _ _ h)
    | dK h => exact .dK (e _ _ h)
    | dT h => exact .dT (e _ _ h)
    | ins h k a b c d => exact .ins (e _ _ h) k a b c d
  | byt b => exact .byt b
  | set h => exact .set (e _ _ h)
  | kList h c => exact .kList h c
  | kTuple h c => exact .kTuple h c
  | kDict h c => exact .kDict h c
  | fTuple h => exact .fTuple (e _ _ h)
  | fDict h => exact .fDict (e _ _ h)
section
variable {K : PySem.W.Frag} {σ : L2.St} {H : Hp} {ta : TE} {x : V}
theorem ev_isi {t c : String} {b : Bool} (ha : Ev ta σ H x) (ht : TyX K H x (.type t)) (hb : kitB t c = some b) : Ev (tCB (rIsi K) (tCons ta (tCons (tC (.ty c)) tNil))) σ H (.bl b) := fun H1 e Q q =>
  ha H1 e _ fun H2 e2 => ⟨x, .ty c, _, _, b, rfl, .ty c, TyX.mono (e.trans e2) ht, kit_ty hb, q H2 e2⟩
end
abbrev s20 : Stmt := top 20
theorem sc20 : FnScope ["text", "lines", "head", "rest", "years", "holidays", "index", "holiday", "year"] ["text"] (defScope s20) := ⟨rfl, rfl, rfl, by decide +kernel, rfl, by decide +kernel, by decide +kernel⟩
end K9
end
section
set_option Elab.async false
set_option linter.all false
set_option maxRecDepth 100000
set_option maxHeartbeats 4000000
namespace K9
open PySem PySem.Spec PyProof.Rows L2 Evl
/-! ### two lists hidden -/
def hid (a b : Addr) (H : Hp) : Hp := fun c => if c = a ∨ c = b then none else H c
theorem hid_ex {a b : Addr} {H H' : Hp} (e : Ex H H') : Ex (hid a b H) (hid a b H') := fun c o h => by
  unfold hid at h ⊢
  by_cases hc : c = a ∨ c = b
  · rw [if_pos hc] at h; cases h
  · rw [if_neg hc] at h ⊢
    exact e _ _ h
theorem hid_le {a b : Addr} {H : Hp} : Ex (hid a b H) H := fun c o h => by
  unfold hid at h
  by_cases hc : c = a ∨ c = b
  · rw [if_pos hc] at h; cases h
  · rw [if_neg hc] at h
    exact h
theorem hid_up1 {a b : Addr} {H : Hp} {o : HO} : hid a b (upd H a o) = hid a b H := by
  funext c
  unfold hid
  by_cases hc : c = a ∨ c = b
  · rw [if_pos hc, if_pos hc]
  · rw [if_neg hc, if_neg hc, upd_ne fun z => hc (Or.inl z)]
theorem hid_up2 {a b : Addr} {H : Hp} {o : HO} : hid a b (upd H b o) = hid a b H := by
  funext c
  unfold hid
  by_cases hc : c = a ∨ c = b
  · rw [if_pos hc, if_pos hc]
  · rw [if_neg hc, if_neg hc, upd_ne fun z => hc (Or.inr z)]
theorem hid_at {a b c : Addr} {H : Hp} (h1 : c ≠ a) (h2 : c ≠ b) : hid a b H c = H c := by
  unfold hid
  rw [if_neg]
  rintro (h | h)
  · exact h1 h
  · exact h2 h
theorem hid_of {a b : Addr} {H H' : Hp} (e : Ex H H') (h1 : H a = none) (h2 : H b = none) : Ex H (hid a b H') := fun c o h => by
  rw [hid_at (fun z => by rw [z, h1] at h; cases h) (fun z => by rw [z, h2] at h; cases h)]
  exact e _ _ h
section
variable {K : PySem.W.Frag} {σ : L2.St} {H : Hp} {ta tb : TE} {x : V} {E : XK}
theorem ep_week {z : Str} (ha : Ev ta σ H (.str z)) (hz : z.length ≤ 1000000) : EvP (tCall sp15 [] E (tCons ta tNil)) σ H (OptP H (weekP z)) :=
  ep_sp (ea_cons ha ea_nil) fun H1 e => ⟨_, ⟨z, rfl, hz, rfl⟩, fun v H2 _ r => r.back e⟩
theorem ep_rest {z : Str} {k : Int} (ha : Ev ta σ H (.str z)) (hb : Ev tb σ H (.int k)) (hz : z.length ≤ 1000000) : EvP (tCall sp17 [] E (tCons ta (tCons tb tNil))) σ H (OptL H (restP z k)) :=
  ep_sp (ea_cons ha (ea_cons hb ea_nil)) fun H1 e => ⟨_, ⟨z, k, rfl, hz, rfl⟩, fun v H2 _ r => r.back e⟩
theorem ep_hol {z : Str} {p : Addr} {xs : List V} {ps : List (Int × Int)} (ha : Ev ta σ H (.str z)) (hb : Ev tb σ H (.ref p)) (hz : z.length ≤ 1000000) (hp : H p = some (.lst xs)) (hx : PrsAt H xs ps) : EvP (tCall (sp18 K) [] E (tCons ta (tCons tb tNil))) σ H (OptP H (holP z ps)) :=
  ep_sp (ea_cons ha (ea_cons hb ea_nil)) fun H1 e => ⟨_, ⟨z, p, xs, ps, rfl, hz, e _ _ hp, hx.fwd e, rfl⟩, fun v H2 _ r => r.back e⟩
theorem ep_year {tc : TE} {z : Str} {p p2 : Addr} {ys xs : List V} {rs : List (List Int)} {ps : List (Int × Int)} (ha : Ev ta σ H (.str z)) (hb : Ev tb σ H (.ref p)) (hc : Ev tc σ H (.ref p2)) (hz : z.length ≤ 1000000) (hp : H p = some (.lst ys)) (hy : RowsAt H ys rs)
    (hp2 : H p2 = some (.lst xs)) (hx : PrsAt H xs ps) : EvP (tCall (sp19 K) [] E (tCons ta (tCons tb (tCons tc tNil)))) σ H (OptL H (yearP z rs ps)) :=
  ep_sp (ea_cons ha (ea_cons hb (ea_cons hc ea_nil))) fun H1 e => ⟨_, ⟨z, p, p2, ys, xs, rs, ps, rfl, hz, e _ _ hp, hy.fwd e, e _ _ hp2, hx.fwd e, rfl⟩, fun v H2 _ r => r.back e⟩
theorem rv_notN : RV (fun x y H Q => y = .non ∧ Q (.bl (!decide (x = .non))) H) x .non H (.bl (!decide (x = .non))) := fun H1 _ Q q => ⟨rfl, q H1 (Ex.refl H1)⟩
theorem ea_star {t : TA} {p : Addr} {xs ys : List V} (ha : Ev ta σ H (.ref p)) (h : SqT K H p xs) (ht : EvA t σ H ys) : EvA (StX.tStar K ta t) σ H (xs ++ ys) := fun H1 e Q q =>
  ha H1 e _ fun H2 e2 => ⟨p, xs, rfl, .inl (ex_t (e.trans e2) h), ht H2 (e.trans e2) _ fun H3 e3 => q H3 (e2.trans e3)⟩
end
section
variable {K : PySem.W.Frag} {σ : L2.St} {H : Hp} {ta tb : TE} {x y : V} {D : Ends} {tz : TS} {i j : Nat}
theorem q_par (ha : Ev ta σ H x) (hb : Ev tb σ H y) (k : ∀ H1, Ex H H1 → tz D ((σ.set i (some x)).set j (some y)) H1) : tSeq (tPar i j (tCons ta (tCons tb tNil))) tz D σ H :=
  ha H (Ex.refl H) _ fun H1 e1 => hb H1 e1 _ fun H2 e2 => ⟨x, y, rfl, k H2 (e1.trans e2)⟩
theorem s_par (ha : Ev ta σ H x) (hb : Ev tb σ H y) (k : ∀ H1, Ex H H1 → D.nx ((σ.set i (some x)).set j (some y)) H1) : tPar i j (tCons ta (tCons tb tNil)) D σ H :=
  ha H (Ex.refl H) _ fun H1 e1 => hb H1 e1 _ fun H2 e2 => ⟨x, y, rfl, k H2 (e1.trans e2)⟩
theorem q_parL {ys : List V} (ha : Ev ta σ H x) (hb : EvL tb σ H ys) (k : ∀ q H1, H q = none → Ex H H1 → H1 q = some (.lst ys) → tz D ((σ.set i (some x)).set j (some (.ref q))) H1) : tSeq (tPar i j (tCons ta (tCons tb tNil))) tz D σ H :=
  ha H (Ex.refl H) _ fun H1 e1 => hb H1 e1 _ fun q H2 hq e2 h2 => ⟨x, .ref q, rfl, k q H2 (fresh_back e1 hq) (e1.trans e2) h2⟩
theorem q_parLL {xs ys : List V} (ha : EvL ta σ H xs) (hb : EvL tb σ H ys) (k : ∀ p q H1, H p = none → H q = none → p ≠ q → Ex H H1 → H1 p = some (.lst xs) → H1 q = some (.lst ys) → tz D ((σ.set i (some (.ref p))).set j (some (.ref q))) H1) : tSeq (tPar i j (tCons ta (tCons tb tNil))) tz D σ H :=
  ha H (Ex.refl H) _ fun p H1 hp e1 h1 => hb H1 e1 _ fun q H2 hq e2 h2 => ⟨.ref p, .ref q, rfl, k p q H2 hp (fresh_back e1 hq) (fun z => by rw [z, hq] at h1; cases h1) (e1.trans e2) (e2 _ _ h1) h2⟩
end
theorem strs_at {l : List Str} {i : Nat} {x : Str} (h : l[i]? = some x) : atI (l.map V.str) (i : Int) = some (.str x) := atI_nat (by rw [List.getElem?_map, h]; rfl)
section
variable {P : Program} {w : World} {K : PySem.W.Frag} {mg : Str → Option Value} {base : Heap} {f : Addr} {fd : FuncData} {C : Addr}
theorem ok20 (F : FnP K "read_calendar" s20 f fd) (T : Txt mg) (R_InvalidText : ErrC P w K mg base "InvalidText" "index" C) (C_week_in : CalN P w K mg base 3 "week_in" sp15) (C_rest_in : CalN P w K mg base 4 "rest_in" sp17)
    (C_holiday_in : CalN P w K mg base 4 "holiday_in" (sp18 K)) (C_year_in : CalN P w K mg base 4 "year_in" (sp19 K)) : FnOk P w K mg base (L2.CX P w) 5 f fd ["text"] (sp20 K C) := by
  refine F.ok sc20 (fun vs H Q E h => ?_) (fun cdv A outer s H vs Q E hr h => ?_)
  · obtain ⟨x, rfl, _⟩ := h
    rfl
  · obtain ⟨x, rfl, h⟩ := h
    have nd := sc20.nd
    refine ⟨_, (pss_cons (ps_if (pt_not (pt_val (pe_callB call_isi (by rfl) T.isinstance (by decide +kernel) (pa_cons (pv 0) (pa_cons (pe_bltn (v := .ty "str") (by rfl) T.str (by decide +kernel) rfl) pa_nil))))) (pss_one (ps_err R_InvalidText hr (by decide) rfl (takes_of rfl rfl rfl rfl) (by rfl) pe_int)) pss_nil)
    (pss_cons (ps_set (i := 1) nd rfl (Or.inl rfl) (pe_split (pv 0) pe_str))
    (pss_cons (ps_set (i := 2) nd rfl (Or.inl rfl) (C8.pe_c (C_week_in) hr (by decide) (by rfl) (pa_cons (pe_ix ix_list (pv 1) pe_int (fun _ _ => rfl)) pa_nil)))
    (pss_cons (ps_if (pt_cmpR op_isN (pv 2) pe_non (nomark _)) (pss_one (ps_err R_InvalidText hr (by decide) rfl (takes_of rfl rfl rfl rfl) (by rfl) pe_int)) pss_nil)
    (pss_cons (ps_set (i := 3) nd rfl (Or.inl rfl) (pe_ifExp (pt_cmpR op_gt (pe_callB call_len_seq (by rfl) T.len (by decide +kernel) (pa_cons (pv 1) pa_nil)) pe_int (nomark _)) (C8.pe_c (C_rest_in) hr (by decide) (by rfl) (pa_cons (pe_ix ix_list (pv 1) pe_int (fun _ _ => rfl)) (pa_cons (pe_ix ix_tup (pv 2) pe_int (fun _ _ => rfl)) pa_nil))) pe_non))
    (pss_cons (ps_if (pt_cmpR op_isN (pv 3) pe_non (nomark _)) (pss_one (ps_err R_InvalidText hr (by decide) rfl (takes_of rfl rfl rfl rfl) (by rfl) pe_int)) pss_nil)
    (pss_cons (ps_par (i := 4) (j := 5) rfl nd rfl rfl (by decide) rfl rfl (pa_cons (pe_lst pa_nil) (pa_cons (pe_lst pa_nil) pa_nil)) (by rfl))
    (pss_cons (ps_for (passes_of rfl) rfl (pi_range2 (by rfl) T.range (pa_cons pe_int (pa_cons (pe_callB call_len_seq (by rfl) T.len (by decide +kernel) (pa_cons (pv 1) pa_nil)) pa_nil))) (pg_name (i := 6) nd rfl (Or.inl rfl)) (pss_cons (ps_set (i := 7) nd rfl (Or.inl rfl) (pe_ifExp (pt_cmpR (op_eqD hr.units) (pv 4) (pe_lst pa_nil) (nomark _)) (C8.pe_c (C_holiday_in) hr (by decide) (by rfl) (pa_cons (pe_ix ix_list (pv 1) (pv 6) (fun _ _ => rfl)) (pa_cons (pv 5) pa_nil))) pe_non))
    (pss_cons (ps_set (i := 8) nd rfl (Or.inl rfl) (pe_ifExp (pt_cmpR op_isN (pv 7) pe_non (nomark _)) (C8.pe_c (C_year_in) hr (by decide) (by rfl) (pa_cons (pe_ix ix_list (pv 1) (pv 6) (fun _ _ => rfl)) (pa_cons (pv 4) (pa_cons (pv 5) pa_nil)))) pe_non))
    (pss_one (ps_if (pt_cmpR op_notN (pv 7) pe_non (nomark _)) (pss_one (ps_expr (pe_bm PySem.F.plainAttrs_list PySem.F.slot_list_append PySem.F.type_list_append mt_append (pv 5) (pa_cons (pv 7) pa_nil)))) (pss_one (ps_if (pt_cmpR op_notN (pv 8) pe_non (nomark _)) (pss_one (ps_expr (pe_bm PySem.F.plainAttrs_list PySem.F.slot_list_append PySem.F.type_list_append mt_append (pv 4) (pa_cons (pv 8) pa_nil)))) (pss_one (ps_err R_InvalidText hr (by decide) rfl (takes_of rfl rfl rfl rfl) (by rfl) (pv 6))))))))))
    (pss_cons (ps_if (pt_cmpR (op_eqD hr.units) (pv 4) (pe_lst pa_nil) (nomark _)) (pss_one (ps_err R_InvalidText hr (by decide) rfl (takes_of rfl rfl rfl rfl) (by rfl) (pe_callB call_len_seq (by rfl) T.len (by decide +kernel) (pa_cons (pv 1) pa_nil)))) pss_nil)
    (pss_one (ps_ret (pe_tup (pa_cons (pv 4) (StX.pa_star (pv 2) (pa_cons (pv 3) (pa_cons (pv 5) (pa_cons (pe_callB call_len_seq (by rfl) T.len (by decide +kernel) (pa_cons (pv 1) pa_nil)) pa_nil))))))))))))))))), ?_⟩
    have TO := R_InvalidText.oex
    have TN := R_InvalidText.nof
    rcases h with ⟨z, rfl, hz, k⟩ | ⟨t, ht, hk, k⟩
    · refine q_when (b := false) (et_is (et_not (et_test (ev_isi (b := true) (ev_var rfl) (.base (.str z)) (by decide +kernel)))) rfl) (fun h => by cases h) (fun _ H1 e1 => ?_)
      refine q_asgL (el_split (ev_var rfl) ev_c nl_ok (by omega)) fun p H2 hp e2 h2 => ?_
      have hL : (Txt.split z (Str.ofString "\n")) = linesOf z := rfl
      rw [hL] at h2
      have hsh : ∀ x ∈ linesOf z, x.length ≤ 1000000 := fun x hx => Nat.le_trans (lines_short hx) (by omega)
      have hlen := lines_len z
      obtain ⟨l0, r, hl⟩ : ∃ l0 r, linesOf z = l0 :: r := by
        cases e : linesOf z with
        | nil => exact absurd e (lines_ne z)
        | cons a ws => exact ⟨a, ws, rfl⟩
      have hT : readT z = match weekP l0 with
        | none => .error 0
        | some p => readA p.1 p.2 r := by
        unfold readT
        rw [hl]
        rfl
      rw [hl] at h2 hsh hlen
      have e02 := e1.trans e2
      refine q_asgP (ep_week (ev_op (ev_var rfl) ev_c (rv_ixL (sq_of h2) (strs_at (i := 0) rfl))) (hsh _ List.mem_cons_self)) fun v H3 e3 r3 => ?_
      cases hw : weekP l0 with
      | none =>
        rw [hw] at r3
        cases r3
        rw [hT, hw] at k
        exact q_when (b := true) (et_test (ev_op (ev_var (v := .non) rfl) ev_c rv_isN)) (fun _ H4 e4 => s_err TO TN ev_c fun d H5 e5 h5 => k d H5 (((e02.trans e3).trans e4).trans e5) h5) (fun h => by cases h)
      | some kj =>
        obtain ⟨wk, fs⟩ := kj
        rw [hw] at r3 hT
        obtain ⟨ph, rfl, hph, h3⟩ := r3
        refine q_when (b := false) (et_test (ev_op (ev_var (v := .ref ph) rfl) ev_c rv_isN)) (fun h => by cases h) (fun _ H4 e4 => ?_)
        have e24 := e3.trans e4
        have hlenV : ∀ {σ : L2.St} {H5 : Hp}, Ex H4 H5 → σ[1]? = some (some (.ref p)) → Ev (tCB (fun xs H Q => ∃ p ys, xs = [.ref p] ∧ (SqL K H p ys ∨ SqT K H p ys) ∧ Q (.int ys.length) H) (tCons (tVar 1) tNil)) σ H5 (.int ((r.length : Int) + 1)) := fun {σ H5} e hσ =>
          ev_is (ev_lenQ (ev_var hσ) (sq_of (e _ _ (e24 _ _ h2)))) (by rw [List.length_map]; simp)
        cases r with
        | nil =>
          refine q_asg (v := .non) (ev_if (b := false) (et_is (et_test (ev_op (hlenV (Ex.refl _) rfl) ev_c rv_I0)) (by simp)) (fun h => by cases h) (fun _ => ev_c)) fun H5 e5 => ?_
          rw [hT] at k
          exact q_when (b := true) (et_test (ev_op (ev_var (v := .non) rfl) ev_c rv_isN)) (fun _ H6 e6 => s_err TO TN ev_c fun d H7 e7 h7 => k d H7 ((((e02.trans e24).trans e5).trans e6).trans e7) h7) (fun h => by cases h)
        | cons l1 r2 =>
          refine q_asgP (ep_if (b := true) (et_is (et_test (ev_op (hlenV (Ex.refl _) rfl) ev_c rv_I0)) (by simp; omega)) (fun _ => ep_rest (k := wk) (ev_op (ev_var rfl) ev_c (rv_ixL (sq_of (e24 _ _ h2)) (strs_at (i := 1) rfl)))
            (ev_op (ev_var rfl) ev_c (rv_ixT (st_of (e4 _ _ h3)) (atI_nat (j := 0) rfl))) (hsh _ (List.mem_cons_of_mem _ List.mem_cons_self))) (fun h => by cases h)) fun v H5 e5 r5 => ?_
          cases hrs : restP l1 wk with
          | none =>
            rw [hrs] at r5
            cases r5
            have hT2 : readT z = .error 1 := by
              rw [hT]
              show readA wk fs (l1 :: r2) = _
              simp only [readA, hrs]
            rw [hT2] at k
            exact q_when (b := true) (et_test (ev_op (ev_var (v := .non) rfl) ev_c rv_isN)) (fun _ H6 e6 => s_err TO TN ev_c fun d H7 e7 h7 => k d H7 ((((e02.trans e24).trans e5).trans e6).trans e7) h7) (fun h => by cases h)
          | some rs =>
            rw [hrs] at r5
            obtain ⟨pr, rfl, hpr, h5⟩ := r5
            have hT2 : readT z = readB wk fs rs r2 := by
              rw [hT]
              show readA wk fs (l1 :: r2) = _
              simp only [readA, hrs]
            refine q_when (b := false) (et_test (ev_op (ev_var (v := .ref pr) rfl) ev_c rv_isN)) (fun h => by cases h) (fun _ H6 e6 => ?_)
            have e06 : Ex H H6 := ((e02.trans e24).trans e5).trans e6
            have g2 : H6 p = some (.lst ((l0 :: l1 :: r2).map V.str)) := (e24.trans (e5.trans e6)) _ _ h2
            have g3 : H6 ph = some (.tup [.int wk, .int fs]) := (e4.trans (e5.trans e6)) _ _ h3
            have g5 : H6 pr = some (.lst (rs.map V.int)) := e6 _ _ h5
            refine q_parLL (el_lst ea_nil (by decide)) (el_lst ea_nil (by decide)) fun pY pH H8 hpY hpH6 hne e8 h7 h8 => ?_
            let Pv : Nat → L2.St → Hp → Prop := fun i σ H' => ∃ (ys : List (List Int)) (hs : List (Int × Int)) (xs us : List V) (a b c : Option V), σ = [some (.str z), some (.ref p), some (.ref ph), some (.ref pr), some (.ref pY), some (.ref pH), a, b, c] ∧
              Ex H6 (hid pY pH H') ∧ H' pY = some (.lst xs) ∧ RowsAt (hid pY pH H') xs ys ∧ H' pH = some (.lst us) ∧ PrsAt (hid pY pH H') us hs ∧ xs.length + us.length ≤ i ∧ readL 2 r2 [] [] = readL (2 + i) (r2.drop i) ys hs
            have hr2 : r2.length + 2 ≤ 90001 := by
              simp at hlen
              omega
            have lenG : ∀ {σ : L2.St} {H5 : Hp}, Ex H6 H5 → σ[1]? = some (some (.ref p)) → Ev (tCB (fun xs H Q => ∃ p ys, xs = [.ref p] ∧ (SqL K H p ys ∨ SqT K H p ys) ∧ Q (.int ys.length) H) (tCons (tVar 1) tNil)) σ H5 (.int ((r2.length + 2 : Nat) : Int)) := fun {σ H5} e hσ =>
              ev_is (ev_lenQ (ev_var hσ) (sq_of (e _ _ g2))) (by rw [List.length_map]; rfl)
            refine q_forR2 (ea_cons ev_c (ea_cons (lenG e8 rfl) ea_nil)) (by omega) Pv (fun H9 e9 => ?_) (fun i σ' H' hi pv => ?_) (fun σ' H' pv => ?_)
            · exact ⟨[], [], [], [], none, none, none, rfl, hid_of (e8.trans e9) hpY hpH6, e9 _ _ h7, .nil, e9 _ _ h8, .nil, by simp, by simp⟩
            · obtain ⟨ys, hs, xs, us, a, b, c, rfl, q1, q2, q3, q4, q5, q6, q7⟩ := pv
              have q1' : Ex H6 H' := fun c o h => hid_le _ _ (q1 _ _ h)
              have hi2 : i < r2.length := by omega
              obtain ⟨l, hli⟩ : ∃ l, r2[i]? = some l := ⟨_, List.getElem?_eq_getElem hi2⟩
              have hdrop : r2.drop i = l :: r2.drop (i + 1) := by
                rw [List.drop_eq_getElem_cons hi2]
                congr 1
                rw [List.getElem?_eq_getElem hi2] at hli
                exact Option.some.inj hli
              have hat : atI ((l0 :: l1 :: r2).map V.str) ((2 : Int) + (i : Int)) = some (.str l) := by
                rw [show (2 : Int) + (i : Int) = ((i + 2 : Nat) : Int) by omega]
                exact strs_at (by simpa using hli)
              have hls : l.length ≤ 1000000 := hsh _ (List.mem_cons_of_mem _ (List.mem_cons_of_mem _ (List.mem_of_getElem? hli)))
              have step : readL (2 + i) (r2.drop i) ys hs = match (if ys = [] then holP l hs else none) with
                  | some h => readL (2 + i + 1) (r2.drop (i + 1)) ys (hs ++ [h])
                  | none => match yearP l ys hs with
                    | some y => readL (2 + i + 1) (r2.drop (i + 1)) (ys ++ [y]) hs
                    | none => .error (2 + i) := by
                rw [hdrop]
                rfl
              have hx0 : ys.isEmpty = decide (ys = []) := by cases ys <;> rfl
              refine q_asgP (R := OptP H' (if ys = [] then holP l hs else none)) (ep_if (b := decide (ys = [])) (et_is (et_test (ev_eqNil (d := ys.map dL) (ev_var rfl) (fun H9 e9 => dp_rows (sq_of (e9 _ _ q2)) ((q3.fwd hid_le).fwd e9)) (pl_rows ys) (by decide))) (by cases ys <;> rfl))
                (fun h => ?_) (fun h => ?_)) fun v1 H9 e9 r9 => ?_
              · rw [if_pos (of_decide_eq_true h)]
                exact ep_hol (ev_op (ev_var rfl) (ev_var rfl) (rv_ixL (sq_of (q1' _ _ g2)) hat)) (ev_var rfl) hls q4 (q5.fwd hid_le)
              · rw [if_neg (of_decide_eq_false h)]
                exact ep_ev ev_c
              have nY : ∀ {t : Addr} {H1 : Hp}, Ex H' H1 → H1 t = none → t ≠ pY := fun e h z => by
                rw [z, e _ _ q2] at h
                cases h
              have nH : ∀ {t : Addr} {H1 : Hp}, Ex H' H1 → H1 t = none → t ≠ pH := fun e h z => by
                rw [z, e _ _ q4] at h
                cases h
              cases hh : (if ys = [] then holP l hs else none) with
              | some h =>
                rw [hh] at r9 step
                obtain ⟨t, rfl, ht, h9⟩ := r9
                refine q_asg (v := .non) (ev_if (b := false) (et_test (ev_op (ev_var (v := .ref t) rfl) ev_c rv_isN)) (fun h => by cases h) (fun _ => ev_c)) fun H10 e10 => ?_
                refine s_if (b := true) (et_test (ev_op (ev_var (v := .ref t) rfl) ev_c rv_notN)) (fun _ H11 e11 => ?_) (fun h => by cases h)
                have e' := e9.trans (e10.trans e11)
                refine s_app (e' _ _ q4) (ev_var rfl) (ev_var rfl) (by omega) fun H12 e12 => ?_
                have ee := e'.trans e12
                refine ⟨ys, hs ++ [h], xs, us ++ [.ref t], _, _, _, rfl, ?_, ?_, ?_, upd_same, ?_, ?_, ?_⟩
                · rw [hid_up2]
                  exact q1.trans (hid_ex ee)
                · rw [upd_ne hne]
                  exact ee _ _ q2
                · rw [hid_up2]
                  exact q3.fwd (hid_ex ee)
                · rw [hid_up2]
                  refine paired_snoc (q5.fwd (hid_ex ee)) ⟨t, rfl, ?_⟩
                  rw [hid_at (nY (Ex.refl _) ht) (nH (Ex.refl _) ht)]
                  exact e12 _ _ (e11 _ _ (e10 _ _ h9))
                · rw [List.length_append]
                  simp
                  omega
                · rw [q7, step]
                  rfl
              | none =>
                rw [hh] at r9 step
                cases r9
                refine q_asgP (R := OptL H9 (yearP l ys hs)) (ep_if (b := true) (et_test (ev_op (ev_var (v := .non) rfl) ev_c rv_isN)) (fun _ => ep_year (ev_op (ev_var rfl) (ev_var rfl) (rv_ixL (sq_of (e9 _ _ (q1' _ _ g2))) hat)) (ev_var rfl) (ev_var rfl) hls (e9 _ _ q2) ((q3.fwd hid_le).fwd e9) (e9 _ _ q4) ((q5.fwd hid_le).fwd e9)) (fun h => by cases h)) fun v2 H10 e10 r10 => ?_
                refine s_if (b := false) (et_test (ev_op (ev_var (v := .non) rfl) ev_c rv_notN)) (fun h => by cases h) (fun _ H11 e11 => ?_)
                cases hy : yearP l ys hs with
                | some y =>
                  rw [hy] at r10 step
                  obtain ⟨t, rfl, ht, h10⟩ := r10
                  refine s_if (b := true) (et_test (ev_op (ev_var (v := .ref t) rfl) ev_c rv_notN)) (fun _ H12 e12 => ?_) (fun h => by cases h)
                  have e' := e9.trans (e10.trans (e11.trans e12))
                  refine s_app (e' _ _ q2) (ev_var rfl) (ev_var rfl) (by omega) fun H13 e13 => ?_
                  have ee := e'.trans e13
                  refine ⟨ys ++ [y], hs, xs ++ [.ref t], us, _, _, _, rfl, ?_, upd_same, ?_, ?_, ?_, ?_, ?_⟩
                  · rw [hid_up1]
                    exact q1.trans (hid_ex ee)
                  · rw [hid_up1]
                    refine paired_snoc (q3.fwd (hid_ex ee)) ⟨t, rfl, ?_⟩
                    rw [hid_at (nY e9 ht) (nH e9 ht)]
                    exact e13 _ _ (e12 _ _ (e11 _ _ h10))
                  · rw [upd_ne (Ne.symm hne)]
                    exact ee _ _ q4
                  · rw [hid_up1]
                    exact q5.fwd (hid_ex ee)
                  · rw [List.length_append]
                    simp
                    omega
                  · rw [q7, step]
                    rfl
                | none =>
                  rw [hy] at r10 step
                  cases r10
                  refine s_if (b := false) (et_test (ev_op (ev_var (v := .non) rfl) ev_c rv_notN)) (fun h => by cases h) (fun _ H12 e12 => ?_)
                  rw [hT2, show readB wk fs rs r2 = .error (2 + i) by
                    unfold readB
                    rw [q7, step]] at k
                  refine s_err TO TN (ev_var rfl) fun d H13 e13 h13 => k d H13 (fun b o hb => ?_) (by rw [h13]; simp)
                  exact (e9.trans (e10.trans (e11.trans (e12.trans e13)))) _ _ (q1' _ _ (e06 _ _ hb))
            · obtain ⟨ys, hs, xs, us, a, b, c, rfl, q1, q2, q3, q4, q5, q6, q7⟩ := pv
              have q1' : Ex H6 H' := fun c o h => hid_le _ _ (q1 _ _ h)
              have hn : (((r2.length + 2 : Nat) : Int) - 2).toNat = r2.length := by omega
              rw [hn, List.drop_length] at q7
              have hB : readB wk fs rs r2 = if ys = [] then .error (r2.length + 2) else .ok ⟨ys, wk, fs, rs, hs, r2.length + 2⟩ := by
                unfold readB
                rw [q7]
                rfl
              rw [hT2, hB] at k
              have k2 := k
              cases hys : decide (ys = []) with
              | true =>
                rw [if_pos (of_decide_eq_true hys)] at k2
                refine q_when (b := true) (et_is (et_test (ev_eqNil (d := ys.map dL) (ev_var rfl) (fun H9 e9 => dp_rows (sq_of (e9 _ _ q2)) ((q3.fwd hid_le).fwd e9)) (pl_rows ys) (by decide))) (by rw [of_decide_eq_true hys]; rfl)) (fun _ H9 e9 => ?_) (fun h => by cases h)
                exact s_err TO TN (lenG (q1'.trans e9) rfl) fun d H10 e10 h10 => k2 d H10 ((e06.trans q1').trans (e9.trans e10)) h10
              | false =>
                rw [if_neg (of_decide_eq_false hys)] at k2
                refine q_when (b := false) (et_is (et_test (ev_eqNil (d := ys.map dL) (ev_var rfl) (fun H9 e9 => dp_rows (sq_of (e9 _ _ q2)) ((q3.fwd hid_le).fwd e9)) (pl_rows ys) (by decide))) (by cases ys with
                  | nil => cases hys
                  | cons a r => rfl)) (fun h => by cases h) (fun _ H9 e9 => ?_)
                refine s_retU (eu_tup (ea_cons (ev_var rfl) (ea_star (ev_var rfl) (st_of (e9 _ _ (q1' _ _ g3))) (ea_cons (ev_var rfl) (ea_cons (ev_var rfl) (ea_cons (lenG (q1'.trans e9) rfl) ea_nil))))) (by simp)) fun t H10 ht e10 h10 => ?_
                have ee := e9.trans e10
                exact k2 _ _ ((e06.trans q1').trans ee) ⟨t, pY, pr, pH, xs, us, rfl, h10, ee _ _ q2, (q3.fwd hid_le).fwd ee, ee _ _ (q1' _ _ g5), ee _ _ q4, (q5.fwd hid_le).fwd ee⟩
    · exact q_when (b := true) (et_is (et_not (et_test (ev_isi (ev_var rfl) ht hk))) rfl) (fun _ H1 e1 => s_err TO TN ev_c fun d H2 e2 h2 => k d H2 (e1.trans e2) h2) (fun h => by cases h)
end
end K9
end
section
set_option Elab.async false
set_option linter.all false
set_option maxRecDepth 100000
set_option maxHeartbeats 4000000
namespace K9
open PySem PySem.Spec PyProof.Rows L2 Evl
/-! ### texts put together -/
def rJoin (K : PySem.W.Frag) : V → List V → Hp → VK → Prop := fun x xs H Q => ∃ a p, ∃ ys : List Str, x = .str a ∧ xs = [.ref p] ∧ (SqL K H p (ys.map V.str) ∨ SqT K H p (ys.map V.str)) ∧
  (ys.map (·.length)).sum + ys.length * a.length ≤ 16777216 ∧ Q (.str (Txt.join a ys)) H
section
variable {X : Cx} {K : PySem.W.Frag} {o e : Expr} {es : List Expr} {to te : TE} {t : TA} {apos pos p : Pos}
theorem pe_joinK (hK : X.K = K) (ho : PE X o to) (he : PE X e te) (hs : starEach [e] X.env = [(false, eval e X.env)] := by rfl) (hbase : attributeBase o "join" X.env (eval o X.env) = eval o X.env := by rfl) (hline : (apos.endLine == pos.line) = true := by rfl) :
    PE X (.Call (.Attribute o "join" apos) [e] [] pos) (tM1 (rJoin K) to te) := by
  subst hK
  exact pe_join ho he hs hbase hline
theorem pa_starK (hK : X.K = K) (he : PE X e te) (hr : PA X es t) (hs : starEach (.Starred e p :: es) X.env = (true, eval e X.env) :: starEach es X.env := by rfl) : PA X (.Starred e p :: es) (StX.tStar K te t) := by
  subst hK
  exact StX.pa_star he hr hs
end
section
variable {K : PySem.W.Frag} {σ : L2.St} {H H' : Hp} {ta tb tc te tx : TE} {t u : TT} {x y z v : V} {xs ys : List V}
theorem ev_join {a : Str} {ys : List Str} (ha : Ev ta σ H (.str a)) (hb : EvL tb σ H (ys.map V.str)) (hz : (ys.map (·.length)).sum + ys.length * a.length ≤ 16777216) : Ev (tM1 (rJoin K) ta tb) σ H (.str (Txt.join a ys)) := fun H1 e Q q =>
  ha H1 e _ fun H2 e2 => ⟨⟨a, rfl⟩, hb H2 (e.trans e2) _ fun p H3 hp e3 h3 => ⟨a, p, ys, rfl, rfl, .inl (sq_of h3), hz, q H3 (e2.trans e3)⟩⟩
theorem ev_joinR {a : Str} {p : Addr} {ys : List Str} (ha : Ev ta σ H (.str a)) (hb : Ev tb σ H (.ref p)) (hp : SqL K H p (ys.map V.str)) (hz : (ys.map (·.length)).sum + ys.length * a.length ≤ 16777216) : Ev (tM1 (rJoin K) ta tb) σ H (.str (Txt.join a ys)) := fun H1 e Q q =>
  ha H1 e _ fun H2 e2 => ⟨⟨a, rfl⟩, hb H2 (e.trans e2) _ fun H3 e3 => ⟨a, p, ys, rfl, rfl, .inl (ex_l ((e.trans e2).trans e3) hp), hz, q H3 (e2.trans e3)⟩⟩
theorem ev_strI {i : Int} (h : Ev ta σ H (.int i)) (hz : i.natAbs.log2 < 1920) : Ev (tCB (fun xs H Q => ∃ i : Int, xs = [.int i] ∧ i.natAbs.log2 < 1920 ∧ Q (.str (toString i)) H) (tCons ta tNil)) σ H (.str (numS i)) := fun H1 e Q q =>
  h H1 e _ fun H2 e2 => ⟨i, rfl, hz, q H2 e2⟩
theorem ev_fmt {i : Int} (h : Ev ta σ H (.int i)) (hz : i.natAbs.log2 < 1920) : Ev (tFmt ta) σ H (.str (numS i)) := fun H1 e Q q =>
  h H1 e _ fun H2 e2 => .inr ⟨i, rfl, hz, q H2 e2⟩
def EvJ (ts : List TE) (acc : Str) (σ : L2.St) (H : Hp) (out : Str) : Prop := ∀ H1, Ex H H1 → ∀ Q : Str → Hp → Prop, (∀ H2, Ex H1 H2 → Q out H2) → tJs ts acc σ H1 Q
theorem ej_nil {acc : Str} : EvJ [] acc σ H acc := fun H1 _ Q q => q H1 (Ex.refl H1)
theorem ej_cons {ts : List TE} {acc out w : Str} (h : Ev te σ H (.str w)) (hz : (acc ++ w).length ≤ 1000000) (hr : EvJ ts (acc ++ w) σ H out) : EvJ (te :: ts) acc σ H out := fun H1 e Q q =>
  h H1 e _ fun H2 e2 => ⟨w, rfl, len_ok hz, hr H2 (e.trans e2) Q fun H3 e3 => q H3 (e2.trans e3)⟩
theorem ev_joined {ts : List TE} {out : Str} (h : EvJ ts Str.empty σ H out) : Ev (fun σ H Q => tJs ts Str.empty σ H fun out H1 => Q (.str out) H1) σ H (.str out) := fun H1 e Q q => h H1 e _ q
/-- lists in argument lists -/
theorem ea_starL {t : TA} (ha : EvL ta σ H xs) (ht : EvA t σ H ys) : EvA (StX.tStar K ta t) σ H (xs ++ ys) := fun H1 e Q q =>
  ha H1 e _ fun p H2 hp e2 h2 => ⟨p, xs, rfl, .inr (sq_of h2), ht H2 (e.trans e2) _ fun H3 e3 => q H3 (e2.trans e3)⟩
/-- xs.extend(a new list) -/
theorem q_ext {D : Ends} {tz : TS} {l : Addr} (hl : H l = some (.lst xs)) (ha : Ev ta σ H (.ref l)) (h : EvL te σ H ys) (hz : xs.length + ys.length ≤ 16777216) (k : ∀ H1, Ex H H1 → tz D σ (upd H1 l (.lst (xs ++ ys)))) :
    tSeq (tDrop (tBM K "list" rExtend ta (tCons te tNil))) tz D σ H := ha H (Ex.refl H) _ fun H1 e1 =>
  ⟨Or.inl ⟨rfl, xs, sq_of (e1 l _ hl)⟩, h H1 e1 _ fun b H2 hb e2 h2 => ⟨l, b, xs, ys, rfl, rfl, e2 l _ (e1 l _ hl), h2, by rw [sizeLine_eq]; exact hz, k H2 (e1.trans e2)⟩⟩
theorem s_ext {D : Ends} {l : Addr} (hl : H l = some (.lst xs)) (ha : Ev ta σ H (.ref l)) (h : EvL te σ H ys) (hz : xs.length + ys.length ≤ 16777216) (k : ∀ H1, Ex H H1 → D.nx σ (upd H1 l (.lst (xs ++ ys)))) :
    tDrop (tBM K "list" rExtend ta (tCons te tNil)) D σ H := ha H (Ex.refl H) _ fun H1 e1 =>
  ⟨Or.inl ⟨rfl, xs, sq_of (e1 l _ hl)⟩, h H1 e1 _ fun b H2 hb e2 h2 => ⟨l, b, xs, ys, rfl, rfl, e2 l _ (e1 l _ hl), h2, by rw [sizeLine_eq]; exact hz, k H2 (e1.trans e2)⟩⟩
theorem q_asgG {D : Ends} {tz : TS} {g : TG} (h : Ev te σ H v) (k : ∀ H1, Ex H H1 → g v σ H1 (tz D)) : tSeq (tAsg te g) tz D σ H := h H (Ex.refl H) _ fun H1 e => k H1 e
theorem s_asgG {D : Ends} {g : TG} (h : Ev te σ H v) (k : ∀ H1, Ex H H1 → g v σ H1 D.nx) : tAsg te g D σ H := h H (Ex.refl H) _ fun H1 e => k H1 e
/-! ### comprehensions, further -/
/-- any target: σs i the state behind it -/
theorem lc_evG {J : It} {n : Nat} {g : TG} {G : Hp → Prop} {vs : List Nat} {it : Nat → V} {H1 : Hp} {Dl : Addr} {Qd : Hp → Prop} (σs : Nat → L2.St) (w : Walk J n G (fun i H x H' => H' = H ∧ x = it i)) (f : Nat → Bool) (v : Nat → V) (hn : n ≤ sizeLine) (hD : H1 Dl = none)
    (hG : ∀ H', Ex H1 H' → G H') (hg : ∀ i H' (k : L2.St → Hp → Prop), i < n → Ex H1 H' → k (σs i) H' → g (it i) (wipe σ vs) H' k) (hw : ∀ i, i < n → wipe (σs i) vs = wipe σ vs)
    (ht : ∀ i, i < n → EvT t (σs i) H1 (f i)) (he : ∀ i, i < n → f i = true → Ev te (σs i) H1 (v i))
    (hd : ∀ H', Ex H1 H' → H' Dl = some (.lst (given n f v)) → Qd H') :
    ∃ W : Nat → Nat → Hp → Prop, (∃ m, W 0 m (upd H1 Dl (.lst []))) ∧ ∀ i m H, W i m H →
      (J.stop i H ∧ Qd H) ∨ (J.go i H ∧ ∃ Nx : Hp → Prop, (∀ H', Nx H' → ∃ m', m' < m ∧ W (i + 1) m' H') ∧ ∀ x H', J.yld i H x H' → g x (wipe σ vs) H' fun σ2 H2 => wipe σ2 vs = wipe σ vs ∧ t σ2 H2 fun b H3 =>
        if b = true then te σ2 H3 fun y H4 => ∃ acc, H4 Dl = some (.lst acc) ∧ acc.length < sizeLine ∧ Nx (upd H4 Dl (.lst (acc ++ [y]))) else Nx H3) :=
  lc_it w (g := g) (Cw H1 f v Dl) ⟨hD, Ex.new hD, upd_same⟩ (fun i H' _ p => hG H' p.2.1)
    (fun i x H2 H' hi p y => by
      obtain ⟨e1, e2⟩ := y
      subst e1 e2
      exact hg i _ _ hi p.2.1 ⟨hw i hi, cw_turn2 p (Nat.lt_of_lt_of_le hi hn) (ht i hi) (he i hi)⟩)
    (fun H' p => hd H' p.2.1 p.2.2)
theorem el_lcTuG {a : Addr} {tl : TE} {g : TG} {vs : List Nat} (σs : Nat → L2.St) (f : Nat → Bool) (v : Nat → V) (h : Ev tl σ H (.ref a)) (hx : SqT K H a xs) (hz : xs.length ≤ sizeLine)
    (hg : ∀ i H' (k : L2.St → Hp → Prop), i < xs.length → Ex H H' → k (σs i) H' → g (xs.getD i .non) (wipe σ vs) H' k) (hw : ∀ i, i < xs.length → wipe (σs i) vs = wipe σ vs)
    (ht : ∀ (i : Nat) H1, Ex H H1 → i < xs.length → EvT t (σs i) H1 (f i)) (he : ∀ (i : Nat) H1, Ex H H1 → i < xs.length → f i = true → Ev te (σs i) H1 (v i)) :
    EvL (tLc (iTup K tl) g t te vs) σ H (given xs.length f v) := fun H0 e Q q => h H0 e _ fun H1 e1 => ⟨a, rfl, ⟨xs, ex_t (e.trans e1) hx⟩, fun Dl hD =>
  lc_evG (it := fun i => xs.getD i .non) σs (walk_tup.mono (fun _ h => h) fun i H x H' hi _ y => ⟨y.1, by rw [List.getD_eq_getElem?_getD, y.2]; rfl⟩) f v hz hD (fun H' e' => ex_t ((e.trans e1).trans e') hx) (fun i H' k hi e' hk => hg i H' k hi ((e.trans e1).trans e') hk) hw (fun i hi => ht i H1 (e.trans e1) hi) (fun i hi => he i H1 (e.trans e1) hi)
    fun H' e' h' => q Dl H' (fresh_back e1 hD) (e1.trans e') h'⟩
theorem el_lcTu {a : Addr} {tl : TE} {j : Nat} {vs : List Nat} (f : Nat → Bool) (v : Nat → V) (h : Ev tl σ H (.ref a)) (hx : SqT K H a xs) (hz : xs.length ≤ sizeLine) (hw : ∀ x, wipe ((wipe σ vs).set j (some x)) vs = wipe σ vs)
    (ht : ∀ (i : Nat) H1, Ex H H1 → i < xs.length → EvT t ((wipe σ vs).set j (some (xs.getD i .non))) H1 (f i)) (he : ∀ (i : Nat) H1, Ex H H1 → i < xs.length → f i = true → Ev te ((wipe σ vs).set j (some (xs.getD i .non))) H1 (v i)) :
    EvL (tLc (iTup K tl) (gName j) t te vs) σ H (given xs.length f v) :=
  el_lcTuG (fun i => (wipe σ vs).set j (some (xs.getD i .non))) f v h hx hz (fun i H' k _ _ hk => hk) (fun i _ => hw _) ht he
end
theorem getD_at {α : Type} {xs : List α} {i : Nat} {d : α} (h : i < xs.length) : xs[i]? = some (xs.getD i d) := by
  rw [List.getD_eq_getElem?_getD, List.getElem?_eq_getElem h]
  rfl
theorem getD_map {α β : Type} {xs : List α} {i : Nat} {d : α} {e : β} {g : α → β} (h : i < xs.length) : (xs.map g).getD i e = g (xs.getD i d) := by
  rw [List.getD_eq_getElem?_getD, List.getElem?_map, getD_at (d := d) h]
  rfl
theorem getD_mem {α : Type} {xs : List α} {i : Nat} {d : α} (h : i < xs.length) : xs.getD i d ∈ xs := List.mem_of_getElem? (getD_at h)
theorem log_small {i : Int} (h0 : 0 ≤ i) (h : i ≤ 1000000) : i.natAbs.log2 < 1920 := by
  have h2 : i.natAbs < 2 ^ 1920 := Nat.lt_of_le_of_lt (by omega : i.natAbs ≤ 1000000) (by decide)
  by_cases hz : i.natAbs = 0
  · rw [hz]; decide
  · exact (Nat.log2_lt hz).mpr h2
theorem ea_is {σ : L2.St} {H : Hp} {ta : TA} {vs ws : List V} (h : EvA ta σ H vs) (e : vs = ws) : EvA ta σ H ws := by
  rw [← e]
  exact h
/-- [str(x) for x in a tuple of ints] -/
theorem el_strsT {K : PySem.W.Frag} {σ : L2.St} {H : Hp} {tl : TE} {j : Nat} {vs : List Nat} {p : Addr} {l : List Int} (h : Ev tl σ H (.ref p)) (hp : SqT K H p (l.map V.int)) (hz : l.length ≤ 1000) (hl : ∀ i ∈ l, i.natAbs.log2 < 1920)
    (hw : ∀ x, wipe ((wipe σ vs).set j (some x)) vs = wipe σ vs) (hj : ∀ x, ((wipe σ vs).set j (some x))[j]? = some (some x)) :
    EvL (tLc (iTup K tl) (gName j) tYes (tCB (fun xs H Q => ∃ i : Int, xs = [.int i] ∧ i.natAbs.log2 < 1920 ∧ Q (.str (toString i)) H) (tCons (tVar j) tNil)) vs) σ H ((l.map numS).map V.str) := by
  refine el_is (el_lcTu (fun _ => true) (fun i => .str (numS (l.getD i 0))) h hp (by rw [List.length_map]; exact sz_of (by omega)) hw (fun _ _ _ _ => et_yes) (fun i H1 e1 hi _ => ?_)) ?_
  · have hi2 : i < l.length := by simpa using hi
    have e : (l.map V.int).getD i .non = .int (l.getD i 0) := getD_map hi2
    rw [e]
    exact ev_strI (ev_var (hj _)) (hl _ (getD_mem hi2))
  · rw [given_all, List.length_map, List.map_map]
    exact given_list l 0 fun x => V.str (numS x)
end K9
end
section
set_option Elab.async false
set_option linter.all false
set_option maxRecDepth 100000
set_option maxHeartbeats 4000000
namespace K9
open PySem PySem.Spec PyProof.Rows L2 Evl
/-! ### calendar_text -/
def headLine (w f : Int) : Str := (((Str.empty ++ Str.ofString "week ") ++ numS w) ++ Str.ofString " first ") ++ numS f
def holLine (p : Int × Int) : Str := (((Str.empty ++ Str.ofString "holiday ") ++ numS p.1) ++ Str.ofString " ") ++ numS p.2
def numLine (word : Str) (l : List Int) : Str := Txt.join sep1 (word :: l.map numS)
def textP (ys : List (List Int)) (w f : Int) (rs : List Int) (hs : List (Int × Int)) : Str :=
  Txt.join nl ((([headLine w f, numLine (Str.ofString "rest") rs] ++ hs.map holLine)) ++ ys.map (numLine (Str.ofString "year")))
def SmI (i : Int) : Prop := 0 ≤ i ∧ i ≤ 1000
structure SmT (ys : List (List Int)) (w f : Int) (rs : List Int) (hs : List (Int × Int)) : Prop where
  w : SmI w
  f : SmI f
  rs : (∀ i ∈ rs, SmI i) ∧ rs.length ≤ 20
  hs : (∀ p ∈ hs, SmI p.1 ∧ SmI p.2) ∧ hs.length ≤ 1000
  ys : (∀ y ∈ ys, (∀ i ∈ y, SmI i) ∧ y.length ≤ 20) ∧ ys.length ≤ 1000
theorem sm_log {i : Int} (h : SmI i) : i.natAbs.log2 < 1920 := log_small h.1 (Int.le_trans h.2 (by decide))
theorem numS_all : ∀ n : Fin 1001, (numS (n.val : Int)).length ≤ 4 := by decide +kernel
theorem numS_len {i : Int} (h : SmI i) : (numS i).length ≤ 4 := by
  obtain ⟨h0, h1⟩ := h
  have e : i = ((i.toNat : Nat) : Int) := by omega
  rw [e]
  exact numS_all ⟨i.toNat, by omega⟩
theorem len_app (a b : Str) : (a ++ b).length = a.length + b.length := by
  show (a.cps ++ b.cps).size = a.cps.size + b.cps.size
  exact Array.size_append
theorem headLine_len {w f : Int} (hw : SmI w) (hf : SmI f) : (headLine w f).length ≤ 30 := by
  have h1 := numS_len hw
  have h2 := numS_len hf
  have h3 : (Str.ofString "week ").length = 5 := by decide +kernel
  have h4 : (Str.ofString " first ").length = 7 := by decide +kernel
  have h5 : Str.empty.length = 0 := rfl
  unfold headLine
  rw [len_app, len_app, len_app, len_app]
  omega
theorem holLine_len {p : Int × Int} (h : SmI p.1 ∧ SmI p.2) : (holLine p).length ≤ 30 := by
  have h1 := numS_len h.1
  have h2 := numS_len h.2
  have h3 : (Str.ofString "holiday ").length = 8 := by decide +kernel
  have h4 : (Str.ofString " ").length = 1 := by decide +kernel
  have h5 : Str.empty.length = 0 := rfl
  unfold holLine
  rw [len_app, len_app, len_app, len_app]
  omega
theorem sum_le {α : Type} {g : α → Nat} {b : Nat} : ∀ {l : List α}, (∀ x ∈ l, g x ≤ b) → (l.map g).sum ≤ l.length * b
  | [], _ => by simp
  | x :: l, h => by
    have h1 := h x List.mem_cons_self
    have h2 := sum_le (l := l) fun y hy => h y (List.mem_cons_of_mem _ hy)
    simp only [List.map_cons, List.sum_cons, List.length_cons]
    rw [Nat.add_mul]
    omega
theorem joinL_len (a : List Nat) : ∀ (ys : List (List Nat)), (TL.joinL a ys).length ≤ (ys.map List.length).sum + ys.length * a.length
  | [] => by simp [TL.joinL]
  | [x] => by simp [TL.joinL]
  | x :: y :: r => by
    have ih := joinL_len a (y :: r)
    have e : TL.joinL a (x :: y :: r) = x ++ a ++ TL.joinL a (y :: r) := by simp [TL.joinL]
    rw [e]
    simp only [List.length_append, List.map_cons, List.sum_cons, List.length_cons] at ih ⊢
    rw [Nat.add_mul]
    omega
theorem join_len (a : Str) (ys : List Str) : (Txt.join a ys).length ≤ (ys.map (·.length)).sum + ys.length * a.length := by
  rw [TL.join_eq, TL.len_tl, TL.tl_join]
  refine Nat.le_trans (joinL_len _ _) ?_
  rw [List.map_map, List.length_map, TL.len_tl]
  exact Nat.le_refl _
theorem numLine_len {word : Str} {l : List Int} (hw : word.length ≤ 10) (h : (∀ i ∈ l, SmI i) ∧ l.length ≤ 20) : ((word :: l.map numS).map (·.length)).sum + (word :: l.map numS).length * sep1.length ≤ 200 := by
  have h1 : ((l.map numS).map (·.length)).sum ≤ (l.map numS).length * 4 := sum_le fun x hx => by
    obtain ⟨i, hi, rfl⟩ := List.mem_map.mp hx
    exact numS_len (h.1 i hi)
  have h2 : sep1.length = 1 := by decide +kernel
  rw [List.length_map] at h1
  simp only [List.map_cons, List.sum_cons, List.length_cons, List.length_map, h2]
  have := h.2
  omega
def linesP (ys : List (List Int)) (w f : Int) (rs : List Int) (hs : List (Int × Int)) : List Str := ([headLine w f, numLine (Str.ofString "rest") rs] ++ hs.map holLine) ++ ys.map (numLine (Str.ofString "year"))
theorem line_len {ys : List (List Int)} {w f : Int} {rs : List Int} {hs : List (Int × Int)} (S : SmT ys w f rs hs) : ∀ l ∈ linesP ys w f rs hs, l.length ≤ 200 := fun l hl => by
  unfold linesP at hl
  rcases List.mem_append.mp hl with hl | hl
  · rcases List.mem_append.mp hl with hl | hl
    · rcases List.mem_cons.mp hl with rfl | hl
      · exact Nat.le_trans (headLine_len S.w S.f) (by decide)
      · rcases List.mem_cons.mp hl with rfl | hl
        · exact Nat.le_trans (join_len _ _) (numLine_len (by decide +kernel) S.rs)
        · cases hl
    · obtain ⟨p, hp, rfl⟩ := List.mem_map.mp hl
      exact Nat.le_trans (holLine_len (S.hs.1 p hp)) (by decide)
  · obtain ⟨y, hy, rfl⟩ := List.mem_map.mp hl
    exact Nat.le_trans (join_len _ _) (numLine_len (by decide +kernel) (S.ys.1 y hy))
theorem lines_size {ys : List (List Int)} {w f : Int} {rs : List Int} {hs : List (Int × Int)} (S : SmT ys w f rs hs) : ((linesP ys w f rs hs).map (·.length)).sum + (linesP ys w f rs hs).length * nl.length ≤ 16777216 := by
  have h1 : ((linesP ys w f rs hs).map (·.length)).sum ≤ (linesP ys w f rs hs).length * 200 := sum_le (line_len S)
  have h2 : (linesP ys w f rs hs).length = 2 + hs.length + ys.length := by
    unfold linesP
    simp
    omega
  have h3 : nl.length = 1 := by decide +kernel
  have := S.hs.2
  have := S.ys.2
  rw [h3]
  omega
/-- tracked tuples of ints -/
def IsTu (H : Hp) (v : V) (l : List Int) : Prop := ∃ t, v = .ref t ∧ H t = some (.tup (l.map V.int))
theorem IsTu.fwd {H H' : Hp} {v : V} {p : List Int} (h : IsTu H v p) (e : Ex H H') : IsTu H' v p := by
  obtain ⟨t, h1, h2⟩ := h
  exact ⟨t, h1, e _ _ h2⟩
abbrev TusAt (H : Hp) (xs : List V) (rs : List (List Int)) : Prop := Paired (IsTu H) xs rs
theorem TusAt.fwd {H H' : Hp} {xs : List V} {ps : List (List Int)} (h : TusAt H xs ps) (e : Ex H H') : TusAt H' xs ps := Paired.mapP h fun _ _ r => r.fwd e
/-- the facts -/
def FactsAt (H : Hp) (t : Addr) (ys : List (List Int)) (w f : Int) (rs : List Int) (hs : List (Int × Int)) : Prop := ∃ (py pr ph : Addr) (xs us : List V), H t = some (.tup [.ref py, .int w, .int f, .ref pr, .ref ph]) ∧ H py = some (.tup xs) ∧ TusAt H xs ys ∧
  H pr = some (.tup (rs.map V.int)) ∧ H ph = some (.tup us) ∧ PrsAt H us hs
def sp14 : Sp := spR fun vs H R => ∃ (t : Addr) (ys : List (List Int)) (w f : Int) (rs : List Int) (hs : List (Int × Int)), vs = [.ref t] ∧ FactsAt H t ys w f rs hs ∧ SmT ys w f rs hs ∧ R = fun v _ => v = .str (textP ys w f rs hs)
abbrev s14 : Stmt := top 14
theorem sc14 : FnScope ["facts", "years", "week", "first", "rest", "holidays", "lines", "weekday", "month", "day", "year", "days"] ["facts"] (defScope s14) := ⟨rfl, rfl, rfl, by decide +kernel, rfl, by decide +kernel, by decide +kernel⟩
section
variable {P : Program} {w : World} {K : PySem.W.Frag} {mg : Str → Option Value} {base : Heap} {f : Addr} {fd : FuncData}
theorem ok14 (F : FnP K "calendar_text" s14 f fd) (T : Txt mg) : FnOk P w K mg base L2.CX0 1 f fd ["facts"] sp14 := by
  refine F.ok sc14 (fun vs H Q E h => ?_) (fun cdv A outer s H vs Q E hr h => ?_)
  · obtain ⟨R, ⟨t, ys, w, f, rs, hs, rfl, _⟩, _⟩ := h
    rfl
  · obtain ⟨R, ⟨t, ys, wk, fs, rs, hs, rfl, ⟨py, pr, ph, xs, us, ht, hpy, hxs, hpr, hph, hus⟩, S, rfl⟩, k⟩ := h
    have nd := sc14.nd
    refine ⟨_, PSs.nox (pss_cons (ps_asg (pv 0) (pg_tup rfl (pgs_cons (pg_name (i := 1) nd rfl (Or.inl rfl)) (pgs_cons (pg_name (i := 2) nd rfl (Or.inl rfl)) (pgs_cons (pg_name (i := 3) nd rfl (Or.inl rfl)) (pgs_cons (pg_name (i := 4) nd rfl (Or.inl rfl)) (pgs_cons (pg_name (i := 5) nd rfl (Or.inl rfl)) pgs_nil)))))))
    (pss_cons (ps_set (i := 6) nd rfl (Or.inl rfl) (pe_lst (pa_cons (pe_joined (PJ.cons (pe_str) (PJ.cons (pe_fmt (pv 2)) (PJ.cons (pe_str) (PJ.cons (pe_fmt (pv 3)) PJ.nil))))) (pa_cons (pe_joinK (K := K) rfl pe_str (pe_lst (pa_cons pe_str (pa_starK (K := K) rfl (pe_lc (own := [("weekday", 7)]) (g := gName 7) rfl nd (pi_tup (pv 4)) (blkOk_by (own := [("weekday", 7)]) (N := ["facts", "years", "week", "first", "rest", "holidays", "lines", "weekday", "month", "day", "year", "days"]) (sc := (defScope s14)) (by decide +kernel)) (fun _ _ _ _ _ => (pg_name (i := 7) nd rfl (Or.inl rfl))) (fun _ _ _ _ _ => pts_nil) (fun _ _ _ _ _ => (pe_callTy call_str_int (by rfl) T.str (by decide +kernel) (pa_cons (pv 7) pa_nil)))) pa_nil)))) pa_nil))))
    (pss_cons (ps_expr (pe_bm PySem.F.plainAttrs_list PySem.F.slot_list_extend PySem.F.type_list_extend mt_extend (pv 6) (pa_cons (pe_lc (own := [("month", 8), ("day", 9)]) (g := gTup K 2 (gCons (gName 8) (gCons (gName 9) gNil))) rfl nd (pi_tup (pv 5)) (blkOk_by (own := [("month", 8), ("day", 9)]) (N := ["facts", "years", "week", "first", "rest", "holidays", "lines", "weekday", "month", "day", "year", "days"]) (sc := (defScope s14)) (by decide +kernel)) (fun _ _ _ _ _ => (pg_tup rfl (pgs_cons (pg_name (i := 8) nd rfl (Or.inl rfl)) (pgs_cons (pg_name (i := 9) nd rfl (Or.inl rfl)) pgs_nil)))) (fun _ _ _ _ _ => pts_nil) (fun _ _ _ _ _ => (pe_joined (PJ.cons (pe_str) (PJ.cons (pe_fmt (pv 8)) (PJ.cons (pe_str) (PJ.cons (pe_fmt (pv 9)) PJ.nil))))))) pa_nil)))
    (pss_cons (ps_expr (pe_bm PySem.F.plainAttrs_list PySem.F.slot_list_extend PySem.F.type_list_extend mt_extend (pv 6) (pa_cons (pe_lc (own := [("year", 10)]) (g := gName 10) rfl nd (pi_tup (pv 1)) (blkOk_by (own := [("year", 10)]) (N := ["facts", "years", "week", "first", "rest", "holidays", "lines", "weekday", "month", "day", "year", "days"]) (sc := (defScope s14)) (by decide +kernel)) (fun _ _ _ _ _ => (pg_name (i := 10) nd rfl (Or.inl rfl))) (fun _ _ _ _ _ => pts_nil) (fun _ _ _ _ _ => (pe_joinK (K := K) rfl pe_str (pe_lst (pa_cons pe_str (pa_starK (K := K) rfl (pe_lc (own := [("days", 11)]) (g := gName 11) rfl nd (pi_tup (pv 10) : PI _ _ _ (iTup K _)) (blkOk_by (own := [("days", 11)]) (N := ["facts", "years", "week", "first", "rest", "holidays", "lines", "weekday", "month", "day", "year", "days"]) (sc := (relS _ (defScope s14))) (by decide +kernel)) (fun _ _ _ _ _ => (pg_name (i := 11) nd rfl (Or.inl rfl))) (fun _ _ _ _ _ => pts_nil) (fun _ _ _ _ _ => (pe_callTy call_str_int (by rfl) T.str (by decide +kernel) (pa_cons (pv 11) pa_nil)))) pa_nil)))))) pa_nil)))
    (pss_one (ps_ret (pe_joinK (K := K) rfl pe_str (pv 6)))))))), ?_⟩
    refine q_asgG (ev_var (v := .ref t) rfl) fun H1 e1 => ?_
    refine ⟨t, _, rfl, st_of (e1 _ _ ht), rfl, _, _, rfl, _, _, rfl, _, _, rfl, _, _, rfl, _, _, rfl, rfl, ?_⟩
    have sepE : Str.ofString " " = sep1 := rfl
    have nlE : Str.ofString "\n" = nl := rfl
    have lnR : ((Str.ofString "rest" :: rs.map numS).map (·.length)).sum + (Str.ofString "rest" :: rs.map numS).length * sep1.length ≤ 200 := numLine_len (by decide +kernel) S.rs
    refine q_asgL (el_lst (ea_cons (ev_joined (ej_cons (w := Str.ofString "week ") ev_c ?_ (ej_cons (ev_fmt (ev_var rfl) (sm_log S.w)) ?_ (ej_cons (w := Str.ofString " first ") ev_c ?_ (ej_cons (ev_fmt (ev_var rfl) (sm_log S.f)) ?_ ej_nil)))))
      (ea_cons (x := .str (numLine (Str.ofString "rest") rs)) (ev_join (ys := Str.ofString "rest" :: rs.map numS) ev_c (el_lst ?_ ?_) (Nat.le_trans lnR (by decide))) ea_nil)) (by simp)) fun pL H2 hpL e2 h2 => ?_
    · exact Nat.le_trans (by decide +kernel : (Str.empty ++ Str.ofString "week ").length ≤ 30) (by decide)
    · have := numS_len S.w
      have h5 : (Str.empty ++ Str.ofString "week ").length ≤ 30 := by decide +kernel
      rw [len_app]
      omega
    · have := numS_len S.w
      have h5 : (Str.empty ++ Str.ofString "week ").length ≤ 30 := by decide +kernel
      have h6 : (Str.ofString " first ").length ≤ 30 := by decide +kernel
      rw [len_app, len_app]
      omega
    · exact Nat.le_trans (headLine_len S.w S.f) (by decide)
    · exact ea_is (ea_cons (x := .str (Str.ofString "rest")) ev_c (ea_starL (el_strsT (l := rs) (ev_var rfl) (st_of (e1 _ _ hpr)) (by have := S.rs.2; omega) (fun i hi => sm_log (S.rs.1 i hi)) (fun _ => by rfl) (fun _ => by rfl)) ea_nil)) (by simp)
    · have := S.rs.2
      simp
      omega
    · have hL0 : H pL = none := fresh_back e1 hpL
      have eL : ∀ {H3 : Hp}, Ex H2 H3 → ∀ xs, Ex H (upd H3 pL (.lst xs)) := fun e xs => Ex.mut (e1.trans (e2.trans e)) hL0
      refine q_ext (ys := (hs.map holLine).map V.str) h2 (ev_var rfl) (el_is (el_lcTuG (fun i => [some (.ref t), some (.ref py), some (.int wk), some (.int fs), some (.ref pr), some (.ref ph), some (.ref pL), none, some (.int (hs.getD i (0, 0)).1), some (.int (hs.getD i (0, 0)).2), none, none])
        (fun _ => true) (fun i => .str (holLine (hs.getD i (0, 0)))) (ev_var rfl) (st_of ((e1.trans e2) _ _ hph)) ?_ (fun i H3 k hi e3 hk => ?_) (fun i _ => by rfl) (fun _ _ _ _ => et_yes) (fun i H3 e3 hi _ => ?_)) ?_) ?_ fun H3 e3 => ?_
      · rw [Paired.length hus]
        exact sz_of (by have := S.hs.2; omega)
      · have hi2 : i < hs.length := by rw [Paired.length hus] at hi; exact hi
        obtain ⟨q, hq, tp, ex, htp⟩ := paired_get hus (getD_at (d := .non) hi)
        have eq : q = hs.getD i (0, 0) := by
          rw [getD_at (d := (0, 0)) hi2] at hq
          exact (Option.some.inj hq).symm
        subst eq
        rw [ex]
        exact ⟨tp, _, rfl, st_of (((e1.trans e2).trans e3) _ _ htp), rfl, _, _, rfl, _, _, rfl, rfl, hk⟩
      · have hi2 : i < hs.length := by rw [Paired.length hus] at hi; exact hi
        have hm := S.hs.1 _ (getD_mem (d := (0, 0)) hi2)
        have l1 := numS_len hm.1
        have l2 := numS_len hm.2
        have l3 : (Str.empty ++ Str.ofString "holiday ").length ≤ 30 := by decide +kernel
        have l4 : (Str.ofString " ").length ≤ 30 := by decide +kernel
        exact ev_joined (ej_cons (w := Str.ofString "holiday ") ev_c (by omega) (ej_cons (ev_fmt (ev_var rfl) (sm_log hm.1)) (by rw [len_app]; omega) (ej_cons (w := Str.ofString " ") ev_c (by rw [len_app, len_app]; omega) (ej_cons (ev_fmt (ev_var rfl) (sm_log hm.2)) (by rw [len_app, len_app, len_app]; omega) ej_nil))))
      · rw [given_all, Paired.length hus]
        exact (given_list hs (0, 0) fun x => V.str (holLine x)).trans (by rw [List.map_map]; rfl)
      · have := S.hs.2
        simp
        omega
      · refine q_ext (ys := (ys.map (numLine (Str.ofString "year"))).map V.str) upd_same (ev_var rfl) (el_is (el_lcTu (fun _ => true) (fun i => .str (numLine (Str.ofString "year") (ys.getD i []))) (ev_var rfl) (st_of (eL e3 _ _ _ hpy)) ?_ (fun _ => by rfl) (fun _ _ _ _ => et_yes) (fun i H4 e4 hi _ => ?_)) ?_) ?_ fun H4 e4 => ?_
        · rw [Paired.length hxs]
          exact sz_of (by have := S.ys.2; omega)
        · have hi2 : i < ys.length := by rw [Paired.length hxs] at hi; exact hi
          obtain ⟨y, hy, tp, ex, htp⟩ := paired_get hxs (getD_at (d := .non) hi)
          have ey : y = ys.getD i [] := by
            rw [getD_at (d := []) hi2] at hy
            exact (Option.some.inj hy).symm
          subst ey
          rw [ex]
          have hm := S.ys.1 _ (getD_mem (d := []) hi2)
          refine ev_join (ys := Str.ofString "year" :: (ys.getD i []).map numS) ev_c (el_lst (ea_is (ea_cons (x := .str (Str.ofString "year")) ev_c (ea_starL (el_strsT (l := ys.getD i []) (ev_var rfl) (st_of (e4 _ _ (eL e3 _ _ _ htp))) (by have := hm.2; omega) (fun i hi => sm_log (hm.1 i hi)) (fun _ => by rfl) (fun _ => by rfl)) ea_nil)) (by simp)) ?_) (Nat.le_trans (numLine_len (by decide +kernel) hm) (by decide))
          have := hm.2
          rw [List.length_map, List.length_cons, List.length_map]
          omega
        · rw [given_all, Paired.length hxs]
          exact (given_list ys [] fun x => V.str (numLine (Str.ofString "year") x)).trans (by rw [List.map_map]; rfl)
        · have := S.hs.2
          have := S.ys.2
          simp
          omega
        · have hfin : ([V.str (headLine wk fs), V.str (numLine (Str.ofString "rest") rs)] ++ (hs.map holLine).map V.str) ++ (ys.map (numLine (Str.ofString "year"))).map V.str = ((([headLine wk fs, numLine (Str.ofString "rest") rs] ++ hs.map holLine)) ++ ys.map (numLine (Str.ofString "year"))).map V.str := by simp
          refine s_ret (ev_joinR (ys := (([headLine wk fs, numLine (Str.ofString "rest") rs] ++ hs.map holLine)) ++ ys.map (numLine (Str.ofString "year"))) (p := pL) ev_c (ev_var rfl) (sq_of (upd_same.trans (by rw [← hfin]; rfl))) ?_) fun H5 e5 => k _ _ ?_ rfl
          · exact lines_size S
          · exact (Ex.mut ((eL e3 _).trans e4) hL0).trans e5
end
end K9
end
section
set_option Elab.async false
set_option linter.all false
set_option maxRecDepth 100000
set_option maxHeartbeats 4000000
/-! sorted(a tuple), set(a tuple) -/
namespace K9
open PySem PySem.Spec PyProof.Rows L2 Evl
section
variable {prog : Program} {w : World} {A : Around} {E : Value → Shared → Prop} {s : Shared}
/-- the heap behind the gathering -/
def poured (h : Heap) (us : List Value) : Heap := (h.push (seqObj "list" #[] 0)).update h.objs.size (Obj.mapSeq (· ++ us.toArray))
theorem gather_tup {t : Addr} {us : List Value} {R : List Value → Shared → Prop} (ht : s.heap.IsTuple t us.toArray) (hz : us.length ≤ sizeLine) (k : R us { s with heap := poured s.heap us }) : wpAny (model prog w) A (collect (.ref t)) R E s := by
  obtain ⟨ob, hob, hcl, m, hda⟩ := id ht
  have hold : (s.heap.push (seqObj "list" #[] 0)).get? t = some ob := Heap.get?_push_of_some _ hob
  have hnew : (s.heap.push (seqObj "list" #[] 0)).get? s.heap.objs.size = some (seqObj "list" #[] 0) := Heap.get?_push_size _ rfl
  have hsize : (#[] ++ us.toArray).size ≤ sizeLine + 1 := by
    rw [Array.size_append, List.size_toArray]
    exact Nat.le_trans (by simp) (Nat.le_succ_of_le hz)
  unfold collect
  refine wpAny_bind (wpAny_runValue (codeAny_builtin entry_proto_collect' ?_))
  show wpAny _ _ ((newList []) >>= fun l => again (.builtin "list.__iadd__" ⟨[l, .ref t], []⟩)) _ _ s
  refine wpAny_bind (wpAny_newList (wpAny_pure ⟨Code.quiet_builtin _ (by decide +kernel), codeAny_builtin entry_list_iadd' ?_⟩))
  show wpAny _ _ (Builtin.List.listExtendWith (.ref s.heap.objs.size) (.ref t) (.ref s.heap.objs.size)) _ _ _
  unfold Builtin.List.listExtendWith
  refine wpAny_bind (wpAny_typeOf (T := "tuple") ⟨ob, hold, hcl⟩ ?_)
  rw [if_pos (by rw [show (Value.type "tuple" == Value.type "tuple") = true from by decide]; simp)]
  refine wpAny_bind (listItems_at hold hda (wpAny_bind (listItems_at (n := 0) hnew rfl ?_)))
  rw [if_neg (by simp)]
  refine wpAny_bind (listUpdate_at (n := 0) hnew rfl ?_ (Nat.zero_le _) hsize)
  refine wpAny_pure ?_
  show wpAny (model prog w) A ((load s.heap.objs.size) >>= fun ob => match ob.data with
      | .seq xs _ => pure xs.toList
      | _ => unsupported "internal:collect") R E { s with heap := poured s.heap us }
  refine wpAny_bind (wpAny_load (get?_update_seq hnew _) ?_)
  show wpAny _ _ (pure ((#[] : Array Value) ++ us.toArray).toList) R E _
  have e0 : ((#[] : Array Value) ++ us.toArray).toList = us := by simp
  rw [e0]
  exact wpAny_pure k
theorem poured_size (h : Heap) (us : List Value) : (poured h us).objs.size = h.objs.size + 1 := by
  unfold poured
  rw [Heap.size_update, size_push']
theorem poured_old {h : Heap} {us : List Value} {b : Addr} {o : Obj} (e : h.get? b = some o) : (poured h us).get? b = some o := by
  unfold poured
  rw [Heap.get?_update_ne _ _ _ _ (Nat.ne_of_lt (Heap.lt_size e))]
  exact Heap.get?_push_of_some _ e
/-- sorted of a tuple -/
theorem sorted_tup {t : Addr} {us : List Value} {lt : Value → Value → Bool} {R : Value → Shared → Prop} (O : SrtO.Swo lt) (ht : s.heap.IsTuple t us.toArray) (hz : us.length ≤ sizeLine)
    (hS : 2 ≤ us.length → ∀ (g : Heap) (b : Addr), g.get? b = some (seqObj "list" us.toArray 0) → (∀ c o, s.heap.get? c = some o → c ≠ b ∧ g.get? c = some o) → SrtO.SortableO prog w A.in1.in1 { s with heap := g } b us lt)
    (k : ∀ out : List Value, SrtO.Srtd lt out → SrtO.Stb lt out us → R (.ref (s.heap.objs.size + 1)) { s with heap := sortedAll s.heap us out.toArray }) : wpAny (model prog w) A (call (.builtin "sorted") [.ref t]) R E s := by
  have hat : ((poured s.heap us).push (seqObj "list" us.toArray 0)).get? (s.heap.objs.size + 1) = some (seqObj "list" us.toArray 0) := by
    rw [← poured_size s.heap us]
    exact Heap.get?_push_size _ rfl
  have hkeep : ∀ c o, s.heap.get? c = some o → c ≠ s.heap.objs.size + 1 ∧ ((poured s.heap us).push (seqObj "list" us.toArray 0)).get? c = some o := fun c o e =>
    ⟨Nat.ne_of_lt (Nat.lt_succ_of_lt (Heap.lt_size e)), Heap.get?_push_of_some _ (poured_old e)⟩
  refine Calls.call_function_entry kind_sorted plain_sorted entry_sorted (args_sorted1 _) ?_
  unfold Builtin.«sorted»
  refine wpAny_bind (m := checkCount "sorted" 1 1 _) (wpAny_pure (wpAny_bind (gather_tup ht hz (wpAny_bind (wpAny_newList ?_ hz)))))
  show wpAny _ _ _ _ _ { s with heap := (poured s.heap us).push (seqObj "list" us.toArray 0) }
  rw [poured_size]
  exact wpAny_bind (wpAny_holding (wpAny_call_entry slot_list_sort ⟨_, hat, rfl⟩ entry_list_sort (SrtO.list_sort_ord O hat hz (fun h2 => hS h2 _ _ hat hkeep) fun out h1 h2 => ⟨_, rfl, wpAny_pure ⟨_, rfl, k out h1 h2⟩⟩) (args_list_sort _)))
end
/-- sorted(t), ints in a tuple -/
def rSortedTI (K : PySem.W.Frag) : List V → Hp → VK → Prop := fun vs H Q => ∃ (a : Addr) (ns : List Int), vs = [V.ref a] ∧ SqT K H a (ns.map V.int) ∧
  ∀ (ms : List Int) (p : Addr), ms.Perm ns → ms.Pairwise (· ≤ ·) → H p = none → Q (.ref p) (upd H p (.lst (ms.map V.int)))
/-- sorted(t), pairs of ints in a tuple -/
def rSortedTP (K : PySem.W.Frag) : List V → Hp → VK → Prop := fun vs H Q => ∃ (a : Addr) (xs : List V) (k : V → Int × Int), vs = [V.ref a] ∧ SqT K H a xs ∧ (∀ x ∈ xs, ∃ t, x = V.ref t ∧ H t = some (.tup [.int (k x).1, .int (k x).2])) ∧
  ∀ ys p, SrtO.Srtd (L2.ltP k) ys → SrtO.Stb (L2.ltP k) ys xs → H p = none → Q (.ref p) (upd H p (.lst ys))
section
variable {X : Cx}
theorem cr_sortedTI : CallR X (.builtin "sorted") (rSortedTI X.K) := by
  intro pins s σ H vs us Q I r h
  obtain ⟨a, ns, rfl, ha, q⟩ := h
  obtain ⟨its, rv, ht, hz⟩ := I.tuple ha
  have hi := rv.ints
  rw [Vals.ref1 r]
  refine sorted_tup SrtO.swo_int ht (by rw [← rv.length]; exact hz) (fun h2 g b _ _ => SrtO.ints_sortable hi h2) fun out h1 h2 => ?_
  obtain ⟨k1, k2, k3⟩ := SrtO.ints_out hi h1 h2
  obtain ⟨m, hm⟩ := PyProof.Rows.sortedAll_at s.heap its out.toArray
  have hl : ((out.map SrtO.iv).map V.int).length ≤ sizeLine := by
    rw [List.length_map] at hz ⊢
    rw [k2.length_eq]
    exact hz
  refine ⟨.ref _, upd H (s.heap.objs.size + 1) (.lst ((out.map SrtO.iv).map V.int)), I.laid (t' := s.toks) (fun _ _ e => PyProof.Rows.sortedAll_old e) (Nat.le_succ _) ⟨hl, out, m, vals_of_ints k1, hm⟩, rfl, ?_⟩
  exact q _ _ k2 k3 (I.hok.fresh (Nat.le_succ _))
theorem cr_sortedTP : CallR X (.builtin "sorted") (rSortedTP X.K) := by
  intro pins s σ H vs us Q I r h
  obtain ⟨a, xs, k, rfl, ha, hx, q⟩ := h
  obtain ⟨its, rv, ht, hz⟩ := I.tuple ha
  rw [Vals.ref1 r]
  have isref : ∀ x ∈ xs, ∃ t, x = V.ref t := fun x hm => (hx x hm).imp fun t e => e.1
  obtain ⟨b1, b2⟩ := refs_back rv isref
  have hpair : ∀ v ∈ its, Srt.IsPair s.heap v (k (backV v)).1 (k (backV v)).2 := fun v hv => by
    obtain ⟨t, rfl⟩ := b2 v hv
    obtain ⟨t', e, e2⟩ := hx (V.ref t) (by rw [b1]; exact List.mem_map.mpr ⟨_, hv, rfl⟩)
    cases e
    obtain ⟨_, us2, r2, o, ho, hc, n, hd⟩ := I.hok _ _ e2
    obtain ⟨x1, x2, rfl, ⟨t1, rfl⟩, ⟨t2, rfl⟩⟩ := vals2 r2
    exact ⟨t, o, t1, t2, n, rfl, ho, hc, hd⟩
  refine sorted_tup (SrtO.swo_lex fun v => k (backV v)) ht (by rw [← rv.length]; exact hz) (fun h2 g b hb kk => ?_) fun out h1 h2 => ?_
  · refine SrtO.pairs_sortableO (s := { s with heap := g }) (by omega) (fun v hm => (hpair v hm).keeps fun c o e _ => (kk c o e).2) fun o e => ?_
    cases e.symm.trans hb
    intro z
    exact absurd (Value.type.inj z) (by decide)
  · have allref : ∀ u ∈ out, ∃ t, u = Value.ref t := fun u hu => b2 u (h2.perm.mem_iff.mp hu)
    have hstb : SrtO.Stb (L2.ltP k) (out.map backV) xs := by
      rw [b1]
      exact SrtO.Stb.map (ltP_swo k) backV h2
    obtain ⟨m, hm⟩ := PyProof.Rows.sortedAll_at s.heap its out.toArray
    have hfr : H (s.heap.objs.size + 1) = none := I.hok.fresh (Nat.le_succ _)
    exact ⟨.ref _, upd H (s.heap.objs.size + 1) (.lst (out.map backV)), I.laid (t' := s.toks) (fun _ _ e => PyProof.Rows.sortedAll_old e) (Nat.le_succ _) ⟨by rw [hstb.len]; exact hz, out, m, vals_back allref, hm⟩, rfl, q _ _ (SrtO.srtd_map h1) hstb hfr⟩
end
end K9
end
section
set_option Elab.async false
set_option linter.all false
set_option maxRecDepth 100000
set_option maxHeartbeats 4000000
/-! set(a tuple of tuples), len(set(..)) -/
namespace K9
open PySem PySem.Spec PyProof.Rows L2 Evl
section
variable {P : Program} {w : World} {A : Around} {E : Value → Shared → Prop} {s : Shared}
/-- a set just made -/
abbrev setO (w : World) : Obj := { cls := .type "set", dict := none, data := .set #[] 0 (.fresh 0 0 (!w.params.followText "set-order")) }
set_option maxHeartbeats 8000000 in
theorem set_of_tups {t : Addr} {us : Array Value} (ks : List (Addr × List Int)) {R : Value → Shared → Prop} (hh : A.handled = none) (ht : s.heap.IsTuple t us) (hus : us.toList = ks.map fun p => Value.ref p.1)
    (hks : ∀ p ∈ ks, IsT P w s.heap p.2 p.1) (hfew : ks.length < 64) (hu : A.units + 3 < cLine)
    (k : ∀ (g : Heap) (tk : Nat) L es ep tb, SetTR P w g s.heap.objs.size L es ep tb → Got ks ks.length L → (∀ b o, s.heap.get? b = some o → g.get? b = some o) → R (.ref s.heap.objs.size) { s with heap := g, toks := tk }) :
    wpAny (model P w) A (call (.type "set") [.ref t]) R E s := by
  have hn : us.size = ks.length := by
    have z := congrArg List.length hus
    rwa [Array.length_toList, List.length_map] at z
  have gone : ∀ b, s.heap.objs.size ≤ b → s.heap.get? b = none := fun b hb => by
    cases z : s.heap.get? b with
    | none => rfl
    | some o => exact absurd (Nat.lt_of_lt_of_le (Heap.lt_size z) hb) (Nat.lt_irrefl _)
  have each : ∀ (i : Nat) (v : Value), us[i]? = some v → ∃ p, ks[i]? = some p ∧ v = .ref p.1 := fun i v hv => by
    have z : us.toList[i]? = some v := by rw [Array.getElem?_toList]; exact hv
    rw [hus, List.getElem?_map] at z
    cases y : ks[i]? with
    | none => rw [y] at z; cases z
    | some p => rw [y] at z; exact ⟨p, rfl, (Option.some.inj z).symm⟩
  obtain ⟨c, tl, hmro⟩ := F.called_set.mro
  have f1 := F.called_set.made
  have f2 := F.called_set.sub
  refine wpAny_call (codeAny_of_tree ?_)
  show wpAny _ _ (callAny (.type "set") _) _ _ _
  refine wpAny_pure ⟨Code.quiet_builtin _ (by decide +kernel), codeAny_builtin F.entry_type_call ?_⟩
  rw [Around.under_plain (weight_type_call_type "set" [.ref t] []) rfl]
  have f3 := F.called_set.notType
  have f4 := F.called_set.canCreate
  have f5 := F.typeCall_set_1 (.ref t)
  repeat (any_goals (first | assumption | wp_step))
  refine codeAny_mono (code_set_led1 (.ref t) (E := E) (Q₁ := fun obj s₁ => obj = .ref s.heap.objs.size ∧ s₁ = { s with heap := s.heap.push (setO w) }) ⟨rfl, rfl⟩) fun r s₁ hr => ?_
  cases r with
  | error e => exact hr
  | ok fl =>
    cases fl with
    | ret obj =>
      obtain ⟨rfl, rfl⟩ := hr
      have atS : (s.heap.push (setO w)).get? s.heap.objs.size = some (setO w) := Heap.get?_push_size _ rfl
      have tyS : Shared.TypeIs { s with heap := s.heap.push (setO w) } (.ref s.heap.objs.size) "set" := ⟨_, atS, rfl⟩
      have f6 := F.called_set.init.lookup
      have f7 := F.called_set.init.bind (.ref s.heap.objs.size)
      repeat (any_goals (first | assumption | wp_step))
      refine codeAny_mono (codeAny_call_builtin (R := wants (fun r s₂ => r = .none ∧ ∃ g tk L es ep tb, s₂ = { s with heap := g, toks := tk } ∧ SetTR P w g s.heap.objs.size L es ep tb ∧ Got ks ks.length L ∧ (∀ b o, s.heap.get? b = some o → g.get? b = some o)) E)
        F.called_set.init.plain F.entry_set_init (check_set_init_1 tyS ?_)) fun r₂ s₂ hr₂ => ?_
      · obtain ⟨⟨oc, od, oda, osl⟩, hol, hoc, m, hod⟩ := ht
        simp only at hoc hod
        subst hoc hod
        have atT : (s.heap.push (setO w)).get? t = some { cls := .type "tuple", dict := od, data := .seq us m, slots := osl } := Heap.get?_push_of_some _ hol
        have g1 := F.sub_tuple_set
        have g2 := F.sub_tuple_frozenset
        have g3 : (Value.type "tuple" == Value.type "dict") = false := by decide
        have isT1 : (s.heap.push (setO w)).IsTuple t us := ⟨_, atT, rfl, m, rfl⟩
        unfold Builtin.«set.__init__» noKeywords Builtin.Frozenset.updateFrom
        generalize hiter : pyIter = itr
        wp_walk
        subst hiter
        refine wpAny_pyIter_tuple isT1 (wpAny_bind (wpAny_runValue ?_))
        have ltT : t < s.heap.objs.size := Heap.lt_size hol
        have size1 : (s.heap.push (setO w)).objs.size = s.heap.objs.size + 1 := Heap.size_push ..
        have neI : t ≠ (s.heap.push (setO w)).objs.size := by rw [size1]; exact Nat.ne_of_lt (Nat.lt_succ_of_lt ltT)
        have notS : s.heap.objs.size ∉ [(s.heap.push (setO w)).objs.size, t] := by
          rw [size1]
          simp only [List.mem_cons, List.not_mem_nil, or_false, not_or]
          exact ⟨Nat.ne_of_lt (Nat.lt_succ_self _), Nat.ne_of_gt ltT⟩
        refine set_update_tups ((Walks.tuple (by simp [hh]) _ t neI us).toS) s.heap.objs.size notS ks hn hfew each s.heap hks (gone _ (Nat.le_refl _)) (fun b hb => gone b (by
          rw [List.mem_singleton.mp hb, size1]
          omega)) hu (us.size - 0) 0 _ (by omega) (Nat.zero_le _) ⟨⟨_, Heap.get?_push_size _ rfl, rfl, rfl⟩, (isT1.push _)⟩ (fun b o e => Heap.get?_push_of_some _ (Heap.get?_push_of_some _ e)) ?_ fun s' L es ep tb hm hS' hg hk' => ?_
        · exact ⟨[], #[], 0, _, setTR_fresh (Heap.get?_push_of_some _ atS), Got.zero ks⟩
        · obtain ⟨g, gs, dr, tk, os⟩ := s'
          obtain rfl : gs = s.gens := hm.gens
          obtain rfl : dr = s.drawn := hm.drawn
          obtain rfl : os = s.os := hm.os
          rw [hn] at hg
          show wpAny _ _ _ _ _ _
          refine wpAny_pure ?_
          show wpAny _ _ (ret Value.none) _ _ _
          exact wpAny_pure ⟨rfl, g, tk, L, es, ep, tb, rfl, hS', hg, hk'⟩
      · cases r₂ with
        | error e => exact hr₂
        | ok fl₂ =>
          cases fl₂ with
          | ret r =>
            obtain ⟨rfl, g, tk, L, es, ep, tb, rfl, q1, q2, q3⟩ := hr₂
            repeat (any_goals (first | assumption | wp_step))
            exact k _ _ _ _ _ _ q1 q2 q3
          | _ => exact hr₂.elim
    | _ => exact hr.elim
end
end K9
end
section
set_option Elab.async false
set_option linter.all false
set_option maxRecDepth 100000
set_option maxHeartbeats 4000000
namespace K9
open PySem PySem.Spec PyProof.Rows L2 Evl
/-! ### one of two readings -/
section
variable {X : Cx}
theorem pe_alt {e : Expr} {t u : TE} (h1 : PE X e t) (h2 : PE X e u) : PE X e (fun σ H Q => t σ H Q ∨ u σ H Q) := ⟨fun pins s σ H Q I h => h.elim (h1.run pins s σ H Q I) (h2.run pins s σ H Q I)⟩
theorem pi_alt {tg e : Expr} {t u : TI} (h1 : PI X tg e t) (h2 : PI X tg e u) : PI X tg e (fun σ H Q => t σ H Q ∨ u σ H Q) := ⟨fun pins s σ H Q I h => h.elim (h1.run pins s σ H Q I) (h2.run pins s σ H Q I)⟩
theorem ps_alt {st : Stmt} {t u : TS} (h1 : PS X st t) (h2 : PS X st u) : PS X st (fun D σ H => t D σ H ∨ u D σ H) := ⟨fun pins s σ H D I h => h.elim (h1.run pins s σ H D I) (h2.run pins s σ H D I)⟩
/-! ### len(set(x)), distinct ints or distinct tuples of ints, few of them, in a list or a tuple -/
def LenSet (K : PySem.W.Frag) (H : Hp) (l : Addr) (n : Nat) : Prop := n < 64 ∧
  ((∃ ns : List Int, (SqL K H l (ns.map V.int) ∨ SqT K H l (ns.map V.int)) ∧ ns.Nodup ∧ ns.length = n) ∨
   (∃ ks : List (Addr × List Int), (SqL K H l (ks.map fun p => V.ref p.1) ∨ SqT K H l (ks.map fun p => V.ref p.1)) ∧ (∀ p ∈ ks, SqT K H p.1 (p.2.map V.int)) ∧ (ks.map (·.2)).Nodup ∧ ks.length = n))
def tLenSet (K : PySem.W.Frag) (ta : TE) : TE := fun σ H Q => ta σ H fun x H1 => ∃ (l : Addr) (n : Nat), x = .ref l ∧ LenSet K H1 l n ∧ Q (.int n) H1
theorem got_len {ks L : List (Addr × List Int)} (g : Got ks ks.length L) (h1 : (ks.map (·.2)).Nodup) (h2 : (L.map (·.2)).Nodup) : L.length = ks.length := by
  have p : (L.map (·.2)).Perm (ks.map (·.2)) := (List.perm_ext_iff_of_nodup h2 h1).mpr fun x => by
    constructor
    · intro hx
      obtain ⟨q, hq, rfl⟩ := List.mem_map.mp hx
      exact List.mem_map.mpr ⟨q, List.mem_of_mem_take (g.sub q hq), rfl⟩
    · intro hx
      obtain ⟨q, hq, rfl⟩ := List.mem_map.mp hx
      exact g.all q (by rw [List.take_length]; exact hq)
  have e := p.length_eq
  rw [List.length_map, List.length_map] at e
  exact e
theorem pe_lenSet {a : Expr} {ta : TE} {p p2 q pos : Pos} {j : Nat} (hr : Room j X.A) (hc : X.calm = true) (hg : Gl X "len") (hm : X.mg "len" = none) (hg2 : Gl X "set") (hm2 : X.mg "set" = none) (ha : PE X a ta)
    (na : starEach [a] X.env = (false, eval a X.env) :: starEach [] X.env := by rfl) : PE X (.Call (.Name "len" p) [.Call (.Name "set" p2) [a] [] q] [] pos) (tLenSet X.K ta) := by
  have hu : X.A.units + 64 < cLine := by have := hr.un; omega
  refine ⟨fun pins s σ H Q I h => ?_⟩
  refine Call_ (ld_blt I hg hm PySem.boot_len (PyProof.Rows.callWith_builtin1 (PyProof.Rows.args_cons ?_ rfl) rfl rfl))
  refine Call_ (ld_blt I hg2 hm2 PyProof.Rows.boot_set (PyProof.Rows.callWith_type1 (PyProof.Rows.args_cons (thn (ha.run pins s σ H _ I h) fun v s1 ⟨x, H1, I1, r1, q1⟩ => PyProof.Rows.args_nil ?_) na) na rfl))
  obtain ⟨l, n, rfl, ⟨hn, hk⟩, q1⟩ := q1
  cases r1
  have hcalm := I1.ok.hd hc
  have fin : ∀ {h' : Heap} {tk : Nat} {o : Obj} {es : Array (Int × Value)} {ep : Nat} {t : SetTable}, h'.get? s1.heap.objs.size = some o → o.ExactSet → o.data = .set es ep t → t.fits es.size = true → es.size = n → (∀ b o, s1.heap.get? b = some o → h'.get? b = some o) →
      wpAny (model X.prog X.w) X.A (call (.builtin "len") [.ref s1.heap.objs.size]) (EP X pins σ Q) X.xe { s1 with heap := h', toks := tk } := fun {h' tk o es ep t} ho hex hd hf he kp => by
    have I2 : Inv X pins σ H1 { s1 with heap := h', toks := tk } := I1.kept kp
    exact call_len_set ho hex hd hf (by omega) ⟨.int n, H1, I2.tok _, ⟨_, by rw [he]⟩, q1⟩
  rcases hk with ⟨ns, hs, hnd, rfl⟩ | ⟨ks, hs, hks, hnd, rfl⟩
  · rcases hs with hs | hs
    · obtain ⟨its, r, pl, hz⟩ := I1.list hs
      have hl : its.toArray.size = ns.length := by rw [List.size_toArray, ← r.length, List.length_map]
      refine call_set_list hcalm pl.isList (ns := ns) (by simpa using r.ints) (by unfold scanBound; omega) fun h' tk hS hk => PyProof.Rows.args_nil ?_
      rw [hl, firstMet_nodup ns hnd ns.length (Nat.le_refl _), List.take_length] at hS
      obtain ⟨o, es, ep, t, ho, hex, hd, _, _, _, hf, hn'⟩ := hS
      exact fin ho hex hd hf hn' fun b o e => hk b o (Heap.lt_size e) e
    · obtain ⟨its, r, pl, hz⟩ := I1.tuple hs
      refine call_set_tupI ns hcalm pl (by simpa using r.ints) (by unfold scanBound; omega) fun h' tk c hS hc' hk => PyProof.Rows.args_nil ?_
      obtain ⟨o, es, ep, t, ho, hex, hd, _, nd, mem, _, hf, he, _, _⟩ := hS
      have hp : (es.toList.map keyOf).Perm ns := (List.perm_ext_iff_of_nodup nd hnd).mpr fun x => by
        rw [← mem x, decide_eq_true_eq]
      have hsz : es.size = ns.length := by
        have z := hp.length_eq
        rw [List.length_map, Array.length_toList] at z
        exact z
      exact fin ho hex hd hf hsz hk
  · rcases hs with hs | hs
    · obtain ⟨its, r, pl, hz⟩ := I1.list hs
      refine call_set_tups ks hcalm pl.isList (by simpa using refs_of_vals r) (fun p hp => I1.isT (hks p hp)) hn (by omega) fun h' tk L es ep t R g k => PyProof.Rows.args_nil ?_
      obtain ⟨o, ho, hex, hd⟩ := R.ob
      exact fin ho hex hd (R.fits (s := { s1 with heap := h' })) (by rw [R.size (s := { s1 with heap := h' }), got_len g hnd R.nd]) k
    · obtain ⟨its, r, pl, hz⟩ := I1.tuple hs
      refine set_of_tups ks hcalm pl (by simpa using refs_of_vals r) (fun p hp => I1.isT (hks p hp)) hn (by omega) fun h' tk L es ep t R g k => PyProof.Rows.args_nil ?_
      obtain ⟨o, ho, hex, hd⟩ := R.ob
      exact fin ho hex hd (R.fits (s := { s1 with heap := h' })) (by rw [R.size (s := { s1 with heap := h' }), got_len g hnd R.nd]) k
end
end K9
end
section
set_option Elab.async false
set_option linter.all false
set_option maxRecDepth 100000
set_option maxHeartbeats 4000000
namespace K9
open PySem PySem.Spec PyProof.Rows L2 Evl
theorem SqL.fwd {K : PySem.W.Frag} {H H' : Hp} {a : Addr} {xs : List V} (h : SqL K H a xs) (e : Ex H H') : SqL K H' a xs := ex_l e h
def SqE (K : PySem.W.Frag) (H : Hp) (p : Addr) (xs : List V) : Prop := SqL K H p xs ∨ SqT K H p xs
theorem SqE.fwd {K : PySem.W.Frag} {H H' : Hp} {a : Addr} {xs : List V} (h : SqE K H a xs) (e : Ex H H') : SqE K H' a xs := h.elim (fun h => .inl (ex_l e h)) fun h => .inr (ex_t e h)
/-! ### evaluations -/
section
variable {K : PySem.W.Frag} {σ : L2.St} {H : Hp} {ta tb te tl : TE} {t : TT} {x y : V} {xs : List V} {E : XK}
theorem ev_abs {i : Int} (h : Ev ta σ H (.int i)) : Ev (tCB (fun xs H Q => ∃ i : Int, xs = [.int i] ∧ Q (.int (if i < 0 then -i else i)) H) (tCons ta tNil)) σ H (.int (i.natAbs : Int)) := fun H1 e Q q =>
  h H1 e _ fun H2 e2 => ⟨i, rfl, by
    have z : (if i < 0 then -i else i) = (i.natAbs : Int) := by
      by_cases hi : i < 0
      · rw [if_pos hi]; omega
      · rw [if_neg hi]; omega
    rw [z]
    exact q H2 e2⟩
theorem ev_isiT2 {s : String} {b1 b2 : Bool} (ha : Ev ta σ H x) (ht : TyX K H x (.type s)) (h1 : kitB s "list" = some b1) (h2 : kitB s "tuple" = some b2) :
    Ev (tCB (rIsiT K) (tCons ta (tCons (tTup (tCons (tC (.ty "list")) (tCons (tC (.ty "tuple")) tNil))) tNil))) σ H (.bl (b1 || b2)) := fun H1 e Q q =>
  ha H1 e _ fun H2 e2 => eu_tup (ea_cons ev_c (ea_cons ev_c ea_nil)) (by decide) H2 (e.trans e2) _ fun p H3 hp e3 h3 =>
    ⟨x, p, _, _, [.type "list", .type "tuple"], b1 || b2, rfl, h3, .cons (.ty _) (.cons (.ty _) .nil), TyX.mono ((e.trans e2).trans e3) ht, kitAny_cons (kit_ty h1) (fun hb => by
        rw [hb, Bool.false_or]
        exact kitAny_cons (kit_ty h2) (fun hb2 => by rw [hb2]; exact kitAny_nil) fun hb2 => hb2) (fun hb => by rw [hb]; rfl), q H3 (e2.trans e3)⟩
theorem ty_seq {p : Addr} (h : SqE K H p xs) : ∃ s, (s = "list" ∨ s = "tuple") ∧ TyX K H (.ref p) (.type s) := by
  rcases h with h | h
  · rcases h with (h | ⟨o, h⟩) | h
    · exact ⟨_, .inl rfl, .base (.lst h)⟩
    · exact ⟨_, .inl rfl, .base (.frz h)⟩
    · obtain ⟨o, _, _, h, hc, _⟩ := h
      exact ⟨_, .inl rfl, .kList h hc⟩
  · rcases h with (h | ⟨o, h⟩) | h
    · exact ⟨_, .inr rfl, .base (.tup h)⟩
    · exact ⟨_, .inr rfl, .fTuple h⟩
    · obtain ⟨o, _, _, h, hc, _⟩ := h
      exact ⟨_, .inr rfl, .kTuple h hc⟩
theorem ev_lenE {p : Addr} (ha : Ev ta σ H (.ref p)) (h : SqE K H p xs) : Ev (tCB (fun xs H Q => ∃ p ys, xs = [.ref p] ∧ (SqL K H p ys ∨ SqT K H p ys) ∧ Q (.int ys.length) H) (tCons ta tNil)) σ H (.int (xs.length : Int)) := fun H1 e Q q =>
  ha H1 e _ fun H2 e2 => ⟨p, xs, rfl, h.fwd (e.trans e2), q H2 e2⟩
/-- over a list or a tuple -/
theorem el_lcSq {a : Addr} {j : Nat} {vs : List Nat} (f : Nat → Bool) (v : Nat → V) (h : Ev tl σ H (.ref a)) (hx : SqE K H a xs) (hz : xs.length ≤ sizeLine) (hw : ∀ x, wipe ((wipe σ vs).set j (some x)) vs = wipe σ vs)
    (ht : ∀ (i : Nat) H1, Ex H H1 → i < xs.length → EvT t ((wipe σ vs).set j (some (xs.getD i .non))) H1 (f i)) (he : ∀ (i : Nat) H1, Ex H H1 → i < xs.length → f i = true → Ev te ((wipe σ vs).set j (some (xs.getD i .non))) H1 (v i)) :
    EvL (tLc (fun σ H R => iList K tl σ H R ∨ iTup K tl σ H R) (gName j) t te vs) σ H (given xs.length f v) := fun H1 e Q q => by
  rcases hx with hx | hx
  · exact .inl (el_lcLi f v h hx hz hw ht he H1 e Q q)
  · exact .inr (el_lcTu f v h hx hz hw ht he H1 e Q q)
theorem ev_lenSet {a : Addr} {n : Nat} (h : Ev ta σ H (.ref a)) (hs : ∀ H1, Ex H H1 → LenSet K H1 a n) : Ev (tLenSet K ta) σ H (.int n) := fun H1 e Q q => h H1 e _ fun H2 e2 => ⟨a, n, rfl, hs H2 (e.trans e2), q H2 e2⟩
end
/-! ### is_integer, is_between, is_row -/
def sp22 : Sp := spR fun vs H R => ∃ i : Int, vs = [.int i] ∧ R = fun v _ => v = .bl true
def sp28 : Sp := spR fun vs H R => ∃ i lo hi : Int, vs = [.int i, .int lo, .int hi] ∧ R = fun v _ => v = .bl (decide (lo ≤ i) && decide (i ≤ hi))
def sp27 (K : PySem.W.Frag) : Sp := spR fun vs H R => ∃ (p : Addr) (xs : List V), vs = [.ref p] ∧ SqE K H p xs ∧ R = fun v _ => v = .bl true
abbrev s22 : Stmt := top 22
abbrev s28 : Stmt := top 28
abbrev s27 : Stmt := top 27
theorem sc22 : FnScope ["value"] ["value"] (defScope s22) := ⟨rfl, rfl, rfl, by decide +kernel, rfl, by decide +kernel, by decide +kernel⟩
theorem sc28 : FnScope ["value", "low", "high"] ["value", "low", "high"] (defScope s28) := ⟨rfl, rfl, rfl, by decide +kernel, rfl, by decide +kernel, by decide +kernel⟩
theorem sc27 : FnScope ["value"] ["value"] (defScope s27) := ⟨rfl, rfl, rfl, by decide +kernel, rfl, by decide +kernel, by decide +kernel⟩
section
variable {P : Program} {w : World} {K : PySem.W.Frag} {mg : Str → Option Value} {base : Heap} {f : Addr} {fd : FuncData}
theorem ok22 (F : FnP K "is_integer" s22 f fd) (T : Txt mg) : FnOk P w K mg base L2.CX0 1 f fd ["value"] sp22 := by
  refine F.ok sc22 (fun vs H Q E h => ?_) (fun cdv A outer s H vs Q E hr h => ?_)
  · obtain ⟨R, ⟨i, rfl, _⟩, _⟩ := h
    rfl
  · obtain ⟨R, ⟨i, rfl, rfl⟩, k⟩ := h
    have nd := sc22.nd
    refine ⟨_, PSs.nox (pss_one (ps_ret (pe_and (pe_callB call_isi (by rfl) T.isinstance (by decide +kernel) (pa_cons (pv 0) (pa_cons (pe_bltn (v := .ty "int") (by rfl) T.int (by decide +kernel) rfl) pa_nil))) (pe_one (pe_not (pe_callB call_isi (by rfl) T.isinstance (by decide +kernel) (pa_cons (pv 0) (pa_cons (pe_bltn (v := .ty "bool") (by rfl) T.bool (by decide +kernel) rfl) pa_nil)))))))), ?_⟩
    exact s_ret (ev_andV (a := true) (b := true) (ev_isi (ev_var rfl) (.base (.int i)) (by decide +kernel)) fun _ => ev_is (ev_notV (a := false) (ev_isi (ev_var rfl) (.base (.int i)) (by decide +kernel))) rfl) fun H1 e1 => k _ _ e1 rfl
theorem ok28 (F : FnP K "is_between" s28 f fd) (T : Txt mg) (C_is_integer : CalN P w K mg base 1 "is_integer" sp22) : FnOk P w K mg base L2.CX0 2 f fd ["value", "low", "high"] sp28 := by
  refine F.ok sc28 (fun vs H Q E h => ?_) (fun cdv A outer s H vs Q E hr h => ?_)
  · obtain ⟨R, ⟨i, lo, hi, rfl, _⟩, _⟩ := h
    rfl
  · obtain ⟨R, ⟨i, lo, hi, rfl, rfl⟩, k⟩ := h
    have nd := sc28.nd
    refine ⟨_, PSs.nox (pss_one (ps_ret (pe_and (C8.pe_c (C_is_integer) hr (by decide) (by rfl) (pa_cons (pv 0) pa_nil)) (pe_one (pe_chain op_le op_le (pv 1) (pv 0) (pv 2)))))), ?_⟩
    exact s_ret (ev_is (ev_andV (a := true) (ev_sp (z := .bl true) (ea_cons (ev_var rfl) ea_nil) fun H1 _ => ⟨_, ⟨i, rfl, rfl⟩, fun v H2 _ r => r⟩) fun _ => ev_chain (ev_var rfl) (ev_var rfl) rv_I0 (fun _ => ev_var rfl) (fun _ => rv_I0)) (by rw [Bool.true_and])) fun H1 e1 => k _ _ e1 rfl
theorem ok27 (F : FnP K "is_row" s27 f fd) (T : Txt mg) : FnOk P w K mg base L2.CX0 1 f fd ["value"] (sp27 K) := by
  refine F.ok sc27 (fun vs H Q E h => ?_) (fun cdv A outer s H vs Q E hr h => ?_)
  · obtain ⟨R, ⟨p, xs, rfl, _⟩, _⟩ := h
    rfl
  · obtain ⟨R, ⟨p, xs, rfl, hp, rfl⟩, k⟩ := h
    have nd := sc27.nd
    refine ⟨_, PSs.nox (pss_one (ps_ret (pe_callB call_isiT (by rfl) T.isinstance (by decide +kernel) (pa_cons (pv 0) (pa_cons (pe_tup (pa_cons (pe_bltn (v := .ty "list") (by rfl) T.list (by decide +kernel) rfl) (pa_cons (pe_bltn (v := .ty "tuple") (by rfl) T.tuple (by decide +kernel) rfl) pa_nil))) pa_nil))))), ?_⟩
    obtain ⟨s', hs, ht⟩ := ty_seq hp
    rcases hs with rfl | rfl
    · exact s_ret (ev_isiT2 (b1 := true) (b2 := false) (ev_var rfl) ht (by decide +kernel) (by decide +kernel)) fun H1 e1 => k _ _ e1 rfl
    · exact s_ret (ev_isiT2 (b1 := false) (b2 := true) (ev_var rfl) ht (by decide +kernel) (by decide +kernel)) fun H1 e1 => k _ _ e1 rfl
end
section
variable {K : PySem.W.Frag} {σ : L2.St} {H : Hp} {ta tb tc : TE} {E : XK}
theorem ev_btw {i lo hi : Int} (ha : Ev ta σ H (.int i)) (hb : Ev tb σ H (.int lo)) (hc : Ev tc σ H (.int hi)) : Ev (tCall sp28 [] E (tCons ta (tCons tb (tCons tc tNil)))) σ H (.bl (decide (lo ≤ i) && decide (i ≤ hi))) :=
  ev_sp (ea_cons ha (ea_cons hb (ea_cons hc ea_nil))) fun H1 _ => ⟨_, ⟨i, lo, hi, rfl, rfl⟩, fun v H2 _ r => r⟩
theorem ev_row {p : Addr} {xs : List V} (ha : Ev ta σ H (.ref p)) (h : SqE K H p xs) : Ev (tCall (sp27 K) [] E (tCons ta tNil)) σ H (.bl true) :=
  ev_sp (ea_cons ha ea_nil) fun H1 e => ⟨_, ⟨p, xs, rfl, h.fwd e, rfl⟩, fun v H2 _ r => r⟩
end
/-! ### common_divisor, common_multiple -/
def sp23 : Sp := spR fun vs H R => ∃ i j : Int, vs = [.int i, .int j] ∧ R = fun v _ => v = .int (Int.gcd i j : Nat)
def sp24 : Sp := spR fun vs H R => ∃ i j : Int, vs = [.int i, .int j] ∧ 0 < j ∧ j < 1000000000 ∧ 0 ≤ i ∧ i < 2 ^ 62 ∧ R = fun v _ => v = .int (i / (Int.gcd i j : Nat) * j)
abbrev s23 : Stmt := top 23
abbrev s24 : Stmt := top 24
theorem sc23 : FnScope ["one", "other"] ["one", "other"] (defScope s23) := ⟨rfl, rfl, rfl, by decide +kernel, rfl, by decide +kernel, by decide +kernel⟩
theorem sc24 : FnScope ["one", "other"] ["one", "other"] (defScope s24) := ⟨rfl, rfl, rfl, by decide +kernel, rfl, by decide +kernel, by decide +kernel⟩
section
variable {P : Program} {w : World} {K : PySem.W.Frag} {mg : Str → Option Value} {base : Heap} {f : Addr} {fd : FuncData}
theorem ok23 (F : FnP K "common_divisor" s23 f fd) (T : Txt mg) : FnOk P w K mg base L2.CX0 1 f fd ["one", "other"] sp23 := by
  refine F.ok sc23 (fun vs H Q E h => ?_) (fun cdv A outer s H vs Q E hr h => ?_)
  · obtain ⟨R, ⟨i, j, rfl, _⟩, _⟩ := h
    rfl
  · obtain ⟨R, ⟨i, j, rfl, rfl⟩, k⟩ := h
    have nd := sc23.nd
    refine ⟨_, PSs.nox (pss_cons (ps_par (i := 0) (j := 1) rfl nd rfl rfl (by decide) rfl rfl (pa_cons (pe_callB call_abs (by rfl) T.abs (by decide +kernel) (pa_cons (pv 0) pa_nil)) (pa_cons (pe_callB call_abs (by rfl) T.abs (by decide +kernel) (pa_cons (pv 1) pa_nil)) pa_nil)) (by rfl))
    (pss_cons (ps_while PassesOwn.never (pt_cmpR op_gt (pv 1) pe_int (nomark _)) (pss_one (ps_par (i := 0) (j := 1) rfl nd rfl rfl (by decide) rfl rfl (pa_cons (pv 1) (pa_cons (pe_op op_mod (pv 0) (pv 1)) pa_nil)) (by rfl))))
    (pss_one (ps_ret (pv 0))))), ?_⟩
    refine q_par (ev_abs (ev_var rfl)) (ev_abs (ev_var rfl)) fun H1 e1 => ?_
    let W : Nat → L2.St → Hp → Prop := fun m σ' H' => ∃ a b : Nat, σ' = [some (.int (a : Int)), some (.int (b : Int))] ∧ m = b ∧ Nat.gcd a b = Int.gcd i j ∧ Ex H H'
    refine q_while W j.natAbs ⟨i.natAbs, j.natAbs, rfl, rfl, rfl, e1⟩ (fun m σ' H' w => ?_)
    obtain ⟨a, b, rfl, hm, hg, e⟩ := w
    subst m
    refine ⟨decide (0 < b), et_is (et_test (ev_op (ev_var rfl) ev_c rv_I0)) (by simp), fun hb H2 e2 => ?_, fun hb H2 e2 => ?_⟩
    · have hb0 : 0 < b := of_decide_eq_true hb
      refine ⟨fun σ2 H3 => ∃ m', m' < b ∧ W m' σ2 H3, fun _ _ h => h, ?_⟩
      refine s_par (ev_var rfl) (ev_op (ev_var rfl) (ev_var rfl) (rv_I (by omega))) fun H3 e3 => ⟨a % b, Nat.mod_lt _ hb0, b, a % b, by simp, rfl, ?_, (e.trans e2).trans e3⟩
      rw [Nat.gcd_comm, ← Nat.gcd_rec, Nat.gcd_comm]
      exact hg
    · have hb0 : b = 0 := by
        have := of_decide_eq_false hb
        omega
      subst hb0
      refine s_ret (ev_var rfl) fun H3 e3 => k _ _ ((e.trans e2).trans e3) ?_
      rw [← hg, Nat.gcd_zero_right]
theorem ok24 (F : FnP K "common_multiple" s24 f fd) (T : Txt mg) (C_common_divisor : CalN P w K mg base 1 "common_divisor" sp23) : FnOk P w K mg base L2.CX0 2 f fd ["one", "other"] sp24 := by
  refine F.ok sc24 (fun vs H Q E h => ?_) (fun cdv A outer s H vs Q E hr h => ?_)
  · obtain ⟨R, ⟨i, j, rfl, _⟩, _⟩ := h
    rfl
  · obtain ⟨R, ⟨i, j, rfl, h1, h2, h3, h4, rfl⟩, k⟩ := h
    have nd := sc24.nd
    refine ⟨_, PSs.nox (pss_one (ps_ret (pe_op op_mul (pe_op op_fdiv (pv 0) (C8.pe_c (C_common_divisor) hr (by decide) (by rfl) (pa_cons (pv 0) (pa_cons (pv 1) pa_nil)))) (pv 1)))), ?_⟩
    have g1 : 0 < Int.gcd i j := Int.gcd_pos_of_ne_zero_right i (by omega)
    have g2 : (Int.gcd i j : Int) ≤ j := Int.le_of_dvd h1 (Int.gcd_dvd_right ..)
    have d1 : 0 ≤ i / (Int.gcd i j : Nat) := Int.ediv_nonneg h3 (by omega)
    have d2 : i / (Int.gcd i j : Nat) ≤ i := Int.ediv_le_self _ h3
    refine s_ret (ev_op (ev_op (ev_var rfl) (ev_sp (z := .int (Int.gcd i j : Nat)) (ea_cons (ev_var rfl) (ea_cons (ev_var rfl) ea_nil)) fun H1 _ => ⟨_, ⟨i, j, rfl, rfl⟩, fun v H2 _ r => r⟩) (rv_I ⟨by omega, by omega⟩)) (ev_var rfl) (rv_I ?_)) fun H1 e1 => k _ _ e1 rfl
    show CMul _ _
    unfold CMul
    omega
end
end K9
end
section
set_option Elab.async false
set_option linter.all false
set_option maxRecDepth 100000
set_option maxHeartbeats 4000000
namespace K9
open PySem PySem.Spec PyProof.Rows L2 Evl
/-! ### a comprehension over the rows of a list -/
theorem flat_take {α β : Type} {g : α → List β} {rs : List α} {i : Nat} {r : α} (h : rs[i]? = some r) : (rs.take (i + 1)).flatMap g = (rs.take i).flatMap g ++ g r := by
  rw [List.take_add_one, h]
  simp
theorem map_take1 {α β : Type} {g : α → β} {r : List α} {k : Nat} {d : α} (h : r[k]? = some d) : (r.take (k + 1)).map g = (r.take k).map g ++ [g d] := by
  rw [List.take_add_one, h]
  simp
theorem yes_go {σ : L2.St} {H : Hp} {A B : Hp → Prop} (h : A H) : tYes σ H (fun b H3 => if b = true then A H3 else B H3) := by
  show (if true = true then A H else B H)
  rw [if_pos rfl]
  exact h
section
variable {K : PySem.W.Frag} {σ : L2.St} {H : Hp} {tl te : TE} {xs : List V}
theorem el_lc2 {a : Addr} {j j1 : Nat} {vs vs1 : List Nat} {rs : List (List Int)} (g : Int → V) (h : Ev tl σ H (.ref a)) (hx : SqL K H a xs) (hrs : RowsAt H xs rs) (hz : (rs.flatMap fun r => r.map g).length < 16777216)
    (hw : ∀ x, wipe ((wipe σ vs).set j (some x)) vs = wipe σ vs) (hj : ∀ x, (wipe ((wipe σ vs).set j (some x)) vs1)[j]? = some (some x) ∧ ((wipe σ vs).set j (some x))[j]? = some (some x)) (hw1 : ∀ x y, wipe ((wipe ((wipe σ vs).set j (some x)) vs1).set j1 (some y)) vs1 = wipe ((wipe σ vs).set j (some x)) vs1)
    (he : ∀ x r d H1, Ex H H1 → r ∈ rs → d ∈ r → Ev te ((wipe ((wipe σ vs).set j (some x)) vs1).set j1 (some (.int d))) H1 (g d)) :
    EvL (tLc2 (iList K tl) (gName j) tYes (iList K (tVar j)) (gName j1) tYes te vs vs1) σ H (rs.flatMap fun r => r.map g) := fun H0 e Q q => h H0 e _ fun H1 e1 => by
  have e01 := e.trans e1
  refine ⟨a, rfl, ⟨xs, ex_l e01 hx⟩, fun D hD => ?_⟩
  have hlen : xs.length = rs.length := Paired.length hrs
  have wl : ∀ {b : Addr} {ys : List V}, Walk (Itl K b) ys.length (fun H => SqL K H b ys) (YAt ys) := walk_list
  let Out : List V → Hp → Prop := fun acc H' => Ex H1 H' ∧ H' D = some (.lst acc)
  refine ⟨fun i m H' => m = rs.length - i ∧ i ≤ rs.length ∧ Out ((rs.take i).flatMap fun r => r.map g) H', ⟨rs.length, by simp, Nat.zero_le _, Ex.new hD, upd_same⟩, ?_⟩
  rintro i m H' ⟨rfl, hi, eo, ho⟩
  have hs : SqL K H' a xs := ex_l (e01.trans eo) hx
  by_cases hlt : i < rs.length
  · have hit : i < xs.length := by omega
    obtain ⟨r, hr⟩ : ∃ r, rs[i]? = some r := ⟨_, List.getElem?_eq_getElem hlt⟩
    obtain ⟨x, hxi, b, rfl, hb⟩ := paired_get2 hrs hr
    refine .inr ⟨wl.goes i H' hit hs, fun H2 => Out ((rs.take (i + 1)).flatMap fun r => r.map g) H2, fun H2 o => ⟨rs.length - (i + 1), by omega, rfl, hlt, o⟩, fun x H2 y => ?_⟩
    obtain ⟨rfl, y2⟩ := wl.yields i H' x H2 hit hs y
    rw [hxi] at y2
    obtain rfl := Option.some.inj y2
    refine ⟨hw _, yes_go ?_⟩
    refine ⟨.ref b, (hj _).2, b, rfl, ⟨_, sq_of ((e01.trans eo) _ _ hb)⟩, ?_⟩
    refine ⟨fun k m H3 => m = r.length - k ∧ k ≤ r.length ∧ Out (((rs.take i).flatMap fun r => r.map g) ++ (r.take k).map g) H3, ⟨r.length, by simp, Nat.zero_le _, eo, by simpa using ho⟩, ?_⟩
    rintro k m H3 ⟨rfl, hk, eo3, ho3⟩
    have hs3 : SqL K H3 b (r.map V.int) := sq_of ((e01.trans eo3) _ _ hb)
    by_cases hkl : k < r.length
    · have hkt : k < (r.map V.int).length := by simpa using hkl
      obtain ⟨d, hd⟩ : ∃ d, r[k]? = some d := ⟨_, List.getElem?_eq_getElem hkl⟩
      refine .inr ⟨wl.goes k H3 hkt hs3, fun H4 => Out (((rs.take i).flatMap fun r => r.map g) ++ (r.take (k + 1)).map g) H4, fun H4 o => ⟨r.length - (k + 1), by omega, rfl, hkl, o⟩, fun x H4 y => ?_⟩
      obtain ⟨rfl, y2⟩ := wl.yields k H3 x H4 hkt hs3 y
      rw [List.getElem?_map, hd] at y2
      obtain rfl := Option.some.inj y2
      refine ⟨hw1 _ _, yes_go ?_⟩
      refine he _ r d H4 (e01.trans eo3) (List.mem_of_getElem? hr) (List.mem_of_getElem? hd) H4 (Ex.refl _) _ fun H5 e5 => ⟨_, e5 _ _ ho3, ?_, ?_, ?_⟩
      · have hle : (((rs.take i).flatMap fun r => r.map g) ++ (r.take k).map g).length ≤ (rs.flatMap fun r => r.map g).length := by
          have e6 : (rs.flatMap fun r => r.map g) = (((rs.take i).flatMap fun r => r.map g) ++ (r.take k).map g) ++ ((r.drop k).map g ++ ((rs.drop (i + 1)).flatMap fun r => r.map g)) := by
            conv => lhs; rw [← List.take_append_drop (i + 1) rs, List.flatMap_append, flat_take hr]
            have e8 : r.map g = (r.take k).map g ++ (r.drop k).map g := by rw [← List.map_append, List.take_append_drop]
            rw [e8]
            simp only [List.append_assoc]
          have e7 := congrArg List.length e6
          rw [List.length_append] at e7
          omega
        rw [sizeLine_eq]
        omega
      · exact Ex.mut (eo3.trans e5) hD
      · rw [map_take1 hd, ← List.append_assoc]
        exact upd_same
    · have hk' : k = r.length := by omega
      subst hk'
      refine .inl ⟨by simpa using wl.stops H3 hs3, eo3, ?_⟩
      rw [flat_take hr]
      simpa using ho3
  · have hi' : i = rs.length := by omega
    subst hi'
    refine .inl ⟨by have z := wl.stops H' hs; rw [hlen] at z; exact z, ?_⟩
    rw [List.take_length] at ho
    exact q D H' (fresh_back e1 hD) (e1.trans eo) ho
end
/-! ### are_years, are_weekdays, are_holidays: of what is right -/
structure YearsOk (ys : List (List Int)) (m : Nat) : Prop where
  ne : 1 ≤ ys.length ∧ ys.length ≤ 400
  mo : 1 ≤ m ∧ m ≤ 14
  len : ∀ y ∈ ys, y.length = m
  days : ∀ y ∈ ys, ∀ d ∈ y, 1 ≤ d ∧ d ≤ 40
def sp29 : Sp := spR fun vs H R => ∃ (p : Addr) (xs : List V) (ys : List (List Int)) (m : Nat), vs = [.ref p] ∧ H p = some (.lst xs) ∧ RowsAt H xs ys ∧ YearsOk ys m ∧ R = fun v _ => v = .bl true
def sp30 (K : PySem.W.Frag) : Sp := spR fun vs H R => ∃ (p : Addr) (l : List Int) (w : Int), vs = [.ref p, .int w] ∧ SqE K H p (l.map V.int) ∧ (∀ i ∈ l, 0 ≤ i ∧ i < w) ∧ l.Nodup ∧ l.length < 64 ∧ R = fun v _ => v = .bl true
def sp31 (K : PySem.W.Frag) : Sp := spR fun vs H R => ∃ (p : Addr) (us : List V) (hs : List (Int × Int)) (m : Int), vs = [.ref p, .int m] ∧ SqE K H p us ∧ PrsAt H us hs ∧ (∀ q ∈ hs, (1 ≤ q.1 ∧ q.1 ≤ m) ∧ 1 ≤ q.2 ∧ q.2 ≤ 40) ∧ hs.Nodup ∧ hs.length < 64 ∧ R = fun v _ => v = .bl true
abbrev s29 : Stmt := top 29
abbrev s30 : Stmt := top 30
abbrev s31 : Stmt := top 31
theorem sc29 : FnScope ["years", "year", "days"] ["years"] (defScope s29) := ⟨rfl, rfl, rfl, by decide +kernel, rfl, by decide +kernel, by decide +kernel⟩
theorem sc30 : FnScope ["rest", "week", "weekday"] ["rest", "week"] (defScope s30) := ⟨rfl, rfl, rfl, by decide +kernel, rfl, by decide +kernel, by decide +kernel⟩
theorem sc31 : FnScope ["holidays", "months", "holiday"] ["holidays", "months"] (defScope s31) := ⟨rfl, rfl, rfl, by decide +kernel, rfl, by decide +kernel, by decide +kernel⟩
theorem given_true {n : Nat} : given n (fun _ => true) (fun _ => V.bl true) = (List.replicate n true).map V.bl := by
  rw [given_all, List.map_replicate]
  induction n with
  | zero => rfl
  | succ n ih => rw [List.range_succ, List.map_append, ih, List.replicate_succ']; rfl
theorem all_true {n : Nat} : (List.replicate n true).all id = true := by simp
theorem prs_keys {K : PySem.W.Frag} {H : Hp} : ∀ {us : List V} {hs : List (Int × Int)}, PrsAt H us hs → ∃ ks : List (Addr × List Int), us = ks.map (fun p => V.ref p.1) ∧ ks.map (·.2) = hs.map (fun q => [q.1, q.2]) ∧ ∀ p ∈ ks, SqT K H p.1 (p.2.map V.int)
  | _, _, .nil => ⟨[], rfl, rfl, fun p hp => nomatch hp⟩
  | _, _, .cons (b := q) r t => by
    obtain ⟨ks, h1, h2, h3⟩ := prs_keys (K := K) t
    obtain ⟨b, rfl, hb⟩ := r
    refine ⟨(b, [q.1, q.2]) :: ks, by rw [h1]; rfl, by rw [List.map_cons, List.map_cons, h2], fun p hp => ?_⟩
    rcases List.mem_cons.mp hp with rfl | hp
    · exact st_of hb
    · exact h3 p hp
theorem pairs_nodup {hs : List (Int × Int)} (h : hs.Nodup) : (hs.map (fun q => [q.1, q.2])).Nodup := by
  refine List.Pairwise.map _ (fun a b hab e => hab ?_) h
  simp at e
  exact Prod.ext e.1 e.2
section
variable {K : PySem.W.Frag} {σ : L2.St} {H : Hp} {tl : TE} {xs : List V} {tu tz : TS} {D : Ends} {g : TG}
theorem q_forSq {a : Addr} (h : Ev tl σ H (.ref a)) (hx : SqE K H a xs) (Pv : Nat → L2.St → Hp → Prop) (h0 : ∀ H1, Ex H H1 → Pv 0 σ H1) (hl : ∀ i σ' H', i ≤ xs.length → Pv i σ' H' → SqE K H' a xs)
    (hs : ∀ i x σ' H', xs[i]? = some x → Pv i σ' H' → g x σ' H' fun σ2 H2 => tu { D with nx := Pv (i + 1), ct := Pv (i + 1), bk := tz D } σ2 H2) (hd : ∀ σ' H', Pv xs.length σ' H' → tz D σ' H') (hk : ∀ i σ' H', Pv i σ' H' → Ex H H') :
    tSeq (tFor (fun σ H R => iList K tl σ H R ∨ iTup K tl σ H R) g tu) tz D σ H := by
  rcases hx with hx | hx
  · exact Or.inl (q_forL (tz := tz) (tu := tu) (g := g) (D := D) h hx Pv h0 (fun i σ' H' _ p => ex_l (hk _ _ _ p) hx) hs hd)
  · exact Or.inr (q_forT (tz := tz) (tu := tu) (g := g) (D := D) h hx Pv h0 (fun i σ' H' _ p => ex_t (hk _ _ _ p) hx) hs hd)
end
section
variable {P : Program} {w : World} {K : PySem.W.Frag} {mg : Str → Option Value} {base : Heap} {f : Addr} {fd : FuncData}
theorem flat_len {ys : List (List Int)} {m : Nat} (Y : YearsOk ys m) : ∀ {g : Int → V}, (ys.flatMap fun r => r.map g).length ≤ 400 * 14 := fun {g} => by
  rw [List.length_flatMap]
  refine Nat.le_trans (sum_le (b := 14) fun y hy => by rw [List.length_map, Y.len y hy]; exact Y.mo.2) ?_
  exact Nat.mul_le_mul_right 14 Y.ne.2
theorem ok29 (F : FnP K "are_years" s29 f fd) (T : Txt mg) (C_is_row : CalN P w K mg base 1 "is_row" (sp27 K)) (C_is_between : CalN P w K mg base 2 "is_between" sp28) : FnOk P w K mg base L2.CX0 3 f fd ["years"] sp29 := by
  refine F.ok sc29 (fun vs H Q E h => ?_) (fun cdv A outer s H vs Q E hr h => ?_)
  · obtain ⟨R, ⟨p, xs, ys, m, rfl, _⟩, _⟩ := h
    rfl
  · obtain ⟨R, ⟨p, xs, ys, m, rfl, hp, hxs, Y, rfl⟩, k⟩ := h
    have nd := sc29.nd
    refine ⟨_, PSs.nox (pss_cons (ps_if (PW.pt (pw_or (pt_not (pt_val (C8.pe_c (C_is_row) hr (by decide) (by rfl) (pa_cons (pv 0) pa_nil)))) (pw_or (pt_not (pt_chain op_le op_le pe_int (pe_callB call_len_seq (by rfl) T.len (by decide +kernel) (pa_cons (pv 0) pa_nil)) (C8.pe_gc (by rfl) T.MAX_YEARS))) (pw_or1 (pt_not (pt_val (pe_callB (cr_all rfl) (by rfl) T.all (by decide +kernel) (pa_cons (pe_lc (own := [("year", 1)]) (g := gName 1) rfl nd (pi_list (pv 0)) (blkOk_by (own := [("year", 1)]) (N := ["years", "year", "days"]) (sc := (defScope s29)) (by decide +kernel)) (fun _ _ _ _ _ => (pg_name (i := 1) nd rfl (Or.inl rfl))) (fun _ _ _ _ _ => pts_nil) (fun _ _ _ _ _ => (C8.pe_c (C_is_row) hr (by decide) (by rfl) (pa_cons (pv 1) pa_nil)))) pa_nil)))))))) (pss_one (ps_ret pe_bl)) pss_nil)
    (pss_cons (ps_if (PW.pt (pw_or (pt_not (pt_chain op_le op_le pe_int (pe_callB call_len_seq (by rfl) T.len (by decide +kernel) (pa_cons (pe_ix ix_list (pv 0) pe_int (fun _ _ => rfl)) pa_nil)) (C8.pe_gc (by rfl) T.MAX_MONTHS))) (pw_or1 (pt_not (pt_val (pe_callB (cr_all rfl) (by rfl) T.all (by decide +kernel) (pa_cons (pe_lc (own := [("year", 1)]) (g := gName 1) rfl nd (pi_list (pv 0)) (blkOk_by (own := [("year", 1)]) (N := ["years", "year", "days"]) (sc := (defScope s29)) (by decide +kernel)) (fun _ _ _ _ _ => (pg_name (i := 1) nd rfl (Or.inl rfl))) (fun _ _ _ _ _ => pts_nil) (fun _ _ _ _ _ => (pe_cmpR op_eq (pe_callB (r := rLenS K) call_len_seq (by rfl) T.len (by decide +kernel) (pa_cons (pv 1) pa_nil)) (pe_callB (r := rLenS K) call_len_seq (by rfl) T.len (by decide +kernel) (pa_cons (pe_ix (r := rIxL K) ix_list (pv 0) pe_int (fun _ _ => rfl)) pa_nil)) (nomark _)))) pa_nil))))))) (pss_one (ps_ret pe_bl)) pss_nil)
    (pss_one (ps_ret (pe_callB (cr_all rfl) (by rfl) T.all (by decide +kernel) (pa_cons (pe_lc2 (own := [("year", 1), ("days", 2)]) (vs1 := [2]) (g := gName 1) (g1 := gName 2) rfl nd (pi_list (pv 0)) (blkOk_by (own := [("year", 1), ("days", 2)]) (N := ["years", "year", "days"]) (sc := (defScope s29)) (by decide +kernel)) (by decide) (fun _ _ _ _ _ => (pg_name (i := 1) nd rfl (Or.inl rfl))) (fun _ _ _ _ _ => pts_nil) (fun _ _ _ _ _ => (pi_list (pv 1) : PI _ _ _ (iList K _))) (fun _ _ _ _ _ => (pg_name (i := 2) nd rfl (Or.inl rfl))) (fun _ _ _ _ _ => pts_nil) (fun _ _ _ _ _ => (C8.pe_c (C_is_between) hr (by decide) (by rfl) (pa_cons (pv 2) (pa_cons pe_int (pa_cons (C8.pe_gc (by rfl) T.MAX_DAYS) pa_nil)))))) pa_nil)))))), ?_⟩
    have hl : xs.length = ys.length := Paired.length hxs
    have hn := Y.ne
    have hm := Y.mo
    obtain ⟨y0, yr, hy⟩ : ∃ y0 yr, ys = y0 :: yr := by
      cases ys with
      | nil => exact absurd hn.1 (by decide)
      | cons a r => exact ⟨a, r, rfl⟩
    obtain ⟨x0, hx0, t0, rfl, ht0⟩ := paired_get2 (i := 0) (y := y0) hxs (by rw [hy]; rfl)
    have hy0 : y0.length = m := Y.len y0 (by rw [hy]; exact List.mem_cons_self)
    have sz : xs.length ≤ sizeLine := sz_of (by omega)
    have lenX : ∀ {σ : L2.St} {H1 : Hp}, Ex H H1 → σ[0]? = some (some (.ref p)) → Ev (tCB (fun xs H Q => ∃ p ys, xs = [.ref p] ∧ (SqL K H p ys ∨ SqT K H p ys) ∧ Q (.int ys.length) H) (tCons (tVar 0) tNil)) σ H1 (.int (ys.length : Int)) := fun e hσ => ev_is (ev_lenQ (ev_var hσ) (sq_of (e _ _ hp))) (by rw [hl])
    refine q_when (b := false) (et_or (a := false) (et_is (et_not (et_test (ev_row (ev_var rfl) (.inl (sq_of hp))))) rfl) fun _ => et_or (a := false) (et_is (et_not (et_test (ev_chain ev_c (lenX (Ex.refl _) rfl) rv_I0 (fun _ => ev_c) (fun _ => rv_I0)))) (by simp; omega)) fun _ => et_is (et_not (et_test (ev_is (ev_all (bs := List.replicate xs.length true) (el_is
      (el_lcLi (fun _ => true) (fun _ => .bl true) (ev_var rfl) (sq_of hp) sz (fun _ => by rfl) (fun _ _ _ _ => et_yes) fun i H1 e1 hi _ => ?_) given_true)) (by rw [all_true])))) rfl) (fun h => by cases h) fun _ H1 e1 => ?_
    · obtain ⟨y, hy', t, ex, ht⟩ := paired_get hxs (getD_at (d := .non) hi)
      rw [ex]
      exact ev_row (ev_var rfl) (.inl (sq_of (e1 _ _ ht)))
    refine q_when (b := false) (et_or (a := false) (et_is (et_not (et_test (ev_chain ev_c (ev_is (ev_lenQ (ev_op (ev_var rfl) ev_c (rv_ixL (sq_of (e1 _ _ hp)) (atI_nat (j := 0) hx0))) (sq_of (e1 _ _ ht0))) (show _ = V.int (m : Int) by rw [List.length_map, hy0])) rv_I0 (fun _ => ev_c) (fun _ => rv_I0)))) (by simp; omega))
      fun _ => et_is (et_not (et_test (ev_is (ev_all (bs := List.replicate xs.length true) (el_is (el_lcLi (fun _ => true) (fun _ => .bl true) (ev_var rfl) (sq_of (e1 _ _ hp)) sz (fun _ => by rfl) (fun _ _ _ _ => et_yes) fun i H2 e2 hi _ => ?_) given_true)) (by rw [all_true])))) rfl) (fun h => by cases h) fun _ H2 e2 => ?_
    · obtain ⟨y, hy', t, ex, ht⟩ := paired_get hxs (getD_at (d := .non) hi)
      rw [ex]
      have ly : y.length = m := Y.len y (List.mem_of_getElem? hy')
      refine ev_is (ev_op (ev_is (ev_lenQ (ev_var rfl) (sq_of (e2 _ _ (e1 _ _ ht)))) (show _ = V.int (m : Int) by rw [List.length_map, ly])) (ev_is (ev_lenQ (ev_op (ev_var rfl) ev_c (rv_ixL (sq_of (e2 _ _ (e1 _ _ hp))) (atI_nat (j := 0) hx0))) (sq_of (e2 _ _ (e1 _ _ ht0)))) (show _ = V.int (m : Int) by rw [List.length_map, hy0])) rv_int) ?_
      simp
    have e12 := e1.trans e2
    refine s_ret (ev_is (ev_all (bs := (ys.flatMap fun r => r.map fun _ => true)) (el_is (el_lc2 (fun _ => .bl true) (ev_var rfl) (sq_of (e12 _ _ hp)) (hxs.fwd e12) (Nat.lt_of_le_of_lt (flat_len Y) (by decide)) (fun _ => by rfl) (fun _ => ⟨by rfl, by rfl⟩) (fun _ _ => by rfl) fun x r d H3 e3 hr hd => ?_) ?_)) (show _ = V.bl true by
        congr 1
        rw [List.all_eq_true]
        intro b hb
        obtain ⟨r, _, hb⟩ := List.mem_flatMap.mp hb
        obtain ⟨d, _, rfl⟩ := List.mem_map.mp hb
        rfl)) fun H3 e3 => k _ _ (e12.trans e3) rfl
    · obtain ⟨d1, d2⟩ := Y.days r hr d hd
      exact ev_is (ev_btw (ev_var rfl) ev_c ev_c) (by simp [d1, d2])
    · rw [List.map_flatMap]
      congr 1
      funext r
      rw [List.map_map]
      rfl
theorem ok30 (F : FnP K "are_weekdays" s30 f fd) (T : Txt mg) (C_is_row : CalN P w K mg base 1 "is_row" (sp27 K)) (C_is_between : CalN P w K mg base 2 "is_between" sp28) : FnOk P w K mg base L2.CX0 3 f fd ["rest", "week"] (sp30 K) := by
  refine F.ok sc30 (fun vs H Q E h => ?_) (fun cdv A outer s H vs Q E hr h => ?_)
  · obtain ⟨R, ⟨p, l, wk, rfl, _⟩, _⟩ := h
    rfl
  · obtain ⟨R, ⟨p, l, wk, rfl, hp, hl, hnd, hz, rfl⟩, k⟩ := h
    have nd := sc30.nd
    refine ⟨_, PSs.nox (pss_cons (ps_if (PW.pt (pw_or (pt_not (pt_val (C8.pe_c (C_is_row) hr (by decide) (by rfl) (pa_cons (pv 0) pa_nil)))) (pw_or1 (pt_not (pt_val (pe_callB (cr_all rfl) (by rfl) T.all (by decide +kernel) (pa_cons (pe_lc (own := [("weekday", 2)]) (g := gName 2) rfl nd (pi_alt (pi_list (pv 0)) (pi_tup (pv 0))) (blkOk_by (own := [("weekday", 2)]) (N := ["rest", "week", "weekday"]) (sc := (defScope s30)) (by decide +kernel)) (fun _ _ _ _ _ => (pg_name (i := 2) nd rfl (Or.inl rfl))) (fun _ _ _ _ _ => pts_nil) (fun _ _ _ _ _ => (C8.pe_c (C_is_between) hr (by decide) (by rfl) (pa_cons (pv 2) (pa_cons pe_int (pa_cons (pe_op op_sub (pv 1) pe_int) pa_nil)))))) pa_nil))))))) (pss_one (ps_ret pe_bl)) pss_nil)
    (pss_one (ps_ret (pe_cmpR op_eq (pe_lenSet hr rfl (by rfl) T.len (by rfl) T.set (pv 0)) (pe_callB call_len_seq (by rfl) T.len (by decide +kernel) (pa_cons (pv 0) pa_nil)) (nomark _))))), ?_⟩
    refine q_when (b := false) (et_or (a := false) (et_is (et_not (et_test (ev_row (ev_var rfl) hp))) rfl) fun _ => et_is (et_not (et_test (ev_is (ev_all (bs := List.replicate (l.map V.int).length true) (el_is
      (el_lcSq (fun _ => true) (fun _ => .bl true) (ev_var rfl) hp (by rw [List.length_map]; exact sz_of (by omega)) (fun _ => by rfl) (fun _ _ _ _ => et_yes) fun i H1 e1 hi _ => ?_) given_true)) (by rw [all_true])))) rfl) (fun h => by cases h) fun _ H1 e1 => ?_
    · have hi2 : i < l.length := by simpa using hi
      have e : (l.map V.int).getD i .non = .int (l.getD i 0) := getD_map hi2
      obtain ⟨d1, d2⟩ := hl _ (getD_mem (d := 0) hi2)
      rw [e]
      refine ev_is (ev_btw (ev_var rfl) ev_c (ev_op (ev_var rfl) ev_c rv_I0)) ?_
      rw [decide_eq_true d1, decide_eq_true (by omega)]
      rfl
    · refine s_ret (ev_is (ev_op (ev_lenSet (n := l.length) (ev_var rfl) fun H2 e2 => ⟨hz, .inl ⟨l, hp.fwd (e1.trans e2), hnd, rfl⟩⟩) (ev_is (ev_lenE (ev_var rfl) (hp.fwd e1)) (show _ = V.int (l.length : Int) by rw [List.length_map])) rv_int) (by simp)) fun H2 e2 => k _ _ (e1.trans e2) rfl
theorem ok31 (F : FnP K "are_holidays" s31 f fd) (T : Txt mg) (C_is_row : CalN P w K mg base 1 "is_row" (sp27 K)) (C_is_between : CalN P w K mg base 2 "is_between" sp28) : FnOk P w K mg base L2.CX0 3 f fd ["holidays", "months"] (sp31 K) := by
  refine F.ok sc31 (fun vs H Q E h => ?_) (fun cdv A outer s H vs Q E hr h => ?_)
  · obtain ⟨R, ⟨p, us, hs, m, rfl, _⟩, _⟩ := h
    rfl
  · obtain ⟨R, ⟨p, us, hs, m, rfl, hp, hus, hv, hnd, hz, rfl⟩, k⟩ := h
    have nd := sc31.nd
    refine ⟨_, PSs.nox (pss_cons (ps_if (pt_not (pt_val (C8.pe_c (C_is_row) hr (by decide) (by rfl) (pa_cons (pv 0) pa_nil)))) (pss_one (ps_ret pe_bl)) pss_nil)
    (pss_cons (ps_for PassesOwn.never rfl (pi_alt (pi_list (pv 0)) (pi_tup (pv 0))) (pg_name (i := 2) nd rfl (Or.inl rfl)) (pss_cons (ps_if (PW.pt (pw_or (pt_not (pt_val (pe_callB call_isi (by rfl) T.isinstance (by decide +kernel) (pa_cons (pv 2) (pa_cons (pe_bltn (v := .ty "tuple") (by rfl) T.tuple (by decide +kernel) rfl) pa_nil))))) (pw_or1 (pt_cmpR op_ne (pe_callB call_len_seq (by rfl) T.len (by decide +kernel) (pa_cons (pv 2) pa_nil)) pe_int (nomark _))))) (pss_one (ps_ret pe_bl)) pss_nil)
    (pss_one (ps_if (PW.pt (pw_or (pt_not (pt_val (C8.pe_c (C_is_between) hr (by decide) (by rfl) (pa_cons (pe_ix ix_tup (pv 2) pe_int (fun _ _ => rfl)) (pa_cons pe_int (pa_cons (pv 1) pa_nil)))))) (pw_or1 (pt_not (pt_val (C8.pe_c (C_is_between) hr (by decide) (by rfl) (pa_cons (pe_ix ix_tup (pv 2) pe_int (fun _ _ => rfl)) (pa_cons pe_int (pa_cons (C8.pe_gc (by rfl) T.MAX_DAYS) pa_nil))))))))) (pss_one (ps_ret pe_bl)) pss_nil))))
    (pss_one (ps_ret (pe_cmpR op_eq (pe_lenSet hr rfl (by rfl) T.len (by rfl) T.set (pv 0)) (pe_callB call_len_seq (by rfl) T.len (by decide +kernel) (pa_cons (pv 0) pa_nil)) (nomark _)))))), ?_⟩
    have hl : us.length = hs.length := Paired.length hus
    refine q_when (b := false) (et_is (et_not (et_test (ev_row (ev_var rfl) hp))) rfl) (fun h => by cases h) fun _ H1 e1 => ?_
    let Pv : Nat → L2.St → Hp → Prop := fun i σ' H' => ∃ a : Option V, σ' = [some (.ref p), some (.int m), a] ∧ Ex H1 H'
    refine q_forSq (ev_var rfl) (hp.fwd e1) Pv (fun H2 e2 => ⟨none, rfl, e2⟩) (fun i σ' H' _ pv => ?_) (fun i x σ' H' hx pv => ?_) (fun σ' H' pv => ?_) (fun _ _ _ ⟨_, _, e⟩ => e)
    · obtain ⟨a, _, e⟩ := pv
      exact hp.fwd (e1.trans e)
    · obtain ⟨a, rfl, e0⟩ := pv
      have e := e1.trans e0
      obtain ⟨q, hq, t, rfl, ht⟩ := paired_get hus hx
      obtain ⟨⟨v1, v2⟩, v3, v4⟩ := hv q (List.mem_of_getElem? hq)
      refine q_when (b := false) (et_or (a := false) (et_is (et_not (et_test (ev_isi (b := true) (ev_var rfl) (.base (.tup (e _ _ ht))) (by decide +kernel)))) rfl) fun _ => et_is (et_test (ev_op (ev_lenE (ev_var rfl) (.inr (st_of (e _ _ ht)))) ev_c rv_intN)) (by simp)) (fun h => by cases h) fun _ H2 e2 => ?_
      have ht2 := e2 _ _ (e _ _ ht)
      refine s_when (b := false) (et_or (a := false) (et_is (et_not (et_test (ev_btw (ev_op (ev_var rfl) ev_c (rv_ixT (st_of ht2) (atI_nat (j := 0) rfl))) ev_c (ev_var rfl)))) (by simp [v1, v2])) fun _ => et_is (et_not (et_test (ev_btw (ev_op (ev_var rfl) ev_c (rv_ixT (st_of ht2) (atI_nat (j := 1) rfl))) ev_c ev_c))) (by simp [v3, v4])) (fun h => by cases h) fun _ H3 e3 => ?_
      exact ⟨_, rfl, e0.trans (e2.trans e3)⟩
    · obtain ⟨a, rfl, e0⟩ := pv
      have e := e1.trans e0
      refine s_ret (ev_is (ev_op (ev_lenSet (n := hs.length) (ev_var rfl) fun H2 e2 => ⟨hz, .inr ?_⟩) (ev_is (ev_lenE (ev_var rfl) (hp.fwd e)) (show _ = V.int (hs.length : Int) by rw [hl])) rv_int) (by simp)) fun H2 e2 => k _ _ (e.trans e2) rfl
      have e02 := e.trans e2
      obtain ⟨ks, k1, k2, k3⟩ := prs_keys (K := K) (hus.fwd e02)
      refine ⟨ks, ?_, k3, ?_, ?_⟩
      · have z := hp.fwd e02
        rw [k1] at z
        exact z
      · rw [k2]
        exact pairs_nodup hnd
      · have z := congrArg List.length k2
        rw [List.length_map, List.length_map] at z
        exact z
end
/-! ### month_starts, month_at -/
def startsP (ls : List Int) : List Int := (List.range (ls.length + 1)).map fun i => (ls.take i).sum
def sp32 : Sp := spR fun vs H R => ∃ (p : Addr) (ls : List Int), vs = [.ref p] ∧ H p = some (.lst (ls.map V.int)) ∧ ls.length ≤ 90000 ∧ R = fun v H2 => ∃ t, v = .ref t ∧ H t = none ∧ H2 t = some (.lst ((startsP ls).map V.int))
def sp33 : Sp := spR fun vs H R => ∃ (p : Addr) (ss : List Int) (d : Int), vs = [.ref p, .int d] ∧ H p = some (.lst (ss.map V.int)) ∧ 2 ≤ ss.length ∧ ss.length ≤ 100000 ∧ ss.getD 0 0 ≤ d ∧ d < ss.getD (ss.length - 1) 0 ∧
  R = fun v _ => ∃ lo : Nat, v = .int lo ∧ lo + 1 < ss.length ∧ ss.getD lo 0 ≤ d ∧ d < ss.getD (lo + 1) 0
abbrev s32 : Stmt := top 32
abbrev s33 : Stmt := top 33
theorem sc32 : FnScope ["lengths", "found", "days"] ["lengths"] (defScope s32) := ⟨rfl, rfl, rfl, by decide +kernel, rfl, by decide +kernel, by decide +kernel⟩
theorem sc33 : FnScope ["starts", "day", "low", "high", "middle"] ["starts", "day"] (defScope s33) := ⟨rfl, rfl, rfl, by decide +kernel, rfl, by decide +kernel, by decide +kernel⟩
theorem ints_at {l : List Int} {i : Nat} (h : i < l.length) : atI (l.map V.int) (i : Int) = some (.int (l.getD i 0)) := atI_nat (by rw [List.getElem?_map, getD_at (d := 0) h]; rfl)
section
variable {P : Program} {w : World} {K : PySem.W.Frag} {mg : Str → Option Value} {base : Heap} {f : Addr} {fd : FuncData}
theorem ok32 (F : FnP K "month_starts" s32 f fd) : FnOk P w K mg base L2.CX0 1 f fd ["lengths"] sp32 := by
  refine F.ok sc32 (fun vs H Q E h => ?_) (fun cdv A outer s H vs Q E hr h => ?_)
  · obtain ⟨R, ⟨p, ls, rfl, _⟩, _⟩ := h
    rfl
  · obtain ⟨R, ⟨p, ls, rfl, hp, hz, rfl⟩, k⟩ := h
    have nd := sc32.nd
    refine ⟨_, PSs.nox (pss_cons (ps_set (i := 1) nd rfl (Or.inl rfl) (pe_lst (pa_cons pe_int pa_nil)))
    (pss_cons (ps_for PassesOwn.never rfl (pi_list (pv 0)) (pg_name (i := 2) nd rfl (Or.inl rfl)) (pss_one (ps_expr (pe_bm PySem.F.plainAttrs_list PySem.F.slot_list_append PySem.F.type_list_append mt_append (pv 1) (pa_cons (pe_op op_add (pe_ix ix_list (pv 1) (pe_un un_neg pe_int) (fun _ _ => rfl)) (pv 2)) pa_nil)))))
    (pss_one (ps_ret (pv 1))))), ?_⟩
    refine q_asgL (el_lst (ea_cons ev_c ea_nil) (by decide)) fun q H1 hq e1 h1 => ?_
    have ep : ∀ {H2 : Hp}, Ex H H2 → H2 p = some (.lst (ls.map V.int)) := fun e => e _ _ hp
    let Pv : Nat → L2.St → Hp → Prop := fun i σ' H' => ∃ a : Option V, σ' = [some (.ref p), some (.ref q), a] ∧ Ex H H' ∧ H' q = some (.lst (((List.range (i + 1)).map fun j => (ls.take j).sum).map V.int))
    refine q_forL (ev_var rfl) (sq_of (ep e1)) Pv (fun H2 e2 => ⟨none, rfl, e1.trans e2, e2 _ _ h1⟩) (fun i σ' H' _ pv => ?_) (fun i x σ' H' hx pv => ?_) (fun σ' H' pv => ?_)
    · obtain ⟨a, _, e, _⟩ := pv
      exact sq_of (ep e)
    · obtain ⟨a, rfl, e, hq'⟩ := pv
      rw [List.getElem?_map] at hx
      cases hd : ls[i]? with
      | none => rw [hd] at hx; cases hx
      | some d =>
        rw [hd] at hx
        obtain rfl := Option.some.inj hx
        have hi : i < ls.length := (List.getElem?_eq_some_iff.mp hd).1
        have hlast : atI (((List.range (i + 1)).map fun j => (ls.take j).sum).map V.int) (-1) = some (.int (ls.take i).sum) := atI_end (by rw [List.range_succ]; simp)
        refine s_app hq' (ev_var rfl) (ev_op (ev_op (ev_var rfl) (ev_un ev_c ru_neg) (rv_ixL (sq_of hq') hlast)) (ev_var rfl) rv_I0) (by simp; omega) fun H2 e2 => ⟨_, rfl, Ex.mut (e.trans e2) hq, ?_⟩
        rw [upd_same, List.range_succ (n := i + 1)]
        have es : (ls.take (i + 1)).sum = (ls.take i).sum + d := by
          rw [List.take_add_one, hd]
          simp
        simp [es]
    · obtain ⟨a, rfl, e, hq'⟩ := pv
      rw [List.length_map] at hq'
      exact s_ret (ev_var rfl) fun H2 e2 => k _ _ (e.trans e2) ⟨q, rfl, hq, e2 _ _ hq'⟩
theorem ok33 (F : FnP K "month_at" s33 f fd) (T : Txt mg) : FnOk P w K mg base L2.CX0 1 f fd ["starts", "day"] sp33 := by
  refine F.ok sc33 (fun vs H Q E h => ?_) (fun cdv A outer s H vs Q E hr h => ?_)
  · obtain ⟨R, ⟨p, ss, d, rfl, _⟩, _⟩ := h
    rfl
  · obtain ⟨R, ⟨p, ss, d, rfl, hp, h2, hz, hlo, hhi, rfl⟩, k⟩ := h
    have nd := sc33.nd
    refine ⟨_, PSs.nox (pss_cons (ps_par (i := 2) (j := 3) rfl nd rfl rfl (by decide) rfl rfl (pa_cons pe_int (pa_cons (pe_op op_sub (pe_callB call_len_seq (by rfl) T.len (by decide +kernel) (pa_cons (pv 0) pa_nil)) pe_int) pa_nil)) (by rfl))
    (pss_cons (ps_while PassesOwn.never (pt_cmpR op_gt (pe_op op_sub (pv 3) (pv 2)) pe_int (nomark _)) (pss_cons (ps_set (i := 4) nd rfl (Or.inl rfl) (pe_op op_fdiv (pe_op op_add (pv 2) (pv 3)) pe_int))
    (pss_one (ps_if (pt_cmpR op_le (pe_ix ix_list (pv 0) (pv 4) (fun _ _ => rfl)) (pv 1) (nomark _)) (pss_one (ps_set (i := 2) nd rfl (Or.inl rfl) (pv 4))) (pss_one (ps_set (i := 3) nd rfl (Or.inl rfl) (pv 4)))))))
    (pss_one (ps_ret (pv 2))))), ?_⟩
    refine q_par ev_c (ev_op (ev_is (ev_lenQ (ev_var rfl) (sq_of hp)) (show _ = V.int (ss.length : Int) by rw [List.length_map])) ev_c rv_I0) fun H1 e1 => ?_
    let W : Nat → L2.St → Hp → Prop := fun m σ' H' => ∃ (lo hi : Nat) (a : Option V), σ' = [some (.ref p), some (.int d), some (.int (lo : Int)), some (.int (hi : Int)), a] ∧ m = hi - lo ∧ lo < hi ∧ hi < ss.length ∧ ss.getD lo 0 ≤ d ∧ d < ss.getD hi 0 ∧ Ex H H'
    have ehi : (((ss.length - 1 : Nat) : Int)) = (ss.length : Int) - 1 := by omega
    refine q_while W (ss.length - 1) ⟨0, ss.length - 1, none, by rw [ehi]; rfl, rfl, by omega, by omega, hlo, hhi, e1⟩ (fun m σ' H' w => ?_)
    obtain ⟨lo, hi, a, rfl, hm, q1, q2, q3, q4, e⟩ := w
    subst m
    refine ⟨decide (1 < hi - lo), et_is (et_test (ev_op (ev_op (ev_var rfl) (ev_var rfl) rv_I0) ev_c rv_I0)) (by rw [decide_eq_decide]; omega), fun hb H2 e2 => ?_, fun hb H2 e2 => ?_⟩
    · have hb0 : 1 < hi - lo := of_decide_eq_true hb
      have hmid : ((lo : Int) + (hi : Int)) / 2 = ((lo + hi) / 2 : Nat) := by omega
      refine ⟨fun σ2 H3 => ∃ m', m' < hi - lo ∧ W m' σ2 H3, fun _ _ h => h, ?_⟩
      refine q_asg (v := .int (((lo + hi) / 2 : Nat) : Int)) (ev_is (ev_op (ev_op (ev_var rfl) (ev_var rfl) rv_I0) ev_c (rv_I ⟨by decide, by decide⟩)) (by rw [hmid])) fun H3 e3 => ?_
      have e' := e.trans (e2.trans e3)
      refine s_if (et_test (ev_op (ev_op (ev_var rfl) (ev_var rfl) (rv_ixL (sq_of (e' _ _ hp)) (ints_at (i := (lo + hi) / 2) (by omega)))) (ev_var rfl) rv_I0)) (fun h H4 e4 => ?_) (fun h H4 e4 => ?_)
      · exact s_asg (ev_var rfl) fun H5 e5 => ⟨hi - (lo + hi) / 2, by omega, (lo + hi) / 2, hi, _, rfl, rfl, by omega, q2, of_decide_eq_true h, q4, e'.trans (e4.trans e5)⟩
      · refine s_asg (ev_var rfl) fun H5 e5 => ⟨(lo + hi) / 2 - lo, by omega, lo, (lo + hi) / 2, _, rfl, rfl, by omega, by omega, q3, ?_, e'.trans (e4.trans e5)⟩
        have := of_decide_eq_false h
        omega
    · have hb0 : hi = lo + 1 := by
        have := of_decide_eq_false hb
        omega
      subst hb0
      exact s_ret (ev_var rfl) fun H3 e3 => k _ _ (e.trans (e2.trans e3)) ⟨lo, rfl, q2, q3, q4⟩
end
end K9
end
section
set_option Elab.async false
set_option linter.all false
set_option maxRecDepth 100000
set_option maxHeartbeats 4000000
namespace K9
open PySem PySem.Spec PyProof.Rows L2 Evl
/-! ### more rules -/
section
variable {X : Cx}
def rNotInDT (K : PySem.W.Frag) : R2 := fun x y H Q => ∃ d ds, Dp K H x d ∧ Dp K H y (.tuple ds) ∧ SeqAt.shaped d = true ∧ SeqAt.shaped (.tuple ds) = true ∧ Q (.bl (!ds.any fun z => PyData.eqv z d)) H
theorem op_notInDT (hu : X.A.units + 65 < cLine) : OpR X (compareOp .NotIn) (rNotInDT X.K) := by
  intro pins s σ H x y v u Q I rx ry h
  obtain ⟨d, ds, h1, h2, h3, h4, q⟩ := h
  obtain ⟨_, r1⟩ := Dp.reads I d x v h1 rx
  obtain ⟨_, r2⟩ := Dp.reads I (.tuple ds) y u h2 ry
  exact SeqAt.notIn_tuple_reads r2 r1 (by simpa [PyData.canLay0] using SeqAt.canLay_of_shaped h4) (SeqAt.canLay_of_shaped h3) (by
    have z := room_in_shaped (xs := ds) h3 hu
    exact z) ⟨.bl _, H, I, rfl, q⟩
/-- o.f as a target -/
def gFld (K : PySem.W.Frag) (to : TE) (f : Str) : TG := fun v σ H Q => to σ H fun x H1 => ∃ a C dx fs, x = .ref a ∧ H1 a = some (.ins C dx fs) ∧ Cls K C ∧ NoAttr K C f ∧ fs.length < 1000 ∧ Q σ (upd H1 a (.ins C dx (putF f v fs)))
theorem pg_fld {o : Expr} {to : TE} {f : Str} {pos : Pos} (ho : PE X o to) : PG X (.Attribute o f pos) (gFld X.K to f) := by
  refine ⟨fun pins s σ H v u Q I r h => ?_⟩
  refine PySem.W.kas_attr (thn (ho.run pins s σ H _ I h) fun ov s1 ⟨x, H1, I1, r1, a, C, dx, fs, ex, ea, c, n, l, q⟩ => ?_)
  subst ex
  obtain rfl : ov = Value.ref a := r1
  exact setattr_ok I1 ea c n l r fun s3 I3 => ⟨σ, _, I3, q⟩
end
/-- a property with its getter's promise -/
structure PropP (P : Program) (w : World) (K : PySem.W.Frag) (mg : Str → Option Value) (base : Heap) (k : Nat) (C : Addr) (f : Str) (sp : Sp) : Prop where
  ex : ∃ (p g : Addr) (fd : FuncData), PropOf K C f p g ∧ FnOk P w K mg base CX0 k g fd ["self"] sp ∧ Binds K fd ["self"] []
section
variable {X : Cx} {k j : Nat} {C : Addr} {f : Str} {sp : Sp} {e : Expr} {ta : TE} {pos : Pos}
theorem pe_pr (c : Cls X.K C) (r : PropP X.prog X.w X.K X.mg X.base k C f sp) (hr : Room j X.A) (hk : k + 1 ≤ j) (he : PE X e ta) (hab : attributeBase e f X.env (eval e X.env) = eval e X.env) : PE X (.Attribute e f pos) (tProp C sp [] E0 ta) := by
  obtain ⟨p, g, fd, h1, h2, h3⟩ := r.ex
  exact pe_prop he c h1 h2 (hr.mono hk) h3 .nil pass0 hab
end
section
variable {K : PySem.W.Frag} {σ : L2.St} {H : Hp} {ta tb tc : TE} {x v : V} {C a dx : Addr} {fs : List (Str × V)} {f : Str} {pre : List V → Hp → (V → Hp → Prop) → Prop} {E : XK} {t : TA} {vs : List V}
theorem ev_fld (ha : Ev ta σ H (.ref a)) (h : H a = some (.ins C dx fs)) (c : Cls K C) (n : NoAttr K C f) (l : fs.lookup f = some v) : Ev (tFld K ta f) σ H v := fun H1 e Q q =>
  ha H1 e _ fun H2 e2 => ⟨a, C, dx, fs, v, rfl, e2 _ _ (e _ _ h), c, n, l, q H2 e2⟩
theorem ep_meth {m : Str} {R : V → Hp → Prop} (ha : Ev ta σ H (.ref a)) (h : H a = some (.ins C dx fs)) (l : fs.lookup m = none) (ht : EvA t σ H vs) (hp : ∀ H1, Ex H H1 → ∃ R1, pre (.ref a :: vs) H1 R1 ∧ ∀ v H2, Ex H1 H2 → R1 v H2 → R v H2) : EvP (tMeth C m (spR pre) [] E ta t) σ H R := fun H1 e Q q =>
  ha H1 e _ fun H2 e2 => ⟨a, dx, fs, rfl, e2 _ _ (e _ _ h), l, ht H2 (e.trans e2) _ fun H3 e3 => by
    obtain ⟨R1, h1, h2⟩ := hp H3 ((e.trans e2).trans e3)
    rw [List.append_nil]
    exact ⟨R1, h1, fun v H4 e4 r => q v H4 ((e2.trans e3).trans e4) (h2 v H4 e4 r)⟩⟩
theorem ev_meth {m : Str} {z : V} (ha : Ev ta σ H (.ref a)) (h : H a = some (.ins C dx fs)) (l : fs.lookup m = none) (ht : EvA t σ H vs) (hp : ∀ H1, Ex H H1 → ∃ R1, pre (.ref a :: vs) H1 R1 ∧ ∀ v H2, Ex H1 H2 → R1 v H2 → v = z) : Ev (tMeth C m (spR pre) [] E ta t) σ H z := fun H1 e Q q =>
  ep_meth (R := fun v _ => v = z) ha h l ht hp H1 e Q fun v H2 e2 r => by
    rw [r]
    exact q H2 e2
theorem ev_prop {z : V} (ha : Ev ta σ H (.ref a)) (h : H a = some (.ins C dx fs)) (hp : ∀ H1, Ex H H1 → ∃ R1, pre [.ref a] H1 R1 ∧ ∀ v H2, Ex H1 H2 → R1 v H2 → v = z) : Ev (tProp C (spR pre) [] E ta) σ H z := fun H1 e Q q =>
  ha H1 e _ fun H2 e2 => by
    obtain ⟨R1, h1, h2⟩ := hp H2 (e.trans e2)
    exact ⟨a, dx, fs, rfl, e2 _ _ (e _ _ h), R1, h1, fun v H3 e3 r => by
      rw [h2 v H3 e3 r]
      exact q H3 (e2.trans e3)⟩
theorem ep_prop {R : V → Hp → Prop} (ha : Ev ta σ H (.ref a)) (h : H a = some (.ins C dx fs)) (hp : ∀ H1, Ex H H1 → ∃ R1, pre [.ref a] H1 R1 ∧ ∀ v H2, Ex H1 H2 → R1 v H2 → R v H2) : EvP (tProp C (spR pre) [] E ta) σ H R := fun H1 e Q q =>
  ha H1 e _ fun H2 e2 => by
    obtain ⟨R1, h1, h2⟩ := hp H2 (e.trans e2)
    exact ⟨a, dx, fs, rfl, e2 _ _ (e _ _ h), R1, h1, fun v H3 e3 r => q v H3 (e2.trans e3) (h2 v H3 e3 r)⟩
/-- counting far -/
theorem q_forR1b {D : Ends} {tu tz : TS} {ta : TA} {j : Nat} {n : Int} (h : EvA ta σ H [.int n]) (hn : 0 ≤ n ∧ n ≤ 16777216) (Pv : Nat → L2.St → Hp → Prop) (h0 : ∀ H1, Ex H H1 → Pv 0 σ H1)
    (hs : ∀ (i : Nat) σ' H', (i : Int) < n → Pv i σ' H' → tu { D with nx := Pv (i + 1), ct := Pv (i + 1), bk := tz D } (σ'.set j (some (.int (i : Int)))) H') (hd : ∀ σ' H', Pv n.toNat σ' H' → tz D σ' H') : tSeq (tFor (iRng1 ta) (gName j) tu) tz D σ H :=
  h H (Ex.refl H) _ fun H1 e => ⟨n, rfl, by omega, by omega, for_range (lo := 0) (n := n.toNat) Pv (h0 H1 e) (fun i σ' H' hi p => by
    have z : (0 : Int) + (i : Int) = (i : Int) := Int.zero_add _
    show tu { D with nx := Pv (i + 1), ct := Pv (i + 1), bk := tz D } (σ'.set j (some (.int ((0 : Int) + (i : Int))))) H'
    rw [z]
    exact hs i σ' H' (by omega) p) hd⟩
end
/-! ### what a calendar is -/
structure CD where
  ys : List (List Int)
  m : Nat
  w : Int
  f : Int
  rs : List Int
  hs : List (Int × Int)
def CD.lens (d : CD) : List Int := d.ys.flatMap fun r => r.map id
def CD.total (d : CD) : Int := d.lens.sum
def CD.turn (d : CD) : Int := d.total / (Int.gcd d.total d.w : Nat) * d.w
structure CD.Ok (d : CD) : Prop where
  ys : YearsOk d.ys d.m
  w : 1 ≤ d.w ∧ d.w ≤ 10
  f : 0 ≤ d.f ∧ d.f < d.w
  rs : (∀ i ∈ d.rs, 0 ≤ i ∧ i < d.w) ∧ d.rs.Nodup ∧ d.rs.length ≤ 20
  hs : (∀ q ∈ d.hs, (1 ≤ q.1 ∧ q.1 ≤ (d.m : Int)) ∧ 1 ≤ q.2 ∧ q.2 ≤ 40) ∧ d.hs.Nodup ∧ d.hs.length < 64
/-- the month in which the day r of all stands, and the day in it from 0 on -/
def place : List Int → Int → Nat × Int
  | [], r => (0, r)
  | l :: ls, r => if r < l then (0, r) else ((place ls (r - l)).1 + 1, (place ls (r - l)).2)
def CD.mon (d : CD) (date : Int) : Int := ((place d.lens (date % d.total)).1 % d.m : Nat) + 1
def CD.day (d : CD) (date : Int) : Int := (place d.lens (date % d.total)).2 + 1
def CD.work (d : CD) (date : Int) : Bool := !decide ((date + d.f) % d.w ∈ d.rs) && !decide ((d.mon date, d.day date) ∈ d.hs)
theorem starts_len (ls : List Int) : (startsP ls).length = ls.length + 1 := by simp [startsP]
theorem starts_at {ls : List Int} {i : Nat} (h : i ≤ ls.length) : (startsP ls).getD i 0 = (ls.take i).sum := by
  unfold startsP
  rw [getD_map (d := 0) (by simp; omega)]
  rw [List.getD_eq_getElem?_getD, List.getElem?_range (by omega)]
  rfl
theorem starts_last (ls : List Int) : atI ((startsP ls).map V.int) (-1) = some (.int ls.sum) := atI_end (by
  unfold startsP
  rw [List.range_succ]
  simp)
theorem place_at : ∀ {ls : List Int} {r : Int} {lo : Nat}, (∀ l ∈ ls, 0 < l) → 0 ≤ r → lo < ls.length → (ls.take lo).sum ≤ r → r < (ls.take (lo + 1)).sum → place ls r = (lo, r - (ls.take lo).sum)
  | [], r, lo, _, _, h, _, _ => by simp at h
  | l :: ls, r, 0, hp, h0, h, h1, h2 => by
    have h3 : r < l := by simpa using h2
    unfold place
    rw [if_pos h3]
    simp
  | l :: ls, r, lo + 1, hp, h0, h, h1, h2 => by
    have e1 : ((l :: ls).take (lo + 1)).sum = l + (ls.take lo).sum := by simp
    have e2 : ((l :: ls).take (lo + 1 + 1)).sum = l + (ls.take (lo + 1)).sum := by simp
    rw [e1] at h1
    rw [e2] at h2
    have h4 : 0 ≤ (ls.take lo).sum := sum_nonneg fun x hx => Int.le_of_lt (hp x (List.mem_cons_of_mem _ (List.mem_of_mem_take hx)))
    have h3 : ¬ r < l := by omega
    have ih := place_at (ls := ls) (r := r - l) (lo := lo) (fun x hx => hp x (List.mem_cons_of_mem _ hx)) (by omega) (by simpa using h) (by omega) (by omega)
    unfold place
    rw [if_neg h3, ih, e1]
    simp
    omega
where sum_nonneg : ∀ {l : List Int}, (∀ x ∈ l, 0 ≤ x) → 0 ≤ l.sum
  | [], _ => by simp
  | x :: l, h => by
    have h1 := h x List.mem_cons_self
    have h2 := sum_nonneg (l := l) fun y hy => h y (List.mem_cons_of_mem _ hy)
    simp only [List.sum_cons]
    omega
section
variable {d : CD}
theorem CD.Ok.pos (k : d.Ok) : ∀ l ∈ d.lens, 1 ≤ l ∧ l ≤ 40 := fun l hl => by
  obtain ⟨r, hr, hl⟩ := List.mem_flatMap.mp hl
  obtain ⟨x, hx, rfl⟩ := List.mem_map.mp hl
  exact k.ys.days r hr _ hx
theorem flat_size {m : Nat} : ∀ {ys : List (List Int)}, (∀ y ∈ ys, y.length = m) → (ys.flatMap fun r => r.map id).length = ys.length * m
  | [], _ => by simp
  | y :: ys, h => by
    have ih := flat_size (ys := ys) fun z hz => h z (List.mem_cons_of_mem _ hz)
    have h1 := h y List.mem_cons_self
    rw [List.flatMap_cons, List.length_append, ih, List.length_map, h1, List.length_cons, Nat.succ_mul]
    omega
theorem CD.Ok.n (k : d.Ok) : d.lens.length = d.ys.length * d.m := flat_size k.ys.len
theorem CD.Ok.n2 (k : d.Ok) : 1 ≤ d.lens.length ∧ d.lens.length ≤ 5600 := by
  rw [k.n]
  have h1 := k.ys.ne
  have h2 := k.ys.mo
  constructor
  · exact Nat.mul_pos (by omega) (by omega)
  · exact Nat.le_trans (Nat.mul_le_mul h1.2 h2.2) (by decide)
theorem sum_bounds {a b : Int} : ∀ {l : List Int}, (∀ x ∈ l, a ≤ x ∧ x ≤ b) → (l.length : Int) * a ≤ l.sum ∧ l.sum ≤ (l.length : Int) * b
  | [], _ => by simp
  | x :: l, h => by
    have h1 := h x List.mem_cons_self
    have h2 := sum_bounds (l := l) fun y hy => h y (List.mem_cons_of_mem _ hy)
    simp only [List.sum_cons, List.length_cons]
    rw [Int.natCast_succ, Int.add_mul, Int.add_mul]
    omega
theorem CD.Ok.total (k : d.Ok) : 1 ≤ d.total ∧ d.total ≤ 224000 := by
  have h1 := sum_bounds k.pos
  have h2 := k.n2
  unfold CD.total
  omega
theorem CD.Ok.pl (k : d.Ok) {date : Int} {lo : Nat} (h : lo + 1 < (startsP d.lens).length) (h1 : (startsP d.lens).getD lo 0 ≤ date % d.total) (h2 : date % d.total < (startsP d.lens).getD (lo + 1) 0) :
    place d.lens (date % d.total) = (lo, date % d.total - (startsP d.lens).getD lo 0) ∧ lo < d.lens.length := by
  rw [starts_len] at h
  have hlo : lo < d.lens.length := by omega
  rw [starts_at (by omega)] at h1 h2
  rw [starts_at (by omega)]
  have t := k.total
  exact ⟨place_at (fun l hl => by have := k.pos l hl; omega) (Int.emod_nonneg _ (by omega)) hlo h1 h2, hlo⟩
end
end K9
end
section
set_option Elab.async false
set_option linter.all false
set_option maxRecDepth 100000
set_option maxHeartbeats 4000000
namespace K9
open PySem PySem.Spec PyProof.Rows L2 Evl
theorem r65 {k : Nat} {A : Around} (r : Room k A) : A.units + 65 < cLine := by have := r.un; omega
section
variable {K : PySem.W.Frag} {σ : L2.St} {H : Hp} {ta tb : TE} {x : V} {R : V → Hp → Prop} {R' : V → Prop} {r : R2}
theorem ep_opR (ha : Ev ta σ H x) (hb : EvP tb σ H R) (hr : ∀ y H1, Ex H H1 → R y H1 → ∃ z, RV r x y H1 z ∧ R' z) : EvP (tOp r ta tb) σ H (fun v _ => R' v) := fun H1 e Q q =>
  ha H1 e _ fun H2 e2 => hb H2 (e.trans e2) _ fun y H3 e3 hy => by
    obtain ⟨z, h1, h2⟩ := hr y H3 ((e.trans e2).trans e3) hy
    exact h1 H3 (Ex.refl _) Q fun H4 e4 => q z H4 ((e2.trans e3).trans e4) h2
end
/-- what the class Calendar is -/
structure CalK (K : PySem.W.Frag) (C : Addr) : Prop where
  cls : Cls K C
  all_years : NoAttr K C "all_years"
  days_of_week : NoAttr K C "days_of_week"
  begins : NoAttr K C "begins"
  rests : NoAttr K C "rests"
  free_days : NoAttr K C "free_days"
  lengths : NoAttr K C "lengths"
  starts : NoAttr K C "starts"
  turn : NoAttr K C "turn"
  works : NoAttr K C "works"
/-- the fields -/
structure Flds (fs : List (Str × V)) (d : CD) (ty tr th tl ts : Addr) : Prop where
  all_years : fs.lookup ("all_years" : Str) = some (.ref ty)
  days_of_week : fs.lookup ("days_of_week" : Str) = some (.int d.w)
  begins : fs.lookup ("begins" : Str) = some (.int d.f)
  rests : fs.lookup ("rests" : Str) = some (.ref tr)
  free_days : fs.lookup ("free_days" : Str) = some (.ref th)
  lengths : fs.lookup ("lengths" : Str) = some (.ref tl)
  starts : fs.lookup ("starts" : Str) = some (.ref ts)
  turn : fs.lookup ("turn" : Str) = some (.int d.turn)
  no : ∀ m ∈ (["weekday", "is_work", "parts", "month_number", "month_start", "first_works", "facts"] : List Str), fs.lookup m = none
/-- what the fields hold -/
structure Hold (H : Hp) (d : CD) (ty tr th tl ts : Addr) (xs us : List V) : Prop where
  ty : H ty = some (.tup xs)
  xs : TusAt H xs d.ys
  tr : H tr = some (.tup (d.rs.map V.int))
  th : H th = some (.tup us)
  us : PrsAt H us d.hs
  tl : H tl = some (.lst (d.lens.map V.int))
  ts : H ts = some (.lst ((startsP d.lens).map V.int))
theorem Hold.fwd {H H' : Hp} {d : CD} {ty tr th tl ts : Addr} {xs us : List V} (h : Hold H d ty tr th tl ts xs us) (e : Ex H H') : Hold H' d ty tr th tl ts xs us :=
  ⟨e _ _ h.ty, h.xs.fwd e, e _ _ h.tr, e _ _ h.th, h.us.fwd e, e _ _ h.tl, e _ _ h.ts⟩
/-- a calendar at a -/
def CalAt (C : Addr) (H : Hp) (a : Addr) (d : CD) : Prop := ∃ (dx : Addr) (fs : List (Str × V)) (ty tr th tl ts : Addr) (xs us : List V), H a = some (.ins C dx fs) ∧ Flds fs d ty tr th tl ts ∧ Hold H d ty tr th tl ts xs us
theorem CalAt.fwd {C a : Addr} {H H' : Hp} {d : CD} (h : CalAt C H a d) (e : Ex H H') : CalAt C H' a d := by
  obtain ⟨dx, fs, ty, tr, th, tl, ts, xs, us, h1, h2, h3⟩ := h
  exact ⟨dx, fs, ty, tr, th, tl, ts, xs, us, e _ _ h1, h2, h3.fwd e⟩
/-- a promise about a calendar -/
def spC (C : Addr) (pre : CD → Addr → List V → Hp → (V → Hp → Prop) → Prop) : Sp := spR fun vs H R => ∃ (a : Addr) (d : CD) (ws : List V), vs = .ref a :: ws ∧ d.Ok ∧ CalAt C H a d ∧ pre d a ws H R
def spWeekday (C : Addr) : Sp := spC C fun d a ws H R => ∃ date : Int, ws = [.int date] ∧ R = fun v _ => v = .int ((date + d.f) % d.w)
def spPeriod (C : Addr) : Sp := spC C fun d a ws H R => ws = [] ∧ R = fun v _ => v = .int d.turn
def spMonths (C : Addr) : Sp := spC C fun d a ws H R => ws = [] ∧ R = fun v _ => v = .int d.m
def spStart (C : Addr) : Sp := spC C fun d a ws H R => ∃ n : Int, ws = [.int n] ∧ 0 ≤ n ∧ n < 2 ^ 60 ∧ R = fun v _ => v = .int (n / (d.lens.length : Int) * d.total + (startsP d.lens).getD (n % (d.lens.length : Int)).toNat 0)
def AtM (d : CD) (date : Int) (lo : Nat) : Prop := lo + 1 < (startsP d.lens).length ∧ (startsP d.lens).getD lo 0 ≤ date % d.total ∧ date % d.total < (startsP d.lens).getD (lo + 1) 0
def spNumber (C : Addr) : Sp := spC C fun d a ws H R => ∃ n : Int, ws = [.int n] ∧ 0 ≤ n ∧ n < 2 ^ 40 ∧ R = fun v _ => ∃ lo : Nat, AtM d n lo ∧ v = .int (n / d.total * (d.lens.length : Int) + lo)
def spParts (C : Addr) : Sp := spC C fun d a ws H R => ∃ n : Int, ws = [.int n] ∧ 0 ≤ n ∧ n < 2 ^ 40 ∧ R = fun v H2 => ∃ (t : Addr) (y : V), v = .ref t ∧ H t = none ∧ H2 t = some (.tup [y, .int (d.mon n), .int (d.day n)])
def spIsWork (C : Addr) : Sp := spC C fun d a ws H R => ∃ n : Int, ws = [.int n] ∧ 0 ≤ n ∧ n < 2 ^ 40 ∧ R = fun v _ => v = .bl (d.work n)
def spWorks (C : Addr) : Sp := spC C fun d a ws H R => ws = [] ∧ d.turn ≤ 200000 ∧ R = fun v H2 => ∃ (t : Addr) (l : List V), v = .ref t ∧ H t = none ∧ H2 t = some (.lst l) ∧ l.length ≤ 90000 ∧ (∀ x ∈ l, ∃ i : Int, x = .int i) ∧ (l = [] ↔ ∀ i : Nat, (i : Int) < d.turn → d.work i = false)
def spFacts (C : Addr) : Sp := spC C fun d a ws H R => ws = [] ∧ R = fun v H2 => ∃ t, v = .ref t ∧ H t = none ∧ FactsAt H2 t d.ys d.w d.f d.rs d.hs
def spText (C : Addr) : Sp := spC C fun d a ws H R => ws = [] ∧ R = fun v _ => v = .str (textP d.ys d.w d.f d.rs d.hs)
abbrev cst (j : Nat) : Stmt := inClass (top 34) j
theorem scWeekday : FnScope ["self", "date"] ["self", "date"] (defScope (cst 25)) := ⟨rfl, rfl, rfl, by decide +kernel, rfl, by decide +kernel, by decide +kernel⟩
theorem scPeriod : FnScope ["self"] ["self"] (defScope (cst 17)) := ⟨rfl, rfl, rfl, by decide +kernel, rfl, by decide +kernel, by decide +kernel⟩
theorem scMonths : FnScope ["self"] ["self"] (defScope (cst 15)) := ⟨rfl, rfl, rfl, by decide +kernel, rfl, by decide +kernel, by decide +kernel⟩
theorem scStart : FnScope ["self", "number", "many"] ["self", "number"] (defScope (cst 19)) := ⟨rfl, rfl, rfl, by decide +kernel, rfl, by decide +kernel, by decide +kernel⟩
theorem scNumber : FnScope ["self", "date", "days"] ["self", "date"] (defScope (cst 21)) := ⟨rfl, rfl, rfl, by decide +kernel, rfl, by decide +kernel, by decide +kernel⟩
theorem scParts : FnScope ["self", "date", "number"] ["self", "date"] (defScope (cst 24)) := ⟨rfl, rfl, rfl, by decide +kernel, rfl, by decide +kernel, by decide +kernel⟩
theorem scIsWork : FnScope ["self", "date"] ["self", "date"] (defScope (cst 26)) := ⟨rfl, rfl, rfl, by decide +kernel, rfl, by decide +kernel, by decide +kernel⟩
theorem scWorks : FnScope ["self", "period", "found", "day"] ["self"] (defScope (cst 7)) := ⟨rfl, rfl, rfl, by decide +kernel, rfl, by decide +kernel, by decide +kernel⟩
theorem scFacts : FnScope ["self"] ["self"] (defScope (cst 5)) := ⟨rfl, rfl, rfl, by decide +kernel, rfl, by decide +kernel, by decide +kernel⟩
theorem scText : FnScope ["self"] ["self"] (defScope (cst 18)) := ⟨rfl, rfl, rfl, by decide +kernel, rfl, by decide +kernel, by decide +kernel⟩
section
variable {P : Program} {w : World} {K : PySem.W.Frag} {mg : Str → Option Value} {base : Heap} {f C : Addr} {fd : FuncData}
theorem okWeekday (F : FnQ K "weekday" "Calendar.weekday" (cst 25) f fd) (CC : CalK K C) : FnOk P w K mg base L2.CX0 1 f fd ["self", "date"] (spWeekday C) := by
  refine F.ok scWeekday (fun vs H Q E h => ?_) (fun cdv A outer s H vs Q E hr h => ?_)
  · obtain ⟨R, ⟨a, d, ws, rfl, _, _, date, rfl, _⟩, _⟩ := h
    rfl
  · obtain ⟨R, ⟨a, d, ws, rfl, ok, ⟨dx, fs, ty, tr, th, tl, ts, xs, us, ha, Fl, Ho⟩, date, rfl, rfl⟩, k⟩ := h
    have nd := scWeekday.nd
    refine ⟨_, PSs.nox (pss_one (ps_ret (pe_op op_mod (pe_op op_add (pv 1) (pe_fld (pv 0) rfl)) (pe_fld (pv 0) rfl)))), ?_⟩
    have := ok.w
    exact s_ret (ev_op (ev_op (ev_var rfl) (ev_fld (ev_var rfl) ha CC.cls CC.begins Fl.begins) rv_I0) (ev_fld (ev_var rfl) ha CC.cls CC.days_of_week Fl.days_of_week) (rv_I (by omega))) fun H1 e1 => k _ _ e1 rfl
theorem okPeriod (F : FnQ K "period" "Calendar.period" (cst 17) f fd) (CC : CalK K C) : FnOk P w K mg base L2.CX0 1 f fd ["self"] (spPeriod C) := by
  refine F.ok scPeriod (fun vs H Q E h => ?_) (fun cdv A outer s H vs Q E hr h => ?_)
  · obtain ⟨R, ⟨a, d, ws, rfl, _, _, rfl, _⟩, _⟩ := h
    rfl
  · obtain ⟨R, ⟨a, d, ws, rfl, ok, ⟨dx, fs, ty, tr, th, tl, ts, xs, us, ha, Fl, Ho⟩, rfl, rfl⟩, k⟩ := h
    have nd := scPeriod.nd
    refine ⟨_, PSs.nox (pss_one (ps_ret (pe_fld (pv 0) rfl))), ?_⟩
    exact s_ret (ev_fld (ev_var rfl) ha CC.cls CC.turn Fl.turn) fun H1 e1 => k _ _ e1 rfl
theorem okMonths (F : FnQ K "months" "Calendar.months" (cst 15) f fd) (CC : CalK K C) (T : Txt mg) : FnOk P w K mg base L2.CX0 1 f fd ["self"] (spMonths C) := by
  refine F.ok scMonths (fun vs H Q E h => ?_) (fun cdv A outer s H vs Q E hr h => ?_)
  · obtain ⟨R, ⟨a, d, ws, rfl, _, _, rfl, _⟩, _⟩ := h
    rfl
  · obtain ⟨R, ⟨a, d, ws, rfl, ok, ⟨dx, fs, ty, tr, th, tl, ts, xs, us, ha, Fl, Ho⟩, rfl, rfl⟩, k⟩ := h
    have nd := scMonths.nd
    refine ⟨_, PSs.nox (pss_one (ps_ret (pe_callB call_len_seq (by rfl) T.len (by decide +kernel) (pa_cons (pe_ix ix_tup (pe_fld (pv 0) rfl) pe_int (fun _ _ => rfl)) pa_nil)))), ?_⟩
    obtain ⟨y0, yr, hy⟩ : ∃ y0 yr, d.ys = y0 :: yr := by
      have := ok.ys.ne
      cases e : d.ys with
      | nil => rw [e] at this; exact absurd this.1 (by decide)
      | cons a r => exact ⟨a, r, rfl⟩
    obtain ⟨x0, hx0, t0, rfl, ht0⟩ := paired_get2 (i := 0) (y := y0) Ho.xs (by rw [hy]; rfl)
    have hy0 : y0.length = d.m := ok.ys.len y0 (by rw [hy]; exact List.mem_cons_self)
    exact s_ret (ev_is (ev_lenE (ev_op (ev_fld (ev_var rfl) ha CC.cls CC.all_years Fl.all_years) ev_c (rv_ixT (st_of Ho.ty) (atI_nat (j := 0) hx0))) (.inr (st_of ht0))) (show _ = V.int (d.m : Int) by rw [List.length_map, hy0])) fun H1 e1 => k _ _ e1 rfl
theorem okStart (F : FnQ K "month_start" "Calendar.month_start" (cst 19) f fd) (CC : CalK K C) (T : Txt mg) : FnOk P w K mg base L2.CX0 1 f fd ["self", "number"] (spStart C) := by
  refine F.ok scStart (fun vs H Q E h => ?_) (fun cdv A outer s H vs Q E hr h => ?_)
  · obtain ⟨R, ⟨a, d, ws, rfl, _, _, n, rfl, _⟩, _⟩ := h
    rfl
  · obtain ⟨R, ⟨a, d, ws, rfl, ok, ⟨dx, fs, ty, tr, th, tl, ts, xs, us, ha, Fl, Ho⟩, n, rfl, n0, n1, rfl⟩, k⟩ := h
    have nd := scStart.nd
    refine ⟨_, PSs.nox (pss_cons (ps_set (i := 2) nd rfl (Or.inl rfl) (pe_callB call_len_seq (by rfl) T.len (by decide +kernel) (pa_cons (pe_fld (pv 0) rfl) pa_nil)))
    (pss_one (ps_ret (pe_op op_add (pe_op op_mul (pe_op op_fdiv (pv 1) (pv 2)) (pe_ix ix_list (pe_fld (pv 0) rfl) (pe_un un_neg pe_int) (fun _ _ => rfl))) (pe_ix ix_list (pe_fld (pv 0) rfl) (pe_op op_mod (pv 1) (pv 2)) (fun _ _ => rfl)))))), ?_⟩
    have hn := ok.n2
    have ht := ok.total
    refine q_asg (ev_is (ev_lenE (ev_fld (ev_var rfl) ha CC.cls CC.lengths Fl.lengths) (.inl (sq_of Ho.tl))) (show _ = V.int (d.lens.length : Int) by rw [List.length_map])) fun H1 e1 => ?_
    have m0 := Int.emod_nonneg n (show (d.lens.length : Int) ≠ 0 by omega)
    have m1 := Int.emod_lt_of_pos n (show (0 : Int) < d.lens.length by omega)
    have hat : atI ((startsP d.lens).map V.int) (n % (d.lens.length : Int)) = some (.int ((startsP d.lens).getD (n % (d.lens.length : Int)).toNat 0)) := by
      have z := ints_at (l := startsP d.lens) (i := (n % (d.lens.length : Int)).toNat) (by rw [starts_len]; omega)
      rw [Int.toNat_of_nonneg m0] at z
      exact z
    have f1 : ∀ {x : Str} {v : V}, NoAttr K C x → fs.lookup x = some v → Ev (tFld K (tVar 0) x) [some (.ref a), some (.int n), some (.int (d.lens.length : Int))] H1 v := fun nn l => ev_fld (ev_var rfl) (e1 _ _ ha) CC.cls nn l
    refine s_ret (ev_op (ev_op (ev_op (ev_var rfl) (ev_var rfl) (rv_I ⟨by omega, by omega⟩)) (ev_op (f1 CC.starts Fl.starts) (ev_un ev_c ru_neg) (rv_ixL (sq_of (e1 _ _ Ho.ts)) (starts_last _))) (rv_I ?_)) (ev_op (f1 CC.starts Fl.starts) (ev_op (ev_var rfl) (ev_var rfl) (rv_I (by omega))) (rv_ixL (sq_of (e1 _ _ Ho.ts)) hat)) rv_I0) fun H2 e2 => k _ _ (e1.trans e2) rfl
    show CMul _ _
    unfold CMul
    have : d.lens.sum = d.total := rfl
    omega
theorem okNumber (F : FnQ K "month_number" "Calendar.month_number" (cst 21) f fd) (CC : CalK K C) (T : Txt mg) (C_month_at : CalN P w K mg base 1 "month_at" sp33) : FnOk P w K mg base L2.CX0 2 f fd ["self", "date"] (spNumber C) := by
  refine F.ok scNumber (fun vs H Q E h => ?_) (fun cdv A outer s H vs Q E hr h => ?_)
  · obtain ⟨R, ⟨a, d, ws, rfl, _, _, n, rfl, _⟩, _⟩ := h
    rfl
  · obtain ⟨R, ⟨a, d, ws, rfl, ok, ⟨dx, fs, ty, tr, th, tl, ts, xs, us, ha, Fl, Ho⟩, n, rfl, n0, n1, rfl⟩, k⟩ := h
    have nd := scNumber.nd
    refine ⟨_, PSs.nox (pss_cons (ps_set (i := 2) nd rfl (Or.inl rfl) (pe_ix ix_list (pe_fld (pv 0) rfl) (pe_un un_neg pe_int) (fun _ _ => rfl)))
    (pss_one (ps_ret (pe_op op_add (pe_op op_mul (pe_op op_fdiv (pv 1) (pv 2)) (pe_callB call_len_seq (by rfl) T.len (by decide +kernel) (pa_cons (pe_fld (pv 0) rfl) pa_nil))) (C8.pe_c (C_month_at) hr (by decide) (by rfl) (pa_cons (pe_fld (pv 0) rfl) (pa_cons (pe_op op_mod (pv 1) (pv 2)) pa_nil))))))), ?_⟩
    have hn := ok.n2
    have ht := ok.total
    refine q_asg (v := .int d.total) (ev_op (ev_fld (ev_var rfl) ha CC.cls CC.starts Fl.starts) (ev_un ev_c ru_neg) (rv_ixL (sq_of Ho.ts) (starts_last _))) fun H1 e1 => ?_
    have f1 : ∀ {x : Str} {v : V}, NoAttr K C x → fs.lookup x = some v → Ev (tFld K (tVar 0) x) [some (.ref a), some (.int n), some (.int d.total)] H1 v := fun nn l => ev_fld (ev_var rfl) (e1 _ _ ha) CC.cls nn l
    have m0 := Int.emod_nonneg n (show d.total ≠ 0 by omega)
    have m1 := Int.emod_lt_of_pos n (show (0 : Int) < d.total by omega)
    have s0 : (startsP d.lens).getD 0 0 = 0 := by rw [starts_at (by omega)]; simp
    have s1 : (startsP d.lens).getD ((startsP d.lens).length - 1) 0 = d.total := by
      rw [starts_len, Nat.add_sub_cancel, starts_at (Nat.le_refl _), List.take_length]
      rfl
    refine s_retP (ep_opR (R' := fun v => ∃ lo : Nat, AtM d n lo ∧ v = .int (n / d.total * (d.lens.length : Int) + lo)) (ev_op (ev_op (ev_var rfl) (ev_var rfl) (rv_I ⟨by omega, by omega⟩)) (ev_is (ev_lenE (f1 CC.lengths Fl.lengths) (.inl (sq_of (e1 _ _ Ho.tl)))) (show _ = V.int (d.lens.length : Int) by rw [List.length_map])) (rv_I ?_))
      (ep_sp (ea_cons (f1 CC.starts Fl.starts) (ea_cons (ev_op (ev_var rfl) (ev_var rfl) (rv_I (by omega))) ea_nil)) fun H2 e2 => ⟨_, ⟨ts, startsP d.lens, n % d.total, rfl, e2 _ _ (e1 _ _ Ho.ts), by rw [starts_len]; omega, by rw [starts_len]; omega, by omega, by omega, rfl⟩, fun v H3 _ r => r⟩)
      (fun y H2 e2 r => ?_)) fun v H2 e2 r => k _ _ (e1.trans e2) r
    · show CMul _ _
      unfold CMul
      omega
    · obtain ⟨lo, rfl, r1, r2, r3⟩ := r
      exact ⟨_, rv_I0, lo, ⟨r1, r2, r3⟩, rfl⟩
theorem okParts (F : FnQ K "parts" "Calendar.parts" (cst 24) f fd) (CC : CalK K C) (T : Txt mg) (M_month_number : C8.Met P w K mg base 2 C "month_number" (spNumber C) []) (M_month_start : C8.Met P w K mg base 1 C "month_start" (spStart C) []) (P_months : PropP P w K mg base 1 C "months" (spMonths C)) :
    FnOk P w K mg base L2.CX0 3 f fd ["self", "date"] (spParts C) := by
  refine F.ok scParts (fun vs H Q E h => ?_) (fun cdv A outer s H vs Q E hr h => ?_)
  · obtain ⟨R, ⟨a, d, ws, rfl, _, _, n, rfl, _⟩, _⟩ := h
    rfl
  · obtain ⟨R, ⟨a, d, ws, rfl, ok, hc, n, rfl, n0, n1, rfl⟩, k⟩ := h
    have hc0 := hc
    obtain ⟨dx, fs, ty, tr, th, tl, ts, xs, us, ha, Fl, Ho⟩ := hc
    have nd := scParts.nd
    refine ⟨_, PSs.nox (pss_cons (ps_set (i := 2) nd rfl (Or.inl rfl) (C8.pe_mt (M_month_number) hr (by decide) (pv 0) (pa_cons (pv 1) pa_nil)))
    (pss_one (ps_ret (pe_tup (pa_cons (pe_op op_fdiv (pv 2) (pe_pr CC.cls (P_months) hr (by decide) (pv 0) rfl)) (pa_cons (pe_op op_add (pe_op op_mod (pv 2) (pe_pr CC.cls (P_months) hr (by decide) (pv 0) rfl)) pe_int) (pa_cons (pe_op op_add (pe_op op_sub (pv 1) (C8.pe_mt (M_month_start) hr (by decide) (pv 0) (pa_cons (pv 2) pa_nil))) pe_int) pa_nil))))))), ?_⟩
    have hn := ok.n2
    have ht := ok.total
    have hm := ok.ys.mo
    refine q_asgP (ep_meth (R := fun v _ => ∃ lo : Nat, AtM d n lo ∧ v = .int (n / d.total * (d.lens.length : Int) + lo)) (vs := [.int n]) (ev_var rfl) ha (Fl.no _ (by decide)) (ea_cons (ev_var rfl) ea_nil) fun H1 e1 => ⟨_, ⟨a, d, [.int n], rfl, ok, hc0.fwd e1, n, rfl, n0, n1, rfl⟩, fun v H2 _ r => r⟩) fun v H1 e1 r => ?_
    obtain ⟨lo, ⟨l1, l2, l3⟩, rfl⟩ := r
    obtain ⟨pl, hlo⟩ := ok.pl l1 l2 l3
    have q0 : 0 ≤ n / d.total := Int.ediv_nonneg n0 (by omega)
    have q1 : n / d.total ≤ n := Int.ediv_le_self _ n0
    have hc1 := hc0.fwd e1
    have hN : ∀ x, x = n / d.total * (d.lens.length : Int) + (lo : Int) → x / (d.lens.length : Int) = n / d.total ∧ x % (d.lens.length : Int) = lo ∧ x % (d.m : Int) = ((lo % d.m : Nat) : Int) ∧ 0 ≤ x ∧ x < 2 ^ 60 := fun x hx => by
      have h5 : x / (d.lens.length : Int) = n / d.total := by
        rw [hx, Int.add_comm, Int.add_mul_ediv_right _ _ (by omega), Int.ediv_eq_zero_of_lt (by omega) (by omega), Int.zero_add]
      have h6 : x % (d.lens.length : Int) = lo := by
        rw [hx, Int.add_comm, Int.add_mul_emod_self_right, Int.emod_eq_of_lt (by omega) (by omega)]
      have h7 : x % (d.m : Int) = ((lo % d.m : Nat) : Int) := by
        rw [hx, ok.n, Int.natCast_mul, ← Int.mul_assoc, Int.add_comm, Int.add_mul_emod_self_right, Int.natCast_emod]
      have h8 : 0 ≤ n / d.total * (d.lens.length : Int) := Int.mul_nonneg q0 (by omega)
      have h9 : n / d.total * (d.lens.length : Int) ≤ n * 5600 := Int.mul_le_mul q1 (by omega) (by omega) n0
      exact ⟨h5, h6, h7, by omega, by omega⟩
    obtain ⟨h5, h6, h7, h8, h9⟩ := hN _ rfl
    have pm : ∀ {σ : L2.St} {H2 : Hp}, Ex H1 H2 → σ[0]? = some (some (.ref a)) → Ev (tProp C (spMonths C) [] E0 (tVar 0)) σ H2 (.int d.m) := fun e hσ => ev_prop (ev_var hσ) (e _ _ (e1 _ _ ha)) fun H3 e3 => ⟨_, ⟨a, d, [], rfl, ok, (hc1.fwd e).fwd e3, rfl, rfl⟩, fun v H4 _ r => r⟩
    refine s_retU (eu_tup (ea_cons (ev_op (ev_var rfl) (pm (Ex.refl _) rfl) (rv_I ⟨by omega, by omega⟩)) (ea_cons (ev_is (ev_op (ev_op (ev_var rfl) (pm (Ex.refl _) rfl) (rv_I (by omega))) ev_c rv_I0) (w := .int (d.mon n)) ?_) (ea_cons (ev_is (ev_op (ev_op (ev_var rfl) (ev_meth (vs := [.int (n / d.total * (d.lens.length : Int) + lo)]) (z := .int (n / d.total * d.total + (startsP d.lens).getD lo 0)) (ev_var rfl) (e1 _ _ ha) (Fl.no _ (by decide)) (ea_cons (ev_var rfl) ea_nil)
      fun H2 e2 => ⟨_, ⟨a, d, [.int (n / d.total * (d.lens.length : Int) + lo)], rfl, ok, hc1.fwd e2, _, rfl, h8, h9, rfl⟩, fun v H3 _ r => by rw [r, h5, h6]; rfl⟩) rv_I0) ev_c rv_I0) (w := .int (d.day n)) ?_) ea_nil))) (by simp)) fun t H2 ht' e2 h2 => k _ _ (e1.trans e2) ⟨t, _, rfl, fresh_back e1 ht', h2⟩
    · rw [h7]
      unfold CD.mon
      rw [pl]
    · unfold CD.day
      rw [pl]
      have z := Int.emod_add_mul_ediv n d.total
      rw [Int.mul_comm] at z
      show V.int _ = V.int (n % d.total - (startsP d.lens).getD lo 0 + 1)
      congr 1
      omega
end
end K9
end
section
set_option Elab.async false
set_option linter.all false
set_option maxRecDepth 100000
set_option maxHeartbeats 4000000
namespace K9
open PySem PySem.Spec PyProof.Rows L2 Evl
theorem eqv_nilT (ds : List PyData) : PyData.eqv (.tuple ds) (.tuple []) = ds.isEmpty := by
  cases ds <;> simp [PyData.eqv, PyData.eqvAll]
theorem eqv_dP (p q : Int × Int) : PyData.eqv (dP p) (dP q) = decide (p = q) := by
  obtain ⟨a, b⟩ := p
  obtain ⟨c, e⟩ := q
  unfold dP
  by_cases h1 : a = c <;> by_cases h2 : b = e <;> simp [PyData.eqv, PyData.eqvAll, h1, h2]
theorem any_dP (hs : List (Int × Int)) (q : Int × Int) : ((hs.map dP).any fun z => PyData.eqv z (dP q)) = decide (q ∈ hs) := by
  rw [List.any_map]
  induction hs with
  | nil => rfl
  | cons p hs ih =>
    rw [List.any_cons, ih]
    show (PyData.eqv (dP p) (dP q) || _) = _
    rw [eqv_dP]
    by_cases h : q = p
    · subst h; simp
    · have h' : ¬ p = q := fun e => h e.symm
      simp [h, h']
theorem pl_prsT (ps : List (Int × Int)) : pl (.tuple (ps.map dP)) 2 := pl_tup fun d hd => by
  obtain ⟨p, _, rfl⟩ := List.mem_map.mp hd
  exact pl_tup fun e he => by
    rcases List.mem_cons.mp he with rfl | he
    · exact pl_int
    · rcases List.mem_cons.mp he with rfl | he
      · exact pl_int
      · cases he
theorem dp_prsT {K : PySem.W.Frag} {H : Hp} {a : Addr} {xs : List V} {ps : List (Int × Int)} (hs : SqT K H a xs) (h : PrsAt H xs ps) : Dp K H (.ref a) (.tuple (ps.map dP)) := .tup hs (dpall_of (fun _ _ r => dp_pr r) h)
theorem inV_int (i : Int) (l : List Int) : inV (.int i) (l.map V.int) = decide (i ∈ l) := by
  unfold inV
  induction l with
  | nil => rfl
  | cons j l ih =>
    rw [List.map_cons, List.any_cons, ih]
    by_cases h : i = j
    · subst h; simp [eqV]
    · have h' : ¬ j = i := fun e => h e.symm
      simp [eqV, h, h']
theorem flat_int (l : List Int) : (l.map V.int).all flatV = true := by
  rw [List.all_map, List.all_eq_true]
  intro o _
  rfl
section
variable {K : PySem.W.Frag} {σ : L2.St} {H : Hp} {ta tb : TE} {x : V}
theorem ev_eqNilT {d : List PyData} {n : Nat} (ha : Ev ta σ H x) (hd : ∀ H1, Ex H H1 → Dp K H1 x (.tuple d)) (hp : pl (.tuple d) n) (hn : n ≤ 64) : Ev (tOp (rEqD K) ta (tTup tNil)) σ H (.bl d.isEmpty) :=
  ev_opU ha (eu_tup ea_nil (by decide)) fun p H1 h1 e1 H2 e2 Q q => ⟨_, _, hd H2 (e1.trans e2), .tup (SqT.of (e2 _ _ h1)) .nil, sh_of hp hn, sh_of (n := 1) (pl_tup fun d hd => nomatch hd) (by decide), by rw [eqv_nilT]; exact q H2 (Ex.refl H2)⟩
end
section
variable {P : Program} {w : World} {K : PySem.W.Frag} {mg : Str → Option Value} {base : Heap} {f C : Addr} {fd : FuncData}
theorem okIsWork (F : FnQ K "is_work" "Calendar.is_work" (cst 26) f fd) (CC : CalK K C) (M_weekday : C8.Met P w K mg base 1 C "weekday" (spWeekday C) []) (M_parts : C8.Met P w K mg base 3 C "parts" (spParts C) []) :
    FnOk P w K mg base L2.CX0 4 f fd ["self", "date"] (spIsWork C) := by
  refine F.ok scIsWork (fun vs H Q E h => ?_) (fun cdv A outer s H vs Q E hr h => ?_)
  · obtain ⟨R, ⟨a, d, ws, rfl, _, _, n, rfl, _⟩, _⟩ := h
    rfl
  · obtain ⟨R, ⟨a, d, ws, rfl, ok, hc, n, rfl, n0, n1, rfl⟩, k⟩ := h
    have hc0 := hc
    obtain ⟨dx, fs, ty, tr, th, tl, ts, xs, us, ha, Fl, Ho⟩ := hc
    have nd := scIsWork.nd
    refine ⟨_, PSs.nox (pss_cons (ps_if (pt_cmpR op_in_seq (C8.pe_mt (M_weekday) hr (by decide) (pv 0) (pa_cons (pv 1) pa_nil)) (pe_fld (pv 0) rfl) (by rfl)) (pss_one (ps_ret pe_bl)) pss_nil)
    (pss_one (ps_ret (pe_or (pe_cmpR (op_eqD hr.units) (pe_fld (pv 0) rfl) (pe_tup pa_nil) (nomark _)) (pe_one (pe_cmpR (op_notInDT (r65 hr)) (pe_slice sl_tup (C8.pe_mt (M_parts) hr (by decide) (pv 0) (pa_cons (pv 1) pa_nil)) (po_some pe_int) po_none) (pe_fld (pv 0) rfl) (by rfl))))))), ?_⟩
    have f1 : ∀ {x : Str} {v : V} {H1 : Hp}, Ex H H1 → NoAttr K C x → fs.lookup x = some v → Ev (tFld K (tVar 0) x) [some (.ref a), some (.int n)] H1 v := fun e nn l => ev_fld (ev_var rfl) (e _ _ ha) CC.cls nn l
    refine q_when (b := decide ((n + d.f) % d.w ∈ d.rs)) (et_is (et_test (ev_op (ev_meth (vs := [.int n]) (z := .int ((n + d.f) % d.w)) (ev_var rfl) ha (Fl.no _ (by decide)) (ea_cons (ev_var rfl) ea_nil) fun H1 e1 => ⟨_, ⟨a, d, [.int n], rfl, ok, hc0.fwd e1, n, rfl, rfl⟩, fun v H2 _ r => r⟩)
      (f1 (Ex.refl _) CC.rests Fl.rests) (rv_isT (st_of Ho.tr) rfl (flat_int _)))) (inV_int _ _)) (fun hb H1 e1 => ?_) (fun hb H1 e1 => ?_)
    · refine s_ret ev_c fun H2 e2 => k _ _ (e1.trans e2) ?_
      show V.bl false = V.bl (d.work n)
      unfold CD.work
      rw [hb]
      rfl
    · refine s_ret (v := .bl (d.work n)) ?_ fun H2 e2 => k _ _ (e1.trans e2) rfl
      have hwk : d.work n = (d.hs.isEmpty || !decide ((d.mon n, d.day n) ∈ d.hs)) := by
        unfold CD.work
        rw [hb]
        cases d.hs <;> simp
      rw [hwk]
      refine ev_orV (ev_is (ev_eqNilT (d := d.hs.map dP) (f1 e1 CC.free_days Fl.free_days) (fun H2 e2 => dp_prsT (st_of (e2 _ _ (e1 _ _ Ho.th))) ((Ho.us.fwd e1).fwd e2)) (pl_prsT _) (by decide)) (by cases d.hs <;> rfl)) fun _ => ?_
      refine ep_op (R := fun x H2 => ∃ t, x = .ref t ∧ H2 t = some (.tup [.int (d.mon n), .int (d.day n)])) (y := .ref th) (fun H2 e2 Q2 q2 => ?_) (fun x H2 e2 _ => f1 (e1.trans e2) CC.free_days Fl.free_days) (fun x H2 e2 hx => ?_) (fun x H2 H3 ⟨t, h1, h2⟩ e3 => ⟨t, h1, e3 _ _ h2⟩)
      · refine ep_meth (R := fun v H2 => ∃ (t : Addr) (y : V), v = .ref t ∧ H2 t = some (.tup [y, .int (d.mon n), .int (d.day n)])) (vs := [.int n]) (ev_var rfl) (e1 _ _ ha) (Fl.no _ (by decide)) (ea_cons (ev_var rfl) ea_nil) (fun H3 e3 => ⟨_, ⟨a, d, [.int n], rfl, ok, (hc0.fwd e1).fwd e3, n, rfl, n0, n1, rfl⟩, fun v H4 _ ⟨t, y, h1, h2, h3⟩ => ⟨t, y, h1, h3⟩⟩) H2 e2 _ fun x H3 e3 hx => ?_
        obtain ⟨t, y, rfl, ht⟩ := hx
        refine ⟨1, rfl, ?_⟩
        refine ⟨t, _, rfl, st_of ht, (show ¬ (HT.sIx 3 0 (some 1) = 0 ∧ HT.sIx 3 3 none = 3) by decide), fun p hp => q2 _ _ (e3.trans (Ex.new hp)) ⟨p, rfl, upd_same⟩⟩
      · obtain ⟨t, rfl, ht⟩ := hx
        intro H3 e3 Q3 q3
        refine ⟨dP (d.mon n, d.day n), d.hs.map dP, dp_pr ⟨t, rfl, e3 _ _ ht⟩, dp_prsT (st_of ((e1.trans (e2.trans e3)) _ _ Ho.th)) (Ho.us.fwd (e1.trans (e2.trans e3))), sh_of (n := 1) (pl_tup fun e he => ?_) (by decide), sh_of (pl_prsT _) (by decide), ?_⟩
        · rcases List.mem_cons.mp he with rfl | he
          · exact pl_int
          · rcases List.mem_cons.mp he with rfl | he
            · exact pl_int
            · cases he
        · rw [any_dP]
          exact q3 H3 (Ex.refl _)
theorem okWorks (F : FnQ K "first_works" "Calendar.first_works" (cst 7) f fd) (CC : CalK K C) (T : Txt mg) (M_is_work : C8.Met P w K mg base 4 C "is_work" (spIsWork C) []) (P_period : PropP P w K mg base 1 C "period" (spPeriod C)) :
    FnOk P w K mg base L2.CX0 5 f fd ["self"] (spWorks C) := by
  refine F.ok scWorks (fun vs H Q E h => ?_) (fun cdv A outer s H vs Q E hr h => ?_)
  · obtain ⟨R, ⟨a, d, ws, rfl, _, _, rfl, _⟩, _⟩ := h
    rfl
  · obtain ⟨R, ⟨a, d, ws, rfl, ok, hc, rfl, hT, rfl⟩, k⟩ := h
    have hc0 := hc
    obtain ⟨dx, fs, ty, tr, th, tl, ts, xs, us, ha, Fl, Ho⟩ := hc
    have nd := scWorks.nd
    refine ⟨_, PSs.nox (pss_cons (ps_par (i := 1) (j := 2) rfl nd rfl rfl (by decide) rfl rfl (pa_cons (pe_pr CC.cls (P_period) hr (by decide) (pv 0) rfl) (pa_cons (pe_lst pa_nil) pa_nil)) (by rfl))
    (pss_cons (ps_for PassesOwn.never rfl (pi_range1 (by rfl) T.range (pa_cons (pv 1) pa_nil)) (pg_name (i := 3) nd rfl (Or.inl rfl)) (pss_one (ps_if (pt_val (C8.pe_mt (M_is_work) hr (by decide) (pv 0) (pa_cons (pv 3) pa_nil))) (pss_cons (ps_expr (pe_bm PySem.F.plainAttrs_list PySem.F.slot_list_append PySem.F.type_list_append mt_append (pv 2) (pa_cons (pv 3) pa_nil)))
    (pss_one (ps_if (pt_cmpR op_gt (pv 1) (C8.pe_gc (by rfl) T.SHORT_PERIOD) (nomark _)) (pss_one (ps_ret (pv 2))) pss_nil))) pss_nil)))
    (pss_one (ps_ret (pv 2))))), ?_⟩
    have t0 : 0 ≤ d.turn := by
      have h1 := ok.w
      have h2 := ok.total
      exact Int.mul_nonneg (Int.ediv_nonneg (by omega) (by omega)) (by omega)
    refine q_parL (ev_prop (ev_var rfl) ha fun H3 e3 => ⟨_, ⟨a, d, [], rfl, ok, hc0.fwd e3, rfl, rfl⟩, fun v H4 _ r => r⟩) (el_lst ea_nil (by decide)) fun q H1 hq e1 h1 => ?_
    let Pv : Nat → L2.St → Hp → Prop := fun i σ' H' => ∃ (x : Option V) (l : List V), σ' = [some (.ref a), some (.int d.turn), some (.ref q), x] ∧ Ex H H' ∧ H' q = some (.lst l) ∧ l.length ≤ i ∧ (∀ x ∈ l, ∃ i : Int, x = .int i) ∧ (2000 < d.turn → l = []) ∧ (l = [] ↔ ∀ j : Nat, j < i → d.work j = false)
    refine q_forR1b (ea_cons (ev_var rfl) ea_nil) (by omega) Pv (fun H2 e2 => ⟨none, [], rfl, e1.trans e2, e2 _ _ h1, Nat.le_refl _, (fun x hx => absurd hx (by simp)), fun _ => rfl, by simp⟩) (fun i σ' H' hi pv => ?_) (fun σ' H' pv => ?_)
    · obtain ⟨x, l, rfl, e, hl, l1, l2, l3, l4⟩ := pv
      refine s_if (b := d.work i) (et_test (ev_meth (vs := [.int (i : Int)]) (ev_var rfl) (e _ _ ha) (Fl.no _ (by decide)) (ea_cons (ev_var rfl) ea_nil) fun H2 e2 => ⟨_, ⟨a, d, [.int (i : Int)], rfl, ok, (hc0.fwd e).fwd e2, i, rfl, by omega, by omega, rfl⟩, fun v H3 _ r => r⟩)) (fun hb H2 e2 => ?_) (fun hb H2 e2 => ?_)
      · refine q_app (e2 _ _ hl) (ev_var rfl) (ev_var rfl) ?_ fun H3 e3 => ?_
        · by_cases h5 : 2000 < d.turn
          · rw [l3 h5]; decide
          · omega
        · have e4 : Ex H (upd H3 q (.lst (l ++ [.int (i : Int)]))) := Ex.mut (e.trans (e2.trans e3)) hq
          refine s_when (et_test (ev_op (ev_var rfl) ev_c rv_I0)) (fun hc H4 e5 => ?_) (fun hc H4 e5 => ?_)
          · refine s_ret (ev_var rfl) fun H5 e6 => k _ _ (e4.trans (e5.trans e6)) ⟨q, _, rfl, hq, e6 _ _ (e5 _ _ upd_same), ?_, ?_, ?_⟩
            · rw [l3 (of_decide_eq_true hc)]
              exact (by decide : 1 ≤ 90000)
            · intro x hx
              rcases List.mem_append.mp hx with hx | hx
              · exact l2 x hx
              · exact ⟨i, by simpa using hx⟩
            · constructor
              · intro h6
                simp at h6
              · intro h6
                have := h6 i hi
                rw [this] at hb
                cases hb
          · refine ⟨_, _, rfl, e4.trans e5, e5 _ _ upd_same, by simp; omega, ?_, fun h6 => absurd h6 (of_decide_eq_false hc), ?_⟩
            · intro x hx
              rcases List.mem_append.mp hx with hx | hx
              · exact l2 x hx
              · exact ⟨i, by simpa using hx⟩
            · constructor
              · intro h6
                simp at h6
              · intro h6
                have := h6 i (Nat.lt_succ_self i)
                rw [this] at hb
                cases hb
      · refine ⟨_, l, rfl, e.trans e2, e2 _ _ hl, by omega, l2, l3, l4.trans ?_⟩
        constructor
        · intro h6 j hj
          rcases Nat.lt_succ_iff_lt_or_eq.mp hj with h7 | rfl
          · exact h6 j h7
          · exact hb
        · intro h6 j hj
          exact h6 j (by omega)
    · obtain ⟨x, l, rfl, e, hl, l1, l2, l3, l4⟩ := pv
      refine s_ret (ev_var rfl) fun H2 e2 => k _ _ (e.trans e2) ⟨q, l, rfl, hq, e2 _ _ hl, ?_, l2, l4.trans ?_⟩
      · by_cases h5 : 2000 < d.turn
        · rw [l3 h5]; decide
        · omega
      · constructor
        · intro h6 j hj
          exact h6 j (by omega)
        · intro h6 j hj
          exact h6 j (by omega)
theorem okFacts (F : FnQ K "facts" "Calendar.facts" (cst 5) f fd) (CC : CalK K C) : FnOk P w K mg base L2.CX0 1 f fd ["self"] (spFacts C) := by
  refine F.ok scFacts (fun vs H Q E h => ?_) (fun cdv A outer s H vs Q E hr h => ?_)
  · obtain ⟨R, ⟨a, d, ws, rfl, _, _, rfl, _⟩, _⟩ := h
    rfl
  · obtain ⟨R, ⟨a, d, ws, rfl, ok, ⟨dx, fs, ty, tr, th, tl, ts, xs, us, ha, Fl, Ho⟩, rfl, rfl⟩, k⟩ := h
    have nd := scFacts.nd
    refine ⟨_, PSs.nox (pss_one (ps_ret (pe_tup (pa_cons (pe_fld (pv 0) rfl) (pa_cons (pe_fld (pv 0) rfl) (pa_cons (pe_fld (pv 0) rfl) (pa_cons (pe_fld (pv 0) rfl) (pa_cons (pe_fld (pv 0) rfl) pa_nil)))))))), ?_⟩
    have f1 : ∀ {x : Str} {v : V}, NoAttr K C x → fs.lookup x = some v → Ev (tFld K (tVar 0) x) [some (.ref a)] H v := fun nn l => ev_fld (ev_var rfl) ha CC.cls nn l
    refine s_retU (eu_tup (ea_cons (f1 CC.all_years Fl.all_years) (ea_cons (f1 CC.days_of_week Fl.days_of_week) (ea_cons (f1 CC.begins Fl.begins) (ea_cons (f1 CC.rests Fl.rests) (ea_cons (f1 CC.free_days Fl.free_days) ea_nil))))) (by simp)) fun t H1 ht e1 h1 => k _ _ e1 ⟨t, rfl, ht, ty, tr, th, xs, us, h1, e1 _ _ Ho.ty, Ho.xs.fwd e1, e1 _ _ Ho.tr, e1 _ _ Ho.th, Ho.us.fwd e1⟩
theorem CD.Ok.small {d : CD} (k : d.Ok) : SmT d.ys d.w d.f d.rs d.hs where
  w := ⟨by have := k.w; omega, by have := k.w; omega⟩
  f := ⟨k.f.1, by have := k.f; have := k.w; omega⟩
  rs := ⟨fun i hi => ⟨(k.rs.1 i hi).1, by have := (k.rs.1 i hi).2; have := k.w; omega⟩, k.rs.2.2⟩
  hs := ⟨fun p hp => by
    obtain ⟨⟨h1, h2⟩, h3, h4⟩ := k.hs.1 p hp
    have := k.ys.mo
    exact ⟨⟨by omega, by omega⟩, ⟨by omega, by omega⟩⟩, by have := k.hs.2.2; omega⟩
  ys := ⟨fun y hy => ⟨fun i hi => by have := k.ys.days y hy i hi; exact ⟨by omega, by omega⟩, by have := k.ys.len y hy; have := k.ys.mo; omega⟩, by have := k.ys.ne; omega⟩
theorem okText (F : FnQ K "text" "Calendar.text" (cst 18) f fd) (CC : CalK K C) (C_calendar_text : CalN P w K mg base 1 "calendar_text" sp14) (M_facts : C8.Met P w K mg base 1 C "facts" (spFacts C) []) : FnOk P w K mg base L2.CX0 2 f fd ["self"] (spText C) := by
  refine F.ok scText (fun vs H Q E h => ?_) (fun cdv A outer s H vs Q E hr h => ?_)
  · obtain ⟨R, ⟨a, d, ws, rfl, _, _, rfl, _⟩, _⟩ := h
    rfl
  · obtain ⟨R, ⟨a, d, ws, rfl, ok, hc, rfl, rfl⟩, k⟩ := h
    have hc0 := hc
    obtain ⟨dx, fs, ty, tr, th, tl, ts, xs, us, ha, Fl, Ho⟩ := hc
    have nd := scText.nd
    refine ⟨_, PSs.nox (pss_one (ps_ret (C8.pe_c (C_calendar_text) hr (by decide) (by rfl) (pa_cons (C8.pe_mt0 (M_facts) hr (by decide) (pv 0)) pa_nil)))), ?_⟩
    have h2 : EvP (tMeth C "facts" (spFacts C) [] E0 (tVar 0) tNil) [some (.ref a)] H (fun v H2 => ∃ t, v = .ref t ∧ FactsAt H2 t d.ys d.w d.f d.rs d.hs) :=
      ep_meth (vs := []) (ev_var rfl) ha (Fl.no _ (by decide)) ea_nil (fun H2 e2 => ⟨_, ⟨a, d, [], rfl, ok, hc0.fwd e2, rfl, rfl⟩, fun v H3 _ ⟨t, h1, h2, h3⟩ => ⟨t, h1, h3⟩⟩)
    refine s_retP (R := fun v _ => v = .str (textP d.ys d.w d.f d.rs d.hs)) (fun H1 e1 Q1 q1 => h2 H1 e1 _ fun v H2 e2 ⟨t, hv, ht⟩ => ?_) fun v H1 e1 r => k _ _ e1 r
    subst hv
    exact ⟨_, ⟨t, d.ys, d.w, d.f, d.rs, d.hs, rfl, ht, ok.small, rfl⟩, fun v H3 e3 r => q1 v H3 (e2.trans e3) r⟩
end
end K9
end
section
set_option Elab.async false
set_option linter.all false
set_option maxRecDepth 100000
set_option maxHeartbeats 4000000
namespace K9
open PySem PySem.Spec PyProof.Rows L2 Evl
theorem SqE.hide {K : PySem.W.Frag} {H : Hp} {a p : Addr} {xs : List V} {C dx : Addr} {fs : List (Str × V)} (h : SqE K H p xs) (ha : H a = some (.ins C dx fs)) : SqE K (hid a a H) p xs := by
  have key : ∀ o : HO, H p = some o → (∀ C dx fs, o ≠ .ins C dx fs) → hid a a H p = some o := fun o ho n => by
    have : p ≠ a := fun z => by
      rw [z, ha] at ho
      exact n _ _ _ (Option.some.inj ho).symm
    rw [hid_at this this]
    exact ho
  rcases h with h | h
  · rcases h with (h | ⟨o, h⟩) | h
    · exact .inl (.inl (.inl (key _ h fun _ _ _ z => by cases z)))
    · exact .inl (.inl (.inr ⟨o, key _ h fun _ _ _ z => by cases z⟩))
    · exact .inl (.inr h)
  · rcases h with (h | ⟨o, h⟩) | h
    · exact .inr (.inl (.inl (key _ h fun _ _ _ z => by cases z)))
    · exact .inr (.inl (.inr ⟨o, key _ h fun _ _ _ z => by cases z⟩))
    · exact .inr (.inr h)
theorem IsRow.hide {H : Hp} {a : Addr} {v : V} {r : List Int} {C dx : Addr} {fs : List (Str × V)} (h : IsRow H v r) (ha : H a = some (.ins C dx fs)) : IsRow (hid a a H) v r := by
  obtain ⟨t, h1, h2⟩ := h
  have : t ≠ a := fun z => by
    rw [z, ha] at h2
    cases Option.some.inj h2
  exact ⟨t, h1, by rw [hid_at this this]; exact h2⟩
theorem IsPr.hide {H : Hp} {a : Addr} {v : V} {r : Int × Int} {C dx : Addr} {fs : List (Str × V)} (h : IsPr H v r) (ha : H a = some (.ins C dx fs)) : IsPr (hid a a H) v r := by
  obtain ⟨t, h1, h2⟩ := h
  have : t ≠ a := fun z => by
    rw [z, ha] at h2
    cases Option.some.inj h2
  exact ⟨t, h1, by rw [hid_at this this]; exact h2⟩
theorem IsTu.hide {H : Hp} {a : Addr} {v : V} {r : List Int} {C dx : Addr} {fs : List (Str × V)} (h : IsTu H v r) (ha : H a = some (.ins C dx fs)) : IsTu (hid a a H) v r := by
  obtain ⟨t, h1, h2⟩ := h
  have : t ≠ a := fun z => by
    rw [z, ha] at h2
    cases Option.some.inj h2
  exact ⟨t, h1, by rw [hid_at this this]; exact h2⟩
theorem hide_at {H : Hp} {a t : Addr} {o : HO} {C dx : Addr} {fs : List (Str × V)} (h : H t = some o) (ha : H a = some (.ins C dx fs)) (n : ∀ C dx fs, o ≠ .ins C dx fs) : hid a a H t = some o := by
  have : t ≠ a := fun z => by
    rw [z, ha] at h
    exact n _ _ _ (Option.some.inj h).symm
  rw [hid_at this this]
  exact h
section
variable {K : PySem.W.Frag} {σ : L2.St} {H : Hp} {ta tb te : TE} {x v : V} {R R' : V → Hp → Prop} {D : Ends} {tz : TS} {g : TG}
theorem q_asgGP (h : EvP te σ H R) (k : ∀ v H1, Ex H H1 → R v H1 → g v σ H1 (tz D)) : tSeq (tAsg te g) tz D σ H := h H (Ex.refl H) _ fun v H1 e r => k v H1 e r
theorem ep_tup2 (h1 : EvP ta σ H R) (h2 : ∀ H1, Ex H H1 → EvP tb σ H1 R') (s1 : ∀ v H1 H2, R v H1 → Ex H1 H2 → R v H2) (s2 : ∀ v H1 H2, R' v H1 → Ex H1 H2 → R' v H2) : EvP (tTup (tCons ta (tCons tb tNil))) σ H (fun v H2 => ∃ t x y, v = .ref t ∧ H t = none ∧ H2 t = some (.tup [x, y]) ∧ R x H2 ∧ R' y H2) := fun H1 e Q q =>
  h1 H1 e _ fun x H2 e2 r1 => h2 H2 (e.trans e2) H2 (Ex.refl _) _ fun y H3 e3 r2 => ⟨by show 2 ≤ sizeLine; decide, fun p hp => q _ _ ((e2.trans e3).trans (Ex.new hp)) ⟨p, x, y, rfl, fresh_back (e.trans (e2.trans e3)) hp, upd_same, s1 _ _ _ r1 (e3.trans (Ex.new hp)), s2 _ _ _ r2 (Ex.new hp)⟩⟩
theorem s_fldP {f : Str} (h : EvP te σ H R) (k : ∀ v H1, Ex H H1 → R v H1 → ∃ a C dx fs, Ev ta σ H1 (.ref a) ∧ H1 a = some (.ins C dx fs) ∧ Cls K C ∧ NoAttr K C f ∧ fs.length < 1000 ∧ ∀ H2, Ex H1 H2 → D.nx σ (upd H2 a (.ins C dx (putF f v fs)))) : sFld K ta te f D σ H :=
  h H (Ex.refl H) _ fun v H1 e r => by
    obtain ⟨a, C, dx, fs, h1, h2, h3, h4, h5, h6⟩ := k v H1 e r
    exact h1 H1 (Ex.refl _) _ fun H2 e2 => ⟨a, C, dx, fs, rfl, e2 _ _ h2, h3, h4, h5, h6 H2 e2⟩
/-- self.f = e -/
theorem q_fldP {f : Str} {a C dx : Addr} {fs : List (Str × V)} (h : EvP te σ H R) (ha : Ev ta σ H (.ref a)) (hi : H a = some (.ins C dx fs)) (c : Cls K C) (n : NoAttr K C f) (l : fs.length < 1000)
    (k : ∀ v H1, Ex H H1 → R v H1 → H1 a = some (.ins C dx fs) → tz D σ (upd H1 a (.ins C dx (putF f v fs)))) (hR : ∀ v H1 H2, R v H1 → Ex H1 H2 → R v H2) : tSeq (sFld K ta te f) tz D σ H :=
  s_fldP (D := { D with nx := tz D }) h fun v H1 e r => ⟨a, C, dx, fs, ha.mono e, e _ _ hi, c, n, l, fun H2 e2 => k v H2 (e.trans e2) (hR _ _ _ r e2) (e2 _ _ (e _ _ hi))⟩
theorem ep_tupP {T : List V → Hp → Prop} (h : EvP ta σ H R) (hr : ∀ v H2, R v H2 → ∃ p ys, v = .ref p ∧ H2 p = some (.lst ys) ∧ T ys H2) (hT : ∀ ys H1 H2, T ys H1 → Ex H1 H2 → T ys H2) :
    EvP (tCB (rTupOf K) (tCons ta tNil)) σ H (fun v H2 => ∃ t ys, v = .ref t ∧ H t = none ∧ H2 t = some (.tup ys) ∧ T ys H2) := fun H1 e Q q =>
  h H1 e _ fun v H2 e2 r => by
    obtain ⟨p, ys, hv, h2, hx⟩ := hr v H2 r
    subst hv
    exact ⟨p, ys, rfl, .inl ⟨sq_of h2, fun t ht => q _ _ (e2.trans (Ex.new ht)) ⟨t, ys, rfl, fresh_back (e.trans e2) ht, upd_same, hT _ _ _ hx (Ex.new ht)⟩⟩⟩
/-- a comprehension whose items are new tuples -/
theorem ep_lcTuples {a : Addr} {tl : TE} {j : Nat} {vs : List Nat} {xs : List V} (rs : List (List Int)) (h : Ev tl σ H (.ref a)) (hx : SqL K H a xs) (hrs : RowsAt H xs rs) (hz : xs.length ≤ sizeLine) (hw : ∀ x, wipe ((wipe σ vs).set j (some x)) vs = wipe σ vs)
    (hj : ∀ x, ((wipe σ vs).set j (some x))[j]? = some (some x)) :
    EvP (tLc (iList K tl) (gName j) tYes (tCB (rTupOf K) (tCons (tVar j) tNil)) vs) σ H (fun v H2 => ∃ p ys, v = .ref p ∧ H p = none ∧ H2 p = some (.lst ys) ∧ TusAt (hid p p H2) ys rs) := fun H0 e Q q => h H0 e _ fun H1 e1 => ⟨a, rfl, ⟨xs, ex_l (e.trans e1) hx⟩, fun Dl hD => by
  have e01 := e.trans e1
  have hl : xs.length = rs.length := Paired.length hrs
  refine lc_it (g := gName j) ((walk_list (K := K) (a := a) (xs := xs)).mono (fun _ h => h) (fun i H x H' hi _ y => y)) (fun i H' => ∃ ys, Ex H1 (hid Dl Dl H') ∧ H' Dl = some (.lst ys) ∧ ys.length = i ∧ TusAt (hid Dl Dl H') ys (rs.take i)) ⟨[], ?_, upd_same, rfl, .nil⟩ (fun i H' _ p => ?_) (fun i x H2 H' hi p y => ?_) (fun H' p => ?_)
  · rw [hid_up1]
    exact hid_of (Ex.refl _) hD hD
  · obtain ⟨ys, p1, _⟩ := p
    exact ex_l ((e01.trans p1).trans hid_le) hx
  · obtain ⟨ys, p1, p2, p3, p4⟩ := p
    obtain ⟨y1, y2⟩ := y
    subst y1
    obtain ⟨r, hr, b, rfl, hb⟩ := paired_get hrs y2
    refine ⟨hw _, yes_go ?_⟩
    refine ⟨_, hj _, b, r.map V.int, rfl, .inl ⟨sq_of (hid_le _ _ (p1 _ _ (e01 _ _ hb))), fun t ht => ?_⟩⟩
    have htD : t ≠ Dl := fun z => by
      rw [z, p2] at ht
      cases ht
    refine ⟨ys, by rw [upd_ne (Ne.symm htD)]; exact p2, by rw [p3, sizeLine_eq] at *; omega, ys ++ [.ref t], ?_, upd_same, by simp [p3], ?_⟩
    · rw [hid_up1]
      exact p1.trans (hid_ex (Ex.new ht))
    · rw [hid_up1, List.take_add_one, hr]
      refine paired_snoc (p4.fwd (hid_ex (Ex.new ht))) ⟨t, rfl, ?_⟩
      rw [hid_at htD htD]
      exact upd_same
  · obtain ⟨ys, p1, p2, p3, p4⟩ := p
    rw [hl, List.take_length] at p4
    exact q _ _ (e1.trans (p1.trans hid_le)) ⟨Dl, ys, rfl, fresh_back e01 hD, p2, p4⟩⟩
theorem upd_upd2 {H : Hp} {a : Addr} {o o' : HO} : upd (upd H a o) a o' = upd H a o' := by
  funext b
  by_cases h : b = a
  · rw [h, upd_same, upd_same]
  · rw [upd_ne h, upd_ne h, upd_ne h]
/-- self.f, self.g = a pair -/
theorem q_asgF2 {f f' : Str} {j : Nat} {a C dx : Addr} {fs : List (Str × V)} (h : EvP te σ H (fun v H2 => ∃ t x y, v = .ref t ∧ H t = none ∧ H2 t = some (.tup [x, y]) ∧ R x H2 ∧ R' y H2)) (hσ : σ[j]? = some (some (.ref a))) (hi : H a = some (.ins C dx fs)) (c : Cls K C) (n1 : NoAttr K C f) (n2 : NoAttr K C f') (l : fs.length < 900)
    (k : ∀ x y H1, Ex H H1 → R x H1 → R' y H1 → H1 a = some (.ins C dx fs) → tz D σ (upd H1 a (.ins C dx (putF f' y (putF f x fs))))) :
    tSeq (tAsg te (gTup K 2 (gCons (gFld K (tVar j) f) (gCons (gFld K (tVar j) f') gNil)))) tz D σ H := h H (Ex.refl H) _ fun v H1 e ⟨t, x, y, hv, ht, h2, r1, r2⟩ => by
  subst hv
  have hi1 := e _ _ hi
  have hl := length_putF f x fs
  refine ⟨t, _, rfl, st_of h2, rfl, x, _, rfl, .ref a, hσ, a, C, dx, fs, rfl, hi1, c, n1, by omega, y, _, rfl, .ref a, hσ, a, C, dx, _, rfl, upd_same, c, n2, by omega, rfl, ?_⟩
  rw [upd_upd2]
  exact k x y H1 e r1 r2 hi1
end
end K9
end
section
set_option Elab.async false
set_option linter.all false
set_option maxRecDepth 100000
set_option maxHeartbeats 4000000
namespace K9
open PySem PySem.Spec PyProof.Rows L2 Evl
section
variable {X : Cx}
/-- an own error made where its context is asked for -/
theorem pmkN_oex {CX : CXT} {x : Str} {C g : Addr} {k : Nat} {fd : FuncData} {ps : List Str} {sp : Sp} {e : Expr} {es : List Expr} {ta : TA} {p pos : Pos} (T : OexC X.K C) (i1 : PySem.W.findIn X.K (.ref C) "__init__" = some (some (.ref g))) (i2 : PySem.W.typeIn X.K (.ref g) = some (.type "function"))
    (F : FnOk X.prog X.w X.K X.mg X.base CX k g fd ps sp) (hr : Room (k + 1) X.A) (b : Binds X.K fd ps []) (px : Passes CX X (fun _ _ _ => False)) (hg : Gl X x) (hm : X.mg x = some (.ref C)) (ha : PA X (e :: es) ta)
    (hdb : (x == ("__debug__" : Str)) = false := by decide) (h1 : starEach (e :: es) X.env = (false, eval e X.env) :: starEach es X.env := by rfl) (h2 : (backTo pos (starEach es X.env)).any (·.1) = false := by rfl) :
    L2N.PMk X (.Call (.Name x p) (e :: es) [] pos) (tMkO C sp [] ta) := by
  intro pins s σ H Q I h
  obtain ⟨_, _, _, _, bm, _, _, _, _, _, _, _, _, _, _, hC, hbm⟩ := T.cls
  refine wpAny_Call_Name_kw (ld_glob I hg hm (PySem.W.callWith_K (h₀ := X.base) I.ok.mod.kin T.kC (thn (ha.run pos pins s σ H _ I h) fun us s1 z => ?_) h1 h2) hdb)
  obtain ⟨vs, H1, J, r1, hz, q1⟩ := z
  refine ⟨J.kIn, ?_⟩
  obtain ⟨hp, gs, dr, tk, os⟩ := s1
  have up : hp.objs.size ≤ hp.objs.size + 1 := Nat.le_succ _
  have fresh : H1 (hp.objs.size + 1) = none := J.hok.fresh up
  have hq := q1 _ fresh
  have old : ∀ c o, hp.get? c = some o → ((hp.push (PySem.W.kdv_tup us)).push (PySem.HandSPX.excO C hp.objs.size)).get? c = some o := fun c o y => Heap.get?_push_of_some _ (Heap.get?_push_of_some _ y)
  have J2 : Inv X pins σ (upd H1 (hp.objs.size + 1) (exo (hp.objs.size + 1) C none)) ⟨(hp.push (PySem.W.kdv_tup us)).push (PySem.HandSPX.excO C hp.objs.size), gs, dr, tk, os⟩ :=
    J.laid (t' := tk) (o := exo (hp.objs.size + 1) C none) old up (exo_ok (t1 := hp.objs.size) (by heap_get))
  have rel : Vals (V.ref (hp.objs.size + 1) :: (vs ++ [])) (Value.ref (hp.objs.size + 1) :: (us ++ [])) := .cons rfl (r1.append .nil)
  have hlen := F.len _ _ _ _ hq
  have hus : us.length ≤ sizeLine := by
    rw [← Paired.length r1, sizeLine_eq]
    omega
  show wpAny _ _ (call (.ref C) us) _ _ _
  refine wpAny_call (PySem.HandSPX.call_own PySem.F.excBase_ValueError (fun Y => PySem.HandSPX.refsVE_contains Y bm hbm) (J.kIn _ _ hC) (PySem.W.looks_findIn J.kIn i1) (fun self => PySem.W.bind_fn J.kIn self i2) hus
    (codeAny_mono (F.run _ X.stack _ _ ⟨Value.ref (hp.objs.size + 1) :: us, []⟩ _ _ _ _ (hr.make C us []) (J2.env0.make C us []) (b _ (Value.ref (hp.objs.size + 1) :: us) J2.kIn (rel.length.symm.trans hlen)) rel hq) fun r s' z => ?_))
  cases r with
  | error er => exact px pins σ _ _ er s' J2 z
  | ok fl =>
    cases fl with
    | ret u =>
      obtain ⟨v, H2, os2, bare, un, hok, rv, hv, d, fs, ea, ed, hd1, qq⟩ := z
      subst hv
      obtain ⟨g2, gs2, dr2, tk2, os'⟩ := s'
      obtain ⟨t0, G, J3, kG, gone, there, na⟩ := mk_end0 (d2 := dr2) (t2 := tk2) J up old un hok os2 bare ea ed hd1
      exact ⟨rv, hp.objs.size + 1, _, _, ⟨G, gs2, dr2, tk2, os'⟩, _, .ref C, some d, rfl, J3, kG, gone, there, ⟨rfl, rfl, fun ys y => by cases y; rfl⟩, rfl, rfl, na, rfl, bare, raises_own T.exC T.tyC, qq⟩
    | next => exact False.elim z
    | brk => exact False.elim z
    | cont => exact False.elim z
theorem ps_errN {x g : Str} {C : Addr} {j : Nat} {W : WX} {e : Expr} {te : TE} {p pos pos2 : Pos} (R : ErrC X.prog X.w X.K X.mg X.base x g C) (hr : Room j X.A) (hj : 2 ≤ j) (hc : X.calm = true) (tk : L2N.Takes X W) (hg : Gl X x) (he : PE X e te)
    (hdb : (x == ("__debug__" : Str)) = false := by decide) (hs : starEach [e] X.env = (false, eval e X.env) :: starEach [] X.env := by rfl) (hpl : (backTo pos (starEach [] X.env)).any (·.1) = false := by rfl) :
    PS X (.Raise (some (.Call (.Name x p) [e] [] pos)) none pos2) (tErr X.K C g W te) := by
  obtain ⟨fI, fd, i1, i2, F1, b1⟩ := R.ini
  exact L2N.ps_raise hc tk (pmkN_oex (k := 1) R.oex i1 i2 F1 (hr.mono hj) b1 pass0 hg R.mgC (pa_cons he pa_nil hs) hdb hs hpl)
theorem run_makeAt {CX : CXT} {k n : Nat} {f C : Addr} {fd : FuncData} {ps ks : List Str} {sp : Sp} {E : XK} {g : List Value → List Value → List Value} {gV : List V → List V → List V} {pins : List (Addr × Obj)} {σ : L2.St} {H : Hp} {s : Shared} {Q : VK} {us ws : List Value} {vs zs : List V}
    (M : Mk X.K C f) (F : FnOk X.prog X.w X.K X.mg X.base CX k f fd ps sp) (hr : Room (k + 1) X.A) (hb : KBn X.K fd ps (n + 1) ks g gV) (px : PassesAt CX X σ E) (I : Inv X pins σ H s) (r1 : Vals vs us) (r2 : Vals zs ws) (l1 : vs.length = n) (l2 : zs.length = ks.length)
    (h : ∀ x dx, H x = none → H dx = none → dx ≠ x → sp (gV (.ref x :: vs) zs) (upd (upd H dx (.own x)) x (.ins C dx [])) (fun v H2 => v = .non ∧ Q (.ref x) H2) E) : wpAny (model X.prog X.w) X.A (call (.ref C) us (ks.zip ws)) (EP X pins σ Q) X.xe s := by
  have up : s.heap.objs.size ≤ s.heap.objs.size + 1 := Nat.le_succ _
  have hq := h _ _ (I.hok.fresh up) (I.hok.fresh (Nat.le_refl _)) (Nat.ne_of_lt (Nat.lt_succ_self _))
  have J := Inv.made (C := C) I
  have rel : Vals (V.ref (s.heap.objs.size + 1) :: vs) (Value.ref (s.heap.objs.size + 1) :: us) := .cons rfl r1
  have n1 : (Value.ref (s.heap.objs.size + 1) :: us).length = n + 1 := rel.length.symm.trans (by rw [List.length_cons, l1])
  have n2 : ws.length = ks.length := r2.length.symm.trans l2
  refine wpAny_call (make_map (f := f) I.kIn M.makes M.init (beq_iff_eq.mp M.fn) (codeAny_mono (F.run _ X.stack _ _ ⟨Value.ref (s.heap.objs.size + 1) :: us, ks.zip ws⟩ _ _ _ E (hr.make C us (ks.zip ws)) (J.env0.make C us (ks.zip ws)) (hb.to _ _ ws J.kIn n1 n2) (hb.rel rel r2) hq) fun r s' z => ?_))
  cases r with
  | error e => exact px pins _ _ e s' J z
  | ok fl =>
    cases fl with
    | ret u =>
      obtain ⟨v, H', J3, rv, hv, q3⟩ := J.after z
      subst hv
      exact ⟨rv, ⟨V.ref (s.heap.objs.size + 1), H', J3, rfl, q3⟩⟩
    | next => exact False.elim z
    | brk => exact False.elim z
    | cont => exact False.elim z
/-- x(e, .., k = v, ..), the class in a local name; what flies out may know the slots -/
def tMakeS (C : Addr) (n m : Nat) (sp : Sp) (gV : List V → List V → List V) (E : L2.St → XK) (t tk : TA) : TE := fun σ H Q => tMakeN C n m sp gV (E σ) t tk σ H Q
theorem pe_makeL {CX : CXT} {k n i : Nat} {f C : Addr} {fd : FuncData} {ps ks : List Str} {sp : Sp} {E : L2.St → XK} {x : Str} {p pos : Pos} {e : Expr} {es : List Expr} {kws : List Keyword} {t tk : TA} {g : List Value → List Value → List Value} {gV : List V → List V → List V}
    (M : Mk X.K C f) (F : FnOk X.prog X.w X.K X.mg X.base CX k f fd ps sp) (hr : Room (k + 1) X.A) (hN : X.N[i]? = some x) (hv : Vis X.env.scope x) (hb : KBn X.K fd ps (n + 1) ks g gV) (hx : ∀ σ, PassesAt CX X σ (E σ)) (ha : PA X (e :: es) t) (hkw : PK X kws tk)
    (hall : (backToKw pos (keywordEach kws X.env)).all (·.1.isSome) = true := by rfl) (hks : (backToKw pos (keywordEach kws X.env)).filterMap (·.1) = ks := by rfl)
    (hdb : (x == ("__debug__" : Str)) = false := by decide) (hcd : (x == ("__classdict__" : Str)) = false := by decide) (he : starEach (e :: es) X.env = (false, eval e X.env) :: starEach es X.env := by rfl)
    (hpl : ((backTo pos (starEach (e :: es) X.env)).any (·.1) || (backToKw pos (keywordEach kws X.env)).any (·.1.isNone)) = false := by rfl) :
    PE X (.Call (.Name x p) (e :: es) kws pos) (fun σ H Q => σ[i]? = some (some (.ref C)) ∧ tMakeS C n ks.length sp gV E t tk σ H Q) := by
  refine ⟨fun pins s σ H Q I h => ?_⟩
  refine wpAny_Call_Name_kw (thn ((pe_var (pos := p) hN hv hdb hcd).run pins s σ H (fun v H1 => v = .ref C ∧ H1 = H) I ⟨.ref C, h.1, rfl, rfl⟩) fun u s1 z => ?_)
  obtain ⟨v, H1, J, r1, ⟨hv1, hH⟩⟩ := z
  subst hv1 hH
  obtain rfl : u = Value.ref C := r1
  refine PySem.W.callWith_KW (h₀ := X.base) J.ok.mod.kin M.kp hall (thn (ha.run pos pins s1 σ H1 _ J h.2) fun us s2 z2 => ?_) hpl he
  obtain ⟨vs, H2, J2, r2, q2⟩ := z2
  refine thn (hkw.run pos pins s2 σ H2 _ J2 q2) fun ws s3 z3 => ?_
  obtain ⟨zs, H3, J3, r3, l1, l2, q3⟩ := z3
  refine ⟨J3.kIn, ?_⟩
  rw [hks]
  exact run_makeAt M F hr hb (hx σ) J3 r2 r3 l1 l2 q3
end
/-- a def that may let out an exception -/
structure CalX (P : Program) (w : World) (K : PySem.W.Frag) (mg : Str → Option Value) (base : Heap) (k : Nat) (x : Str) (sp : Sp) : Prop where
  ex : ∃ (f : Addr) (fd : FuncData) (ps : List Str), FnOk P w K mg base (L2.CX P w) k f fd ps sp ∧ mg x = some (.ref f) ∧ PySem.W.keepIn K (.ref f) = true ∧ Binds K fd ps []
section
variable {X : Cx} {k j : Nat} {x : Str} {sp : Sp} {e : Expr} {es : List Expr} {p pos : Pos} {t : TA} {E : XK}
theorem pe_cX (c : CalX X.prog X.w X.K X.mg X.base k x sp) (hr : Room j X.A) (hk : k ≤ j) (tk : Takes X (fun cls d _ H => E cls d H)) (hg : Gl X x) (ha : PA X (e :: es) t)
    (hdb : (x == ("__debug__" : Str)) = false := by decide) (he : starEach (e :: es) X.env = (false, eval e X.env) :: starEach es X.env := by rfl) (hpl : (backTo pos (starEach es X.env)).any (·.1) = false := by rfl) :
    PE X (.Call (.Name x p) (e :: es) [] pos) (tCall sp [] E t) := by
  obtain ⟨f, fd, ps, F, hm, kp, b⟩ := c.ex
  exact pe_call F (hr.mono hk) hg hm kp b .nil (passes_call tk fun _ _ _ _ h => h) ha hdb he hpl
end
/-! ### errors made while another is handled -/
structure ErrH (P : Program) (w : World) (K : PySem.W.Frag) (mg : Str → Option Value) (base : Heap) (x g : Str) (C : Addr) : Prop where
  mgC : mg x = some (.ref C)
  oex : OexC K C
  nof : PySem.W.findIn K (.ref C) g = some none
  ini : ∃ (fI : Addr) (fd : FuncData), PySem.W.findIn K (.ref C) "__init__" = some (some (.ref fI)) ∧ PySem.W.typeIn K (.ref fI) = some (.type "function") ∧ L2H.FnH P w K mg base CX0 1 fI fd ["self", g] (spErr K g) ∧ Binds K fd ["self", g] []
section
variable {P : Program} {w : World} {K : PySem.W.Frag} {mg : Str → Option Value} {base : Heap}
theorem okErrH {qual g : Str} {st : Stmt} {f : Addr} {fd : FuncData} {p1 p2 p3 p4 : Pos} (F : FnQ K "__init__" qual st f fd) (S : FnScope ["self", g] ["self", g] (defScope st)) (hb : defBody st = [.Assign [.Attribute (.Name "self" p1) g p2] (.Name g p3) p4])
    (hg : (g == ("__debug__" : Str)) = false) (hc : (g == ("__classdict__" : Str)) = false) (hsw : ∀ env, swapsWith (.Name g p3) (some (.Attribute (.Name "self" p1) g p2)) p4.line env = pure false) : L2H.FnH P w K mg base CX0 1 f fd ["self", g] (spErr K g) := by
  obtain ⟨oc, od, dV, kV, doc, pm, an, cdv, ct, osl, rfl, lk, hcd, _, _⟩ := F.ex
  refine L2H.fn_ofH lk hcd S (fun vs H Q E h => ?_) (fun A outer s H vs Q E p hot hr h => ?_)
  · obtain ⟨a, C, y, rfl, _⟩ := h
    rfl
  · obtain ⟨a, C, y, rfl, T, n, ha, k⟩ := h
    rw [hb]
    refine ⟨_, pss_one (ps_ost (pe_var (i := 0) rfl ((S.par "self" (by simp)).elim (fun z => .inl z) (fun z => .inr (.inl z)))) (pe_var (i := 1) rfl ((S.par g (by simp)).elim (fun z => .inl z) (fun z => .inr (.inl z))) hg hc) (hsw _)), ?_⟩
    exact ⟨y, rfl, .ref a, rfl, a, C, rfl, T, n, .inl ⟨ha, fun dx hd ne => k dx hd ne⟩⟩
end
section
variable {X : Cx}
theorem ps_errH {x g : Str} {C : Addr} {j jc : Nat} {W : WX} {e : Expr} {te : TE} {p pos pos2 cpos : Pos} (R : ErrH X.prog X.w X.K X.mg X.base x g C) (hr : L2H.RoomH j X.A) (hj : 2 ≤ j) (hc : L2H.HotC X) (tk : L2.Takes X W) (hg : Gl X x) (he : PE X e te)
    (hdb : (x == ("__debug__" : Str)) = false := by decide) (hs : starEach [e] X.env = (false, eval e X.env) :: starEach [] X.env := by rfl) (hpl : (backTo pos (starEach [] X.env)).any (·.1) = false := by rfl) :
    PS X (.Raise (some (.Call (.Name x p) [e] [] pos)) (some (.Constant .none jc cpos)) pos2) (tErr X.K C g W te) := by
  obtain ⟨fI, fd, i1, i2, F1, b1⟩ := R.ini
  exact L2H.ps_raiseHN hc tk (L2H.pmk5_oexH (k := 1) R.oex i1 i2 F1 (hr.mono hj) hc b1 pass0 hg R.mgC (pa_cons he pa_nil hs) hdb hs hpl)
end
end K9
end
section
set_option Elab.async false
set_option linter.all false
set_option maxRecDepth 100000
set_option maxHeartbeats 4000000
namespace K9
open PySem PySem.Spec PyProof.Rows L2 Evl
theorem ltP_lex (p q : Int × Int) : ltP p q = true ↔ p.1 < q.1 ∨ (p.1 = q.1 ∧ p.2 < q.2) := by
  unfold ltP
  simp [HT.lexLt]
  split <;> omega
/-- the order of pairs -/
def LeP (p q : Int × Int) : Prop := p.1 < q.1 ∨ (p.1 = q.1 ∧ p.2 ≤ q.2)
section
variable {K : PySem.W.Frag} {σ : L2.St} {H : Hp} {ta : TE}
theorem ep_sortI {p : Addr} {ns : List Int} (h : Ev ta σ H (.ref p)) (hp : SqE K H p (ns.map V.int)) : EvP (fun σ H Q => tCB (rSortedI K) (tCons ta tNil) σ H Q ∨ tCB (rSortedTI K) (tCons ta tNil) σ H Q) σ H
    (fun v H2 => ∃ q ys, v = .ref q ∧ H q = none ∧ H2 q = some (.lst ys) ∧ ∃ ms : List Int, ys = ms.map V.int ∧ ms.Perm ns ∧ ms.Pairwise (· ≤ ·)) := fun H1 e Q k => by
  rcases hp with hp | hp
  · exact .inl (h H1 e _ fun H2 e2 => ⟨p, ns, rfl, ex_l (e.trans e2) hp, fun ms q h1 h2 hq => k _ _ (e2.trans (Ex.new hq)) ⟨q, _, rfl, fresh_back (e.trans e2) hq, upd_same, ms, rfl, h1, h2⟩⟩)
  · exact .inr (h H1 e _ fun H2 e2 => ⟨p, ns, rfl, ex_t (e.trans e2) hp, fun ms q h1 h2 hq => k _ _ (e2.trans (Ex.new hq)) ⟨q, _, rfl, fresh_back (e.trans e2) hq, upd_same, ms, rfl, h1, h2⟩⟩)
/-- which pair a value is -/
noncomputable def pairOf (H : Hp) (v : V) : Int × Int := by
  classical
  exact if h : ∃ p, IsPr H v p then Classical.choose h else (0, 0)
theorem pairOf_is {v : V} {p : Int × Int} (h : IsPr H v p) : pairOf H v = p := by
  unfold pairOf
  have hx : ∃ p, IsPr H v p := ⟨p, h⟩
  rw [dif_pos hx]
  obtain ⟨t, h1, h2⟩ := h
  obtain ⟨t', h3, h4⟩ := Classical.choose_spec hx
  rw [h1] at h3
  cases h3
  rw [h2] at h4
  have z := HO.tup.inj (Option.some.inj h4)
  simp at z
  exact Prod.ext z.1.symm z.2.symm
theorem prs_of {us : List V} {hs : List (Int × Int)} (h : PrsAt H us hs) : hs = us.map (pairOf H) := by
  induction h with
  | nil => rfl
  | cons r t ih => rw [List.map_cons, ← ih, pairOf_is r]
theorem prs_mem {us : List V} {hs : List (Int × Int)} (h : PrsAt H us hs) : ∀ x ∈ us, IsPr H x (pairOf H x) := fun x hx => by
  obtain ⟨i, hi⟩ := List.getElem?_of_mem hx
  obtain ⟨p, _, hp⟩ := paired_get h hi
  rw [pairOf_is hp]
  exact hp
theorem prs_map : ∀ {us : List V}, (∀ x ∈ us, IsPr H x (pairOf H x)) → PrsAt H us (us.map (pairOf H))
  | [], _ => .nil
  | x :: us, h => .cons (h x List.mem_cons_self) (prs_map fun y hy => h y (List.mem_cons_of_mem _ hy))
theorem ltP_of {p q : V} {k : V → Int × Int} (h : L2.ltP k q p = false) : LeP (k p) (k q) := by
  unfold L2.ltP SrtO.lexB at h
  unfold LeP
  by_cases e : (k q).1 = (k p).1
  · rw [if_pos e] at h
    have := of_decide_eq_false h
    exact .inr ⟨e.symm, by omega⟩
  · rw [if_neg e] at h
    have := of_decide_eq_false h
    exact .inl (by omega)
theorem ep_sortP {p : Addr} {us : List V} {hs : List (Int × Int)} (h : Ev ta σ H (.ref p)) (hp : SqE K H p us) (hu : PrsAt H us hs) : EvP (fun σ H Q => tCB (rSortedPO K) (tCons ta tNil) σ H Q ∨ tCB (rSortedTP K) (tCons ta tNil) σ H Q) σ H
    (fun v H2 => ∃ q ys, v = .ref q ∧ H2 q = some (.lst ys) ∧ ∃ hs', PrsAt H2 ys hs' ∧ hs'.Perm hs ∧ hs'.Pairwise LeP) := fun H1 e Q k => by
  have hm := prs_mem hu
  have he := prs_of hu
  have hit : ∀ {H2 : Hp}, Ex H H2 → ∀ x ∈ us, ∃ t, x = V.ref t ∧ H2 t = some (.tup [.int (pairOf H x).1, .int (pairOf H x).2]) := fun e x hx => by
    obtain ⟨t, h1, h2⟩ := hm x hx
    exact ⟨t, h1, e _ _ h2⟩
  have fin : ∀ {H2 : Hp} (ys : List V) (q : Addr), Ex H1 H2 → SrtO.Srtd (L2.ltP (pairOf H)) ys → SrtO.Stb (L2.ltP (pairOf H)) ys us → H2 q = none → Q (.ref q) (upd H2 q (.lst ys)) := fun ys q e2 h1 h2 hq => by
    refine k _ _ (e2.trans (Ex.new hq)) ⟨q, ys, rfl, upd_same, ys.map (pairOf H), (prs_map fun x hx => hm x (h2.perm.mem_iff.mp hx)).fwd ((e.trans e2).trans (Ex.new hq)), ?_, ?_⟩
    · rw [he]
      exact h2.perm.map _
    · exact List.Pairwise.map _ (fun x y h3 => ltP_of h3) h1
  rcases hp with hp | hp
  · exact .inl (h H1 e _ fun H2 e2 => ⟨p, us, pairOf H, rfl, ex_l (e.trans e2) hp, hit (e.trans e2), fun ys q h1 h2 hq => fin ys q e2 h1 h2 hq⟩)
  · exact .inr (h H1 e _ fun H2 e2 => ⟨p, us, pairOf H, rfl, ex_t (e.trans e2) hp, hit (e.trans e2), fun ys q h1 h2 hq => fin ys q e2 h1 h2 hq⟩)
end
theorem putL {f : Str} {v : V} {fs : List (Str × V)} {n : Nat} (h : fs.length < n) : (putF f v fs).length < n + 1 := Nat.lt_of_le_of_lt (length_putF _ _ _) (Nat.succ_lt_succ h)
/-! ### __init__ -/
def CD.Fine (d : CD) : Prop := d.turn ≤ 200000 ∧ ∃ i : Nat, (i : Int) < d.turn ∧ d.work i = true
def CD.sorted (d : CD) (rs : List Int) (hs : List (Int × Int)) : CD := { d with rs := rs, hs := hs }
def Exa (a : Addr) (H H' : Hp) : Prop := ∀ b o, b ≠ a → H b = some o → H' b = some o
def spInit (K : PySem.W.Frag) (C CI : Addr) : Sp := fun vs H Q E => ∃ (a dx py pr ph : Addr) (d : CD) (xs us : List V), vs = [.ref a, .ref py, .int d.w, .int d.f, .ref pr, .ref ph] ∧ d.Ok ∧ H a = some (.ins C dx []) ∧ H py = some (.lst xs) ∧ RowsAt H xs d.ys ∧
  SqE K H pr (d.rs.map V.int) ∧ SqE K H ph us ∧ PrsAt H us d.hs ∧
  (d.Fine → ∀ H' rs hs, Exa a H H' → rs.Perm d.rs → rs.Pairwise (· ≤ ·) → hs.Perm d.hs → hs.Pairwise LeP → CalAt C H' a (d.sorted rs hs) → Q .non H') ∧
  (¬ d.Fine → ∀ e H' s, Exa a H H' → H' e = some (.xd [("word", .str s)]) → E (.ref CI) (some e) H')
theorem scInit : FnScope ["self", "years", "week", "first", "rest", "holidays", "year", "days"] ["self", "years", "week", "first", "rest", "holidays"] (defScope (cst 0)) := ⟨rfl, rfl, rfl, by decide +kernel, rfl, by decide +kernel, by decide +kernel⟩
theorem exa_of {a : Addr} {H H' : Hp} (e : Ex (hid a a H) (hid a a H')) : Exa a H H' := fun b o n h => hid_le _ _ (e _ _ (by rw [hid_at n n]; exact h))
theorem CD.Ok.sorted {d : CD} {rs : List Int} {hs : List (Int × Int)} (k : d.Ok) (h1 : rs.Perm d.rs) (h2 : hs.Perm d.hs) : (d.sorted rs hs).Ok where
  ys := k.ys
  w := k.w
  f := k.f
  rs := ⟨fun i hi => k.rs.1 i (h1.mem_iff.mp hi), h1.nodup_iff.mpr k.rs.2.1, by show rs.length ≤ 20; rw [h1.length_eq]; exact k.rs.2.2⟩
  hs := ⟨fun i hi => k.hs.1 i (h2.mem_iff.mp hi), h2.nodup_iff.mpr k.hs.2.1, by show hs.length < 64; rw [h2.length_eq]; exact k.hs.2.2⟩
theorem CD.work_sorted {d : CD} {rs : List Int} {hs : List (Int × Int)} (h1 : rs.Perm d.rs) (h2 : hs.Perm d.hs) (i : Int) : (d.sorted rs hs).work i = d.work i := by
  unfold CD.work
  have e1 : decide ((i + (d.sorted rs hs).f) % (d.sorted rs hs).w ∈ (d.sorted rs hs).rs) = decide ((i + d.f) % d.w ∈ d.rs) := decide_eq_decide.mpr h1.mem_iff
  have e2 : decide (((d.sorted rs hs).mon i, (d.sorted rs hs).day i) ∈ (d.sorted rs hs).hs) = decide ((d.mon i, d.day i) ∈ d.hs) := decide_eq_decide.mpr h2.mem_iff
  rw [e1, e2]
theorem dpI_nil {K : PySem.W.Frag} {H : Hp} {p : Addr} {l : List V} (h : SqL K H p l) (hl : ∀ x ∈ l, ∃ i : Int, x = .int i) : ∃ ns : List Int, l = ns.map V.int ∧ Dp K H (.ref p) (.list (ns.map .int)) := by
  have : ∃ ns : List Int, l = ns.map V.int := by
    clear h
    induction l with
    | nil => exact ⟨[], rfl⟩
    | cons x l ih =>
      obtain ⟨i, rfl⟩ := hl x List.mem_cons_self
      obtain ⟨ns, rfl⟩ := ih fun y hy => hl y (List.mem_cons_of_mem _ hy)
      exact ⟨i :: ns, rfl⟩
  obtain ⟨ns, rfl⟩ := this
  exact ⟨ns, rfl, .lst h (dpall_ints ns)⟩
section
variable {P : Program} {w : World} {K : PySem.W.Frag} {mg : Str → Option Value} {base : Heap} {f C CI : Addr} {fd : FuncData} {dvs : List V} {kws : List (Str × V)}
theorem okInit (F : FunD K "__init__" "Calendar.__init__" (defArgs (cst 0)) (defBody (cst 0)) (defScope (cst 0)) dvs kws f fd) (CC : CalK K C) (T : Txt mg) (R_InvalidCalendar : ErrC P w K mg base "InvalidCalendar" "word" CI) (C_are_years : CalN P w K mg base 3 "are_years" sp29) (C_is_between : CalN P w K mg base 2 "is_between" sp28)
    (C_are_weekdays : CalN P w K mg base 3 "are_weekdays" (sp30 K)) (C_are_holidays : CalN P w K mg base 3 "are_holidays" (sp31 K)) (C_month_starts : CalN P w K mg base 1 "month_starts" sp32) (C_common_multiple : CalN P w K mg base 2 "common_multiple" sp24)
    (P_period : PropP P w K mg base 1 C "period" (spPeriod C)) (M_first_works : C8.Met P w K mg base 5 C "first_works" (spWorks C) []) : FnOk P w K mg base (L2N.CX P w) 6 f fd ["self", "years", "week", "first", "rest", "holidays"] (spInit K C CI) := by
  refine F.ok scInit (fun vs H Q E h => ?_) (fun cdv A outer s H vs Q E hr h => ?_)
  · obtain ⟨a, dx, py, pr, ph, d, xs, us, rfl, _⟩ := h
    rfl
  · obtain ⟨a, dx, py, pr, ph, d, xs, us, rfl, ok, ha, hpy, hxs, hpr, hph, hus, kF, kE⟩ := h
    have nd := scInit.nd
    refine ⟨_, (pss_cons (ps_if (pt_not (pt_val (C8.pe_c (C_are_years) hr (by decide) (by rfl) (pa_cons (pv 1) pa_nil)))) (pss_one (ps_errN R_InvalidCalendar hr (by decide) rfl (L2N.takes_of rfl rfl rfl rfl) (by rfl) pe_str)) pss_nil)
    (pss_cons (ps_if (pt_not (pt_val (C8.pe_c (C_is_between) hr (by decide) (by rfl) (pa_cons (pv 2) (pa_cons pe_int (pa_cons (C8.pe_gc (by rfl) T.MAX_WEEK) pa_nil)))))) (pss_one (ps_errN R_InvalidCalendar hr (by decide) rfl (L2N.takes_of rfl rfl rfl rfl) (by rfl) pe_str)) pss_nil)
    (pss_cons (ps_if (pt_not (pt_val (C8.pe_c (C_is_between) hr (by decide) (by rfl) (pa_cons (pv 3) (pa_cons pe_int (pa_cons (pe_op op_sub (pv 2) pe_int) pa_nil)))))) (pss_one (ps_errN R_InvalidCalendar hr (by decide) rfl (L2N.takes_of rfl rfl rfl rfl) (by rfl) pe_str)) pss_nil)
    (pss_cons (ps_if (pt_not (pt_val (C8.pe_c (C_are_weekdays) hr (by decide) (by rfl) (pa_cons (pv 4) (pa_cons (pv 2) pa_nil))))) (pss_one (ps_errN R_InvalidCalendar hr (by decide) rfl (L2N.takes_of rfl rfl rfl rfl) (by rfl) pe_str)) pss_nil)
    (pss_cons (ps_if (pt_not (pt_val (C8.pe_c (C_are_holidays) hr (by decide) (by rfl) (pa_cons (pv 5) (pa_cons (pe_callB call_len_seq (by rfl) T.len (by decide +kernel) (pa_cons (pe_ix ix_list (pv 1) pe_int (fun _ _ => rfl)) pa_nil)) pa_nil))))) (pss_one (ps_errN R_InvalidCalendar hr (by decide) rfl (L2N.takes_of rfl rfl rfl rfl) (by rfl) pe_str)) pss_nil)
    (pss_cons (ps_fld (pv 0) (pe_callTy call_tuple_of (by rfl) T.tuple (by decide +kernel) (pa_cons (pe_lc (own := [("year", 6)]) (g := gName 6) rfl nd (pi_list (pv 1)) (blkOk_by (own := [("year", 6)]) (N := ["self", "years", "week", "first", "rest", "holidays", "year", "days"]) (sc := (defScope (cst 0))) (by decide +kernel)) (fun _ _ _ _ _ => (pg_name (i := 6) nd rfl (Or.inl rfl))) (fun _ _ _ _ _ => pts_nil) (fun _ _ _ _ _ => (pe_callTy (r := rTupOf K) call_tuple_of (by rfl) T.tuple (by decide +kernel) (pa_cons (pv 6) pa_nil)))) pa_nil)) rfl)
    (pss_cons (ps_asg (pe_tup (pa_cons (pv 2) (pa_cons (pv 3) pa_nil))) (pg_tup rfl (pgs_cons (pg_fld (pv 0)) (pgs_cons (pg_fld (pv 0)) pgs_nil))))
    (pss_cons (ps_asg (pe_tup (pa_cons (pe_callTy call_tuple_of (by rfl) T.tuple (by decide +kernel) (pa_cons (pe_alt (pe_callB cr_sortedI (by rfl) T.sorted (by decide +kernel) (pa_cons (pv 4) pa_nil)) (pe_callB cr_sortedTI (by rfl) T.sorted (by decide +kernel) (pa_cons (pv 4) pa_nil))) pa_nil)) (pa_cons (pe_callTy call_tuple_of (by rfl) T.tuple (by decide +kernel) (pa_cons (pe_alt (pe_callB cr_sortedPO (by rfl) T.sorted (by decide +kernel) (pa_cons (pv 5) pa_nil)) (pe_callB cr_sortedTP (by rfl) T.sorted (by decide +kernel) (pa_cons (pv 5) pa_nil))) pa_nil)) pa_nil))) (pg_tup rfl (pgs_cons (pg_fld (pv 0)) (pgs_cons (pg_fld (pv 0)) pgs_nil))))
    (pss_cons (ps_fld (pv 0) (pe_lc2 (own := [("year", 6), ("days", 7)]) (vs1 := [7]) (g := gName 6) (g1 := gName 7) rfl nd (pi_list (pv 1)) (blkOk_by (own := [("year", 6), ("days", 7)]) (N := ["self", "years", "week", "first", "rest", "holidays", "year", "days"]) (sc := (defScope (cst 0))) (by decide +kernel)) (by decide) (fun _ _ _ _ _ => (pg_name (i := 6) nd rfl (Or.inl rfl))) (fun _ _ _ _ _ => pts_nil) (fun _ _ _ _ _ => (pi_list (pv 6) : PI _ _ _ (iList K _))) (fun _ _ _ _ _ => (pg_name (i := 7) nd rfl (Or.inl rfl))) (fun _ _ _ _ _ => pts_nil) (fun _ _ _ _ _ => (pv 7))) rfl)
    (pss_cons (ps_fld (pv 0) (C8.pe_c (C_month_starts) hr (by decide) (by rfl) (pa_cons (pe_fld (pv 0) rfl) pa_nil)) rfl)
    (pss_cons (ps_fld (pv 0) (C8.pe_c (C_common_multiple) hr (by decide) (by rfl) (pa_cons (pe_ix ix_list (pe_fld (pv 0) rfl) (pe_un un_neg pe_int) (fun _ _ => rfl)) (pa_cons (pv 2) pa_nil))) rfl)
    (pss_cons (ps_if (pt_cmpR op_gt (pe_pr CC.cls (P_period) hr (by decide) (pv 0) rfl) (C8.pe_gc (by rfl) T.MAX_PERIOD) (nomark _)) (pss_one (ps_errN R_InvalidCalendar hr (by decide) rfl (L2N.takes_of rfl rfl rfl rfl) (by rfl) pe_str)) pss_nil)
    (pss_cons (ps_fld (pv 0) (C8.pe_mt0 (M_first_works) hr (by decide) (pv 0)) rfl)
    (pss_one (ps_if (pt_cmpR (op_eqD hr.units) (pe_fld (pv 0) rfl) (pe_lst pa_nil) (nomark _)) (pss_one (ps_errN R_InvalidCalendar hr (by decide) rfl (L2N.takes_of rfl rfl rfl rfl) (by rfl) pe_str)) pss_nil))))))))))))))), ?_⟩
    have TO := R_InvalidCalendar.oex
    have TN := R_InvalidCalendar.nof
    have hw := ok.w
    have hf := ok.f
    obtain ⟨y0, yr, hy⟩ : ∃ y0 yr, d.ys = y0 :: yr := by
      have := ok.ys.ne
      cases e : d.ys with
      | nil => rw [e] at this; exact absurd this.1 (by decide)
      | cons a r => exact ⟨a, r, rfl⟩
    obtain ⟨x0, hx0, t0, rfl, ht0⟩ := paired_get2 (i := 0) (y := y0) hxs (by rw [hy]; rfl)
    have hy0 : y0.length = d.m := ok.ys.len y0 (by rw [hy]; exact List.mem_cons_self)
    -- what is refused of the arguments: nothing
    refine q_when (b := false) (et_is (et_not (et_test (ev_sp (z := .bl true) (ea_cons (ev_var rfl) ea_nil) fun H1 e1 => ⟨_, ⟨py, xs, d.ys, d.m, rfl, e1 _ _ hpy, hxs.fwd e1, ok.ys, rfl⟩, fun v H2 _ r => r⟩))) rfl) (fun h => by cases h) fun _ H1 e1 => ?_
    refine q_when (b := false) (et_is (et_not (et_test (ev_btw (ev_var rfl) ev_c ev_c))) (by simp; omega)) (fun h => by cases h) fun _ H2 e2 => ?_
    refine q_when (b := false) (et_is (et_not (et_test (ev_btw (ev_var rfl) ev_c (ev_op (ev_var rfl) ev_c rv_I0)))) (by simp; omega)) (fun h => by cases h) fun _ H3 e3 => ?_
    have e03 := e1.trans (e2.trans e3)
    refine q_when (b := false) (et_is (et_not (et_test (ev_sp (z := .bl true) (ea_cons (ev_var rfl) (ea_cons (ev_var rfl) ea_nil)) fun H4 e4 => ⟨_, ⟨pr, d.rs, d.w, rfl, (hpr.fwd e03).fwd e4, ok.rs.1, ok.rs.2.1, by have := ok.rs.2.2; omega, rfl⟩, fun v H2 _ r => r⟩))) rfl) (fun h => by cases h) fun _ H4 e4 => ?_
    have e04 := e03.trans e4
    refine q_when (b := false) (et_is (et_not (et_test (ev_sp (z := .bl true) (ea_cons (ev_var rfl) (ea_cons (ev_is (ev_lenE (ev_op (ev_var rfl) ev_c (rv_ixL (sq_of (e04 _ _ hpy)) (atI_nat (j := 0) hx0))) (.inl (sq_of (e04 _ _ ht0)))) (show _ = V.int (d.m : Int) by rw [List.length_map, hy0])) ea_nil))
      fun H5 e5 => ⟨_, ⟨ph, us, d.hs, d.m, rfl, (hph.fwd e04).fwd e5, (hus.fwd e04).fwd e5, ok.hs.1, ok.hs.2.1, ok.hs.2.2, rfl⟩, fun v H2 _ r => r⟩))) rfl) (fun h => by cases h) fun _ H5 e5 => ?_
    have e05 := e04.trans e5
    -- everything but the calendar itself stands still
    have ha5 := e05 _ _ ha
    have G0 : Ex (hid a a H) (hid a a H5) := hid_ex e05
    have npy : py ≠ a := fun z => by rw [z, ha] at hpy; cases hpy
    have gpy : hid a a H py = some (.lst xs) := by rw [hid_at npy npy]; exact hpy
    have gxs : RowsAt (hid a a H) xs d.ys := Paired.mapP hxs fun _ _ r => r.hide ha
    have gpr := hpr.hide ha
    have gph := hph.hide ha
    have gus : PrsAt (hid a a H) us d.hs := Paired.mapP hus fun _ _ r => r.hide ha
    have self : ∀ {H' : Hp}, Ev (tVar 0) [some (.ref a), some (.ref py), some (.int d.w), some (.int d.f), some (.ref pr), some (.ref ph), none, none] H' (.ref a) := ev_var rfl
    -- all_years
    have sz : xs.length ≤ sizeLine := by rw [Paired.length hxs]; exact sz_of (by have := ok.ys.ne; omega)
    refine q_fldP (ep_tupP (T := fun ys H2 => TusAt H2 ys d.ys) (ep_lcTuples d.ys (ev_var rfl) (sq_of (hid_le _ _ (G0 _ _ gpy))) (gxs.fwd (G0.trans hid_le)) sz (fun _ => by rfl) (fun _ => by rfl)) (fun v H2 ⟨p, ys, h1, h2, h3, h4⟩ => ⟨p, ys, h1, h3, h4.fwd hid_le⟩) (fun ys H1 H2 h e => h.fwd e)) self ha5 CC.cls CC.all_years (by decide) (fun v H6 e6 r ha6 => ?_)
      (fun v H1 H2 ⟨t, ys, h1, h2, h3, h4⟩ e => ⟨t, ys, h1, h2, e _ _ h3, h4.fwd e⟩)
    obtain ⟨ty, ys, rfl, _, hty, hys⟩ := r
    have G6 : Ex (hid a a H) (hid a a H6) := G0.trans (hid_ex e6)
    have gty := hide_at hty ha6 (fun _ _ _ z => by cases z)
    have gys : TusAt (hid a a H6) ys d.ys := Paired.mapP hys fun _ _ r => r.hide ha6
    have G6' : ∀ o, Ex (hid a a H) (hid a a (upd H6 a o)) := fun o => by rw [hid_up1]; exact G6
    -- days_of_week, begins
    refine q_asgF2 (R := fun v _ => v = .int d.w) (R' := fun v _ => v = .int d.f) (ep_tup2 (ep_ev (ev_var rfl)) (fun H1 _ => ep_ev (ev_var rfl)) (fun _ _ _ h _ => h) (fun _ _ _ h _ => h)) rfl upd_same CC.cls CC.days_of_week CC.begins (Nat.lt_of_lt_of_le (putL Nat.one_pos) (by decide)) fun x y H7 e7 hx hy ha7 => ?_
    subst hx hy
    have G7 : Ex (hid a a H) (hid a a H7) := (G6' _).trans (hid_ex e7)
    have G67 : Ex (hid a a H6) (hid a a H7) := by
      have z := hid_ex (a := a) (b := a) e7
      rw [hid_up1] at z
      exact z
    have G7' : ∀ o, Ex (hid a a H) (hid a a (upd H7 a o)) := fun o => by rw [hid_up1]; exact G7
    -- rests, free_days
    refine q_asgF2 (R := fun v H2 => ∃ t ys, v = .ref t ∧ H2 t = some (.tup ys) ∧ ∃ ms : List Int, ys = ms.map V.int ∧ ms.Perm d.rs ∧ ms.Pairwise (· ≤ ·)) (R' := fun v H2 => ∃ t ys, v = .ref t ∧ H2 t = some (.tup ys) ∧ ∃ hs', PrsAt H2 ys hs' ∧ hs'.Perm d.hs ∧ hs'.Pairwise LeP)
      (ep_tup2 (EvP.imp (ep_tupP (T := fun ys _ => ∃ ms : List Int, ys = ms.map V.int ∧ ms.Perm d.rs ∧ ms.Pairwise (· ≤ ·)) (ep_sortI (ns := d.rs) (ev_var rfl) ((gpr.fwd (G7' _)).fwd hid_le)) (fun v H2 ⟨p, ys, h1, h2, h3, h4⟩ => ⟨p, ys, h1, h3, h4⟩) (fun _ _ _ h _ => h)) fun v H1 _ ⟨t, ys, h1, h2, h3, h4⟩ => ⟨t, ys, h1, h3, h4⟩)
        (fun H1 e1 => EvP.imp (ep_tupP (T := fun ys H2 => ∃ hs', PrsAt H2 ys hs' ∧ hs'.Perm d.hs ∧ hs'.Pairwise LeP) (ep_sortP (hs := d.hs) (ev_var rfl) (((gph.fwd (G7' _)).fwd hid_le).fwd e1) (((gus.fwd (G7' _)).fwd hid_le).fwd e1)) (fun v H2 ⟨p, ys, h1, h2, h3⟩ => ⟨p, ys, h1, h2, h3⟩) (fun _ _ _ ⟨hs', h1, h2⟩ e => ⟨hs', h1.fwd e, h2⟩)) fun v H1 _ ⟨t, ys, h1, h2, h3, h4⟩ => ⟨t, ys, h1, h3, h4⟩)
        (fun v H1 H2 ⟨t, ys, h1, h2, h3⟩ e => ⟨t, ys, h1, e _ _ h2, h3⟩) (fun v H1 H2 ⟨t, ys, h1, h2, hs', h3, h4⟩ e => ⟨t, ys, h1, e _ _ h2, hs', h3.fwd e, h4⟩)) rfl upd_same CC.cls CC.rests CC.free_days (Nat.lt_of_lt_of_le (putL (putL (putL Nat.one_pos))) (by decide)) fun x y H8 e8 hx hy ha8 => ?_
    obtain ⟨tr, ys8, rfl, htr, rs, rfl, hrs, hrs2⟩ := hx
    obtain ⟨th, us8, rfl, hth, hs, hus8, hhs, hhs2⟩ := hy
    have G78 : Ex (hid a a H7) (hid a a H8) := by
      have z := hid_ex (a := a) (b := a) e8
      rw [hid_up1] at z
      exact z
    have gtr := hide_at htr ha8 (fun _ _ _ z => by cases z)
    have gth := hide_at hth ha8 (fun _ _ _ z => by cases z)
    have gus8 : PrsAt (hid a a H8) us8 hs := Paired.mapP hus8 fun _ _ r => r.hide ha8
    have G8 := G7.trans G78
    have G8' : ∀ o, Ex (hid a a H) (hid a a (upd H8 a o)) := fun o => by rw [hid_up1]; exact G8
    -- lengths
    refine q_fldP (ep_l (el_lc2 (rs := d.ys) V.int (ev_var rfl) (sq_of (hid_le _ _ (G8' _ _ _ gpy))) ((gxs.fwd (G8' _)).fwd hid_le) (Nat.lt_of_le_of_lt (flat_len ok.ys) (by decide)) (fun _ => by rfl) (fun _ => ⟨by rfl, by rfl⟩) (fun _ _ => by rfl) fun x r e H3 e3 hr he => ev_var rfl)) self upd_same CC.cls CC.lengths (Nat.lt_of_lt_of_le (putL (putL (putL (putL (putL Nat.one_pos))))) (by decide)) (fun v H9 e9 r ha9 => ?_)
      (fun v H1 H2 ⟨t, h1, h2, h3⟩ e => ⟨t, h1, h2, e _ _ h3⟩)
    obtain ⟨tl, rfl, _, htl⟩ := r
    have hlens : (d.ys.flatMap fun r => r.map V.int) = d.lens.map V.int := by
      unfold CD.lens
      rw [List.map_flatMap]
      congr 1
      funext r
      rw [List.map_id]
    rw [hlens] at htl
    have G89 : Ex (hid a a H8) (hid a a H9) := by
      have z := hid_ex (a := a) (b := a) e9
      rw [hid_up1] at z
      exact z
    have gtl := hide_at htl ha9 (fun _ _ _ z => by cases z)
    have G9 := G8.trans G89
    have hn := ok.n2
    have ht := ok.total
    -- starts
    refine q_fldP (R := fun v H2 => ∃ t, v = .ref t ∧ H2 t = some (.lst ((startsP d.lens).map V.int))) (ep_sp (ea_cons (ev_fld self upd_same CC.cls CC.lengths (by rw [lookup_putF]; exact if_pos rfl)) ea_nil) fun H1 e1 => ⟨_, ⟨tl, d.lens, rfl, e1 _ _ (by rw [upd_ne (fun z => by rw [z, ha9] at htl; cases htl)]; exact htl), by omega, rfl⟩, fun v H2 _ ⟨t, h1, h2, h3⟩ => ⟨t, h1, h3⟩⟩) self upd_same CC.cls CC.starts (Nat.lt_of_lt_of_le (putL (putL (putL (putL (putL (putL Nat.one_pos)))))) (by decide)) (fun v HA eA r haA => ?_)
      (fun v H1 H2 ⟨t, h1, h2⟩ e => ⟨t, h1, e _ _ h2⟩)
    obtain ⟨ts, rfl, hts⟩ := r
    have G9A : Ex (hid a a H9) (hid a a HA) := by
      have z := hid_ex (a := a) (b := a) eA
      rw [hid_up1] at z
      exact z
    have gts := hide_at hts haA (fun _ _ _ z => by cases z)
    -- turn
    refine q_fldP (R := fun v _ => v = .int d.turn) (ep_ev (ev_sp (z := .int d.turn) (ea_cons (ev_op (ev_fld self upd_same CC.cls CC.starts (by rw [lookup_putF]; exact if_pos rfl)) (ev_un ev_c ru_neg) (rv_ixL (sq_of ((upd_ne (fun z => by rw [z, haA] at hts; cases hts)).trans hts)) (starts_last d.lens))) (ea_cons (ev_var rfl) ea_nil))
      fun H1 e1 => ⟨_, ⟨d.total, d.w, rfl, by omega, by omega, by omega, by omega, rfl⟩, fun v H2 _ r => r⟩)) self upd_same CC.cls CC.turn (Nat.lt_of_lt_of_le (putL (putL (putL (putL (putL (putL (putL Nat.one_pos))))))) (by decide)) (fun v HB eB hv haB => ?_) (fun _ _ _ h _ => h)
    subst hv
    have GAB : Ex (hid a a HA) (hid a a HB) := by
      have z := hid_ex (a := a) (b := a) eB
      rw [hid_up1] at z
      exact z
    have G6B := G67.trans (G78.trans (G89.trans (G9A.trans GAB)))
    have G8B := G89.trans (G9A.trans GAB)
    have G9B := G9A.trans GAB
    have GB := G9.trans G9B
    have ok' : (d.sorted rs hs).Ok := ok.sorted hrs hhs
    have hold : Hold (hid a a HB) (d.sorted rs hs) ty tr th tl ts ys us8 := ⟨G6B _ _ gty, gys.fwd G6B, G8B _ _ gtr, G8B _ _ gth, gus8.fwd G8B, G9B _ _ gtl, GAB _ _ gts⟩
    generalize hfs : putF (Str.ofString "turn") (V.int d.turn) _ = fs8
    have hlen8 : fs8.length < 9 := by
      rw [← hfs]
      exact putL (putL (putL (putL (putL (putL (putL (putL Nat.one_pos)))))))
    have fl : Flds fs8 (d.sorted rs hs) ty tr th tl ts := by
      subst hfs
      refine ⟨?_, ?_, ?_, ?_, ?_, ?_, ?_, ?_, fun m hm => ?_⟩
      all_goals try (repeat (first | rw [lookup_putF, if_pos rfl] | rw [lookup_putF, if_neg (by decide)]))
      all_goals try rfl
      have key : ∀ g ∈ (["turn", "starts", "lengths", "free_days", "rests", "begins", "days_of_week", "all_years"] : List Str), ∀ m ∈ (["weekday", "is_work", "parts", "month_number", "month_start", "first_works", "facts"] : List Str), m ≠ g := by decide
      repeat rw [lookup_putF, if_neg (key _ (by simp) m hm)]
      rfl
    have cal : ∀ {H' : Hp} {fs : List (Str × V)}, Ex (hid a a HB) (hid a a H') → H' a = some (.ins C dx fs) → Flds fs (d.sorted rs hs) ty tr th tl ts → CalAt C H' a (d.sorted rs hs) := fun e h f => ⟨dx, _, ty, tr, th, tl, ts, ys, us8, h, f, hold.fwd (e.trans hid_le)⟩
    have GBu : ∀ o, Ex (hid a a HB) (hid a a (upd HB a o)) := fun o => by rw [hid_up1]; exact Ex.refl _
    refine q_when (b := decide (200000 < d.turn)) (et_test (ev_op (ev_prop self upd_same fun H1 e1 => ⟨_, ⟨a, _, [], rfl, ok', (cal (GBu _) upd_same fl).fwd e1, rfl, rfl⟩, fun v H2 _ r => r⟩) ev_c rv_I0)) (fun hb HC eC => ?_) (fun hb HC eC => ?_)
    · have hnf : ¬ d.Fine := fun h => by
        have := of_decide_eq_true hb
        have := h.1
        omega
      refine s_err TO TN ev_c fun e HD eD hD => kE hnf e HD _ (exa_of (GB.trans ((GBu _).trans (hid_ex (eC.trans eD))))) hD
    · have hT : d.turn ≤ 200000 := by
        have := of_decide_eq_false hb
        omega
      have GC : Ex (hid a a HB) (hid a a HC) := (GBu _).trans (hid_ex eC)
      refine q_fldP (R := fun v H2 => ∃ (t : Addr) (l : List V), v = .ref t ∧ H2 t = some (.lst l) ∧ (∀ x ∈ l, ∃ i : Int, x = .int i) ∧ (l = [] ↔ ∀ i : Nat, (i : Int) < d.turn → d.work i = false)) (ep_meth (vs := []) self (eC _ _ upd_same) (fl.no _ (by decide)) ea_nil
        fun H1 e1 => ⟨_, ⟨a, _, [], rfl, ok', (cal GC (eC _ _ upd_same) fl).fwd e1, rfl, hT, rfl⟩, fun v H2 _ ⟨t, l, h1, h2, h3, h4, h5, h6⟩ => ⟨t, l, h1, h3, h5, by rw [h6]; simp only [CD.work_sorted hrs hhs]; rfl⟩⟩) self (eC _ _ upd_same) CC.cls CC.works (Nat.lt_of_lt_of_le hlen8 (by decide)) (fun v HD eD hv haD => ?_) (fun v H1 H2 ⟨t, l, h1, h2, h3, h4⟩ e => ⟨t, l, h1, e _ _ h2, h3, h4⟩)
      obtain ⟨tw, l, rfl, htw, hl, hlw⟩ := hv
      have GD : Ex (hid a a HB) (hid a a HD) := GC.trans (hid_ex eD)
      have ntw : tw ≠ a := fun z => by rw [z, haD] at htw; cases htw
      have fl9 : Flds (putF "works" (.ref tw) fs8) (d.sorted rs hs) ty tr th tl ts := by
        have key : ∀ m ∈ (["weekday", "is_work", "parts", "month_number", "month_start", "first_works", "facts"] : List Str), m ≠ Str.ofString "works" := by decide
        have lk : ∀ {g : Str} {v : V}, g ≠ Str.ofString "works" → fs8.lookup g = some v → (putF (Str.ofString "works") (.ref tw) fs8).lookup g = some v := fun h1 h2 => by
          rw [lookup_putF, if_neg h1]
          exact h2
        exact ⟨lk (by decide) fl.all_years, lk (by decide) fl.days_of_week, lk (by decide) fl.begins, lk (by decide) fl.rests, lk (by decide) fl.free_days, lk (by decide) fl.lengths, lk (by decide) fl.starts, lk (by decide) fl.turn, fun m hm => by
          rw [lookup_putF, if_neg (key m hm)]
          exact fl.no m hm⟩
      obtain ⟨ns, rfl, _⟩ := dpI_nil (K := K) (sq_of htw) hl
      have hemp : (ns.map PyData.int).isEmpty = true ↔ (∀ i : Nat, (i : Int) < d.turn → d.work i = false) := by
        rw [← hlw]
        cases ns <;> simp
      refine s_when (b := (ns.map PyData.int).isEmpty) (et_test (ev_eqNil (n := 1) (ev_fld self upd_same CC.cls CC.works (by rw [lookup_putF]; exact if_pos rfl)) (fun H1 e1 => .lst (sq_of (e1 _ _ ((upd_ne ntw).trans htw))) (dpall_ints ns)) (pl_dL ns) (by decide))) (fun hb2 HE eE => ?_) (fun hb2 HE eE => ?_)
      · rw [hemp] at hb2
        have hnf : ¬ d.Fine := fun ⟨_, i, h1, h2⟩ => by
          rw [hb2 i h1] at h2
          cases h2
        refine s_err TO TN ev_c fun e HF eF hF => kE hnf e HF _ (exa_of (GB.trans ?_)) hF
        have z := hid_ex (a := a) (b := a) (eE.trans eF)
        rw [hid_up1] at z
        exact GD.trans z
      · rw [← Bool.not_eq_true, hemp] at hb2
        have hfine : d.Fine := ⟨hT, by
          refine Classical.byContradiction fun h => hb2 fun i h1 => ?_
          cases h3 : d.work i with
          | false => rfl
          | true => exact absurd ⟨i, h1, h3⟩ h⟩
        have z := hid_ex (a := a) (b := a) eE
        rw [hid_up1] at z
        exact kF hfine HE rs hs (exa_of (GB.trans (GD.trans z))) hrs hrs2 hhs hhs2 (cal (GD.trans z) (eE _ _ upd_same) fl9)
end
end K9
end
section
set_option Elab.async false
set_option linter.all false
set_option maxRecDepth 100000
set_option maxHeartbeats 4000000
namespace K9
open PySem PySem.Spec PyProof.Rows L2 Evl
/-! ### what is read is written again -/
theorem line_back (z : Str) : Txt.join sep1 (wordsOf z) = z := by
  rw [TL.join_eq]
  exact StrLaws.join_split z sep1
theorem text_back (z : Str) : Txt.join nl (linesOf z) = z := by
  rw [TL.join_eq]
  exact StrLaws.join_split z nl
theorem numbersP_some {line wd : Str} {lo hi : Int} {l : List Int} (h : numbersP line wd lo hi = some l) : line = numLine wd l ∧ (∀ i ∈ l, lo ≤ i ∧ i ≤ hi ∧ 0 ≤ i ∧ i < 10 ^ 12) := by
  unfold numbersP at h
  cases hw : wordsOf line with
  | nil => rw [hw] at h; cases h
  | cons a ws =>
    rw [hw] at h
    have h1 : (if a = wd then nums lo hi ws else none) = some l := h
    split at h1
    · rename_i ha
      obtain ⟨e1, e2⟩ := nums_some h1
      refine ⟨?_, e2⟩
      unfold numLine
      rw [← e1, ← ha, ← hw, line_back]
    · cases h1
theorem str_ext {a b : Str} (h : TL.tl a = TL.tl b) : a = b := by
  rw [← TL.mk_tl a, ← TL.mk_tl b, h]
theorem tl_app (a b : Str) : TL.tl (a ++ b) = TL.tl a ++ TL.tl b := by
  show (a.cps ++ b.cps).toList = a.cps.toList ++ b.cps.toList
  exact Array.toList_append
theorem join4 (a b c d : Str) : Txt.join sep1 [a, b, c, d] = (((a ++ (sep1 ++ b)) ++ (sep1 ++ c)) ++ (sep1 ++ d)) := by
  refine str_ext ?_
  rw [TL.join_eq, TL.tl_join]
  simp [TL.joinL, tl_app]
theorem join3 (a b c : Str) : Txt.join sep1 [a, b, c] = ((a ++ (sep1 ++ b)) ++ (sep1 ++ c)) := by
  refine str_ext ?_
  rw [TL.join_eq, TL.tl_join]
  simp [TL.joinL, tl_app]
theorem head_back (k j : Int) : Txt.join sep1 [Str.ofString "week", numS k, Str.ofString "first", numS j] = headLine k j := by
  rw [join4]
  refine str_ext ?_
  unfold headLine
  simp only [tl_app]
  have e1 : TL.tl (Str.ofString "week ") = TL.tl (Str.ofString "week") ++ TL.tl sep1 := by decide +kernel
  have e2 : TL.tl (Str.ofString " first ") = TL.tl sep1 ++ (TL.tl (Str.ofString "first") ++ TL.tl sep1) := by decide +kernel
  have e3 : TL.tl Str.empty = [] := by decide +kernel
  rw [e1, e2, e3]
  simp
theorem hol_back (m d : Int) : numLine (Str.ofString "holiday") [m, d] = holLine (m, d) := by
  show Txt.join sep1 [Str.ofString "holiday", numS m, numS d] = _
  rw [join3]
  refine str_ext ?_
  unfold holLine
  simp only [tl_app]
  have e1 : TL.tl (Str.ofString "holiday ") = TL.tl (Str.ofString "holiday") ++ TL.tl sep1 := by decide +kernel
  have e2 : TL.tl (Str.ofString " ") = TL.tl sep1 := by decide +kernel
  have e3 : TL.tl Str.empty = [] := by decide +kernel
  rw [e1, e2, e3]
  simp
theorem weekP_some {line : Str} {k j : Int} (h : weekP line = some (k, j)) : (1 ≤ k ∧ k ≤ 10) ∧ (0 ≤ j ∧ j < k) ∧ line = headLine k j := by
  unfold weekP at h
  split at h
  · rename_i a x b y hw
    split at h
    · rename_i hab
      obtain ⟨rfl, rfl⟩ := hab
      cases hx : bnd 1 10 x with
      | none => rw [hx] at h; cases h
      | some k' =>
        rw [hx] at h
        have h1 : (bnd 0 (k' - 1) y).map (fun j => (k', j)) = some (k, j) := h
        cases hy : bnd 0 (k' - 1) y with
        | none => rw [hy] at h1; cases h1
        | some j' =>
          rw [hy] at h1
          cases h1
          obtain ⟨n, e1, e2, e3, e4, e5⟩ := bnd_some hx
          obtain ⟨n', f1, f2, f3, f4, f5⟩ := bnd_some hy
          refine ⟨⟨e4, e5⟩, ⟨f4, by omega⟩, ?_⟩
          rw [← head_back, ← bnd_num hx, ← bnd_num hy, ← hw, line_back]
    · cases h
  · cases h
theorem asc_pw {l : List Int} (h : ascB l = true) : l.Pairwise (· < ·) := by
  have key : ∀ i, i + 1 < l.length → l.getD i 0 < l.getD (i + 1) 0 := fun i hi => by
    unfold ascB at h
    rw [List.all_eq_true] at h
    exact of_decide_eq_true (h i (List.mem_range.mpr (by omega)))
  clear h
  induction l with
  | nil => exact .nil
  | cons a r ih =>
    have hr : r.Pairwise (· < ·) := ih fun i hi => key (i + 1) (by simpa using hi)
    refine List.pairwise_cons.mpr ⟨fun b hb => ?_, hr⟩
    cases r with
    | nil => cases hb
    | cons c s =>
      have h0 : a < c := key 0 (by simp)
      rcases List.mem_cons.mp hb with rfl | hb
      · exact h0
      · exact Int.lt_trans h0 ((List.pairwise_cons.mp hr).1 b hb)
theorem restP_some {line : Str} {w : Int} {l : List Int} (h : restP line w = some l) : line = numLine (Str.ofString "rest") l ∧ (∀ i ∈ l, 0 ≤ i ∧ i < w) ∧ l.Pairwise (· < ·) := by
  unfold restP at h
  cases hn : numbersP line (Str.ofString "rest") 0 (w - 1) with
  | none => rw [hn] at h; cases h
  | some l' =>
    rw [hn] at h
    have h1 : (if ascB l' = true then some l' else none) = some l := h
    split at h1
    · rename_i ha
      cases h1
      obtain ⟨e1, e2⟩ := numbersP_some hn
      exact ⟨e1, fun i hi => ⟨(e2 i hi).1, by have := (e2 i hi).2.1; omega⟩, asc_pw ha⟩
    · cases h1
theorem holP_some {line : Str} {hs : List (Int × Int)} {p : Int × Int} (h : holP line hs = some p) : line = holLine p ∧ (1 ≤ p.1 ∧ p.1 ≤ 14) ∧ (1 ≤ p.2 ∧ p.2 ≤ 40) ∧ ∀ q, hs.getLast? = some q → ltP q p = true := by
  unfold holP at h
  split at h
  · rename_i m d hn
    split at h
    · rename_i hc
      cases h
      obtain ⟨e1, e2⟩ := numbersP_some hn
      have h1 := e2 m (by simp)
      have h2 := e2 d (by simp)
      exact ⟨by rw [e1, hol_back], ⟨h1.1, hc.1⟩, ⟨h2.1, h2.2.1⟩, hc.2⟩
    · cases h
  · cases h
theorem yearP_some {line : Str} {ys : List (List Int)} {hs : List (Int × Int)} {y : List Int} (h : yearP line ys hs = some y) : line = numLine (Str.ofString "year") y ∧ (∀ i ∈ y, 1 ≤ i ∧ i ≤ 40) ∧ (1 ≤ y.length ∧ y.length ≤ 14) ∧ ys.length ≠ 400 ∧ (∀ y', ys.head? = some y' → y'.length = y.length) ∧
    ∀ q, hs.getLast? = some q → q.1 ≤ (y.length : Int) := by
  unfold yearP at h
  split at h
  · rename_i l hn
    split at h
    · rename_i hc
      cases h
      obtain ⟨e1, e2⟩ := numbersP_some hn
      exact ⟨e1, fun i hi => ⟨(e2 i hi).1, (e2 i hi).2.1⟩, hc.1, hc.2.1, hc.2.2.1, hc.2.2.2⟩
    · cases h
  · cases h
/-! ### the lines behind the second -/
structure LOk (ys : List (List Int)) (hs : List (Int × Int)) : Prop where
  ho : hs.Pairwise (fun p q => ltP p q = true)
  hb : ∀ p ∈ hs, (1 ≤ p.1 ∧ p.1 ≤ 14) ∧ 1 ≤ p.2 ∧ p.2 ≤ 40
  yo : ∀ y ∈ ys, (∀ i ∈ y, 1 ≤ i ∧ i ≤ 40) ∧ (1 ≤ y.length ∧ y.length ≤ 14) ∧ (∀ y', ys.head? = some y' → y'.length = y.length) ∧ ∀ q ∈ hs, q.1 ≤ (y.length : Int)
  n : ys.length ≤ 400
theorem ltP_trans {p q r : Int × Int} (h1 : ltP p q = true) (h2 : ltP q r = true) : ltP p r = true := by
  rw [ltP_lex] at *
  omega
theorem pw_snoc {α : Type} {R : α → α → Prop} {l : List α} {x : α} (tr : ∀ {a b c}, R a b → R b c → R a c) (h : l.Pairwise R) (hl : ∀ q, l.getLast? = some q → R q x) : (l ++ [x]).Pairwise R := by
  refine List.pairwise_append.mpr ⟨h, List.pairwise_singleton _ _, fun a ha b hb => ?_⟩
  rw [List.mem_singleton.mp hb]
  cases e : l.getLast? with
  | none =>
    rw [List.getLast?_eq_none_iff.mp e] at ha
    cases ha
  | some q =>
    obtain ⟨ys, rfl⟩ := List.getLast?_eq_some_iff.mp e
    rcases List.mem_append.mp ha with ha | ha
    · exact tr ((List.pairwise_append.mp h).2.2 a ha q (by simp)) (hl q e)
    · rw [List.mem_singleton.mp ha]
      exact hl q e
theorem le_last {hs : List (Int × Int)} {b : Int} (h : hs.Pairwise (fun p q => ltP p q = true)) (hl : ∀ q, hs.getLast? = some q → q.1 ≤ b) : ∀ q ∈ hs, q.1 ≤ b := fun q hq => by
  cases e : hs.getLast? with
  | none =>
    rw [List.getLast?_eq_none_iff.mp e] at hq
    cases hq
  | some r =>
    obtain ⟨ys, rfl⟩ := List.getLast?_eq_some_iff.mp e
    rcases List.mem_append.mp hq with hq | hq
    · have h1 := (List.pairwise_append.mp h).2.2 q hq r (by simp)
      rw [ltP_lex] at h1
      have := hl r e
      omega
    · rw [List.mem_singleton.mp hq]
      exact hl r e
theorem readL_some : ∀ {ls : List Str} {i : Nat} {ys ys' : List (List Int)} {hs hs' : List (Int × Int)}, readL i ls ys hs = .ok (ys', hs') → LOk ys hs → LOk ys' hs' ∧
    hs.map holLine ++ ys.map (numLine (Str.ofString "year")) ++ ls = hs'.map holLine ++ ys'.map (numLine (Str.ofString "year")) ∧ hs'.length ≤ hs.length + ls.length
  | [], i, ys, ys', hs, hs', h, o => by
    cases h
    exact ⟨o, by simp, by simp⟩
  | l :: ls, i, ys, ys', hs, hs', h, o => by
    have h1 : (match (if ys = [] then holP l hs else none) with
      | some h => readL (i + 1) ls ys (hs ++ [h])
      | none => match yearP l ys hs with
        | some y => readL (i + 1) ls (ys ++ [y]) hs
        | none => .error i) = .ok (ys', hs') := h
    cases hh : (if ys = [] then holP l hs else none) with
    | some p =>
      rw [hh] at h1
      have hy : ys = [] := by
        by_cases e : ys = []
        · exact e
        · rw [if_neg e] at hh; cases hh
      rw [if_pos hy] at hh
      obtain ⟨e1, e2, e3, e4⟩ := holP_some hh
      subst hy
      obtain ⟨a1, a2, a3⟩ := readL_some h1 ⟨pw_snoc (fun {_ _ _} => ltP_trans) o.ho e4, fun q hq => by
          rcases List.mem_append.mp hq with hq | hq
          · exact o.hb q hq
          · rw [List.mem_singleton.mp hq]; exact ⟨e2, e3⟩, (fun y hy => by cases hy), by simp⟩
      refine ⟨a1, ?_, ?_⟩
      · rw [← a2, e1]
        simp
      · simp at a3 ⊢
        omega
    | none =>
      rw [hh] at h1
      cases hy : yearP l ys hs with
      | none =>
        have h2 : (match yearP l ys hs with
          | some y => readL (i + 1) ls (ys ++ [y]) hs
          | none => .error i) = .ok (ys', hs') := h1
        rw [hy] at h2
        cases h2
      | some y =>
        have h2 : (match yearP l ys hs with
          | some y => readL (i + 1) ls (ys ++ [y]) hs
          | none => .error i) = .ok (ys', hs') := h1
        rw [hy] at h2
        obtain ⟨e1, e2, e3, e4, e5, e6⟩ := yearP_some hy
        have hq := le_last o.ho e6
        have hd : ∀ {y' : List Int}, (ys ++ [y]).head? = some y' → y'.length = y.length := fun {y'} h => by
          cases ys with
          | nil => simp at h; rw [h]
          | cons a r => exact e5 y' (by simpa using h)
        obtain ⟨a1, a2, a3⟩ := readL_some h2 ⟨o.ho, o.hb, fun y1 hy1 => by
            rcases List.mem_append.mp hy1 with hy1 | hy1
            · obtain ⟨b1, b2, b3, b4⟩ := o.yo y1 hy1
              refine ⟨b1, b2, fun y' h => ?_, b4⟩
              cases ys with
              | nil => cases hy1
              | cons a r => exact b3 y' (by simpa using h)
            · rw [List.mem_singleton.mp hy1]
              exact ⟨e2, e3, fun y' h => hd h, hq⟩, by rw [List.length_append]; have := o.n; simp; omega⟩
        refine ⟨a1, ?_, by simp at a3 ⊢; omega⟩
        rw [← a2, e1]
        simp
def RD.cd (d : RD) : CD := ⟨d.years, (d.years.headD []).length, d.week, d.first, d.rest, d.hols⟩
theorem lt_nodup {l : List Int} (h : l.Pairwise (· < ·)) : l.Nodup := h.imp fun h e => by omega
theorem pigeon {w : Int} : ∀ {l : List Int} {a : Int}, l.Pairwise (· < ·) → (∀ i ∈ l, a ≤ i ∧ i < w) → (l.length : Int) ≤ w - a ∨ l = []
  | [], _, _, _ => .inr rfl
  | x :: l, a, h, hb => by
    obtain ⟨h1, h2⟩ := List.pairwise_cons.mp h
    have hx := hb x List.mem_cons_self
    rcases pigeon (l := l) (a := x + 1) h2 (fun i hi => ⟨h1 i hi, (hb i (List.mem_cons_of_mem _ hi)).2⟩) with h3 | rfl
    · left
      simp only [List.length_cons]
      omega
    · left
      simp
      omega
theorem readT_ok {z : Str} {d : RD} (h : readT z = .ok d) : textP d.years d.week d.first d.rest d.hols = z ∧ d.count = (linesOf z).length ∧ d.rest.Pairwise (· < ·) ∧ d.hols.Pairwise (fun p q => ltP p q = true) ∧ d.hols.length ≤ (linesOf z).length ∧ (d.hols.length < 64 → d.cd.Ok) := by
  unfold readT at h
  have hz := text_back z
  cases hl : linesOf z with
  | nil => exact absurd hl (lines_ne z)
  | cons l0 r =>
    rw [hl] at h hz
    cases hw : weekP l0 with
    | none => simp only [readH, hw] at h; cases h
    | some p =>
      obtain ⟨k, j⟩ := p
      simp only [readH, hw] at h
      obtain ⟨w1, w2, w3⟩ := weekP_some hw
      cases r with
      | nil => cases h
      | cons l1 r2 =>
        cases hr : restP l1 k with
        | none => simp only [readA, hr] at h; cases h
        | some rs =>
          simp only [readA, hr] at h
          obtain ⟨r1, r3, r4⟩ := restP_some hr
          unfold readB at h
          cases hL : readL 2 r2 [] [] with
          | error i => rw [hL] at h; cases h
          | ok q =>
            obtain ⟨ys, hs⟩ := q
            rw [hL] at h
            have h5 : (if ys = [] then (.error (r2.length + 2) : Except Nat RD) else .ok ⟨ys, k, j, rs, hs, r2.length + 2⟩) = .ok d := h
            split at h5
            · cases h5
            · rename_i hne
              cases h5
              obtain ⟨o, e, e2⟩ := readL_some hL ⟨.nil, (fun p hp => by cases hp), (fun y hy => by cases hy), by simp⟩
              refine ⟨?_, by simp, r4, o.ho, by simp at e2 ⊢; omega, fun h64 => ?_⟩
              · unfold textP
                rw [← hz]
                congr 1
                simp at e
                rw [w3, r1, e]
                simp
              · obtain ⟨y0, yr, rfl⟩ : ∃ y0 yr, ys = y0 :: yr := by
                  cases ys with
                  | nil => exact absurd rfl hne
                  | cons a b => exact ⟨a, b, rfl⟩
                have o0 := o.yo y0 List.mem_cons_self
                have hlen : ∀ y ∈ y0 :: yr, y.length = y0.length := fun y hy => ((o.yo y hy).2.2.1 y0 rfl).symm
                refine ⟨⟨⟨Nat.succ_le_succ (Nat.zero_le _), o.n⟩, o0.2.1, hlen, fun y hy i hi => (o.yo y hy).1 i hi⟩, w1, w2, ⟨r3, lt_nodup r4, ?_⟩, ⟨fun q hq => ⟨⟨(o.hb q hq).1.1, o0.2.2.2 q hq⟩, (o.hb q hq).2⟩, ?_, h64⟩⟩
                · rcases pigeon (a := 0) r4 r3 with h6 | h6
                  · show rs.length ≤ 20
                    omega
                  · show rs.length ≤ 20
                    rw [h6]
                    decide
                · refine o.ho.imp fun {a b} h e => ?_
                  rw [e, ltP_lex] at h
                  omega
end K9
end
section
set_option Elab.async false
set_option linter.all false
set_option maxRecDepth 100000
set_option maxHeartbeats 4000000
namespace K9
open PySem PySem.Spec PyProof.Rows L2 Evl
/-- the class Calendar, made -/
structure MakC (P : Program) (w : World) (K : PySem.W.Frag) (mg : Str → Option Value) (base : Heap) (k : Nat) (C : Addr) (sp : Sp) : Prop where
  ex : ∃ (f : Addr) (fd : FuncData) (ps : List Str), Mk K C f ∧ FnOk P w K mg base (L2N.CX P w) k f fd ps sp ∧ KBn K fd ps 3 ["first", "rest", "holidays"] (fun us ws => us ++ ws) (fun vs zs => vs ++ zs)
section
variable {X : Cx} {k j i : Nat} {C : Addr} {sp : Sp} {E : L2.St → XK} {x : Str} {e : Expr} {es : List Expr} {kws : List Keyword} {t tk : TA} {p pos : Pos}
theorem pe_mkL (c : MakC X.prog X.w X.K X.mg X.base k C sp) (hr : Room j X.A) (hk : k + 1 ≤ j) (hN : X.N[i]? = some x) (hv : Vis X.env.scope x) (hx : ∀ σ, PassesAt (L2N.CX X.prog X.w) X σ (E σ)) (ha : PA X (e :: es) t) (hkw : PK X kws tk)
    (hall : (backToKw pos (keywordEach kws X.env)).all (·.1.isSome) = true := by rfl) (hks : (backToKw pos (keywordEach kws X.env)).filterMap (·.1) = (["first", "rest", "holidays"] : List Str) := by rfl)
    (hdb : (x == ("__debug__" : Str)) = false := by decide) (hcd : (x == ("__classdict__" : Str)) = false := by decide) (he : starEach (e :: es) X.env = (false, eval e X.env) :: starEach es X.env := by rfl)
    (hpl : ((backTo pos (starEach (e :: es) X.env)).any (·.1) || (backToKw pos (keywordEach kws X.env)).any (·.1.isNone)) = false := by rfl) :
    PE X (.Call (.Name x p) (e :: es) kws pos) (fun σ H Q => σ[i]? = some (some (.ref C)) ∧ tMakeS C 2 3 sp (fun vs zs => vs ++ zs) E t tk σ H Q) := by
  obtain ⟨f, fd, ps, M, F, kb⟩ := c.ex
  exact pe_makeL M F (hr.mono hk) hN hv kb hx ha hkw hall hks hdb hcd he hpl
/-- .. by its name in the module, where nothing flies out -/
theorem pe_mkG (c : MakC X.prog X.w X.K X.mg X.base k C sp) (hr : Room j X.A) (hk : k + 1 ≤ j) (hg : Gl X x) (hm : X.mg x = some (.ref C)) (ha : PA X (e :: es) t) (hkw : PK X kws tk)
    (hall : (backToKw pos (keywordEach kws X.env)).all (·.1.isSome) = true := by rfl) (hks : (backToKw pos (keywordEach kws X.env)).filterMap (·.1) = (["first", "rest", "holidays"] : List Str) := by rfl)
    (hdb : (x == ("__debug__" : Str)) = false := by decide) (he : starEach (e :: es) X.env = (false, eval e X.env) :: starEach es X.env := by rfl)
    (hpl : ((backTo pos (starEach (e :: es) X.env)).any (·.1) || (backToKw pos (keywordEach kws X.env)).any (·.1.isNone)) = false := by rfl) :
    PE X (.Call (.Name x p) (e :: es) kws pos) (tMakeN C 2 3 sp (fun vs zs => vs ++ zs) E0 t tk) := by
  obtain ⟨f, fd, ps, M, F, kb⟩ := c.ex
  exact pe_makeN M F (hr.mono hk) hg hm kb (fun pins σ H s e s' I z => by
    obtain ⟨_, _, _, _, _, _, _, _, _, _, _, _, q⟩ := z
    exact q.elim) ha hkw hall hks hdb he hpl
end
open Classical in
/-- what read does with a text -/
noncomputable def readF (z : Str) : Except Nat RD := match readT z with
  | .error n => .error n
  | .ok d => if d.cd.Fine then .ok d else .error d.count
theorem readF_err {z : Str} {n : Nat} (h : readT z = .error n) : readF z = .error n := by
  unfold readF
  rw [h]
theorem readF_fine {z : Str} {d : RD} (h : readT z = .ok d) (hf : d.cd.Fine) : readF z = .ok d := by
  unfold readF
  rw [h]
  exact if_pos hf
theorem readF_bad {z : Str} {d : RD} (h : readT z = .ok d) (hf : ¬ d.cd.Fine) : readF z = .error d.count := by
  unfold readF
  rw [h]
  exact if_neg hf
def spRead (K : PySem.W.Frag) (C CT : Addr) : Sp := fun vs H Q E => ∃ x, vs = [.ref C, x] ∧
  ((∃ z, x = .str z ∧ z.length ≤ 90000 ∧ (∀ d, readT z = .ok d → d.hols.length < 64) ∧ match readF z with
    | .ok d => ∀ v H', Ex H H' → (∃ a, v = .ref a ∧ CalAt C H' a d.cd) → Q v H'
    | .error n => ∀ e H', Ex H H' → H' e = some (.xd [("index", .int (n : Int))]) → E (.ref CT) (some e) H') ∨
   (∃ t, TyX K H x (.type t) ∧ kitB t "str" = some false ∧ ∀ e H', Ex H H' → H' e = some (.xd [("index", .int 0)]) → E (.ref CT) (some e) H'))
theorem scRead : FnScope ["cls", "text", "years", "week", "first", "rest", "holidays", "count"] ["cls", "text"] (defScope (cst 4)) := ⟨rfl, rfl, rfl, by decide +kernel, rfl, by decide +kernel, by decide +kernel⟩
theorem exa_ex {a : Addr} {H H' : Hp} (h : Exa a H H') (n : H a = none) : Ex H H' := fun b o hb => h b o (fun z => by rw [z, n] at hb; cases hb) hb
section
variable {P : Program} {w : World} {K : PySem.W.Frag} {mg : Str → Option Value} {base : Heap} {f C CI CT : Addr} {fd : FuncData}
theorem okRead (F : FnQ K "read" "Calendar.read" (cst 4) f fd) (C_read_calendar : CalX P w K mg base 5 "read_calendar" (sp20 K CT)) (MK : MakC P w K mg base 6 C (spInit K C CI)) (mI : mg "InvalidCalendar" = some (.ref CI)) (xI : PySem.W.exmOne K (.ref CI) (.ref CI) = some true)
    (RT : ErrH P w K mg base "InvalidText" "index" CT) : FnOk P w K mg base (L2.CX P w) 8 f fd ["cls", "text"] (spRead K C CT) := by
  refine F.ok scRead (fun vs H Q E h => ?_) (fun cdv A outer s H vs Q E hr h => ?_)
  · obtain ⟨x, rfl, _⟩ := h
    rfl
  · obtain ⟨x, rfl, h⟩ := h
    have nd := scRead.nd
    refine ⟨_, pss_cons (ps_asg (pe_cX C_read_calendar hr (by decide) (takes_of rfl rfl rfl rfl) (by rfl) (pa_cons (pv 1) pa_nil)) (pg_tup rfl (pgs_cons (pg_name (i := 2) nd rfl (Or.inl rfl)) (pgs_cons (pg_name (i := 3) nd rfl (Or.inl rfl)) (pgs_cons (pg_name (i := 4) nd rfl (Or.inl rfl)) (pgs_cons (pg_name (i := 5) nd rfl (Or.inl rfl)) (pgs_cons (pg_name (i := 6) nd rfl (Or.inl rfl)) (pgs_cons (pg_name (i := 7) nd rfl (Or.inl rfl)) pgs_nil))))))))
      (pss_one (L2H.ps_try_onlyX (tb := fun W => tRet (fun σ H Q => σ[0]? = some (some (.ref C)) ∧ tMakeS C 2 3 (spInit K C CI) (fun vs zs => vs ++ zs) (L2.WE W) (tCons (tVar 2) (tCons (tVar 3) tNil)) (tCons (tVar 4) (tCons (tVar 5) (tCons (tVar 6) tNil))) σ H Q)) (ts := fun _ _ _ => tErr K CT "index" (fun cls d _ H => E cls d H) (tVar 7))
        (Wout := fun cls d _ H => E cls d H) rfl rfl ⟨by rfl, by decide, .inl mI⟩ (fun hd => PassesOwnAt.leaving) (takes_of rfl rfl rfl rfl)
        (fun W pn xe tk tk2 po => pss_one (ps_ret (pe_mkL MK hr (by decide) rfl (Or.inl rfl) (fun σ => L2N.passAt tk σ) (pa_cons (pv 2) (pa_cons (pv 3) pa_nil)) (pk_cons (pv 4) (pk_cons (pv 5) (pk_cons (pv 6) pk_nil))))))
        (fun a oe cls d pn hz hx tkS hot => pss_one (ps_errH RT (L2H.roomH_mark hr _) (by decide) hot tkS (by rfl) (pv 7))))), ?_⟩
    have TO := RT.oex
    have TN := RT.nof
    rcases h with ⟨z, rfl, hz, h64, k⟩ | ⟨t, ht, hk, k⟩
    · have goal : ∀ Q', (match readT z with
        | .ok d => ∀ v H', Ex H H' → ReadV d v H' → Q' v H'
        | .error n => ∀ d H', Ex H H' → H' d = some (.xd [("index", .int (n : Int))]) → E (.ref CT) (some d) H') → tCall (sp20 K CT) [] E (tCons (tVar 1) tNil) [some (.ref C), some (.str z), none, none, none, none, none, none] H Q' := fun Q' h => ⟨.str z, rfl, ⟨.str z, rfl, .inl ⟨z, rfl, hz, h⟩⟩⟩
      refine goal _ ?_
      cases hT : readT z with
      | error n =>
        rw [readF_err hT] at k
        exact k
      | ok d =>
        obtain ⟨t1, t2, t3, t4, t5, t6⟩ := readT_ok hT
        have ok := t6 (h64 d hT)
        intro v H1 e1 ⟨t, py, pr, ph, xs, us, hv, ht, hpy, hxs, hpr, hph, hus⟩
        subst hv
        refine ⟨t, _, rfl, st_of ht, rfl, _, _, rfl, _, _, rfl, _, _, rfl, _, _, rfl, _, _, rfl, _, _, rfl, rfl, ?_⟩
        refine ⟨rfl, _, rfl, _, rfl, _, rfl, _, rfl, _, rfl, rfl, rfl, fun x dx hx hdx hne => ?_⟩
        have up : Ex H1 (upd (upd H1 dx (.own x)) x (.ins C dx [])) := fun b o hb => by
          rw [upd_ne (ne_of_none hb hx), upd_ne (ne_of_none hb hdx)]
          exact hb
        have n0 : H1 x = none := hx
        refine ⟨x, dx, py, pr, ph, d.cd, xs, us, rfl, ok, upd_same, up _ _ hpy, hxs.fwd up, .inl (sq_of (up _ _ hpr)), .inl (sq_of (up _ _ hph)), hus.fwd up, fun hf H2 rs hs ex p1 p2 p3 p4 hc => ?_, fun hf e H2 s ex he => ?_⟩
        · have kz := k
          rw [readF_fine hT hf] at kz
          have e12 : Ex H1 H2 := fun b o hb => ex b o (ne_of_none hb hx) (up _ _ hb)
          have q1 : rs = d.rest := List.Perm.eq_of_pairwise (fun a b _ _ h1 h2 => Int.le_antisymm h1 h2) p2 (t3.imp fun h => Int.le_of_lt h) p1
          have q2 : hs = d.hols := List.Perm.eq_of_pairwise (fun a b _ _ h1 h2 => by
            unfold LeP at h1 h2
            exact Prod.ext (by omega) (by omega)) p4 (t4.imp fun {a b} h => by
            rw [ltP_lex] at h
            unfold LeP
            omega) p3
          subst q1 q2
          exact ⟨rfl, kz _ _ (e1.trans e12) ⟨x, rfl, hc⟩⟩
        · have kz := k
          rw [readF_bad hT hf] at kz
          have e12 : Ex H1 H2 := fun b o hb => ex b o (ne_of_none hb hx) (up _ _ hb)
          refine ⟨true, xI, fun _ a ha => s_err TO TN (ev_var rfl) fun d' H3 e3 h3 => kz d' H3 (e1.trans (e12.trans e3)) h3, fun z => by cases z⟩
    · have goal : ∀ Q', tCall (sp20 K CT) [] E (tCons (tVar 1) tNil) [some (.ref C), some x, none, none, none, none, none, none] H Q' := fun Q' => ⟨x, rfl, ⟨x, rfl, .inr ⟨t, ht, hk, k⟩⟩⟩
      exact goal _
end
end K9
end
section
set_option Elab.async false
set_option linter.all false
set_option maxRecDepth 100000
set_option maxHeartbeats 4000000
namespace K9
open PySem PySem.Spec PyProof.Rows L2 Evl
abbrev kS (x : Str) : Key := Sum.inr x
/-! ### the heap but one address -/
theorem Exa.refl {a : Addr} {H : Hp} : Exa a H H := fun _ _ _ h => h
theorem Exa.trans {a : Addr} {H H1 H2 : Hp} (h : Exa a H H1) (k : Exa a H1 H2) : Exa a H H2 := fun b o n e => k b o n (h b o n e)
theorem Exa.of {a : Addr} {H H1 : Hp} (e : Ex H H1) : Exa a H H1 := fun b o _ h => e b o h
theorem Exa.up {a : Addr} {H : Hp} {o : HO} : Exa a H (upd H a o) := fun b o n e => by rw [upd_ne n]; exact e
theorem Exa.hid {a : Addr} {H H1 : Hp} (h : Exa a H H1) : Ex (hid a a H) (hid a a H1) := fun b o e => by
  have n : b ≠ a := fun z => by
    unfold K9.hid at e
    rw [if_pos (Or.inl z)] at e
    cases e
  rw [hid_at n n] at e ⊢
  exact h b o n e
/-! ### dicts -/
theorem putK_len {kvs : List (Key × V)} {k : Key} {v x : V} (h : valV kvs k = some x) : (putK kvs k v).length = kvs.length := by
  unfold putK
  rw [valV_any, h]
  simp
section
variable {K : PySem.W.Frag} {σ : L2.St} {H : Hp} {ta tb tv : TE} {v : V} {a : Addr} {kvs : List (Key × V)} {k : Str} {D : Ends} {tz : TS}
theorem ev_dget (ha : Ev ta σ H (.ref a)) (hk : Ev tb σ H (.str k)) (h : H a = some (.dK kvs)) (hv : valV kvs (kS k) = some v) : Ev (tDGet ta tb) σ H v := fun H1 e Q q =>
  ha H1 e _ fun H2 e2 => hk H2 (e.trans e2) _ fun H3 e3 => ⟨a, v, rfl, by rw [← hv]; exact DGet.k (k := kS k) ((e.trans (e2.trans e3)) _ _ h), q H3 (e2.trans e3)⟩
theorem q_dput {R : V → Hp → Prop} (hv : EvP tv σ H R) (ha : Ev ta σ H (.ref a)) (hk : Ev tb σ H (.str k)) (h : H a = some (.dK kvs)) (hl : kvs.length < 1000) (go : ∀ v H1, Ex H H1 → R v H1 → tz D σ (upd H1 a (.dK (putK kvs (kS k) v)))) (hR : ∀ v H1 H2, R v H1 → Ex H1 H2 → R v H2) : tSeq (sDPut ta tb tv) tz D σ H :=
  hv H (Ex.refl _) _ fun v H1 e1 r => ha H1 e1 _ fun H2 e2 => hk H2 (e1.trans e2) _ fun H3 e3 => ⟨a, _, rfl, DPut.k (k := kS k) ((e1.trans (e2.trans e3)) _ _ h) (Nat.lt_of_lt_of_le hl (by rw [sizeLine_eq]; decide)), go v H3 (e1.trans (e2.trans e3)) (hR _ _ _ (hR _ _ _ r e2) e3)⟩
end
/-! ### the pen -/
structure PenV (kvs : List (Key × V)) (c : Addr) (t l : Int) : Prop where
  cells : valV kvs (kS "cells") = some (.ref c)
  turn : valV kvs (kS "turn") = some (.int t)
  left : valV kvs (kS "left") = some (.int l)
  len : kvs.length ≤ 3
theorem PenV.putTurn {kvs : List (Key × V)} {c : Addr} {t l t' : Int} (h : PenV kvs c t l) : PenV (putK kvs (kS "turn") (.int t')) c t' l := by
  refine ⟨?_, ?_, ?_, by rw [putK_len h.turn]; exact h.len⟩
  · rw [valV_put, if_neg (by decide)]; exact h.cells
  · rw [valV_put, if_pos rfl]
  · rw [valV_put, if_neg (by decide)]; exact h.left
theorem PenV.putLeft {kvs : List (Key × V)} {c : Addr} {t l l' : Int} (h : PenV kvs c t l) : PenV (putK kvs (kS "left") (.int l')) c t l' := by
  refine ⟨?_, ?_, ?_, by rw [putK_len h.left]; exact h.len⟩
  · rw [valV_put, if_neg (by decide)]; exact h.cells
  · rw [valV_put, if_neg (by decide)]; exact h.turn
  · rw [valV_put, if_pos rfl]
/-- a pen that may be drawn from n times more -/
def Pen (H : Hp) (a c : Addr) (n : Nat) : Prop := ∃ (kvs : List (Key × V)) (cs : List Int) (t l : Int), H a = some (.dK kvs) ∧ PenV kvs c t l ∧ H c = some (.lst (cs.map V.int)) ∧ cs.length ≤ 63 ∧ 0 ≤ t ∧ t + n ≤ 1099511627776 ∧ 0 ≤ l
theorem Pen.ex {H H' : Hp} {a c : Addr} {n : Nat} (h : Pen H a c n) (e : Ex H H') : Pen H' a c n := by
  obtain ⟨kvs, cs, t, l, h1, h2, h3, h4⟩ := h
  exact ⟨kvs, cs, t, l, e _ _ h1, h2, e _ _ h3, h4⟩
theorem Pen.less {H : Hp} {a c : Addr} {n m : Nat} (h : Pen H a c n) (k : m ≤ n) : Pen H a c m := by
  obtain ⟨kvs, cs, t, l, h1, h2, h3, h4, h5, h6, h7⟩ := h
  exact ⟨kvs, cs, t, l, h1, h2, h3, h4, h5, by omega, h7⟩
def sp37 : Sp := fun vs H Q _ => ∃ (a c : Addr) (many : Int) (n : Nat), vs = [.ref a, .int many] ∧ 1 ≤ many ∧ many < 1000000000 ∧ Pen H a c (n + 1) ∧ ∀ i H', Exa a H H' → Pen H' a c n → 0 ≤ i → i < many → Q (.int i) H'
def sp38 (K : PySem.W.Frag) : Sp := fun vs H Q _ => ∃ (a c o : Addr) (opts : List V) (n : Nat), vs = [.ref a, .ref o] ∧ o ≠ a ∧ H o = some (.lst opts) ∧ 1 ≤ opts.length ∧ opts.length ≤ 100000000 ∧ Pen H a c (n + 1) ∧ ∀ v H', Exa a H H' → Pen H' a c n → v ∈ opts → Q v H'
def sp36 (K : PySem.W.Frag) : Sp := fun vs H Q _ => ∃ (s : Addr) (cs : List Int), vs = [.ref s] ∧ SqL K H s (cs.map V.int) ∧ ∀ a c H', H a = none → Ex H H' → Pen H' a c 1000000000 → Q (.ref a) H'
abbrev s36 : Stmt := top 36
abbrev s37 : Stmt := top 37
abbrev s38 : Stmt := top 38
abbrev s39 : Stmt := top 39
theorem sc36 : FnScope ["_law_script"] ["_law_script"] (defScope s36) := ⟨rfl, rfl, rfl, by decide +kernel, rfl, by decide +kernel, by decide +kernel⟩
theorem sc37 : FnScope ["_law_pen_here", "_law_many", "_law_digit", "_law_turn", "_law_cell", "_law_primes", "_law_prime", "_law_drawn"] ["_law_pen_here", "_law_many"] (defScope s37) := ⟨rfl, rfl, rfl, by decide +kernel, rfl, by decide +kernel, by decide +kernel⟩
theorem sc38 : FnScope ["_law_pen_here", "_law_options"] ["_law_pen_here", "_law_options"] (defScope s38) := ⟨rfl, rfl, rfl, by decide +kernel, rfl, by decide +kernel, by decide +kernel⟩
theorem sc39 : FnScope ["_law_left", "_law_right"] ["_law_left", "_law_right"] (defScope s39) := ⟨rfl, rfl, rfl, by decide +kernel, rfl, by decide +kernel, by decide +kernel⟩
section
variable {P : Program} {w : World} {K : PySem.W.Frag} {mg : Str → Option Value} {base : Heap} {f : Addr} {fd : FuncData}
theorem ok37 (F : FnP K "_law_draw" s37 f fd) (T : Txt mg) : FnOk P w K mg base L2.CX0 1 f fd ["_law_pen_here", "_law_many"] sp37 := by
  refine F.ok sc37 (fun vs H Q E h => ?_) (fun cdv A outer s H vs Q E hr h => ?_)
  · obtain ⟨a, c, many, n, rfl, _⟩ := h
    rfl
  · obtain ⟨a, c, many, n, rfl, m1, m2, ⟨kvs, cs, t, l, ha, hpv, hc, hcs, t0, tn, l0⟩, k⟩ := h
    have nd := sc37.nd
    refine ⟨_, PSs.nox (pss_cons (ps_if (pt_cmpR op_gt (pe_dget (hu_of hr) (pv 0) pe_str (fun _ _ => rfl)) pe_int (nomark _)) (pss_cons (ps_set (i := 2) nd rfl (Or.inl rfl) (pe_op op_mod (pe_dget (hu_of hr) (pv 0) pe_str (fun _ _ => rfl)) (pv 1)))
    (pss_cons (ps_dput (hu_of hr) (pv 0) pe_str (pe_op op_fdiv (pe_dget (hu_of hr) (pv 0) pe_str (fun _ _ => rfl)) (pv 1)) rfl)
    (pss_one (ps_ret (pv 2))))) pss_nil)
    (pss_cons (ps_set (i := 3) nd rfl (Or.inl rfl) (pe_dget (hu_of hr) (pv 0) pe_str (fun _ _ => rfl)))
    (pss_cons (ps_dput (hu_of hr) (pv 0) pe_str (pe_op op_add (pv 3) pe_int) rfl)
    (pss_cons (ps_set (i := 4) nd rfl (Or.inl rfl) (pe_op op_add (pe_op op_mul pe_int (pv 3)) pe_int))
    (pss_cons (ps_if (pt_cmpR (op_neD hr.units) (pe_dget (hu_of hr) (pv 0) pe_str (fun _ _ => rfl)) (pe_lst pa_nil) (nomark _)) (pss_one (ps_set (i := 4) nd rfl (Or.inl rfl) (pe_ix ix_list (pe_dget (hu_of hr) (pv 0) pe_str (fun _ _ => rfl)) (pe_op op_mod (pv 3) (pe_callB call_len_seq (by rfl) T.len (by decide +kernel) (pa_cons (pe_dget (hu_of hr) (pv 0) pe_str (fun _ _ => rfl)) pa_nil))) (fun _ _ => rfl)))) pss_nil)
    (pss_cons (ps_if (PW.pt (pw_and (pt_cmpR op_lt (pv 3) (pe_callB call_len_seq (by rfl) T.len (by decide +kernel) (pa_cons (pe_dget (hu_of hr) (pv 0) pe_str (fun _ _ => rfl)) pa_nil)) (nomark _)) (pw_and1 (pt_cmpR op_ge (pe_callB call_abs (by rfl) T.abs (by decide +kernel) (pa_cons (pv 4) pa_nil)) (pe_op op_pow pe_int pe_int) (nomark _))))) (pss_cons (ps_dput (hu_of hr) (pv 0) pe_str (pe_op op_fdiv (pe_op op_sub (pe_callB call_abs (by rfl) T.abs (by decide +kernel) (pa_cons (pv 4) pa_nil)) (pe_op op_pow pe_int pe_int)) (pv 1)) rfl)
    (pss_one (ps_ret (pe_op op_mod (pe_op op_sub (pe_callB call_abs (by rfl) T.abs (by decide +kernel) (pa_cons (pv 4) pa_nil)) (pe_op op_pow pe_int pe_int)) (pv 1))))) pss_nil)
    (pss_cons (ps_set (i := 5) nd rfl (Or.inl rfl) (pe_lst (pa_cons pe_int (pa_cons pe_int (pa_cons pe_int (pa_cons pe_int (pa_cons pe_int pa_nil)))))))
    (pss_cons (ps_set (i := 6) nd rfl (Or.inl rfl) (pe_ix ix_list (pv 5) (pe_op op_mod (pv 3) pe_int) (fun _ _ => rfl)))
    (pss_cons (ps_set (i := 7) nd rfl (Or.inl rfl) (pe_op op_mod (pe_op op_add (pe_op op_add (pe_op op_add (pe_op op_mul (pe_op op_mod (pv 4) (pv 6)) pe_int) (pe_op op_mul (pe_op op_mul pe_int (pv 3)) (pv 3))) (pe_op op_mul pe_int (pv 3))) pe_int) (pv 6)))
    (pss_cons (ps_set (i := 7) nd rfl (Or.inl rfl) (pe_op op_mod (pe_op op_mul (pv 7) (pe_op op_add (pv 7) pe_int)) (pe_ix ix_list (pv 5) (pe_op op_mod (pe_op op_add (pv 3) pe_int) pe_int) (fun _ _ => rfl))))
    (pss_one (ps_ret (pe_op op_mod (pe_op op_fdiv (pe_op op_mod (pe_op op_add (pe_op op_add (pe_op op_mul (pv 7) (pv 7)) (pe_op op_mul pe_int (pv 7))) (pv 3)) pe_int) pe_int) (pv 1)))))))))))))), ?_⟩
    have nca : c ≠ a := fun z => by rw [z, ha] at hc; cases hc
    refine q_when (et_test (ev_op (ev_dget (ev_var rfl) ev_c ha hpv.left) ev_c rv_I0)) (fun hb H1 e1 => ?_) (fun hb H1 e1 => ?_)
    · have hl : 0 < l := of_decide_eq_true hb
      refine q_asg (v := .int (l % many)) (ev_op (ev_dget (ev_var rfl) ev_c (e1 _ _ ha) hpv.left) (ev_var rfl) (rv_I (by omega))) fun H2 e2 => ?_
      have e12 := e1.trans e2
      refine q_dput (R := fun v _ => v = .int (l / many)) (ep_ev (ev_op (ev_dget (ev_var rfl) ev_c (e12 _ _ ha) hpv.left) (ev_var rfl) (rv_I ⟨by omega, by omega⟩))) (ev_var rfl) ev_c (e12 _ _ ha) (by have := hpv.len; omega) (fun v H3 e3 hv => ?_) (fun _ _ _ h _ => h)
      subst hv
      have e13 := e12.trans e3
      refine s_ret (ev_var rfl) fun H4 e4 => k _ _ ((Exa.of e13).trans (Exa.up.trans (Exa.of e4))) ⟨_, cs, t, l / many, e4 _ _ upd_same, hpv.putLeft, e4 _ _ (by rw [upd_ne nca]; exact e13 _ _ hc), hcs, t0, by omega, Int.ediv_nonneg l0 (by omega)⟩ (Int.emod_nonneg _ (by omega)) (Int.emod_lt_of_pos _ (by omega))
    · refine q_asg (v := .int t) (ev_dget (ev_var rfl) ev_c (e1 _ _ ha) hpv.turn) fun H2 e2 => ?_
      have e12 := e1.trans e2
      refine q_dput (R := fun v _ => v = .int (t + 1)) (ep_ev (ev_op (ev_var rfl) ev_c rv_I0)) (ev_var rfl) ev_c (e12 _ _ ha) (by have := hpv.len; omega) (fun v H3 e3 hv => ?_) (fun _ _ _ h _ => h)
      subst hv
      have e13 := e12.trans e3
      have hpw : PenV (putK kvs (kS "turn") (.int (t + 1))) c (t + 1) l := hpv.putTurn
      generalize hk2 : putK kvs (kS "turn") (.int (t + 1)) = kv2 at *
      have hc3 : upd H3 a (.dK kv2) c = some (.lst (cs.map V.int)) := by rw [upd_ne nca]; exact e13 _ _ hc
      have x3 : Exa a H (upd H3 a (.dK kv2)) := (Exa.of e13).trans Exa.up
      have pen : ∀ {H' : Hp}, Ex (upd H3 a (.dK kv2)) H' → Pen H' a c n := fun e => ⟨kv2, cs, t + 1, l, e _ _ upd_same, hpw, e _ _ hc3, hcs, by omega, by omega, l0⟩
      refine q_asg (v := .int (43 * t + 19)) (ev_op (ev_op ev_c (ev_var rfl) (rv_I (Or.inl (by decide)))) ev_c rv_I0) fun H4 e4 => ?_
      -- the cell
      have hcell : ∀ (σ0 : L2.St), σ0 = [some (.ref a), some (.int many), none, some (.int t), some (.int (43 * t + 19)), none, none, none] → ∀ (M : L2.St → Hp → Prop), (∀ (x : Int) H5, Ex H4 H5 → M [some (.ref a), some (.int many), none, some (.int t), some (.int x), none, none, none] H5) →
          tIfS (tTest (tOp (rNeD K) (tDGet (tVar 0) (tC (.str "cells"))) (tLst tNil))) (tAsg (tOp (rIxL K) (tDGet (tVar 0) (tC (.str "cells"))) (tOp (rI (fun _ j => 0 < j) fun i j => .int (i % j)) (tVar 3) (tCB (fun xs H Q => ∃ p ys, xs = [.ref p] ∧ (SqL K H p ys ∨ SqT K H p ys) ∧ Q (.int ys.length) H) (tCons (tDGet (tVar 0) (tC (.str "cells"))) tNil)))) (gName 4)) tNext { nx := M, rt := Q } σ0 H4 := by
        intro σ0 hσ M hM
        subst hσ
        refine s_when (et_test (ev_neNil (n := 1) (d := cs.map PyData.int) (ev_dget (ev_var rfl) ev_c (e4 _ _ upd_same) hpw.cells) (fun H5 e5 => .lst (sq_of (e5 _ _ (e4 _ _ hc3))) (dpall_ints cs)) (pl_dL cs) (by decide))) (fun hb2 H5 e5 => ?_) (fun hb2 H5 e5 => hM _ H5 e5)
        have hlen : 0 < cs.length := by
          cases cs with
          | nil => cases hb2
          | cons x r => simp
        have i0 := Int.emod_nonneg t (show ((cs.length : Nat) : Int) ≠ 0 by omega)
        have i1 := Int.emod_lt_of_pos t (show (0 : Int) < cs.length by omega)
        have hat : atI (cs.map V.int) (t % (cs.length : Int)) = some (.int (cs.getD (t % (cs.length : Int)).toNat 0)) := by
          have z := ints_at (l := cs) (i := (t % (cs.length : Int)).toNat) (by omega)
          rw [Int.toNat_of_nonneg i0] at z
          exact z
        have e45 := e4.trans e5
        refine s_asg (v := .int (cs.getD (t % (cs.length : Int)).toNat 0)) (ev_op (ev_dget (ev_var rfl) ev_c (e45 _ _ upd_same) hpw.cells) (ev_op (ev_var rfl) (ev_is (ev_lenE (ev_dget (ev_var rfl) ev_c (e45 _ _ upd_same) hpw.cells) (.inl (sq_of (e45 _ _ hc3)))) (show _ = V.int (cs.length : Int) by rw [List.length_map])) (rv_I (by omega))) (rv_ixL (sq_of (e45 _ _ hc3)) hat)) fun H6 e6 => hM _ H6 (e5.trans e6)
      refine hcell _ rfl _ fun x H5 e5 => ?_
      have e35 := e4.trans e5
      have g5 : ∀ {H' : Hp}, Ex H5 H' → H' a = some (.dK kv2) := fun e => e _ _ (e35 _ _ upd_same)
      refine q_when (b := decide (t < (cs.length : Int)) && decide ((10 : Int) ^ (18 : Int).toNat ≤ (x.natAbs : Int))) (et_and (et_test (ev_op (ev_var rfl) (ev_is (ev_lenE (ev_dget (ev_var rfl) ev_c (g5 (Ex.refl _)) hpw.cells) (.inl (sq_of (e35 _ _ hc3)))) (show _ = V.int (cs.length : Int) by rw [List.length_map])) rv_I0)) fun _ => et_test (ev_op (ev_abs (ev_var rfl)) (ev_op ev_c ev_c (rv_I ⟨by decide, by decide, by decide⟩)) rv_I0)) (fun hb2 H6 e6 => ?_) (fun hb2 H6 e6 => ?_)
      · have hx : (10 : Int) ^ (18 : Int).toNat ≤ (x.natAbs : Int) := by
          rw [Bool.and_eq_true] at hb2
          exact of_decide_eq_true hb2.2
        have hsub : Ev (tOp (rI0 fun i j => .int (i - j)) (tCB (fun xs H Q => ∃ i : Int, xs = [.int i] ∧ Q (.int (if i < 0 then -i else i)) H) (tCons (tVar 4) tNil)) (tOp (rI CPow fun i j => .int (i ^ j.toNat)) (tC (.int 10)) (tC (.int 18)))) [some (.ref a), some (.int many), none, some (.int t), some (.int x), none, none, none] H6 (.int ((x.natAbs : Int) - (10 : Int) ^ (18 : Int).toNat)) := ev_op (ev_abs (ev_var rfl)) (ev_op ev_c ev_c (rv_I ⟨by decide, by decide, by decide⟩)) rv_I0
        refine q_dput (R := fun v _ => v = .int (((x.natAbs : Int) - (10 : Int) ^ (18 : Int).toNat) / many)) (ep_ev (ev_op hsub (ev_var rfl) (rv_I ⟨by omega, by omega⟩))) (ev_var rfl) ev_c (g5 e6) (by have := hpw.len; omega) (fun v H7 e7 hv => ?_) (fun _ _ _ h _ => h)
        subst hv
        have e37 := e35.trans (e6.trans e7)
        refine s_ret (v := .int (((x.natAbs : Int) - (10 : Int) ^ (18 : Int).toNat) % many)) (ev_op (ev_op (ev_abs (ev_var rfl)) (ev_op ev_c ev_c (rv_I ⟨by decide, by decide, by decide⟩)) rv_I0) (ev_var rfl) (rv_I (by omega))) fun H8 e8 => k _ _ ((x3.trans (Exa.of e37)).trans (Exa.up.trans (Exa.of e8))) ⟨_, cs, t + 1, _, e8 _ _ upd_same, hpw.putLeft, e8 _ _ (by rw [upd_ne nca]; exact e37 _ _ hc3), hcs, by omega, by omega, Int.ediv_nonneg (by omega) (by omega)⟩ (Int.emod_nonneg _ (by omega)) (Int.emod_lt_of_pos _ (by omega))
      · refine q_asgL (el_lst (ea_cons ev_c (ea_cons ev_c (ea_cons ev_c (ea_cons ev_c (ea_cons ev_c ea_nil))))) (by decide)) fun p H7 hp e7 h7 => ?_
        have five : ∀ i : Int, 0 ≤ i → i < 5 → ∃ r : Int, 2000000000 < r ∧ r < 2200000000 ∧ atI [V.int 2147483629, .int 2147483647, .int 2147483587, .int 2147483563, .int 2147483579] i = some (.int r) := fun i h0 h1 => by
          have : i = 0 ∨ i = 1 ∨ i = 2 ∨ i = 3 ∨ i = 4 := by omega
          rcases this with rfl | rfl | rfl | rfl | rfl
          · exact ⟨_, by decide, by decide, rfl⟩
          · exact ⟨_, by decide, by decide, rfl⟩
          · exact ⟨_, by decide, by decide, rfl⟩
          · exact ⟨_, by decide, by decide, rfl⟩
          · exact ⟨_, by decide, by decide, rfl⟩
        obtain ⟨r, r0, r1, hr1⟩ := five (t % 5) (Int.emod_nonneg _ (by decide)) (Int.emod_lt_of_pos _ (by decide))
        obtain ⟨r', r0', r1', hr2⟩ := five ((t + 2) % 5) (Int.emod_nonneg _ (by decide)) (Int.emod_lt_of_pos _ (by decide))
        refine q_asg (v := .int r) (ev_op (ev_var rfl) (ev_op (ev_var rfl) ev_c (rv_I (by decide))) (rv_ixL (sq_of h7) hr1)) fun H8 e8 => ?_
        have m0 := Int.emod_nonneg x (show r ≠ 0 by omega)
        have m3 := Int.emod_lt_of_pos x (show 0 < r by omega)
        refine q_asg (v := .int ((x % r * 39373 + 30011 * t * t + 8117 * t + 23) % r)) (ev_op (ev_op (ev_op (ev_op (ev_op (ev_op (ev_var rfl) (ev_var rfl) (rv_I (by omega))) ev_c (rv_I (Or.inr (by decide)))) (ev_op (ev_op ev_c (ev_var rfl) (rv_I (Or.inl (by decide)))) (ev_var rfl) (rv_I (Or.inl (by omega)))) rv_I0) (ev_op ev_c (ev_var rfl) (rv_I (Or.inl (by decide)))) rv_I0) ev_c rv_I0) (ev_var rfl) (rv_I (by omega))) fun H9 e9 => ?_
        have d0 := Int.emod_nonneg (x % r * 39373 + 30011 * t * t + 8117 * t + 23) (show r ≠ 0 by omega)
        have d1 := Int.emod_lt_of_pos (x % r * 39373 + 30011 * t * t + 8117 * t + 23) (show 0 < r by omega)
        generalize (x % r * 39373 + 30011 * t * t + 8117 * t + 23) % r = dr at *
        refine q_asg (v := .int (dr * (dr + 69621) % r')) (ev_op (ev_op (ev_var rfl) (ev_op (ev_var rfl) ev_c rv_I0) (rv_I (Or.inl (by omega)))) (ev_op (ev_var rfl) (ev_op (ev_op (ev_var rfl) ev_c rv_I0) ev_c (rv_I (by decide))) (rv_ixL (sq_of (e9 _ _ (e8 _ _ h7))) hr2)) (rv_I (by omega))) fun HA eA => ?_
        have f0 := Int.emod_nonneg (dr * (dr + 69621)) (show r' ≠ 0 by omega)
        have f1 := Int.emod_lt_of_pos (dr * (dr + 69621)) (show 0 < r' by omega)
        generalize dr * (dr + 69621) % r' = dq at *
        have e3A := e35.trans (e6.trans (e7.trans (e8.trans (e9.trans eA))))
        refine s_ret (ev_op (ev_op (ev_op (ev_op (ev_op (ev_op (ev_var rfl) (ev_var rfl) (rv_I (Or.inl (by omega)))) (ev_op ev_c (ev_var rfl) (rv_I (Or.inl (by decide)))) rv_I0) (ev_var rfl) rv_I0) ev_c (rv_I (by decide))) ev_c (rv_I ⟨by decide, by decide⟩)) (ev_var rfl) (rv_I (by omega))) fun HB eB => k _ _ (x3.trans (Exa.of (e3A.trans eB))) (pen (e3A.trans eB)) (Int.emod_nonneg _ (by omega)) (Int.emod_lt_of_pos _ (by omega))
end
end K9
end
section
set_option Elab.async false
set_option linter.all false
set_option maxRecDepth 100000
set_option maxHeartbeats 4000000
namespace K9
open PySem PySem.Spec PyProof.Rows L2 Evl
section
variable {K : PySem.W.Frag} {σ : L2.St} {H : Hp} {ta tb tl th : TE} {xs : List V}
theorem el_listN (ha : EvL ta σ H xs) : EvL (tCB (rListS K) (tCons ta tNil)) σ H xs := fun H1 e Q q =>
  ha H1 e _ fun p H2 hp e2 h2 => ⟨p, xs, rfl, .inl (sq_of h2), fun l hl => q l _ (fresh_back e2 hl) (e2.trans (Ex.new hl)) upd_same⟩
theorem tp_c {x : V} {tv : TE} {r : List (TE × TE)} {Q : List (V × V) → Hp → Prop} (h : tv σ H fun y H2 => tPairs r σ H2 fun ps H3 => Q ((x, y) :: ps) H3) : tPairs ((tC x, tv) :: r) σ H Q := h
theorem tp_cc {x y : V} {r : List (TE × TE)} {Q : List (V × V) → Hp → Prop} (h : tPairs r σ H fun ps H3 => Q ((x, y) :: ps) H3) : tPairs ((tC x, tC y) :: r) σ H Q := h
theorem tp_n {Q : List (V × V) → Hp → Prop} (h : Q [] H) : tPairs [] σ H Q := h
end
theorem merge_c {kvs more : List (Key × V)} {k : Key} {v : V} : mergeK kvs ((k, v) :: more) = mergeK (putK kvs k v) more := rfl
theorem merge_n {kvs : List (Key × V)} : mergeK kvs [] = kvs := rfl
theorem cut_63 (cs : List Int) : ∃ ds : List Int, cutV (cs.map V.int) none (some 63) = ds.map V.int ∧ ds.length ≤ 63 := by
  refine ⟨cs.take 63, ?_, by rw [List.length_take]; exact Nat.min_le_left _ _⟩
  show ((cs.map V.int).drop (HT.sIx (cs.map V.int).length 0 none)).take (HT.sIx (cs.map V.int).length (cs.map V.int).length (some ((63 : Nat) : Int)) - HT.sIx (cs.map V.int).length 0 none) = _
  rw [HT.sIx_nat, HT.sIx_none, List.drop_zero, Nat.sub_zero, ← List.map_take]
  by_cases h : 63 ≤ (cs.map V.int).length
  · rw [Nat.min_eq_left h]
  · rw [Nat.min_eq_right (by omega)]
    rw [List.length_map] at h ⊢
    rw [List.take_of_length_le (Nat.le_refl _), List.take_of_length_le (by omega)]
section
variable {P : Program} {w : World} {K : PySem.W.Frag} {mg : Str → Option Value} {base : Heap} {f : Addr} {fd : FuncData}
theorem ok36 (F : FnP K "_law_pen" s36 f fd) (T : Txt mg) : FnOk P w K mg base L2.CX0 1 f fd ["_law_script"] (sp36 K) := by
  refine F.ok sc36 (fun vs H Q E h => ?_) (fun cdv A outer s H vs Q E hr h => ?_)
  · obtain ⟨s, cs, rfl, _⟩ := h
    rfl
  · obtain ⟨s, cs, rfl, hs, k⟩ := h
    have nd := sc36.nd
    refine ⟨_, PSs.nox (pss_one (ps_ret (pe_disp (pps_cons pe_str (pe_callTy call_list_of (by rfl) T.list (by decide +kernel) (pa_cons (pe_slice sl_list (pv 0) po_none (po_some pe_int)) pa_nil)) (pps_cons pe_str pe_int (pps_cons pe_str pe_int pps_nil))) (by rfl) (by rfl) (fun z => by cases z) (by decide)))), ?_⟩
    obtain ⟨ds, hds, hlen⟩ := cut_63 cs
    intro p hp
    have e0 : Ex H (upd H p (.dK [])) := Ex.new hp
    have hl : EvL (tCB (rListS K) (tCons (tSl (rSlL K) (tVar 0) tNoPart (tPart (tC (.int 63)))) tNil)) [some (.ref s)] (upd H p (.dK [])) (cutV (cs.map V.int) none (some 63)) := el_listN (el_sl (ev_var rfl) eo_none (eo_some ev_c) (ex_l e0 hs))
    refine tp_c (hl _ (Ex.refl _) _ fun q H1 hq e1 h1 => tp_cc (tp_cc (tp_n ?_)))
    refine ⟨e1 _ _ upd_same, [(kS "cells", .ref q), (kS "turn", .int 0), (kS "left", .int 0)], rfl, by simp, ?_⟩
    have npq : q ≠ p := fun z => by rw [z, upd_same] at hq; cases hq
    refine k _ q _ hp (Ex.mut (e0.trans e1) hp) ⟨_, ds, 0, 0, upd_same, ⟨?_, ?_, ?_, length_mergeK _ []⟩, by rw [upd_ne npq, ← hds]; exact h1, hlen, by omega, by omega, by omega⟩
    all_goals rw [merge_c, merge_c, merge_c, merge_n]
    all_goals (repeat (first | rw [valV_put, if_pos rfl] | rw [valV_put, if_neg (by decide)]))
theorem ok38 (F : FnP K "_law_pick" s38 f fd) (T : Txt mg) (C_law_draw : CalN P w K mg base 1 "_law_draw" sp37) : FnOk P w K mg base L2.CX0 2 f fd ["_law_pen_here", "_law_options"] (sp38 K) := by
  refine F.ok sc38 (fun vs H Q E h => ?_) (fun cdv A outer s H vs Q E hr h => ?_)
  · obtain ⟨a, c, o, opts, n, rfl, _⟩ := h
    rfl
  · obtain ⟨a, c, o, opts, n, rfl, noa, ho, l1, l2, hpen, k⟩ := h
    have nd := sc38.nd
    refine ⟨_, PSs.nox (pss_one (ps_ret (pe_ix ix_list (pv 1) (C8.pe_c (C_law_draw) hr (by decide) (by rfl) (pa_cons (pv 0) (pa_cons (pe_callB call_len_seq (by rfl) T.len (by decide +kernel) (pa_cons (pv 1) pa_nil)) pa_nil))) (fun _ _ => rfl)))), ?_⟩
    have hlen : Ev (tCB (fun xs H Q => ∃ p ys, xs = [.ref p] ∧ (SqL K H p ys ∨ SqT K H p ys) ∧ Q (.int ys.length) H) (tCons (tVar 1) tNil)) [some (.ref a), some (.ref o)] H (.int (opts.length : Int)) := ev_lenE (ev_var rfl) (.inl (sq_of ho))
    show tOp (rIxL K) (tVar 1) (tCall sp37 [] E0 (tCons (tVar 0) (tCons _ tNil))) [some (.ref a), some (.ref o)] H Q
    refine ⟨_, rfl, ⟨_, rfl, ?_⟩⟩
    refine hlen H (Ex.refl _) _ fun H1 e1 => ⟨a, c, (opts.length : Int), n, rfl, by omega, by omega, hpen.ex e1, fun i H2 x2 p2 i0 i1 => ?_⟩
    have ho2 : H2 o = some (.lst opts) := x2 _ _ noa (e1 _ _ ho)
    have hi : i.toNat < opts.length := by omega
    have hat : atI opts i = some (opts.getD i.toNat .non) := by
      have z := atI_nat (j := i.toNat) (getD_at (d := V.non) hi)
      rw [Int.toNat_of_nonneg i0] at z
      exact z
    exact ⟨o, opts, i, _, rfl, rfl, sq_of ho2, hat, k _ _ ((Exa.of e1).trans x2) p2 (getD_mem hi)⟩
theorem ok39 (F : FnP K "_law_gcd" s39 f fd) (T : Txt mg) : FnOk P w K mg base L2.CX0 1 f fd ["_law_left", "_law_right"] sp23 := by
  refine F.ok sc39 (fun vs H Q E h => ?_) (fun cdv A outer s H vs Q E hr h => ?_)
  · obtain ⟨R, ⟨i, j, rfl, _⟩, _⟩ := h
    rfl
  · obtain ⟨R, ⟨i, j, rfl, rfl⟩, k⟩ := h
    have nd := sc39.nd
    refine ⟨_, PSs.nox (pss_cons (ps_par (i := 0) (j := 1) rfl nd rfl rfl (by decide) rfl rfl (pa_cons (pe_callB call_abs (by rfl) T.abs (by decide +kernel) (pa_cons (pv 0) pa_nil)) (pa_cons (pe_callB call_abs (by rfl) T.abs (by decide +kernel) (pa_cons (pv 1) pa_nil)) pa_nil)) (by rfl))
    (pss_cons (ps_while PassesOwn.never (pt_cmpR op_gt (pv 1) pe_int (nomark _)) (pss_one (ps_par (i := 0) (j := 1) rfl nd rfl rfl (by decide) rfl rfl (pa_cons (pv 1) (pa_cons (pe_op op_mod (pv 0) (pv 1)) pa_nil)) (by rfl))))
    (pss_one (ps_ret (pv 0))))), ?_⟩
    refine q_par (ev_abs (ev_var rfl)) (ev_abs (ev_var rfl)) fun H1 e1 => ?_
    let W : Nat → L2.St → Hp → Prop := fun m σ' H' => ∃ a b : Nat, σ' = [some (.int (a : Int)), some (.int (b : Int))] ∧ m = b ∧ Nat.gcd a b = Int.gcd i j ∧ Ex H H'
    refine q_while W j.natAbs ⟨i.natAbs, j.natAbs, rfl, rfl, rfl, e1⟩ (fun m σ' H' w => ?_)
    obtain ⟨a, b, rfl, hm, hg, e⟩ := w
    subst m
    refine ⟨decide (0 < b), et_is (et_test (ev_op (ev_var rfl) ev_c rv_I0)) (by simp), fun hb H2 e2 => ?_, fun hb H2 e2 => ?_⟩
    · have hb0 : 0 < b := of_decide_eq_true hb
      refine ⟨fun σ2 H3 => ∃ m', m' < b ∧ W m' σ2 H3, fun _ _ h => h, ?_⟩
      refine s_par (ev_var rfl) (ev_op (ev_var rfl) (ev_var rfl) (rv_I (by omega))) fun H3 e3 => ⟨a % b, Nat.mod_lt _ hb0, b, a % b, by simp, rfl, ?_, (e.trans e2).trans e3⟩
      rw [Nat.gcd_comm, ← Nat.gcd_rec, Nat.gcd_comm]
      exact hg
    · have hb0 : b = 0 := by
        have := of_decide_eq_false hb
        omega
      subst hb0
      refine s_ret (ev_var rfl) fun H3 e3 => k _ _ ((e.trans e2).trans e3) ?_
      rw [← hg, Nat.gcd_zero_right]
end
end K9
end
section
set_option Elab.async false
set_option linter.all false
set_option maxRecDepth 100000
set_option maxHeartbeats 4000000
namespace K9
open PySem PySem.Spec PyProof.Rows L2 Evl
/-! ### d.update(a dict) -/
def rUpdate : V → List V → Hp → VK → Prop := fun x xs H Q => ∃ (a b : Addr) (kvs more : List (Key × V)), x = .ref a ∧ xs = [.ref b] ∧ a ≠ b ∧ H a = some (.dK kvs) ∧ H b = some (.dK more) ∧ kvs.length + more.length ≤ 1000 ∧ Q .non (upd H a (.dK (mergeK kvs more)))
theorem mt_update {X : Cx} : MtR X "dict.update" rUpdate := by
  intro pins s σ H x xs v us Q I rx r h
  obtain ⟨a, b, kvs, more, rfl, rfl, nab, ha, hb, hz, q⟩ := h
  obtain rfl : v = Value.ref a := rx
  rw [Vals.ref1 r]
  obtain ⟨z1, s1, vs, rel, dd⟩ := dk_of I.hok ha
  obtain ⟨z2, s2, ws, rel2, dd2⟩ := dk_of I.hok hb
  refine call_meetsIn PySem.F.slot_dict_update dd.typeIs PySem.F.entry_dict_update (PySem.F.args_dict_update_2 _ _) (meets_dict_update (mixKind X.prog X.w) a b nab s2) ⟨vs, ws, dd, dd2, by rw [← rel.length, ← rel2.length, sizeLine_eq]; omega, fun h' d3 _ hs => ?_⟩
  have he : ∃ q, h'.get? a = some q := let ⟨q, _, _, hq, _⟩ := d3; ⟨q, hq⟩
  have hl := length_mergeK more kvs
  exact ⟨.non, _, d_write (t' := s.toks) I (by rw [ha]; exact True.intro) hs he (dk_new (by rw [sizeLine_eq]; omega) s1 (rel2.merge rel) d3), rfl, q⟩
section
variable {K : PySem.W.Frag} {σ : L2.St} {H : Hp} {ta tb te : TE} {trs : List (TE × TE)} {kvs : List (Key × V)}
def EvPr (trs : List (TE × TE)) (σ : L2.St) (H : Hp) (kvs : List (Key × V)) : Prop := ∀ H1, Ex H H1 → ∀ Q : List (V × V) → Hp → Prop, (∀ H2, Ex H1 H2 → Q (kvs.map fun kv => (kV kv.1, kv.2)) H2) → tPairs trs σ H1 Q
theorem er_nil : EvPr [] σ H [] := fun H1 _ Q q => q H1 (Ex.refl _)
theorem er_cons {k : Str} {v : V} (hk : Ev ta σ H (.str k)) (hv : Ev tb σ H v) (hr : EvPr trs σ H kvs) : EvPr ((ta, tb) :: trs) σ H ((kS k, v) :: kvs) := fun H1 e Q q =>
  hk H1 e _ fun H2 e2 => hv H2 (e.trans e2) _ fun H3 e3 => hr H3 (e.trans (e2.trans e3)) _ fun H4 e4 => q H4 (e2.trans (e3.trans e4))
theorem ed_disp (h : EvPr trs σ H kvs) (hl : kvs.length ≤ 15) : EvP (tDisp trs) σ H (fun v H2 => ∃ p, v = .ref p ∧ H p = none ∧ H2 p = some (.dK (mergeK [] kvs))) := fun H1 e Q q p hp =>
  h _ (e.trans (Ex.new hp)) _ fun H2 e2 => ⟨e2 _ _ upd_same, kvs, rfl, hl, q _ _ (Ex.mut ((Ex.new hp).trans e2) hp) ⟨p, rfl, fresh_back e hp, upd_same⟩⟩
theorem ev_ix_dict {k : Str} {a : Addr} {v : V} (ha : Ev ta σ H (.ref a)) (h : H a = some (.dK kvs)) (hv : valV kvs (kS k) = some v) : Ev (tDGet ta (tC (.str k))) σ H v := ev_dget ha ev_c h hv
end
section
variable {K : PySem.W.Frag} {σ : L2.St} {H : Hp} {ta tb : TE} {r : R2} {xs : List V} {y z : V}
theorem ev_opU1 (ha : EvU ta σ H xs) (hb : ∀ H1, Ex H H1 → Ev tb σ H1 y) (hr : ∀ p H1, H1 p = some (.tup xs) → Ex H H1 → RV r (.ref p) y H1 z) : Ev (tOp r ta tb) σ H z := fun H1 e Q q =>
  ha H1 e _ fun p H2 hp e2 h2 => hb H2 (e.trans e2) H2 (Ex.refl _) _ fun H3 e3 => hr p H3 (e3 _ _ h2) ((e.trans e2).trans e3) H3 (Ex.refl _) Q fun H4 e4 => q H4 ((e2.trans e3).trans e4)
end
/-! ### the law's plain calendar -/
def monthR (y : Nat) : Nat → List Int → List (List Int)
  | _, [] => []
  | k, l :: ls => ((List.range l.toNat).map fun (j : Nat) => [(y : Int), (k : Int) + 1, (j : Int) + 1, l]) ++ monthR y (k + 1) ls
def yearR : Nat → List (List Int) → List (List Int)
  | _, [] => []
  | y, r :: rs => monthR y 0 r ++ yearR (y + 1) rs
def daysP (ys : List (List Int)) : List (List Int) := yearR 0 ys
theorem monthR_len {y : Nat} : ∀ {ls : List Int} {k : Nat}, (∀ l ∈ ls, 1 ≤ l) → ((monthR y k ls).length : Int) = ls.sum
  | [], _, _ => rfl
  | l :: ls, k, h => by
    have h1 := h l List.mem_cons_self
    have ih := monthR_len (y := y) (ls := ls) (k := k + 1) fun x hx => h x (List.mem_cons_of_mem _ hx)
    show (((((List.range l.toNat).map fun (j : Nat) => [(y : Int), (k : Int) + 1, (j : Int) + 1, l]) ++ monthR y (k + 1) ls).length : Nat) : Int) = _
    rw [List.length_append, List.length_map, List.length_range, List.sum_cons]
    omega
theorem sum_pos0 : ∀ {l : List Int}, (∀ x ∈ l, 1 ≤ x) → 0 ≤ l.sum
  | [], _ => by simp
  | x :: l, h => by
    have h1 := h x List.mem_cons_self
    have h2 := sum_pos0 (l := l) fun y hy => h y (List.mem_cons_of_mem _ hy)
    simp only [List.sum_cons]
    omega
theorem month_entry {y : Nat} : ∀ {ls : List Int} {k : Nat} {r : Int}, (∀ l ∈ ls, 1 ≤ l) → 0 ≤ r → r < ls.sum → ∃ l, (monthR y k ls)[r.toNat]? = some [(y : Int), (k : Int) + ((place ls r).1 : Int) + 1, (place ls r).2 + 1, l]
  | [], k, r, _, h0, h => by
    simp at h
    omega
  | l :: ls, k, r, hp, h0, h => by
    have h1 := hp l List.mem_cons_self
    show ∃ x, ((((List.range l.toNat).map fun (j : Nat) => [(y : Int), (k : Int) + 1, (j : Int) + 1, l]) ++ monthR y (k + 1) ls)[r.toNat]?) = _
    by_cases hr : r < l
    · refine ⟨l, ?_⟩
      rw [List.getElem?_append_left (by rw [List.length_map, List.length_range]; omega), List.getElem?_map, List.getElem?_range (by omega)]
      unfold place
      rw [if_pos hr]
      simp
      omega
    · rw [List.sum_cons] at h
      obtain ⟨x, hx⟩ := month_entry (y := y) (ls := ls) (k := k + 1) (r := r - l) (fun x hx => hp x (List.mem_cons_of_mem _ hx)) (by omega) (by omega)
      refine ⟨x, ?_⟩
      rw [List.getElem?_append_right (by rw [List.length_map, List.length_range]; omega), List.length_map, List.length_range]
      have e : r.toNat - l.toNat = (r - l).toNat := by omega
      rw [e, hx]
      have e2 : place (l :: ls) r = ((place ls (r - l)).1 + 1, (place ls (r - l)).2) := by
        show (if r < l then (0, r) else ((place ls (r - l)).1 + 1, (place ls (r - l)).2)) = _
        rw [if_neg hr]
      rw [e2]
      simp
      omega
theorem place_app : ∀ {a b : List Int} {r : Int}, (∀ l ∈ a, 1 ≤ l) → 0 ≤ r → (r < a.sum → place (a ++ b) r = place a r ∧ (place a r).1 < a.length) ∧ (¬ r < a.sum → place (a ++ b) r = (a.length + (place b (r - a.sum)).1, (place b (r - a.sum)).2))
  | [], b, r, _, h0 => ⟨fun h => by simp at h; omega, fun _ => by simp⟩
  | l :: a, b, r, hp, h0 => by
    have h1 := hp l List.mem_cons_self
    have hp' : ∀ x ∈ a, 1 ≤ x := fun x hx => hp x (List.mem_cons_of_mem _ hx)
    have e : ∀ c, place (l :: c) r = if r < l then (0, r) else ((place c (r - l)).1 + 1, (place c (r - l)).2) := fun c => rfl
    rw [List.cons_append, e, e, List.sum_cons]
    have hs := sum_pos0 hp'
    by_cases hr : r < l
    · rw [if_pos hr, if_pos hr]
      exact ⟨fun _ => ⟨rfl, by simp⟩, fun h => absurd (by omega) h⟩
    · rw [if_neg hr, if_neg hr]
      obtain ⟨i1, i2⟩ := place_app (a := a) (b := b) (r := r - l) hp' (by omega)
      refine ⟨fun h => ?_, fun h => ?_⟩
      · obtain ⟨j1, j2⟩ := i1 (by omega)
        rw [j1]
        exact ⟨rfl, by simp; exact j2⟩
      · rw [i2 (by omega)]
        have e3 : r - l - a.sum = r - (l + a.sum) := by omega
        rw [e3]
        simp
        omega
theorem year_entry {m : Nat} : ∀ {rs : List (List Int)} {y : Nat} {r : Int}, (∀ row ∈ rs, row.length = m ∧ ∀ l ∈ row, 1 ≤ l) → 0 ≤ r → r < (rs.flatMap fun r => r.map id).sum →
    ∃ yy l : Int, (yearR y rs)[r.toNat]? = some [yy, (((place (rs.flatMap fun r => r.map id) r).1 % m : Nat) : Int) + 1, (place (rs.flatMap fun r => r.map id) r).2 + 1, l]
  | [], y, r, _, h0, h => by
    simp at h
    omega
  | row :: rs, y, r, hp, h0, h => by
    obtain ⟨hm, hl⟩ := hp row List.mem_cons_self
    have hmap : row.map id = row := List.map_id row
    rw [List.flatMap_cons, hmap] at h ⊢
    rw [List.sum_append] at h
    have hlen := monthR_len (y := y) (k := 0) hl
    obtain ⟨i1, i2⟩ := place_app (a := row) (b := rs.flatMap fun r => r.map id) (r := r) hl h0
    show ∃ yy l : Int, (monthR y 0 row ++ yearR (y + 1) rs)[r.toNat]? = _
    by_cases hr : r < row.sum
    · obtain ⟨l, e⟩ := month_entry (y := y) (k := 0) hl h0 hr
      obtain ⟨j1, j2⟩ := i1 hr
      refine ⟨y, l, ?_⟩
      rw [List.getElem?_append_left (by omega), e, j1, Nat.mod_eq_of_lt (by omega)]
      simp
    · obtain ⟨yy, l, e⟩ := year_entry (rs := rs) (y := y + 1) (r := r - row.sum) (fun x hx => hp x (List.mem_cons_of_mem _ hx)) (by omega) (by omega)
      refine ⟨yy, l, ?_⟩
      have e4 : r.toNat - (monthR y 0 row).length = (r - row.sum).toNat := by omega
      rw [List.getElem?_append_right (by omega), e4, e, i2 hr, hm]
      simp
structure PlainV (kvs : List (Key × V)) (d : CD) (py pr ph pd : Addr) : Prop where
  years : valV kvs (kS "years") = some (.ref py)
  week : valV kvs (kS "week") = some (.int d.w)
  first : valV kvs (kS "first") = some (.int d.f)
  rest : valV kvs (kS "rest") = some (.ref pr)
  holidays : valV kvs (kS "holidays") = some (.ref ph)
  days : valV kvs (kS "days") = some (.ref pd)
  cycle : valV kvs (kS "cycle") = some (.int d.total)
  len : kvs.length ≤ 20
structure PlainH (H : Hp) (d : CD) (py pr ph pd : Addr) (xs us ds : List V) : Prop where
  py : H py = some (.lst xs)
  xs : RowsAt H xs d.ys
  pr : H pr = some (.lst (d.rs.map V.int))
  ph : H ph = some (.lst us)
  us : PrsAt H us d.hs
  pd : H pd = some (.lst ds)
  ds : TusAt H ds (daysP d.ys)
theorem PlainH.fwd {H H' : Hp} {d : CD} {py pr ph pd : Addr} {xs us ds : List V} (h : PlainH H d py pr ph pd xs us ds) (e : Ex H H') : PlainH H' d py pr ph pd xs us ds :=
  ⟨e _ _ h.py, h.xs.fwd e, e _ _ h.pr, e _ _ h.ph, h.us.fwd e, e _ _ h.pd, h.ds.fwd e⟩
def PlainAt (H : Hp) (a : Addr) (d : CD) : Prop := ∃ (kvs : List (Key × V)) (py pr ph pd : Addr) (xs us ds : List V), H a = some (.dK kvs) ∧ PlainV kvs d py pr ph pd ∧ PlainH H d py pr ph pd xs us ds
theorem PlainAt.fwd {H H' : Hp} {a : Addr} {d : CD} (h : PlainAt H a d) (e : Ex H H') : PlainAt H' a d := by
  obtain ⟨kvs, py, pr, ph, pd, xs, us, ds, h1, h2, h3⟩ := h
  exact ⟨kvs, py, pr, ph, pd, xs, us, ds, e _ _ h1, h2, h3.fwd e⟩
/-- the day's entry -/
theorem CD.Ok.entry {d : CD} (k : d.Ok) (n : Int) : ∃ yy l : Int, (daysP d.ys)[(n % d.total).toNat]? = some [yy, d.mon n, d.day n, l] := by
  have t := k.total
  exact year_entry (m := d.m) (fun row hr => ⟨k.ys.len row hr, fun l hl => (k.ys.days row hr l hl).1⟩) (Int.emod_nonneg _ (by omega)) (Int.emod_lt_of_pos _ (by omega))
def sp44 : Sp := spR fun vs H R => ∃ (a : Addr) (d : CD) (n : Int), vs = [.ref a, .int n] ∧ d.Ok ∧ PlainAt H a d ∧ 0 ≤ n ∧ n < 2 ^ 40 ∧ R = fun v H2 => ∃ (t : Addr) (y l : V), v = .ref t ∧ H t = none ∧ H2 t = some (.tup [y, .int (d.mon n), .int (d.day n), l])
def sp45 : Sp := spR fun vs H R => ∃ (a : Addr) (d : CD) (n : Int), vs = [.ref a, .int n] ∧ d.Ok ∧ PlainAt H a d ∧ R = fun v _ => v = .int ((n + d.f) % d.w)
def sp46 : Sp := spR fun vs H R => ∃ (a : Addr) (d : CD) (n : Int), vs = [.ref a, .int n] ∧ d.Ok ∧ PlainAt H a d ∧ 0 ≤ n ∧ n < 2 ^ 40 ∧ R = fun v _ => v = .bl (d.work n)
abbrev s44 : Stmt := top 44
abbrev s45 : Stmt := top 45
abbrev s46 : Stmt := top 46
theorem sc44 : FnScope ["_law_plain_here", "_law_date", "_law_year", "_law_month", "_law_day", "_law_length"] ["_law_plain_here", "_law_date"] (defScope s44) := ⟨rfl, rfl, rfl, by decide +kernel, rfl, by decide +kernel, by decide +kernel⟩
theorem sc45 : FnScope ["_law_plain_here", "_law_date"] ["_law_plain_here", "_law_date"] (defScope s45) := ⟨rfl, rfl, rfl, by decide +kernel, rfl, by decide +kernel, by decide +kernel⟩
theorem sc46 : FnScope ["_law_plain_here", "_law_date", "_law_year", "_law_month", "_law_day", "_law_length"] ["_law_plain_here", "_law_date"] (defScope s46) := ⟨rfl, rfl, rfl, by decide +kernel, rfl, by decide +kernel, by decide +kernel⟩
section
variable {P : Program} {w : World} {K : PySem.W.Frag} {mg : Str → Option Value} {base : Heap} {f : Addr} {fd : FuncData}
theorem ok44 (F : FnP K "_law_facts" s44 f fd) (T : Txt mg) : FnOk P w K mg base L2.CX0 1 f fd ["_law_plain_here", "_law_date"] sp44 := by
  refine F.ok sc44 (fun vs H Q E h => ?_) (fun cdv A outer s H vs Q E hr h => ?_)
  · obtain ⟨R, ⟨a, d, n, rfl, _⟩, _⟩ := h
    rfl
  · obtain ⟨R, ⟨a, d, n, rfl, ok, ⟨kvs, py, pr, ph, pd, xs, us, ds, ha, pv1, po⟩, n0, n1, rfl⟩, k⟩ := h
    have nd := sc44.nd
    refine ⟨_, PSs.nox (pss_cons (ps_asg (pe_ix ix_list (pe_dget (hu_of hr) (pv 0) pe_str (fun _ _ => rfl)) (pe_op op_mod (pv 1) (pe_dget (hu_of hr) (pv 0) pe_str (fun _ _ => rfl))) (fun _ _ => rfl)) (pg_tup rfl (pgs_cons (pg_name (i := 2) nd rfl (Or.inl rfl)) (pgs_cons (pg_name (i := 3) nd rfl (Or.inl rfl)) (pgs_cons (pg_name (i := 4) nd rfl (Or.inl rfl)) (pgs_cons (pg_name (i := 5) nd rfl (Or.inl rfl)) pgs_nil))))))
    (pss_one (ps_ret (pe_tup (pa_cons (pe_op op_add (pv 2) (pe_op op_mul (pe_op op_fdiv (pv 1) (pe_dget (hu_of hr) (pv 0) pe_str (fun _ _ => rfl))) (pe_callB call_len_seq (by rfl) T.len (by decide +kernel) (pa_cons (pe_dget (hu_of hr) (pv 0) pe_str (fun _ _ => rfl)) pa_nil)))) (pa_cons (pv 3) (pa_cons (pv 4) (pa_cons (pv 5) pa_nil)))))))), ?_⟩
    have t := ok.total
    obtain ⟨yy, l, he⟩ := ok.entry n
    obtain ⟨x, hx, tp, rfl, htp⟩ := paired_get2 po.ds he
    have m0 := Int.emod_nonneg n (show d.total ≠ 0 by omega)
    have hat : atI ds (n % d.total) = some (.ref tp) := by
      have z := atI_nat hx
      rw [Int.toNat_of_nonneg m0] at z
      exact z
    have q0 : 0 ≤ n / d.total := Int.ediv_nonneg n0 (by omega)
    have q1 : n / d.total ≤ n := Int.ediv_le_self _ n0
    refine q_asgG (ev_op (ev_ix_dict (ev_var rfl) ha pv1.days) (ev_op (ev_var rfl) (ev_ix_dict (ev_var rfl) ha pv1.cycle) (rv_I (by omega))) (rv_ixL (sq_of po.pd) hat)) fun H1 e1 => ?_
    refine ⟨tp, _, rfl, st_of (e1 _ _ htp), rfl, _, _, rfl, _, _, rfl, _, _, rfl, _, _, rfl, rfl, ?_⟩
    refine s_retU (eu_tup (ea_cons (ev_op (ev_var rfl) (ev_op (ev_op (ev_var rfl) (ev_ix_dict (ev_var rfl) (e1 _ _ ha) pv1.cycle) (rv_I ⟨by omega, by omega⟩)) (ev_is (ev_lenE (ev_ix_dict (ev_var rfl) (e1 _ _ ha) pv1.years) (.inl (sq_of (e1 _ _ po.py)))) (show _ = V.int (d.ys.length : Int) by rw [Paired.length po.xs])) (rv_I (Or.inl (by omega)))) rv_I0) (ea_cons (ev_var rfl) (ea_cons (ev_var rfl) (ea_cons (ev_var rfl) ea_nil)))) (by simp)) fun p H2 hp e2 h2 => k _ _ (e1.trans e2) ⟨p, _, _, rfl, fresh_back e1 hp, h2⟩
theorem ok45 (F : FnP K "_law_weekday" s45 f fd) (T : Txt mg) : FnOk P w K mg base L2.CX0 1 f fd ["_law_plain_here", "_law_date"] sp45 := by
  refine F.ok sc45 (fun vs H Q E h => ?_) (fun cdv A outer s H vs Q E hr h => ?_)
  · obtain ⟨R, ⟨a, d, n, rfl, _⟩, _⟩ := h
    rfl
  · obtain ⟨R, ⟨a, d, n, rfl, ok, ⟨kvs, py, pr, ph, pd, xs, us, ds, ha, pv1, po⟩, rfl⟩, k⟩ := h
    have nd := sc45.nd
    refine ⟨_, PSs.nox (pss_one (ps_ret (pe_op op_mod (pe_op op_add (pv 1) (pe_dget (hu_of hr) (pv 0) pe_str (fun _ _ => rfl))) (pe_dget (hu_of hr) (pv 0) pe_str (fun _ _ => rfl))))), ?_⟩
    have := ok.w
    exact s_ret (ev_op (ev_op (ev_var rfl) (ev_ix_dict (ev_var rfl) ha pv1.first) rv_I0) (ev_ix_dict (ev_var rfl) ha pv1.week) (rv_I (by omega))) fun H1 e1 => k _ _ e1 rfl
theorem ok46 (F : FnP K "_law_is_work" s46 f fd) (T : Txt mg) (C_law_facts : CalN P w K mg base 1 "_law_facts" sp44) (C_law_weekday : CalN P w K mg base 1 "_law_weekday" sp45) : FnOk P w K mg base L2.CX0 2 f fd ["_law_plain_here", "_law_date"] sp46 := by
  refine F.ok sc46 (fun vs H Q E h => ?_) (fun cdv A outer s H vs Q E hr h => ?_)
  · obtain ⟨R, ⟨a, d, n, rfl, _⟩, _⟩ := h
    rfl
  · obtain ⟨R, ⟨a, d, n, rfl, ok, hpl, n0, n1, rfl⟩, k⟩ := h
    have hp0 := hpl
    obtain ⟨kvs, py, pr, ph, pd, xs, us, ds, ha, pv1, po⟩ := hpl
    have nd := sc46.nd
    refine ⟨_, PSs.nox (pss_cons (ps_asg (C8.pe_c (C_law_facts) hr (by decide) (by rfl) (pa_cons (pv 0) (pa_cons (pv 1) pa_nil))) (pg_tup rfl (pgs_cons (pg_name (i := 2) nd rfl (Or.inl rfl)) (pgs_cons (pg_name (i := 3) nd rfl (Or.inl rfl)) (pgs_cons (pg_name (i := 4) nd rfl (Or.inl rfl)) (pgs_cons (pg_name (i := 5) nd rfl (Or.inl rfl)) pgs_nil))))))
    (pss_one (ps_ret (pe_and (pe_cmpR op_notIn_seq (C8.pe_c (C_law_weekday) hr (by decide) (by rfl) (pa_cons (pv 0) (pa_cons (pv 1) pa_nil))) (pe_dget (hu_of hr) (pv 0) pe_str (fun _ _ => rfl)) (by rfl)) (pe_one (pe_cmpR (op_notInD (r65 hr)) (pe_tup (pa_cons (pv 3) (pa_cons (pv 4) pa_nil))) (pe_dget (hu_of hr) (pv 0) pe_str (fun _ _ => rfl)) (by rfl))))))), ?_⟩
    refine q_asgGP (ep_sp (R := fun v H2 => ∃ (t : Addr) (y l : V), v = .ref t ∧ H2 t = some (.tup [y, .int (d.mon n), .int (d.day n), l])) (ea_cons (ev_var rfl) (ea_cons (ev_var rfl) ea_nil)) fun H1 e1 => ⟨_, ⟨a, d, n, rfl, ok, hp0.fwd e1, n0, n1, rfl⟩, fun v H2 _ ⟨t, y, l, h1, h2, h3⟩ => ⟨t, y, l, h1, h3⟩⟩) fun v H1 e1 ⟨t, y, l, hv, ht⟩ => ?_
    subst hv
    refine ⟨t, _, rfl, st_of ht, rfl, _, _, rfl, _, _, rfl, _, _, rfl, _, _, rfl, rfl, ?_⟩
    refine s_ret (v := .bl (d.work n)) (ev_is (ev_andV (a := !decide ((n + d.f) % d.w ∈ d.rs)) (b := !decide ((d.mon n, d.day n) ∈ d.hs)) (ev_is (ev_op (ev_sp (z := .int ((n + d.f) % d.w)) (ea_cons (ev_var rfl) (ea_cons (ev_var rfl) ea_nil)) fun H2 e2 => ⟨_, ⟨a, d, n, rfl, ok, (hp0.fwd e1).fwd e2, rfl⟩, fun v H3 _ r => r⟩) (ev_ix_dict (ev_var rfl) (e1 _ _ ha) pv1.rest) (rv_niL (sq_of (e1 _ _ po.pr)) rfl (flat_int _))) (by rw [inV_int])) fun _ => ?_) rfl) fun H2 e2 => k _ _ (e1.trans e2) rfl
    refine ev_opU1 (eu_tup (ea_cons (ev_var rfl) (ea_cons (ev_var rfl) ea_nil)) (by simp)) (fun H2 e2 => ev_ix_dict (ev_var rfl) (e2 _ _ (e1 _ _ ha)) pv1.holidays) fun p H2 hp e2 => ?_
    intro H3 e3 Q3 q3
    refine ⟨dP (d.mon n, d.day n), d.hs.map dP, dp_pr ⟨p, rfl, e3 _ _ hp⟩, dp_prs (sq_of (e3 _ _ (e2 _ _ (e1 _ _ po.ph)))) (((po.us.fwd e1).fwd e2).fwd e3), sh_of (n := 1) (pl_tup fun e he => ?_) (by decide), sh_of (pl_prs _) (by decide), ?_⟩
    · rcases List.mem_cons.mp he with rfl | he
      · exact pl_int
      · rcases List.mem_cons.mp he with rfl | he
        · exact pl_int
        · cases he
    · rw [any_dP]
      exact q3 H3 (Ex.refl _)
end
end K9
end
section
set_option Elab.async false
set_option linter.all false
set_option maxRecDepth 100000
set_option maxHeartbeats 4000000
namespace K9
open PySem PySem.Spec PyProof.Rows L2 Evl
section
variable {K : PySem.W.Frag} {σ : L2.St} {H : Hp} {ta tb te : TE} {v x : V} {xs : List V} {R : V → Hp → Prop} {D : Ends} {tz : TS}
/-- a comprehension over a range whose items are new tuples of ints -/
theorem ep_lcRT {t : TA} {u : TA} {j : Nat} {vs : List Nat} {n : Int} (g : Nat → List Int) (h : EvA t σ H [.int n]) (hn : -(2 ^ 62) ≤ n ∧ n ≤ 1000000) (hw : ∀ x, wipe ((wipe σ vs).set j (some x)) vs = wipe σ vs)
    (he : ∀ (i : Nat) H1, Ex H H1 → (i : Int) < n → EvU (tTup u) ((wipe σ vs).set j (some (.int (i : Int)))) H1 ((g i).map V.int)) :
    EvP (tLc (iRng1 t) (gName j) tYes (tTup u) vs) σ H (fun v H2 => ∃ p ys, v = .ref p ∧ H p = none ∧ H2 p = some (.lst ys) ∧ ys.length = n.toNat ∧ TusAt (hid p p H2) ys ((List.range n.toNat).map g)) := fun H0 e Q q => h H0 e _ fun H1 e1 => ⟨n, rfl, hn.1, by omega, fun Dl hD => by
  have e01 := e.trans e1
  refine lc_it (g := gName j) ((walk_range (lo := 0) (n := n.toNat)).mono (fun _ h => h) (fun i H x H' hi _ y => y)) (fun i H' => ∃ ys, Ex H1 (hid Dl Dl H') ∧ H' Dl = some (.lst ys) ∧ ys.length = i ∧ TusAt (hid Dl Dl H') ys ((List.range i).map g)) ⟨[], ?_, upd_same, rfl, .nil⟩ (fun i H' _ p => trivial) (fun i x H2 H' hi p y => ?_) (fun H' p => ?_)
  · rw [hid_up1]
    exact hid_of (Ex.refl _) hD hD
  · obtain ⟨ys, p1, p2, p3, p4⟩ := p
    obtain ⟨y1, y2⟩ := y
    subst y1
    have ex : x = V.int (i : Int) := by
      rw [y2]
      show V.int (0 + (i : Int)) = _
      rw [Int.zero_add]
    subst ex
    refine ⟨hw _, yes_go ?_⟩
    refine he i _ ((e01.trans p1).trans hid_le) (by omega) _ (Ex.refl _) _ fun tp H3 htp e3 h3 => ?_
    have htD : tp ≠ Dl := fun z => by
      rw [z, p2] at htp
      cases htp
    refine ⟨ys, e3 _ _ p2, by rw [p3, sizeLine_eq]; omega, ys ++ [.ref tp], ?_, upd_same, by simp [p3], ?_⟩
    · rw [hid_up1]
      exact p1.trans (hid_ex e3)
    · rw [hid_up1, List.range_succ, List.map_append]
      refine paired_snoc (p4.fwd (hid_ex e3)) ⟨tp, rfl, ?_⟩
      rw [hid_at htD htD]
      exact h3
  · obtain ⟨ys, p1, p2, p3, p4⟩ := p
    exact q _ _ (e1.trans (p1.trans hid_le)) ⟨Dl, ys, rfl, fresh_back e01 hD, p2, p3, p4⟩⟩
/-- xs.extend(a new list told by a property) -/
theorem s_extP {l : Addr} {T : List V → Hp → Prop} (hl : H l = some (.lst xs)) (ha : Ev ta σ H (.ref l)) (h : EvP te σ H (fun v H2 => ∃ p ys, v = .ref p ∧ H p = none ∧ H2 p = some (.lst ys) ∧ T ys H2)) (hz : ∀ ys H1, T ys H1 → xs.length + ys.length ≤ 16777216)
    (k : ∀ ys H1, Ex H H1 → T ys H1 → D.nx σ (upd H1 l (.lst (xs ++ ys)))) : tDrop (tBM K "list" rExtend ta (tCons te tNil)) D σ H := ha H (Ex.refl H) _ fun H1 e1 =>
  ⟨Or.inl ⟨rfl, xs, sq_of (e1 l _ hl)⟩, h H1 e1 _ fun v H2 e2 ⟨b, ys, hv, hb, h2, hT⟩ => by
    subst hv
    exact ⟨l, b, xs, ys, rfl, rfl, e2 l _ (e1 l _ hl), h2, by rw [sizeLine_eq]; exact hz _ _ hT, k ys H2 (e1.trans e2) hT⟩⟩
/-- xs.append(e), long lists -/
theorem s_appB {l : Addr} (hl : H l = some (.lst xs)) (ha : Ev ta σ H (.ref l)) (h : Ev te σ H v) (hz : xs.length < 1000000) (k : ∀ H1, Ex H H1 → D.nx σ (upd H1 l (.lst (xs ++ [v])))) : tDrop (tBM K "list" rAppend ta (tCons te tNil)) D σ H := ha H (Ex.refl H) _ fun H1 e1 =>
  ⟨Or.inl ⟨rfl, xs, sq_of (e1 l _ hl)⟩, h H1 e1 _ fun H2 e2 => ⟨l, xs, v, rfl, rfl, e2 l _ (e1 l _ hl), Nat.lt_of_lt_of_le hz (by rw [sizeLine_eq]; decide), k H2 (e1.trans e2)⟩⟩
theorem q_appB {l : Addr} (hl : H l = some (.lst xs)) (ha : Ev ta σ H (.ref l)) (h : Ev te σ H v) (hz : xs.length < 1000000) (k : ∀ H1, Ex H H1 → tz D σ (upd H1 l (.lst (xs ++ [v])))) : tSeq (tDrop (tBM K "list" rAppend ta (tCons te tNil))) tz D σ H := s_appB (D := { D with nx := tz D }) hl ha h hz k
theorem ev_intB {b : Bool} (h : Ev ta σ H (.bl b)) : Ev (tCB (fun xs H Q => (∃ i, xs = [V.int i] ∧ Q (.int i) H) ∨ ∃ k, xs = [V.bl k] ∧ Q (.int (if k then 1 else 0)) H) (tCons ta tNil)) σ H (.int (if b then 1 else 0)) := fun H1 e Q q =>
  h H1 e _ fun H2 e2 => .inr ⟨b, rfl, q H2 e2⟩
end
theorem TusAt.hide2 {H : Hp} {a b : Addr} {ys zs : List V} {xs : List V} {rs : List (List Int)} (h : TusAt H xs rs) (ha : H a = some (.lst ys)) (hb : H b = some (.lst zs)) : TusAt (hid a b H) xs rs := Paired.mapP h fun _ _ ⟨t, h1, h2⟩ => ⟨t, h1, by
  rw [hid_at (fun z => by rw [z, ha] at h2; cases h2) (fun z => by rw [z, hb] at h2; cases h2)]
  exact h2⟩
theorem drop_of {α : Type} {l : List α} {i : Nat} {x : α} (h : l[i]? = some x) : l.drop i = x :: l.drop (i + 1) := by
  obtain ⟨hi, e⟩ := List.getElem?_eq_some_iff.mp h
  rw [List.drop_eq_getElem_cons hi, e]
theorem daysP_len {m : Nat} {ys : List (List Int)} (h : ∀ row ∈ ys, row.length = m ∧ ∀ l ∈ row, 1 ≤ l) : ((daysP ys).length : Int) = (ys.flatMap fun r => r.map id).sum := by
  have key : ∀ (rs : List (List Int)) (y : Nat), (∀ row ∈ rs, ∀ l ∈ row, 1 ≤ l) → ((yearR y rs).length : Int) = (rs.flatMap fun r => r.map id).sum := by
    intro rs
    induction rs with
    | nil => intro y _; rfl
    | cons r rs ih =>
      intro y h
      have h1 := monthR_len (y := y) (k := 0) (h r List.mem_cons_self)
      have h2 := ih (y + 1) fun row hr => h row (List.mem_cons_of_mem _ hr)
      show (((monthR y 0 r ++ yearR (y + 1) rs).length : Nat) : Int) = _
      rw [List.length_append, List.flatMap_cons, List.sum_append, List.map_id]
      omega
  exact key ys 0 fun row hr => (h row hr).2
section
variable {K : PySem.W.Frag} {σ : L2.St} {H : Hp} {ta tb te : TE} {trs : List (TE × TE)} {kvs more : List (Key × V)} {D : Ends} {tz : TS}
/-- a.update({..}) as a statement -/
theorem ep_upd {a : Addr} (ha : Ev ta σ H (.ref a)) (h : H a = some (.dK kvs)) (hl : kvs.length ≤ 500) (hr : EvPr trs σ H more) (h15 : more.length ≤ 15) (hm : mergeK [] more = more) (k : ∀ H1, Ex H H1 → tz D σ (upd H1 a (.dK (mergeK kvs more)))) : tSeq (tDrop (tBM K "dict" rUpdate ta (tCons (tDisp trs) tNil))) tz D σ H :=
  ha H (Ex.refl _) _ fun H1 e1 => ⟨.inr (.inr (.inl ⟨rfl, .inl ⟨kvs, e1 _ _ h⟩⟩)), ed_disp hr h15 H1 e1 _ fun v H2 e2 ⟨p, hv, hp, hq⟩ => by
    subst hv
    have ha2 := e2 _ _ (e1 _ _ h)
    rw [hm] at hq
    refine ⟨a, p, kvs, more, rfl, rfl, fun z => ?_, ha2, hq, by omega, k H2 (e1.trans e2)⟩
    rw [← z, h] at hp
    cases hp⟩
end
section
variable {K : PySem.W.Frag} {σ : L2.St} {H : Hp} {ta tb : TE} {xs ys : List V} {D : Ends} {tz : TS}
theorem q_asgTLL {i j : Nat} (ha : EvL ta σ H xs) (hb : EvL tb σ H ys) (k : ∀ p q H1, H p = none → H q = none → p ≠ q → Ex H H1 → H1 p = some (.lst xs) → H1 q = some (.lst ys) → tz D ((σ.set i (some (.ref p))).set j (some (.ref q))) H1) :
    tSeq (tAsg (tTup (tCons ta (tCons tb tNil))) (gTup K 2 (gCons (gName i) (gCons (gName j) gNil)))) tz D σ H :=
  ha H (Ex.refl H) _ fun p H1 hp e1 h1 => hb H1 e1 _ fun q H2 hq e2 h2 => ⟨by show 2 ≤ sizeLine; decide, fun t ht => ⟨t, _, rfl, st_of upd_same, rfl, _, _, rfl, _, _, rfl, rfl, k p q _ hp (fresh_back e1 hq) (fun z => by rw [z, hq] at h1; cases h1) ((e1.trans e2).trans (Ex.new ht)) (Ex.new ht _ _ (e2 _ _ h1)) (Ex.new ht _ _ h2)⟩⟩
end
def sp42 (K : PySem.W.Frag) : Sp := spR fun vs H R => ∃ (py pr ph : Addr) (d : CD) (xs us : List V), vs = [.ref py, .int d.w, .int d.f, .ref pr, .ref ph] ∧ d.Ok ∧ d.turn ≤ 200000 ∧ H py = some (.lst xs) ∧ RowsAt H xs d.ys ∧ H pr = some (.lst (d.rs.map V.int)) ∧ H ph = some (.lst us) ∧ PrsAt H us d.hs ∧
  R = fun v H2 => ∃ (a pw : Addr) (kvs : List (Key × V)) (py pr ph pd : Addr) (xs us ds : List V) (ws : List Int), v = .ref a ∧ H a = none ∧ H2 a = some (.dK kvs) ∧ PlainV kvs d py pr ph pd ∧ PlainH H2 d py pr ph pd xs us ds ∧ valV kvs (kS "works") = some (.ref pw) ∧ H2 pw = some (.lst (ws.map V.int)) ∧
    (ws = [] ↔ ∀ i : Nat, (i : Int) < d.turn → d.work i = false)
abbrev s42 : Stmt := top 42
theorem sc42 : FnScope ["_law_lists", "_law_size", "_law_begin", "_law_idle", "_law_free", "_law_cycle", "_law_begins", "_law_year", "_law_month", "_law_length", "_law_plain_here", "_law_flags", "_law_ahead", "_law_flag", "_law_day", "_law_date"] ["_law_lists", "_law_size", "_law_begin", "_law_idle", "_law_free"] (defScope s42) := ⟨rfl, rfl, rfl, by decide +kernel, rfl, by decide +kernel, by decide +kernel⟩
section
variable {P : Program} {w : World} {K : PySem.W.Frag} {mg : Str → Option Value} {base : Heap} {f : Addr} {fd : FuncData}
theorem ok42 (F : FnP K "_law_with_days" s42 f fd) (T : Txt mg) (C_law_gcd : CalN P w K mg base 1 "_law_gcd" sp23) (C_law_is_work : CalN P w K mg base 2 "_law_is_work" sp46) : FnOk P w K mg base L2.CX0 3 f fd ["_law_lists", "_law_size", "_law_begin", "_law_idle", "_law_free"] (sp42 K) := by
  refine F.ok sc42 (fun vs H Q E h => ?_) (fun cdv A outer s H vs Q E hr h => ?_)
  · obtain ⟨R, ⟨py, pr, ph, d, xs, us, rfl, _⟩, _⟩ := h
    rfl
  · obtain ⟨R, ⟨py, pr, ph, d, xs, us, rfl, ok, hT, hpy, hxs, hpr, hph, hus, rfl⟩, k⟩ := h
    have nd := sc42.nd
    refine ⟨_, PSs.nox (pss_cons (ps_par (i := 5) (j := 6) rfl nd rfl rfl (by decide) rfl rfl (pa_cons (pe_lst pa_nil) (pa_cons (pe_lst pa_nil) pa_nil)) (by rfl))
    (pss_cons (ps_for PassesOwn.never rfl (pi_range1 (by rfl) T.range (pa_cons (pe_callB call_len_seq (by rfl) T.len (by decide +kernel) (pa_cons (pv 0) pa_nil)) pa_nil)) (pg_name (i := 7) nd rfl (Or.inr rfl)) (pss_one (ps_for PassesOwn.never rfl (pi_range1 (by rfl) T.range (pa_cons (pe_callB call_len_seq (by rfl) T.len (by decide +kernel) (pa_cons (pe_ix ix_list (pv 0) (pv 7) (fun _ _ => rfl)) pa_nil)) pa_nil)) (pg_name (i := 8) nd rfl (Or.inr rfl)) (pss_cons (ps_expr (pe_bm PySem.F.plainAttrs_list PySem.F.slot_list_append PySem.F.type_list_append mt_append (pv 6) (pa_cons (pe_callB call_len_seq (by rfl) T.len (by decide +kernel) (pa_cons (pv 5) pa_nil)) pa_nil)))
    (pss_cons (ps_set (i := 9) nd rfl (Or.inr rfl) (pe_ix ix_list (pe_ix ix_list (pv 0) (pv 7) (fun _ _ => rfl)) (pv 8) (fun _ _ => rfl)))
    (pss_one (ps_expr (pe_bm PySem.F.plainAttrs_list PySem.F.slot_list_extend PySem.F.type_list_extend mt_extend (pv 5) (pa_cons (pe_lc (own := [("_law_day", 14)]) (g := gName 14) rfl nd (pi_range1 (by rfl) T.range (pa_cons (pv 9) pa_nil)) (blkOk_by (own := [("_law_day", 14)]) (N := ["_law_lists", "_law_size", "_law_begin", "_law_idle", "_law_free", "_law_cycle", "_law_begins", "_law_year", "_law_month", "_law_length", "_law_plain_here", "_law_flags", "_law_ahead", "_law_flag", "_law_day", "_law_date"]) (sc := (defScope s42)) (by decide +kernel)) (fun _ _ _ _ _ => (pg_name (i := 14) nd rfl (Or.inl rfl))) (fun _ _ _ _ _ => pts_nil) (fun _ _ _ _ _ => (pe_tup (pa_cons (pv 7) (pa_cons (pe_op op_add (pv 8) pe_int) (pa_cons (pe_op op_add (pv 14) pe_int) (pa_cons (pv 9) pa_nil))))))) pa_nil)))))))))
    (pss_cons (ps_set (i := 10) nd rfl (Or.inr rfl) (pe_disp (pps_cons pe_str (pv 0) (pps_cons pe_str (pv 1) (pps_cons pe_str (pv 2) (pps_cons pe_str (pv 3) (pps_cons pe_str (pv 4) (pps_cons pe_str (pv 5) pps_nil)))))) (by rfl) (by rfl) (fun z => by cases z) (by decide)))
    (pss_cons (ps_expr (pe_bm PySem.F.plainAttrs_dict PySem.F.slot_dict_update PySem.F.type_dict_update mt_update (pv 10) (pa_cons (pe_disp (pps_cons pe_str (pv 6) (pps_cons pe_str (pe_callB call_len_seq (by rfl) T.len (by decide +kernel) (pa_cons (pe_ix ix_list (pv 0) pe_int (fun _ _ => rfl)) pa_nil)) (pps_cons pe_str (pe_callB call_len_seq (by rfl) T.len (by decide +kernel) (pa_cons (pv 5) pa_nil)) pps_nil))) (by rfl) (by rfl) (fun z => by cases z) (by decide)) pa_nil)))
    (pss_cons (ps_dput (hu_of hr) (pv 10) pe_str (pe_op op_mul (pe_op op_fdiv (pe_callB call_len_seq (by rfl) T.len (by decide +kernel) (pa_cons (pv 5) pa_nil)) (C8.pe_c (C_law_gcd) hr (by decide) (by rfl) (pa_cons (pe_callB call_len_seq (by rfl) T.len (by decide +kernel) (pa_cons (pv 5) pa_nil)) (pa_cons (pv 1) pa_nil)))) (pv 1)) rfl)
    (pss_cons (ps_asg (pe_tup (pa_cons (pe_lc (own := [("_law_date", 15)]) (g := gName 15) rfl nd (pi_range1 (by rfl) T.range (pa_cons (pe_dget (hu_of hr) (pv 10) pe_str (fun _ _ => rfl)) pa_nil)) (blkOk_by (own := [("_law_date", 15)]) (N := ["_law_lists", "_law_size", "_law_begin", "_law_idle", "_law_free", "_law_cycle", "_law_begins", "_law_year", "_law_month", "_law_length", "_law_plain_here", "_law_flags", "_law_ahead", "_law_flag", "_law_day", "_law_date"]) (sc := (defScope s42)) (by decide +kernel)) (fun _ _ _ _ _ => (pg_name (i := 15) nd rfl (Or.inl rfl))) (fun _ _ _ _ _ => pts_nil) (fun _ _ _ _ _ => (C8.pe_c (C_law_is_work) hr (by decide) (by rfl) (pa_cons (pv 10) (pa_cons (pv 15) pa_nil))))) (pa_cons (pe_lst (pa_cons pe_int pa_nil)) pa_nil))) (pg_tup rfl (pgs_cons (pg_name (i := 11) nd rfl (Or.inr rfl)) (pgs_cons (pg_name (i := 12) nd rfl (Or.inl rfl)) pgs_nil))))
    (pss_cons (ps_for PassesOwn.never rfl (pi_list (pv 11)) (pg_name (i := 13) nd rfl (Or.inl rfl)) (pss_one (ps_expr (pe_bm PySem.F.plainAttrs_list PySem.F.slot_list_append PySem.F.type_list_append mt_append (pv 12) (pa_cons (pe_op op_add (pe_ix ix_list (pv 12) (pe_un un_neg pe_int) (fun _ _ => rfl)) (pe_callTy call_int1 (by rfl) T.int (by decide +kernel) (pa_cons (pv 13) pa_nil))) pa_nil)))))
    (pss_cons (ps_dput (hu_of hr) (pv 10) pe_str (pe_lc (own := [("_law_date", 15)]) (g := gName 15) rfl nd (pi_range1 (by rfl) T.range (pa_cons (pe_dget (hu_of hr) (pv 10) pe_str (fun _ _ => rfl)) pa_nil)) (blkOk_by (own := [("_law_date", 15)]) (N := ["_law_lists", "_law_size", "_law_begin", "_law_idle", "_law_free", "_law_cycle", "_law_begins", "_law_year", "_law_month", "_law_length", "_law_plain_here", "_law_flags", "_law_ahead", "_law_flag", "_law_day", "_law_date"]) (sc := (defScope s42)) (by decide +kernel)) (fun _ _ _ _ _ => (pg_name (i := 15) nd rfl (Or.inl rfl))) (fun _ _ _ _ _ => (pts_one (pt_val (pe_ix (r := rIxL K) ix_list (pv 11) (pv 15) (fun _ _ => rfl))))) (fun _ _ _ _ _ => (pv 15))) rfl)
    (pss_cons (ps_dput (hu_of hr) (pv 10) pe_str (pv 12) rfl)
    (pss_one (ps_ret (pv 10)))))))))))), ?_⟩
    have hw := ok.w
    have ht := ok.total
    refine q_parLL (el_lst ea_nil (by decide)) (el_lst ea_nil (by decide)) fun pc pb H1 hpc hpb hne e1 h1 h2 => ?_
    have t0 : 0 ≤ d.turn := Int.mul_nonneg (Int.ediv_nonneg (by omega) (by omega)) (by omega)
    have npc : ∀ {b : Addr} {o : HO}, H b = some o → b ≠ pc := fun h z => by rw [z, hpc] at h; cases h
    have npb : ∀ {b : Addr} {o : HO}, H b = some o → b ≠ pb := fun h z => by rw [z, hpb] at h; cases h
    have hlen : ∀ row ∈ d.ys, row.length = d.m ∧ ∀ l ∈ row, 1 ≤ l := fun row hr => ⟨ok.ys.len row hr, fun l hl => (ok.ys.days row hr l hl).1⟩
    have hall : ((daysP d.ys).length : Int) = d.total := daysP_len hlen
    have hny := ok.ys.ne
    have hnm := ok.ys.mo
    let Inv2 : List (List Int) → Hp → (List V × List V) → Prop := fun rows H' q => Ex H (hid pc pb H') ∧ H' pc = some (.lst q.1) ∧ TusAt (hid pc pb H') q.1 rows ∧ H' pb = some (.lst q.2)
    let Pv : Nat → L2.St → Hp → Prop := fun i σ H' => ∃ (cs bs : List V) (rows : List (List Int)) (x7 x8 x9 : Option V), σ = [some (.ref py), some (.int d.w), some (.int d.f), some (.ref pr), some (.ref ph), some (.ref pc), some (.ref pb), x7, x8, x9, none, none, none, none, none, none] ∧
      Inv2 rows H' (cs, bs) ∧ bs.length ≤ i * 14 ∧ rows ++ yearR i (d.ys.drop i) = daysP d.ys
    refine q_forR1 (n := (d.ys.length : Int)) (ea_cons (ev_is (ev_lenE (ev_var rfl) (.inl (sq_of (e1 _ _ hpy)))) (show _ = V.int (d.ys.length : Int) by rw [Paired.length hxs])) ea_nil) (by omega) Pv (fun H2 e2 => ⟨[], [], [], none, none, none, rfl, ⟨hid_of (e1.trans e2) hpc hpb, e2 _ _ h1, .nil, e2 _ _ h2⟩, by simp, by simp [daysP]⟩) (fun i σ' H' hi pv1 => ?_) (fun σ' H' pv1 => ?_)
    · obtain ⟨cs, bs, rows, x7, x8, x9, rfl, ⟨i1, i2, i3, i4⟩, i5, i6⟩ := pv1
      have hi2 : i < d.ys.length := by omega
      obtain ⟨row, hrow⟩ : ∃ r, d.ys[i]? = some r := ⟨_, List.getElem?_eq_getElem hi2⟩
      obtain ⟨xr, hxr, tr, rfl, htr⟩ := paired_get2 hxs hrow
      have hrm : row.length = d.m := ok.ys.len row (List.mem_of_getElem? hrow)
      have hdrop : d.ys.drop i = row :: d.ys.drop (i + 1) := drop_of hrow
      have ex0 : ∀ {H2 : Hp}, Ex H (hid pc pb H2) → Ex H H2 := fun e => e.trans hid_le
      let Pv2 : Nat → L2.St → Hp → Prop := fun k σ H' => ∃ (cs bs : List V) (rows : List (List Int)) (x8 x9 : Option V), σ = [some (.ref py), some (.int d.w), some (.int d.f), some (.ref pr), some (.ref ph), some (.ref pc), some (.ref pb), some (.int (i : Int)), x8, x9, none, none, none, none, none, none] ∧
        Inv2 rows H' (cs, bs) ∧ bs.length ≤ i * 14 + k ∧ rows ++ (monthR i k (row.drop k) ++ yearR (i + 1) (d.ys.drop (i + 1))) = daysP d.ys
      refine s_forR1 (n := (d.m : Int)) (ea_cons (ev_is (ev_lenE (ev_op (ev_var rfl) (ev_var rfl) (rv_ixL (sq_of (ex0 i1 _ _ hpy)) (atI_nat hxr))) (.inl (sq_of (ex0 i1 _ _ htr)))) (show _ = V.int (d.m : Int) by rw [List.length_map, hrm])) ea_nil) (by omega) Pv2 (fun H2 e2 => ⟨cs, bs, rows, x8, x9, rfl, ⟨i1.trans (hid_ex e2), e2 _ _ i2, i3.fwd (hid_ex e2), e2 _ _ i4⟩, by omega, by
        rw [hdrop] at i6
        exact i6⟩) (fun k2 σ' H' hk pv2 => ?_) (fun σ' H' pv2 => ?_)
      · obtain ⟨cs, bs, rows, x8, x9, rfl, ⟨j1, j2, j3, j4⟩, j5, j6⟩ := pv2
        have hk2 : k2 < row.length := by omega
        obtain ⟨l, hl⟩ : ∃ l, row[k2]? = some l := ⟨_, List.getElem?_eq_getElem hk2⟩
        have hld : row.drop k2 = l :: row.drop (k2 + 1) := drop_of hl
        obtain ⟨l1, l2⟩ := ok.ys.days row (List.mem_of_getElem? hrow) l (List.mem_of_getElem? hl)
        have hcl : cs.length = rows.length := Paired.length j3
        have hrl : (rows.length : Int) ≤ d.total := by
          have z := congrArg List.length j6
          rw [List.length_append] at z
          omega
        refine q_app j4 (ev_var rfl) (ev_lenE (ev_var rfl) (.inl (sq_of j2))) (show bs.length < 100000 by omega) fun H2 e2 => ?_
        have f1 : Ex H (hid pc pb (upd H2 pb (.lst (bs ++ [.int (cs.length : Int)])))) := by rw [hid_up2]; exact j1.trans (hid_ex e2)
        have f2 : upd H2 pb (.lst (bs ++ [.int (cs.length : Int)])) pc = some (.lst cs) := by rw [upd_ne hne]; exact e2 _ _ j2
        have f3 : TusAt (hid pc pb (upd H2 pb (.lst (bs ++ [.int (cs.length : Int)])))) cs rows := by rw [hid_up2]; exact j3.fwd (hid_ex e2)
        have f4 : upd H2 pb (.lst (bs ++ [.int (cs.length : Int)])) pb = some (.lst (bs ++ [.int (cs.length : Int)])) := upd_same
        generalize upd H2 pb (.lst (bs ++ [.int (cs.length : Int)])) = H3 at *
        have hat : atI (row.map V.int) (k2 : Int) = some (.int l) := atI_nat (by rw [List.getElem?_map, hl]; rfl)
        refine q_asg (v := .int l) (ev_op (ev_op (ev_var rfl) (ev_var rfl) (rv_ixL (sq_of (ex0 f1 _ _ hpy)) (atI_nat hxr))) (ev_var rfl) (rv_ixL (sq_of (ex0 f1 _ _ htr)) hat)) fun H4 e4 => ?_
        have g1 := f1.trans (hid_ex e4)
        refine s_extP (T := fun ys H5 => ys.length = l.toNat ∧ TusAt (hid pc pb H5) ys ((List.range l.toNat).map fun (j : Nat) => [(i : Int), (k2 : Int) + 1, (j : Int) + 1, l])) (e4 _ _ f2) (ev_var rfl) (EvP.imp (ep_lcRT (fun (j : Nat) => [(i : Int), (k2 : Int) + 1, (j : Int) + 1, l]) (ea_cons (ev_var rfl) ea_nil) (by omega) (fun _ => by rfl) fun j H5 e5 hj => eu_tup (ea_cons (ev_var rfl) (ea_cons (ev_op (ev_var rfl) ev_c rv_I0) (ea_cons (ev_op (ev_var rfl) ev_c rv_I0) (ea_cons (ev_var rfl) ea_nil)))) (by simp)) fun v H5 e5 ⟨p, ys, q1, q2, q3, q4, q5⟩ => ⟨p, ys, q1, q2, q3, q4, (q5.fwd hid_le).hide2 (e5 _ _ (e4 _ _ f2)) (e5 _ _ (e4 _ _ f4))⟩) (fun ys H5 q => by have := q.1; omega) fun ys H5 e5 q => ?_
        · obtain ⟨q1, q2⟩ := q
          refine ⟨cs ++ ys, bs ++ [.int (cs.length : Int)], rows ++ ((List.range l.toNat).map fun (j : Nat) => [(i : Int), (k2 : Int) + 1, (j : Int) + 1, l]), _, _, rfl, ⟨?_, upd_same, ?_, ?_⟩, ?_, ?_⟩
          · rw [hid_up1]
            exact g1.trans (hid_ex e5)
          · rw [hid_up1]
            exact paired_app (f3.fwd (hid_ex (e4.trans e5))) q2
          · rw [upd_ne (Ne.symm hne)]
            exact e5 _ _ (e4 _ _ f4)
          · simp
            omega
          · rw [← j6, hld]
            simp [monthR]
      · obtain ⟨cs, bs, rows, x8, x9, rfl, ⟨j1, j2, j3, j4⟩, j5, j6⟩ := pv2
        refine ⟨cs, bs, rows, _, _, _, rfl, ⟨j1, j2, j3, j4⟩, ?_, ?_⟩
        · have : ((d.m : Int)).toNat = d.m := by omega
          rw [this] at j5
          rw [Nat.add_mul]
          omega
        · have : ((d.m : Int)).toNat = row.length := by omega
          rw [this, List.drop_length] at j6
          simpa [monthR] using j6
    · obtain ⟨cs, bs, rows, x7, x8, x9, rfl, ⟨i1, i2, i3, i4⟩, i5, i6⟩ := pv1
      have hrows : rows = daysP d.ys := by
        have : ((d.ys.length : Int)).toNat = d.ys.length := by omega
        rw [this, List.drop_length] at i6
        simpa [yearR] using i6
      subst hrows
      have hcs : (cs.length : Int) = d.total := by rw [Paired.length i3]; exact hall
      have ex1 : Ex H H' := i1.trans hid_le
      have gpy : H' py = some (.lst xs) := ex1 _ _ hpy
      have gpr : H' pr = some (.lst (d.rs.map V.int)) := ex1 _ _ hpr
      have gph : H' ph = some (.lst us) := ex1 _ _ hph
      have po : PlainH H' d py pr ph pc xs us cs := ⟨gpy, hxs.fwd ex1, gpr, gph, hus.fwd ex1, i2, i3.fwd hid_le⟩
      clear i1 i3 i5 i6
      -- the dict
      refine q_asgP (ed_disp (kvs := [(kS "years", .ref py), (kS "week", .int d.w), (kS "first", .int d.f), (kS "rest", .ref pr), (kS "holidays", .ref ph), (kS "days", .ref pc)]) (er_cons ev_c (ev_var rfl) (er_cons ev_c (ev_var rfl) (er_cons ev_c (ev_var rfl) (er_cons ev_c (ev_var rfl) (er_cons ev_c (ev_var rfl) (er_cons ev_c (ev_var rfl) er_nil)))))) (by simp)) fun v H2 e2 ⟨pd, hv, hpd, h2d⟩ => ?_
      subst hv
      have npd : ∀ {b : Addr} {o : HO}, H' b = some o → b ≠ pd := fun h z => by rw [z, hpd] at h; cases h
      obtain ⟨y0, yr, hy⟩ : ∃ y0 yr, d.ys = y0 :: yr := by
        cases e : d.ys with
        | nil => rw [e] at hny; exact absurd hny.1 (by decide)
        | cons a r => exact ⟨a, r, rfl⟩
      obtain ⟨x0, hx0, tr0, rfl, htr0⟩ := paired_get2 (i := 0) (y := y0) po.xs (by rw [hy]; rfl)
      have hy0 : y0.length = d.m := ok.ys.len y0 (by rw [hy]; exact List.mem_cons_self)
      have cyc : ∀ {σ : L2.St} {H3 : Hp}, Ex H' H3 → σ[5]? = some (some (.ref pc)) → Ev (tCB (fun xs H Q => ∃ p ys, xs = [.ref p] ∧ (SqL K H p ys ∨ SqT K H p ys) ∧ Q (.int ys.length) H) (tCons (tVar 5) tNil)) σ H3 (.int d.total) := fun e hσ => ev_is (ev_lenE (ev_var hσ) (.inl (sq_of (e _ _ i2)))) (by rw [hcs])
      generalize hk1 : mergeK [] _ = kv1 at h2d
      have l1 : kv1.length ≤ 6 := by rw [← hk1]; exact length_mergeK _ []
      -- update
      refine ep_upd (kvs := kv1) (more := [(kS "begins", .ref pb), (kS "months", .int d.m), (kS "cycle", .int d.total)]) (ev_var rfl) h2d (by omega) (er_cons ev_c (ev_var rfl) (er_cons ev_c (ev_is (ev_lenE (ev_op (ev_var rfl) ev_c (rv_ixL (sq_of (e2 _ _ gpy)) (atI_nat (j := 0) hx0))) (.inl (sq_of (e2 _ _ htr0)))) (show _ = V.int (d.m : Int) by rw [List.length_map, hy0])) (er_cons ev_c (cyc e2 rfl) er_nil))) (by simp) (by rfl) fun H3 e3 => ?_
      generalize hk2 : mergeK kv1 _ = kv2
      have l2 : kv2.length ≤ 9 := by
        have z := length_mergeK [(kS "begins", V.ref pb), (kS "months", .int d.m), (kS "cycle", .int d.total)] kv1
        rw [← hk2]
        simp at z ⊢
        omega
      have pv2 : PlainV kv2 d py pr ph pc := by
        subst hk1 hk2
        simp only [merge_c, merge_n]
        refine ⟨?_, ?_, ?_, ?_, ?_, ?_, ?_, by simp only [merge_c, merge_n] at l2; omega⟩
        all_goals (repeat (first | rw [valV_put, if_pos rfl] | rw [valV_put, if_neg (by decide)]))
      have ex3 : ∀ o, Ex H' (upd H3 pd o) := fun o => Ex.mut (e2.trans e3) hpd
      -- period
      refine q_dput (R := fun v _ => v = .int d.turn) (ep_ev (ev_op (ev_op (cyc (ex3 _) rfl) (ev_sp (z := .int (Int.gcd d.total d.w : Nat)) (ea_cons (cyc (ex3 _) rfl) (ea_cons (ev_var rfl) ea_nil)) fun H4 _ => ⟨_, ⟨d.total, d.w, rfl, rfl⟩, fun v H5 _ r => r⟩) (rv_I ?_)) (ev_var rfl) (rv_I (Or.inr (by omega))))) (ev_var rfl) ev_c upd_same (by omega) (fun v H4 e4 hv => ?_) (fun _ _ _ h _ => h)
      · have g1 : 0 < Int.gcd d.total d.w := Int.gcd_pos_of_ne_zero_right _ (by omega)
        have g2 : (Int.gcd d.total d.w : Int) ≤ d.w := Int.le_of_dvd (by omega) (Int.gcd_dvd_right ..)
        exact ⟨by omega, by omega⟩
      subst hv
      have ex4 : ∀ o, Ex H' (upd H4 pd o) := fun o => Ex.mut ((ex3 _).trans e4) hpd
      have pv3 : PlainV (putK kv2 (kS "period") (.int d.turn)) d py pr ph pc := by
        have hl : (putK kv2 (kS "period") (.int d.turn)).length ≤ kv2.length + 1 := length_mergeK [(kS "period", V.int d.turn)] kv2
        refine ⟨?_, ?_, ?_, ?_, ?_, ?_, ?_, by omega⟩
        all_goals rw [valV_put, if_neg (by decide)]
        · exact pv2.years
        · exact pv2.week
        · exact pv2.first
        · exact pv2.rest
        · exact pv2.holidays
        · exact pv2.days
        · exact pv2.cycle
      have per3 : valV (putK kv2 (kS "period") (.int d.turn)) (kS "period") = some (.int d.turn) := by rw [valV_put, if_pos rfl]
      have l3 : (putK kv2 (kS "period") (.int d.turn)).length ≤ 10 := by
        have hl : (putK kv2 (kS "period") (.int d.turn)).length ≤ kv2.length + 1 := length_mergeK [(kS "period", V.int d.turn)] kv2
        omega
      generalize putK kv2 (kS "period") (.int d.turn) = kv3 at *
      have at4 : upd H4 pd (.dK kv3) pd = some (.dK kv3) := upd_same
      have po4 : PlainH (upd H4 pd (.dK kv3)) d py pr ph pc xs us cs := po.fwd (ex4 _)
      have ex4' := ex4 (.dK kv3)
      generalize upd H4 pd (.dK kv3) = H5 at at4 po4 ex4' ⊢
      have pl5 : ∀ {H6 : Hp}, Ex H5 H6 → PlainAt H6 pd d := fun e => ⟨kv3, py, pr, ph, pc, xs, us, cs, e _ _ at4, pv3, po4.fwd e⟩
      have hTn : ((d.turn.toNat : Nat) : Int) = d.turn := Int.toNat_of_nonneg t0
      have npd5 : H5 pd = some (.dK kv3) := at4
      -- flags, ahead
      refine q_asgTLL (xs := (List.range d.turn.toNat).map fun (i : Nat) => V.bl (d.work i)) (ys := [V.int 0]) (el_is (el_lcR (n := d.turn) (fun _ => true) (fun i => .bl (d.work i)) (ea_cons (ev_ix_dict (ev_var rfl) npd5 per3) ea_nil) (by omega) (fun _ => by rfl) (fun _ _ _ _ => et_yes) fun i H6 e6 hi _ => ?_) given_all) (el_lst (ea_cons ev_c ea_nil) (by decide)) fun pf pa H6 hpf hpa hfa e6 hf6 ha6 => ?_
      · exact ev_sp (ea_cons (ev_var rfl) (ea_cons (ev_var rfl) ea_nil)) fun H7 e7 => ⟨_, ⟨pd, d, i, rfl, ok, pl5 (e6.trans e7), by omega, by omega, rfl⟩, fun v H8 _ r => r⟩
      have npf : pf ≠ pd := fun z => by rw [z, npd5] at hpf; cases hpf
      have npa : pa ≠ pd := fun z => by rw [z, npd5] at hpa; cases hpa
      let Pv3 : Nat → L2.St → Hp → Prop := fun i σ H' => ∃ (bs : List Int) (x13 : Option V), σ = [some (.ref py), some (.int d.w), some (.int d.f), some (.ref pr), some (.ref ph), some (.ref pc), some (.ref pb), x7, x8, x9, some (.ref pd), some (.ref pf), some (.ref pa), x13, none, none] ∧ Ex H5 H' ∧ H' pf = some (.lst ((List.range d.turn.toNat).map fun (i : Nat) => V.bl (d.work i))) ∧ H' pa = some (.lst (bs.map V.int)) ∧ bs.length = i + 1
      refine q_forL (ev_var rfl) (sq_of hf6) Pv3 (fun H7 e7 => ⟨[0], none, rfl, e6.trans e7, e7 _ _ hf6, e7 _ _ ha6, rfl⟩) (fun i σ' H' _ p => ?_) (fun i x σ' H' hx p => ?_) (fun σ' Hq p => ?_)
      · obtain ⟨bs, x13, _, _, p1, _⟩ := p
        exact sq_of p1
      · obtain ⟨bs, x13, rfl, p0, p1, p2, p3⟩ := p
        rw [List.getElem?_map] at hx
        have hi : i < d.turn.toNat := by
          cases e : (List.range d.turn.toNat)[i]? with
          | none => rw [e] at hx; cases hx
          | some j => simpa using (List.getElem?_eq_some_iff.mp e).1
        rw [List.getElem?_range hi] at hx
        obtain rfl := Option.some.inj hx
        obtain ⟨bs', b, rfl⟩ : ∃ bs' b, bs = bs' ++ [b] := by
          have hne : bs ≠ [] := fun z => by rw [z] at p3; simp at p3
          exact ⟨bs.dropLast, bs.getLast hne, (List.dropLast_concat_getLast hne).symm⟩
        have hlast : atI ((bs' ++ [b]).map V.int) (-1) = some (.int b) := atI_end (by simp)
        refine s_appB p2 (ev_var rfl) (ev_op (ev_op (ev_var rfl) (ev_un ev_c ru_neg) (rv_ixL (sq_of p2) hlast)) (ev_intB (ev_var rfl)) rv_I0) (by rw [List.length_map, p3]; omega) fun H7 e7 => ⟨(bs' ++ [b]) ++ [b + (if d.work i then 1 else 0)], _, rfl, Ex.mut (p0.trans e7) hpa, ?_, ?_, ?_⟩
        · rw [upd_ne hfa]
          exact e7 _ _ p1
        · refine upd_same.trans ?_
          simp
        · rw [List.length_append, p3]
          rfl
      · obtain ⟨bs, x13, rfl, p0, p1, p2, p3⟩ := p
        have atd := p0 _ _ npd5
        -- works
        refine q_dput (R := fun v H2 => ∃ p, v = .ref p ∧ p ≠ pd ∧ H2 p = some (.lst (given d.turn.toNat (fun i => d.work (i : Int)) fun i => V.int (i : Int)))) (EvP.imp (ep_l (el_lcR (n := d.turn) (fun i => d.work (i : Int)) (fun i => .int (i : Int)) (ea_cons (ev_ix_dict (ev_var rfl) atd per3) ea_nil) (by omega) (fun _ => by rfl) (fun i H7 e7 hi => ?_) (fun i H7 e7 hi _ => ev_var rfl))) fun v H7 e7 ⟨p, h1, h2, h3⟩ => ⟨p, h1, (fun z => by rw [z, atd] at h2; cases h2), h3⟩) (ev_var rfl) ev_c atd (by omega) (fun v H7 e7 hv => ?_) (fun v H1 H2 ⟨p, h1, h2, h3⟩ e => ⟨p, h1, h2, e _ _ h3⟩)
        · refine et_test (ev_op (ev_var rfl) (ev_var rfl) (rv_ixL (sq_of (e7 _ _ p1)) (atI_nat ?_)))
          rw [List.getElem?_map, List.getElem?_range (by omega)]
          rfl
        obtain ⟨pw, rfl, npw, hpw⟩ := hv
        have l4 : (putK kv3 (kS "works") (.ref pw)).length ≤ 11 := by
          have hl : (putK kv3 (kS "works") (.ref pw)).length ≤ kv3.length + 1 := length_mergeK [(kS "works", V.ref pw)] kv3
          omega
        refine q_dput (R := fun v _ => v = .ref pa) (ep_ev (ev_var rfl)) (ev_var rfl) ev_c upd_same (by omega) (fun v H8 e8 hv => ?_) (fun _ _ _ h _ => h)
        subst hv
        have exq : Ex H' Hq := ex4'.trans p0
        have exF : Ex H' (upd H8 pd (.dK (putK (putK kv3 (kS "works") (.ref pw)) (kS "ahead") (.ref pa)))) := Ex.mut ((Ex.mut (exq.trans e7) hpd).trans e8) hpd
        have l5 : (putK (putK kv3 (kS "works") (.ref pw)) (kS "ahead") (.ref pa)).length ≤ 12 := by
          have hl : (putK (putK kv3 (kS "works") (.ref pw)) (kS "ahead") (.ref pa)).length ≤ (putK kv3 (kS "works") (.ref pw)).length + 1 := length_mergeK [(kS "ahead", V.ref pa)] _
          omega
        have pv5 : PlainV (putK (putK kv3 (kS "works") (.ref pw)) (kS "ahead") (.ref pa)) d py pr ph pc := by
          refine ⟨?_, ?_, ?_, ?_, ?_, ?_, ?_, by omega⟩
          all_goals rw [valV_put, if_neg (by decide), valV_put, if_neg (by decide)]
          · exact pv3.years
          · exact pv3.week
          · exact pv3.first
          · exact pv3.rest
          · exact pv3.holidays
          · exact pv3.days
          · exact pv3.cycle
        have hws : given d.turn.toNat (fun (i : Nat) => d.work (i : Int)) (fun (i : Nat) => V.int (i : Int)) = (((List.range d.turn.toNat).filter fun (i : Nat) => d.work (i : Int)).map fun (i : Nat) => (i : Int)).map V.int := by
          unfold given
          rw [List.map_map]
          rfl
        refine s_ret (ev_var rfl) fun H9 e9 => k _ _ (ex1.trans (exF.trans e9)) ⟨pd, pw, _, py, pr, ph, pc, xs, us, cs, (((List.range d.turn.toNat).filter fun (i : Nat) => d.work (i : Int)).map fun (i : Nat) => (i : Int)), rfl, fresh_back ex1 hpd, e9 _ _ upd_same, pv5, po.fwd (exF.trans e9), ?_, ?_, ?_⟩
        · rw [valV_put, if_neg (by decide), valV_put, if_pos rfl]
        · rw [← hws]
          refine e9 _ _ ?_
          rw [upd_ne npw]
          refine e8 _ _ ?_
          rw [upd_ne npw]
          exact hpw
        · rw [List.map_eq_nil_iff, List.filter_eq_nil_iff]
          constructor
          · intro h i hi
            have := h i (List.mem_range.mpr (by omega))
            simpa using this
          · intro h i hi
            rw [h i (by have := List.mem_range.mp hi; omega)]
            simp
end
end K9
end
section
set_option Elab.async false
set_option linter.all false
set_option maxRecDepth 100000
set_option maxHeartbeats 4000000
namespace K9
open PySem PySem.Spec PyProof.Rows L2 Evl
section
variable {K : PySem.W.Frag} {σ : L2.St} {H : Hp} {ta tb : TE} {xs ys : List V} {D : Ends} {tz : TS} {i j : Nat}
theorem eu_tupR {p : Addr} (ha : Ev ta σ H (.ref p)) (h : SqL K H p xs) : EvU (tCB (fun xs H Q => ∃ p ys, xs = [.ref p] ∧ ((SqL K H p ys ∧ ∀ l, H l = none → Q (.ref l) (upd H l (.tup ys))) ∨ (SqT K H p ys ∧ Q (.ref p) H))) (tCons ta tNil)) σ H xs := eu_tupOf ha h
theorem q_parUU (ha : EvU ta σ H xs) (hb : EvU tb σ H ys) (k : ∀ p q H1, Ex H H1 → H1 p = some (.tup xs) → H1 q = some (.tup ys) → tz D ((σ.set i (some (.ref p))).set j (some (.ref q))) H1) : tSeq (tPar i j (tCons ta (tCons tb tNil))) tz D σ H :=
  ha H (Ex.refl H) _ fun p H1 hp e1 h1 => hb H1 e1 _ fun q H2 hq e2 h2 => ⟨.ref p, .ref q, rfl, k p q H2 (e1.trans e2) (e2 _ _ h1) h2⟩
end
def sp43 (C : Addr) : Sp := spR fun vs H R => ∃ (a : Addr) (d : CD), vs = [.ref a] ∧ d.Ok ∧ d.Fine ∧ PlainAt H a d ∧ R = fun v H2 => ∃ (c : Addr) (rs : List Int) (hs : List (Int × Int)), v = .ref c ∧ rs.Perm d.rs ∧ hs.Perm d.hs ∧ CalAt C H2 c (d.sorted rs hs)
abbrev s43 : Stmt := top 43
theorem sc43 : FnScope ["_law_plain_here", "_law_idle", "_law_free"] ["_law_plain_here"] (defScope s43) := ⟨rfl, rfl, rfl, by decide +kernel, rfl, by decide +kernel, by decide +kernel⟩
section
variable {P : Program} {w : World} {K : PySem.W.Frag} {mg : Str → Option Value} {base : Heap} {f C CI : Addr} {fd : FuncData}
theorem ok43 (F : FnP K "_law_calendar" s43 f fd) (T : Txt mg) (MK : MakC P w K mg base 6 C (spInit K C CI)) (mC : mg "Calendar" = some (.ref C)) : FnOk P w K mg base L2.CX0 8 f fd ["_law_plain_here"] (sp43 C) := by
  refine F.ok sc43 (fun vs H Q E h => ?_) (fun cdv A outer s H vs Q E hr h => ?_)
  · obtain ⟨R, ⟨a, d, rfl, _⟩, _⟩ := h
    rfl
  · obtain ⟨R, ⟨a, d, rfl, ok, fine, ⟨kvs, py, pr, ph, pd, xs, us, ds, ha, pv1, po⟩, rfl⟩, k⟩ := h
    have nd := sc43.nd
    refine ⟨_, PSs.nox (pss_cons (ps_par (i := 1) (j := 2) rfl nd rfl rfl (by decide) rfl rfl (pa_cons (pe_callTy call_tuple_of (by rfl) T.tuple (by decide +kernel) (pa_cons (pe_dget (hu_of hr) (pv 0) pe_str (fun _ _ => rfl)) pa_nil)) (pa_cons (pe_callTy call_tuple_of (by rfl) T.tuple (by decide +kernel) (pa_cons (pe_dget (hu_of hr) (pv 0) pe_str (fun _ _ => rfl)) pa_nil)) pa_nil)) (by rfl))
    (pss_one (ps_ret (pe_mkG MK hr (by decide) (by rfl) mC (pa_cons (pe_dget (hu_of hr) (pv 0) pe_str (fun _ _ => rfl)) (pa_cons (pe_dget (hu_of hr) (pv 0) pe_str (fun _ _ => rfl)) pa_nil)) (pk_cons (pe_dget (hu_of hr) (pv 0) pe_str (fun _ _ => rfl)) (pk_cons (pv 1) (pk_cons (pv 2) pk_nil))))))), ?_⟩
    refine q_parUU (eu_tupR (ev_ix_dict (ev_var rfl) ha pv1.rest) (sq_of po.pr)) (eu_tupR (ev_ix_dict (ev_var rfl) ha pv1.holidays) (sq_of po.ph)) fun p q H1 e1 hp hq => ?_
    refine s_retP (R := fun v H2 => ∃ (c : Addr) (rs : List Int) (hs : List (Int × Int)), v = .ref c ∧ rs.Perm d.rs ∧ hs.Perm d.hs ∧ CalAt C H2 c (d.sorted rs hs)) ?_ fun v H2 e2 r => k _ _ (e1.trans e2) r
    have fld : ∀ {x : Str} {v : V} {H2 : Hp}, Ex H1 H2 → valV kvs (kS x) = some v → Ev (tDGet (tVar 0) (tC (.str x))) [some (.ref a), some (.ref p), some (.ref q)] H2 v := fun e hv => ev_ix_dict (ev_var rfl) ((e1.trans e) _ _ ha) hv
    have A1 : EvA (tCons (tDGet (tVar 0) (tC (.str "years"))) (tCons (tDGet (tVar 0) (tC (.str "week"))) tNil)) [some (.ref a), some (.ref p), some (.ref q)] H1 [.ref py, .int d.w] := ea_cons (fld (Ex.refl _) pv1.years) (ea_cons (fld (Ex.refl _) pv1.week) ea_nil)
    have A2 : ∀ {H2 : Hp}, Ex H1 H2 → EvA (tCons (tDGet (tVar 0) (tC (.str "first"))) (tCons (tVar 1) (tCons (tVar 2) tNil))) [some (.ref a), some (.ref p), some (.ref q)] H2 [.int d.f, .ref p, .ref q] := fun e => ea_cons (fld e pv1.first) (ea_cons (ev_var rfl) (ea_cons (ev_var rfl) ea_nil))
    intro H2 e2 Q2 q2
    refine A1 H2 e2 _ fun H3 e3 => A2 (e2.trans e3) H3 (Ex.refl _) _ fun H4 e4 => ⟨rfl, rfl, fun x dx hx hdx hne => ?_⟩
    have e14 := e2.trans (e3.trans e4)
    have up : Ex H4 (upd (upd H4 dx (.own x)) x (.ins C dx [])) := fun b o hb => by
      rw [upd_ne (ne_of_none hb hx), upd_ne (ne_of_none hb hdx)]
      exact hb
    have u1 := e1.trans (e14.trans up)
    refine ⟨x, dx, py, p, q, d, xs, us, rfl, ok, upd_same, u1 _ _ po.py, po.xs.fwd u1, .inr (st_of ((e14.trans up) _ _ hp)), .inr (st_of ((e14.trans up) _ _ hq)), po.us.fwd u1, fun _ H5 rs hs ex p1 p2 p3 p4 hc => ?_, fun hf => absurd fine hf⟩
    have e45 : Ex H4 H5 := fun b o hb => ex b o (ne_of_none hb hx) (up _ _ hb)
    exact ⟨rfl, q2 _ _ (e3.trans (e4.trans e45)) ⟨x, rs, hs, rfl, p1, p3, hc⟩⟩
end
end K9
end
section
set_option Elab.async false
set_option linter.all false
set_option maxRecDepth 100000
set_option maxHeartbeats 4000000
namespace K9
open PySem PySem.Spec PyProof.Rows L2 Evl
/-! ### the law's numbers -/
/-- all signs are signs -/
def Sane (z : Str) : Prop := ∀ c ∈ TL.tl z, c < 0x110000
theorem nums_snoc {lo hi : Int} {w : Str} : ∀ {ws : List Str} {is : List Int}, nums lo hi ws = some is → nums lo hi (ws ++ [w]) = (bnd lo hi w).map fun i => is ++ [i]
  | [], is, h => by
    cases h
    show nums lo hi [w] = _
    unfold nums
    cases bnd lo hi w <;> rfl
  | v :: ws, is, h => by
    have h1 : (match bnd lo hi v with
      | some i => (nums lo hi ws).map (i :: ·)
      | none => none) = some is := h
    show (match bnd lo hi v with
      | some i => (nums lo hi (ws ++ [w])).map (i :: ·)
      | none => none) = _
    cases e : bnd lo hi v with
    | none => rw [e] at h1; cases h1
    | some i =>
      rw [e] at h1
      have h2 : (nums lo hi ws).map (i :: ·) = some is := h1
      cases e2 : nums lo hi ws with
      | none => rw [e2] at h2; cases h2
      | some js =>
        rw [e2] at h2
        cases h2
        show (nums lo hi (ws ++ [w])).map (i :: ·) = _
        rw [nums_snoc e2]
        cases bnd lo hi w <;> rfl
theorem nums_bad {lo hi : Int} {w : Str} {ws : List Str} (h : w ∈ ws) (e : bnd lo hi w = none) : nums lo hi ws = none := nums_none.mpr (by rw [← e]; exact List.mem_map_of_mem h)
theorem log_12 {n : Nat} (h : n < 10 ^ 12) : ((n : Nat) : Int).natAbs.log2 < 1920 := by
  rw [Int.natAbs_natCast]
  by_cases hz : n = 0
  · rw [hz]; decide
  · exact (Nat.log2_lt hz).mpr (Nat.lt_of_lt_of_le h (by decide))
/-- a word of one to twelve digits -/
def digs (z : Str) : Prop := (1 ≤ z.length ∧ z.length ≤ 12) ∧ (TL.tl z).all dig = true
theorem digs_int {z : Str} (h : digs z) : PySem.intText? z = some ((NumText.digitsVal (TL.tl z) : Nat) : Int) := by
  obtain ⟨⟨h1, h2⟩, h3⟩ := h
  refine PySem.intText_digits (dig_all h3) (fun z2 => ?_) (by omega)
  rw [TL.len_tl] at h1
  have : TL.tl z = [] := z2
  rw [this] at h1
  exact absurd h1 (by decide)
theorem digs_lt {z : Str} (h : digs z) : NumText.digitsVal (TL.tl z) < 10 ^ 12 := by
  obtain ⟨⟨h1, h2⟩, h3⟩ := h
  exact Nat.lt_of_lt_of_le (val_lt (dig_all h3)) (Nat.pow_le_pow_right (by decide) (by rw [← TL.len_tl]; exact h2))
theorem bnd_nodigs {lo hi : Int} {z : Str} (h : ¬ digs z) : bnd lo hi z = none := by
  unfold bnd
  have hc : canon (TL.tl z) = none := by
    cases e : canon (TL.tl z) with
    | none => rfl
    | some n =>
      obtain ⟨e1, e2, e3, e4, e5, e6⟩ := canon_some e
      refine absurd ⟨⟨?_, ?_⟩, all_dig e4⟩ h
      · rw [TL.len_tl]
        exact List.length_pos_iff.mpr e5
      · rw [TL.len_tl]
        exact e3
  rw [hc]
theorem bnd_digs {lo hi : Int} {z : Str} (h : digs z) : bnd lo hi z = if numS ((NumText.digitsVal (TL.tl z) : Nat) : Int) = z ∧ lo ≤ ((NumText.digitsVal (TL.tl z) : Nat) : Int) ∧ ((NumText.digitsVal (TL.tl z) : Nat) : Int) ≤ hi then some ((NumText.digitsVal (TL.tl z) : Nat) : Int) else none := by
  have h0 := h
  obtain ⟨⟨h1, h2⟩, h3⟩ := h
  have hne : TL.tl z ≠ [] := fun z2 => by
    rw [TL.len_tl, z2] at h1
    exact absurd h1 (by decide)
  have hi := canon_iff (dig_all h3) hne (by rw [← TL.len_tl]; exact h2)
  have hz : numS ((NumText.digitsVal (TL.tl z) : Nat) : Int) = z ↔ TL.numL (NumText.digitsVal (TL.tl z)) = TL.tl z := by
    constructor
    · intro e
      exact (TL.tl_num _).symm.trans (congrArg TL.tl e)
    · intro e
      exact TL.ext_tl ((TL.tl_num _).trans e)
  unfold bnd
  cases e : canon (TL.tl z) with
  | none =>
    rw [if_neg]
    rintro ⟨e1, _⟩
    rw [hi.mp (hz.mp e1)] at e
    cases e
  | some n =>
    have e6 := (canon_some e).2.2.2.2.2
    have e1 := hz.mpr (hi.mpr (by rw [e, e6]))
    show (if lo ≤ (n : Int) ∧ (n : Int) ≤ _ then some (n : Int) else none) = _
    by_cases hb : lo ≤ (n : Int) ∧ (n : Int) ≤ ‹Int›
    · rw [if_pos hb, if_pos ⟨e1, by rw [← e6]; exact hb⟩, e6]
    · rw [if_neg hb, if_neg fun k => hb (by rw [← e6] at k; exact k.2)]
def sp48 : Sp := spR fun vs H R => ∃ (p : Addr) (ws : List Str) (lo hi : Int), vs = [.ref p, .int lo, .int hi] ∧ H p = some (.lst (ws.map V.str)) ∧ ws.length ≤ 100000 ∧ (∀ x ∈ ws, x.length ≤ 100000 ∧ Sane x) ∧ R = OptL H (nums lo hi ws)
abbrev s48 : Stmt := top 48
theorem sc48 : FnScope ["_law_words", "_law_low", "_law_high", "_law_found", "_law_word", "_law_sign"] ["_law_words", "_law_low", "_law_high"] (defScope s48) := ⟨rfl, rfl, rfl, by decide +kernel, rfl, by decide +kernel, by decide +kernel⟩
section
variable {K : PySem.W.Frag} {σ : L2.St} {H : Hp} {ta tb : TE} {xs : List V}
theorem ev_neNilL {d : List PyData} {n : Nat} (ha : EvL ta σ H xs) (hd : ∀ H1, Ex H H1 → DpAll K H1 xs d) (hp : pl (.list d) n) (hn : n ≤ 64) : Ev (tOp (rNeD K) ta (tLst tNil)) σ H (.bl (!d.isEmpty)) :=
  ev_opLL ha (el_lst ea_nil (by decide)) fun p q H1 h1 h2 e1 H2 e2 Q q => ⟨_, _, .lst (SqL.of (e2 _ _ h1)) (hd H2 (e1.trans e2)), .lst (SqL.of (e2 _ _ h2)) .nil, sh_of hp hn, sh_of pl_nil (by decide), by rw [eqv_nil]; exact q H2 (Ex.refl H2)⟩
theorem ev_eqNilL {d : List PyData} {n : Nat} (ha : EvL ta σ H xs) (hd : ∀ H1, Ex H H1 → DpAll K H1 xs d) (hp : pl (.list d) n) (hn : n ≤ 64) : Ev (tOp (rEqD K) ta (tLst tNil)) σ H (.bl d.isEmpty) :=
  ev_opLL ha (el_lst ea_nil (by decide)) fun p q H1 h1 h2 e1 H2 e2 Q q => ⟨_, _, .lst (SqL.of (e2 _ _ h1)) (hd H2 (e1.trans e2)), .lst (SqL.of (e2 _ _ h2)) .nil, sh_of hp hn, sh_of pl_nil (by decide), by rw [eqv_nil]; exact q H2 (Ex.refl H2)⟩
end
/-- the signs of a word that are no digits -/
theorem given_signs (z : Str) : ∃ xs : List Str, given z.cps.size (fun i => !dig (z.cps.getD i 0)) (fun i => .str ⟨#[z.cps.getD i 0]⟩) = xs.map V.str ∧ (xs = [] ↔ (TL.tl z).all dig = true) ∧ (Sane z → ∀ x ∈ xs, Sane x) := by
  refine ⟨((List.range z.cps.size).filter fun i => !dig (z.cps.getD i 0)).map fun i => ⟨#[z.cps.getD i 0]⟩, ?_, ?_, ?_⟩
  · unfold given
    rw [List.map_map]
    rfl
  · have hg : ∀ i (h : i < (TL.tl z).length), z.cps.getD i 0 = (TL.tl z)[i] := fun i h => by
      have h' : i < z.cps.size := h
      simp [TL.tl, Array.getD, h']
    rw [List.map_eq_nil_iff, List.filter_eq_nil_iff, List.all_eq_true]
    constructor
    · intro h c hc
      obtain ⟨i, hi, rfl⟩ := List.getElem_of_mem hc
      have := h i (List.mem_range.mpr hi)
      rw [hg i hi] at this
      simpa using this
    · intro h i hi
      have hi' : i < (TL.tl z).length := List.mem_range.mp hi
      rw [hg i hi', h _ (List.getElem_mem hi')]
      decide
  · intro hs x hx c hc
    obtain ⟨i, hi, rfl⟩ := List.mem_map.mp hx
    have hi' : i < z.cps.size := List.mem_range.mp (List.mem_filter.mp hi).1
    have hc2 : c = z.cps.getD i 0 := List.mem_singleton.mp hc
    rw [hc2]
    refine hs _ ?_
    simp [TL.tl, Array.getD, hi']
section
variable {P : Program} {w : World} {K : PySem.W.Frag} {mg : Str → Option Value} {base : Heap} {f : Addr} {fd : FuncData}
theorem ok48 (F : FnP K "_law_numbers" s48 f fd) (T : Txt mg) : FnOk P w K mg base L2.CX0 1 f fd ["_law_words", "_law_low", "_law_high"] sp48 := by
  refine F.ok sc48 (fun vs H Q E h => ?_) (fun cdv A outer s H vs Q E hr h => ?_)
  · obtain ⟨R, ⟨p, ws, lo, hi, rfl, _⟩, _⟩ := h
    rfl
  · obtain ⟨R, ⟨p, ws, lo, hi, rfl, hp, hl, hws, rfl⟩, k⟩ := h
    have nd := sc48.nd
    refine ⟨_, PSs.nox (pss_cons (ps_set (i := 3) nd rfl (Or.inl rfl) (pe_lst pa_nil))
    (pss_cons (ps_for PassesOwn.never rfl (pi_list (pv 0)) (pg_name (i := 4) nd rfl (Or.inl rfl)) (pss_cons (ps_if (PW.pt (pw_or (pt_not (pt_chain op_le op_le pe_int (pe_callB call_len_str (by rfl) T.len (by decide +kernel) (pa_cons (pv 4) pa_nil)) pe_int)) (pw_or1 (pt_cmpR (op_neD hr.units) (pe_lc (own := [("_law_sign", 5)]) (g := gName 5) rfl nd (pi_str (pv 4)) (blkOk_by (own := [("_law_sign", 5)]) (N := ["_law_words", "_law_low", "_law_high", "_law_found", "_law_word", "_law_sign"]) (sc := defScope s48) (by decide +kernel)) (fun _ _ _ _ _ => (pg_name (i := 5) nd rfl (Or.inl rfl))) (fun _ _ _ _ _ => (pts_one (pt_cmpR op_notIn_sign (pv 5) pe_str (by rfl)))) (fun _ _ _ _ _ => (pv 5))) (pe_lst pa_nil) (nomark _))))) (pss_one (ps_ret pe_non)) pss_nil)
    (pss_cons (ps_if (PW.pt (pw_or (pt_cmpR op_ne (pe_callTy call_str_int (by rfl) T.str (by decide +kernel) (pa_cons (pe_callTy call_int_str (by rfl) T.int (by decide +kernel) (pa_cons (pv 4) pa_nil)) pa_nil)) (pv 4) (nomark _)) (pw_or1 (pt_not (pt_chain op_le op_le (pv 1) (pe_callTy call_int_str (by rfl) T.int (by decide +kernel) (pa_cons (pv 4) pa_nil)) (pv 2)))))) (pss_one (ps_ret pe_non)) pss_nil)
    (pss_one (ps_expr (pe_bm PySem.F.plainAttrs_list PySem.F.slot_list_append PySem.F.type_list_append mt_append (pv 3) (pa_cons (pe_callTy call_int_str (by rfl) T.int (by decide +kernel) (pa_cons (pv 4) pa_nil)) pa_nil)))))))
    (pss_one (ps_ret (pv 3))))), ?_⟩
    refine q_asgL (el_lst ea_nil (by decide)) fun pf H1 hpf e1 h1 => ?_
    let Pv : Nat → L2.St → Hp → Prop := fun i σ H' => ∃ (is : List Int) (x4 x5 : Option V), σ = [some (.ref p), some (.int lo), some (.int hi), some (.ref pf), x4, x5] ∧ Ex H H' ∧ H' pf = some (.lst (is.map V.int)) ∧ nums lo hi (ws.take i) = some is
    refine q_forL (ev_var rfl) (sq_of (e1 _ _ hp)) Pv (fun H2 e2 => ⟨[], none, none, rfl, e1.trans e2, e2 _ _ h1, rfl⟩) (fun i σ' H' _ q => ?_) (fun i x σ' H' hx q => ?_) (fun σ' H' q => ?_)
    · obtain ⟨_, _, _, _, q1, _⟩ := q
      exact sq_of (q1 _ _ hp)
    · obtain ⟨is, x4, x5, rfl, q1, q2, q3⟩ := q
      rw [List.getElem?_map] at hx
      obtain ⟨z, hz, rfl⟩ : ∃ z, ws[i]? = some z ∧ V.str z = x := by
        cases e : ws[i]? with
        | none => rw [e] at hx; cases hx
        | some z => rw [e] at hx; exact ⟨z, rfl, by simpa using hx⟩
      have hm := List.mem_of_getElem? hz
      obtain ⟨z1, z2⟩ := hws z hm
      have hzs : z.length ≤ sizeLine := len_ok (by omega)
      have bad : bnd lo hi z = none → ∀ H2, Ex H H2 → Q .non H2 := fun e H2 e2 => k _ _ e2 (by rw [nums_bad hm e]; rfl)
      obtain ⟨ys, hys, hys0, hys1⟩ := given_signs z
      have hil : i < ws.length := by
        rcases Nat.lt_or_ge i ws.length with h | h
        · exact h
        · rw [List.getElem?_eq_none h] at hz
          cases hz
      refine q_when (b := !(decide ((1 : Int) ≤ (z.length : Int)) && decide ((z.length : Int) ≤ 12)) || !(ys.map PyData.str).isEmpty) (et_or (et_not (et_test (ev_chain ev_c (ev_lenS (ev_var rfl) hzs) rv_I0 (fun _ => ev_c) (fun _ => rv_I0)))) fun _ => et_test (ev_neNilL (d := ys.map PyData.str) (n := 1)
          (el_is (el_lcSt (fun i => !dig (z.cps.getD i 0)) (fun i => .str ⟨#[z.cps.getD i 0]⟩) (ev_var rfl) hzs (fun _ => by rfl) (fun i H2 e2 _ => et_test (ev_op (ev_var rfl) ev_c (rv_val fun H3 _ Q2 q2 => ⟨z.cps.getD i 0, Str.ofString "0123456789", rfl, rfl, by rw [mem_digits]; exact q2⟩))) (fun i H2 e2 _ _ => ev_var rfl)) hys)
          (fun H2 e2 => dpall_strs ys) (pl_list fun d hd => by
            obtain ⟨y, hy, rfl⟩ := List.mem_map.mp hd
            exact pl_str (hys1 z2 y hy)) (by decide))) ?_ ?_
      · intro hb H2 e2
        refine s_ret ev_c fun H3 e3 => bad (bnd_nodigs fun d => ?_) H3 (q1.trans (e2.trans e3))
        have hye := hys0.mpr d.2
        have := d.1
        rw [hye] at hb
        simp at hb
        omega
      · intro hb H2 e2
        have hd : digs z := by
          rw [Bool.or_eq_false_iff] at hb
          refine ⟨?_, hys0.mp ?_⟩
          · have := hb.1
            simp at this
            omega
          · have := hb.2
            simpa using this
        have hint := digs_int hd
        have hlt := digs_lt hd
        have hbd := bnd_digs (lo := lo) (hi := hi) hd
        have z640 : z.length ≤ 640 := by have := hd.1.2; omega
        generalize NumText.digitsVal (TL.tl z) = n at hint hlt hbd
        have hev : ∀ {σ : L2.St} {H3 : Hp}, σ[4]? = some (some (.str z)) → Ev (tCB (fun xs H Q => ∃ a n, xs = [.str a] ∧ PySem.intText? a = some n ∧ a.length ≤ 640 ∧ Q (.int n) H) (tCons (tVar 4) tNil)) σ H3 (.int (n : Int)) := fun hσ => ev_intS (ev_var hσ) hint z640
        refine q_when (b := !decide (numS (n : Int) = z) || !(decide (lo ≤ (n : Int)) && decide ((n : Int) ≤ hi))) (et_or (et_test (ev_op (ev_strI (hev rfl) (log_12 hlt)) (ev_var rfl) rv_strN)) fun _ => et_not (et_test (ev_chain (ev_var rfl) (hev rfl) rv_I0 (fun _ => ev_var rfl) (fun _ => rv_I0)))) ?_ ?_
        · intro hb2 H3 e3
          refine s_ret ev_c fun H4 e4 => bad ?_ H4 (q1.trans (e2.trans (e3.trans e4)))
          rw [hbd, if_neg]
          rintro ⟨a1, a2, a3⟩
          rw [decide_eq_true a1, decide_eq_true a2, decide_eq_true a3] at hb2
          cases hb2
        · intro hb2 H3 e3
          have hb3 : bnd lo hi z = some (n : Int) := by
            rw [hbd, if_pos]
            simpa [Bool.or_eq_false_iff] using hb2
          have q2' := (e2.trans e3) _ _ q2
          have e' := q1.trans (e2.trans e3)
          have hlen : is.length ≤ 100000 := by
            have := nums_len q3
            rw [this, List.length_take]
            omega
          refine s_appB q2' (ev_var rfl) (hev rfl) (by rw [List.length_map]; omega) fun H4 e4 => ⟨is ++ [(n : Int)], _, _, rfl, Ex.mut (e'.trans e4) hpf, ?_, ?_⟩
          · refine upd_same.trans ?_
            rw [List.map_append]
            rfl
          · have et : ws.take (i + 1) = ws.take i ++ [z] := by
              rw [List.take_add_one, hz]
              rfl
            rw [et, nums_snoc q3, hb3]
            rfl
    · obtain ⟨is, x4, x5, rfl, q1, q2, q3⟩ := q
      rw [List.length_map, List.take_length] at q3
      refine s_ret (ev_var rfl) fun H2 e2 => k _ _ (q1.trans e2) ?_
      rw [q3]
      exact ⟨pf, rfl, hpf, e2 _ _ q2⟩
end
end K9
end
section
set_option Elab.async false
set_option linter.all false
set_option maxRecDepth 100000
set_option maxHeartbeats 4000000
namespace K9
open PySem PySem.Spec PyProof.Rows L2 Evl
/-! ### lines and what they begin with -/
def isY (l : Str) : Bool := decide (cutS l none (some 4) = Str.ofString "year")
def isH (l : Str) : Bool := decide (cutS l none (some 4) = Str.ofString "holi")
def wHol : Str := Str.ofString "holiday"
def wYear : Str := Str.ofString "year"
def wRest : Str := Str.ofString "rest"
def HolW (l : Str) (p : Int × Int) : Prop := wordsOf l = [wHol, numS p.1, numS p.2] ∧ (0 ≤ p.1 ∧ p.1 < 10 ^ 12) ∧ 0 ≤ p.2 ∧ p.2 < 10 ^ 12
def YearW (l : Str) (y : List Int) : Prop := wordsOf l = wYear :: y.map numS ∧ ∀ i ∈ y, 0 ≤ i ∧ i < 10 ^ 12
theorem tl_line {l : Str} {w : Str} {ws : List Str} (h : wordsOf l = w :: ws) : ∃ r, TL.tl l = TL.tl w ++ r ∧ (r = [] ∨ r.head? = some 32) := by
  have e := line_back l
  rw [h] at e
  rw [← e, TL.join_eq, TL.tl_join, tl_sep1]
  cases ws with
  | nil => exact ⟨[], by simp [TL.joinL], .inl rfl⟩
  | cons a r => exact ⟨32 :: TL.joinL [32] ((a :: r).map TL.tl), rfl, .inr rfl⟩
theorem take4 {l : Str} {w : Str} {ws : List Str} (h : wordsOf l = w :: ws) (hw : 4 ≤ (TL.tl w).length) : (TL.tl l).take 4 = (TL.tl w).take 4 := by
  obtain ⟨r, e, _⟩ := tl_line h
  rw [e, List.take_append_of_le_length hw]
theorem cut4 {l s : Str} : cutS l none (some 4) = s ↔ (TL.tl l).take 4 = TL.tl s := by
  have e2 : TL.tl (cutS l none (some 4)) = (TL.tl l).take 4 := cut_to (b := 4)
  constructor
  · intro h
    rw [← e2, h]
  · intro h
    exact TL.ext_tl (by rw [e2, h])
theorem isY_year {l : Str} {ws : List Str} (h : wordsOf l = wYear :: ws) : isY l = true := decide_eq_true (cut4.mpr (by rw [take4 h (by decide +kernel)]; decide +kernel))
theorem isY_hol {l : Str} {ws : List Str} (h : wordsOf l = wHol :: ws) : isY l = false := decide_eq_false fun z => by
  have := cut4.mp z
  rw [take4 h (by decide +kernel)] at this
  revert this
  decide +kernel
theorem isY_rest {l : Str} {ws : List Str} (h : wordsOf l = wRest :: ws) : isY l = false := decide_eq_false fun z => by
  have := cut4.mp z
  rw [take4 h (by decide +kernel)] at this
  revert this
  decide +kernel
theorem isH_hol {l : Str} {ws : List Str} (h : wordsOf l = wHol :: ws) : isH l = true := decide_eq_true (cut4.mpr (by rw [take4 h (by decide +kernel)]; decide +kernel))
theorem isH_year {l : Str} {ws : List Str} (h : wordsOf l = wYear :: ws) : isH l = false := decide_eq_false fun z => by
  have := cut4.mp z
  rw [take4 h (by decide +kernel)] at this
  revert this
  decide +kernel
/-- the lines behind the second, so far -/
def St (L : List Str) (hs : List (Int × Int)) (ys : List (List Int)) : Prop := ∃ A B, L = A ++ B ∧ Paired HolW A hs ∧ Paired YearW B ys
theorem filter_yes {α β : Type} {F : α → β → Prop} {f : α → Bool} (h : ∀ a b, F a b → f a = true) : ∀ {xs : List α} {ys : List β}, Paired F xs ys → xs.filter f = xs
  | _, _, .nil => rfl
  | _, _, .cons r t => by rw [List.filter_cons_of_pos (h _ _ r), filter_yes h t]
theorem filter_nay {α β : Type} {F : α → β → Prop} {f : α → Bool} (h : ∀ a b, F a b → f a = false) : ∀ {xs : List α} {ys : List β}, Paired F xs ys → xs.filter f = []
  | _, _, .nil => rfl
  | _, _, .cons r t => by rw [List.filter_cons_of_neg (by rw [h _ _ r]; decide), filter_nay h t]
theorem St.years {L : List Str} {hs : List (Int × Int)} {ys : List (List Int)} (h : St L hs ys) : Paired YearW (L.filter isY) ys := by
  obtain ⟨A, B, rfl, h1, h2⟩ := h
  rw [List.filter_append, filter_nay (fun a b r => isY_hol r.1) h1, filter_yes (fun a b r => isY_year r.1) h2]
  exact h2
theorem St.hols {L : List Str} {hs : List (Int × Int)} {ys : List (List Int)} (h : St L hs ys) : Paired HolW (L.filter isH) hs := by
  obtain ⟨A, B, rfl, h1, h2⟩ := h
  rw [List.filter_append, filter_yes (fun a b r => isH_hol r.1) h1, filter_nay (fun a b r => isH_year r.1) h2, List.append_nil]
  exact h1
theorem int_num {i : Int} (h : 0 ≤ i ∧ i < 10 ^ 12) : PySem.intText? (numS i) = some i ∧ (numS i).length ≤ 640 := by
  obtain ⟨n, rfl⟩ := Int.eq_ofNat_of_zero_le h.1
  have hn : n < 10 ^ 12 := by
    have z : ((n : Nat) : Int) < ((10 ^ 12 : Nat) : Int) := by simpa using h.2
    exact Int.ofNat_lt.mp z
  have ht : TL.tl (numS (n : Int)) = TL.numL n := TL.tl_num n
  have hl : (numS (n : Int)).length ≤ 12 := by
    rw [TL.len_tl, ht]
    exact TL.numL_len (by decide) hn
  refine ⟨?_, by omega⟩
  have e : (numS (n : Int)).cps.toList = TL.numL n := ht
  rw [PySem.intText_digits (x := numS (n : Int)) (by rw [e]; exact TL.numL_digits n) (by rw [e]; exact TL.numL_ne n) (by omega), e, TL.numL_val]
/-! ### comprehensions by a filter -/
theorem given_filter {α : Type} (d : α) (L : List α) (f : α → Bool) (g : α → V) : given L.length (fun i => f (L.getD i d)) (fun i => g (L.getD i d)) = (L.filter f).map g := by
  have e : (List.range L.length).map (fun i => L.getD i d) = L := by
    apply List.ext_getElem
    · simp
    · intro i h1 h2
      simp at h1
      simp [h1]
  unfold given
  have e2 : (L.filter f) = ((List.range L.length).filter (fun i => f (L.getD i d))).map fun i => L.getD i d := by
    have z := List.filter_map (p := f) (f := fun i => L.getD i d) (l := List.range L.length)
    rw [e] at z
    rw [z]
    rfl
  rw [e2, List.map_map]
  rfl
section
variable {K : PySem.W.Frag} {σ : L2.St} {H : Hp} {t : TT} {te tl : TE}
theorem el_lcF {α : Type} (d : α) (emb : α → V) {L : List α} {j : Nat} {vs : List Nat} (f : α → Bool) (g : α → V) (h : EvL tl σ H (L.map emb)) (hz : L.length ≤ 1000000) (hw : ∀ x, wipe ((wipe σ vs).set j (some x)) vs = wipe σ vs)
    (ht : ∀ a ∈ L, ∀ H1, Ex H H1 → EvT t ((wipe σ vs).set j (some (emb a))) H1 (f a)) (he : ∀ a ∈ L, ∀ H1, Ex H H1 → f a = true → Ev te ((wipe σ vs).set j (some (emb a))) H1 (g a)) :
    EvL (tLc (iList K tl) (gName j) t te vs) σ H ((L.filter f).map g) := by
  rw [← given_filter d L f g, show L.length = (L.map emb).length by rw [List.length_map]]
  refine el_lcNLi (fun i => f (L.getD i d)) (fun i => g (L.getD i d)) h (by rw [List.length_map]; exact len_ok hz) hw (fun i H1 e1 hi => ?_) (fun i H1 e1 hi hf => ?_)
  · rw [List.length_map] at hi
    rw [getD_map (d := d) hi]
    exact ht _ (getD_mem hi) H1 e1
  · rw [List.length_map] at hi
    rw [getD_map (d := d) hi]
    exact he _ (getD_mem hi) H1 e1 hf
theorem el_lcFR {α : Type} (d : α) (emb : α → V) {L : List α} {p : Addr} {j : Nat} {vs : List Nat} (f : α → Bool) (g : α → V) (h : Ev tl σ H (.ref p)) (hp : SqL K H p (L.map emb)) (hz : L.length ≤ 1000000) (hw : ∀ x, wipe ((wipe σ vs).set j (some x)) vs = wipe σ vs)
    (ht : ∀ a ∈ L, ∀ H1, Ex H H1 → EvT t ((wipe σ vs).set j (some (emb a))) H1 (f a)) (he : ∀ a ∈ L, ∀ H1, Ex H H1 → f a = true → Ev te ((wipe σ vs).set j (some (emb a))) H1 (g a)) :
    EvL (tLc (iList K tl) (gName j) t te vs) σ H ((L.filter f).map g) := by
  rw [← given_filter d L f g, show L.length = (L.map emb).length by rw [List.length_map]]
  refine el_lcLi (fun i => f (L.getD i d)) (fun i => g (L.getD i d)) h hp (by rw [List.length_map]; exact len_ok hz) hw (fun i H1 e1 hi => ?_) (fun i H1 e1 hi hf => ?_)
  · rw [List.length_map] at hi
    rw [getD_map (d := d) hi]
    exact ht _ (getD_mem hi) H1 e1
  · rw [List.length_map] at hi
    rw [getD_map (d := d) hi]
    exact he _ (getD_mem hi) H1 e1 hf
/-- a text's words, the i-th of them -/
theorem ev_word {tf : TE} {z x : Str} {i : Nat} {ti : TE} (h : Ev te σ H (.str z)) (hb : Ev tf σ H (.str sep1)) (hi : ∀ H1, Ex H H1 → Ev ti σ H1 (.int (i : Int))) (hz : z.length ≤ 1000000) (hx : (wordsOf z)[i]? = some x) :
    Ev (tOp (rIxL K) (tM1 (fun x xs H Q => ∃ a b, x = .str a ∧ xs = [.str b] ∧ (b.length == 0) = false ∧ a.length + 2 ≤ sizeLine ∧ rNewStrs (Txt.split a b) H Q) te tf) ti) σ H (.str x) :=
  ev_opL1 (el_split h hb sep1_ok hz) hi fun p H1 h1 _ => rv_ixL (sq_of h1) (strs_at hx)
end
theorem map_pair {g : Str → Int} (hg : ∀ x q, HolW x q → g x = q.1) : ∀ {M : List Str} {hs : List (Int × Int)}, Paired HolW M hs → (M.map fun x => V.int (g x)) = (hs.map (·.1)).map V.int
  | _, _, .nil => rfl
  | _, _, .cons r t => by rw [List.map_cons, List.map_cons, List.map_cons, map_pair hg t, hg _ _ r]
/-! ### the law's look at a year -/
def yearC (l : List Int) (years : List (List Int)) (hols : List (Int × Int)) : Prop := (1 ≤ l.length ∧ l.length ≤ 14) ∧ years.length ≠ 400 ∧ (∀ y, years.head? = some y → y.length = l.length) ∧ (∀ q, hols.getLast? = some q → q.1 ≤ (l.length : Int))
instance (l : List Int) (years : List (List Int)) (hols : List (Int × Int)) : Decidable (yearC l years hols) := by unfold yearC; infer_instance
def yearB (o : Option (List Int)) (ys : List (List Int)) (hs : List (Int × Int)) : Bool := match o with
  | none => false
  | some l => decide (yearC l ys hs)
def OptV (H : Hp) (o : Option (List Int)) (v : V) : Prop := match o with
  | none => v = .non
  | some l => ∃ q, v = .ref q ∧ H q = some (.lst (l.map V.int))
def LnOk (ls : List Str) : Prop := ls.length ≤ 100000 ∧ ∀ x ∈ ls, x.length ≤ 90000 ∧ Sane x
def sp50 : Sp := spR fun vs H R => ∃ (p : Addr) (ls : List Str) (n : Nat) (v : V) (o : Option (List Int)) (ys : List (List Int)) (hs : List (Int × Int)), vs = [.ref p, .int ((n + 2 : Nat) : Int), v] ∧ H p = some (.lst (ls.map V.str)) ∧ n + 2 < ls.length ∧ LnOk ls ∧ OptV H o v ∧
  St ((ls.drop 2).take n) hs ys ∧ LOk ys hs ∧ R = fun v _ => v = .bl (yearB o ys hs)
abbrev s50 : Stmt := top 50
theorem sc50 : FnScope ["_law_lines", "_law_at", "_law_found", "_law_before", "_law_months", "_law_line", "_law_month"] ["_law_lines", "_law_at", "_law_found"] (defScope s50) := ⟨rfl, rfl, rfl, by decide +kernel, rfl, by decide +kernel, by decide +kernel⟩
theorem cut_mid (xs : List V) {n : Nat} (h : n + 2 ≤ xs.length) : cutV xs (some 2) (some ((n + 2 : Nat) : Int)) = (xs.drop 2).take n := by
  show (xs.drop (HT.sIx xs.length 0 (some ((2 : Nat) : Int)))).take (HT.sIx xs.length xs.length (some ((n + 2 : Nat) : Int)) - HT.sIx xs.length 0 (some ((2 : Nat) : Int))) = _
  rw [HT.sIx_nat, HT.sIx_nat, Nat.min_eq_left h, Nat.min_eq_left (by omega)]
  congr 1
section
variable {P : Program} {w : World} {K : PySem.W.Frag} {mg : Str → Option Value} {base : Heap} {f : Addr} {fd : FuncData}
theorem ok50 (F : FnP K "_law_year_fits" s50 f fd) (T : Txt mg) : FnOk P w K mg base L2.CX0 1 f fd ["_law_lines", "_law_at", "_law_found"] sp50 := by
  refine F.ok sc50 (fun vs H Q E h => ?_) (fun cdv A outer s H vs Q E hr h => ?_)
  · obtain ⟨R, ⟨p, ls, n, v, o, ys, hs, rfl, _⟩, _⟩ := h
    rfl
  · obtain ⟨R, ⟨p, ls, n, v, o, ys, hs, rfl, hp, hn, ⟨hl, hln⟩, ho, st, lok, rfl⟩, k⟩ := h
    have nd := sc50.nd
    refine ⟨_, PSs.nox (pss_cons (ps_if (PW.pt (pw_or (pt_cmpR op_isN (pv 2) pe_non (nomark _)) (pw_or1 (pt_not (pt_chain op_le op_le pe_int (pe_callB call_len_seq (by rfl) T.len (by decide +kernel) (pa_cons (pv 2) pa_nil)) pe_int))))) (pss_one (ps_ret pe_bl)) pss_nil)
    (pss_cons (ps_setLc (i := 3) (own := [("_law_line", 5)]) (g := gName 5) rfl nd rfl rfl (sw_true rfl rfl rfl (by decide +kernel)) (pi_list (pe_slice sl_list (pv 0) (po_some pe_int) (po_some (pv 1)))) (blkOk_by (own := [("_law_line", 5)]) (N := ["_law_lines", "_law_at", "_law_found", "_law_before", "_law_months", "_law_line", "_law_month"]) (sc := defScope s50) (by decide +kernel)) (fun _ _ _ _ _ => (pg_name (i := 5) nd rfl (Or.inl rfl))) (fun _ _ _ _ _ => (pts_one (pt_cmpR op_eq (pe_slice sl_str (pv 5) po_none (po_some pe_int)) pe_str (nomark _)))) (fun _ _ _ _ _ => (pv 5)))
    (pss_cons (ps_setLc (i := 4) (own := [("_law_line", 5)]) (g := gName 5) rfl nd rfl rfl (sw_true rfl rfl rfl (by decide +kernel)) (pi_list (pe_slice sl_list (pv 0) (po_some pe_int) (po_some (pv 1)))) (blkOk_by (own := [("_law_line", 5)]) (N := ["_law_lines", "_law_at", "_law_found", "_law_before", "_law_months", "_law_line", "_law_month"]) (sc := defScope s50) (by decide +kernel)) (fun _ _ _ _ _ => (pg_name (i := 5) nd rfl (Or.inl rfl))) (fun _ _ _ _ _ => (pts_one (pt_cmpR op_eq (pe_slice sl_str (pv 5) po_none (po_some pe_int)) pe_str (nomark _)))) (fun _ _ _ _ _ => (pe_callTy call_int_str (by rfl) T.int (by decide +kernel) (pa_cons (pe_ix (r := rIxL K) ix_list (pe_split (pv 5) pe_str) pe_int (fun _ _ => rfl)) pa_nil))))
    (pss_cons (ps_if (PW.pt (pw_or (pt_cmpR op_ge (pe_callB call_len_seq (by rfl) T.len (by decide +kernel) (pa_cons (pv 3) pa_nil)) pe_int (nomark _)) (pw_or1 (PW.pt (pw_and (pt_cmpR (op_neD hr.units) (pv 3) (pe_lst pa_nil) (nomark _)) (pw_and1 (pt_cmpR op_ne (pe_callB call_len_seq (by rfl) T.len (by decide +kernel) (pa_cons (pe_split (pe_ix ix_list (pv 3) pe_int (fun _ _ => rfl)) pe_str) pa_nil)) (pe_op op_add (pe_callB call_len_seq (by rfl) T.len (by decide +kernel) (pa_cons (pv 2) pa_nil)) pe_int) (nomark _)))))))) (pss_one (ps_ret pe_bl)) pss_nil)
    (pss_one (ps_ret (pe_cmpR (op_eqD hr.units) (pe_lc (own := [("_law_month", 6)]) (g := gName 6) rfl nd (pi_list (pv 4)) (blkOk_by (own := [("_law_month", 6)]) (N := ["_law_lines", "_law_at", "_law_found", "_law_before", "_law_months", "_law_line", "_law_month"]) (sc := defScope s50) (by decide +kernel)) (fun _ _ _ _ _ => (pg_name (i := 6) nd rfl (Or.inl rfl))) (fun _ _ _ _ _ => (pts_one (pt_cmpR op_gt (pv 6) (pe_callB (r := rLenS K) call_len_seq (by rfl) T.len (by decide +kernel) (pa_cons (pv 2) pa_nil)) (nomark _)))) (fun _ _ _ _ _ => (pv 6))) (pe_lst pa_nil) (nomark _)))))))), ?_⟩
    cases o with
    | none =>
      cases ho
      exact q_when (b := true) (et_or (a := true) (b := true) (et_test (ev_op (ev_var (v := .non) rfl) ev_c rv_isN)) (fun h => by cases h)) (fun _ H2 e2 => s_ret ev_c fun H3 e3 => k _ _ (e2.trans e3) rfl) (fun h => by cases h)
    | some l =>
      obtain ⟨q, rfl, hq⟩ := ho
      have lenL : ∀ {σ : L2.St} {H2 : Hp}, Ex H H2 → σ[2]? = some (some (.ref q)) → Ev (tCB (fun xs H Q => ∃ p ys, xs = [.ref p] ∧ (SqL K H p ys ∨ SqT K H p ys) ∧ Q (.int ys.length) H) (tCons (tVar 2) tNil)) σ H2 (.int (l.length : Int)) := fun e hσ =>
        ev_is (ev_lenQ (ev_var hσ) (sq_of (e _ _ hq))) (by rw [List.length_map])
      refine q_when (b := !(decide ((1 : Int) ≤ (l.length : Int)) && decide ((l.length : Int) ≤ 14))) (et_is (et_or (a := false) (et_test (ev_op (ev_var (v := .ref q) rfl) ev_c rv_isN)) (fun _ => et_not (et_test (ev_chain ev_c (lenL (Ex.refl _) rfl) rv_I0 (fun _ => ev_c) (fun _ => rv_I0))))) (Bool.false_or _)) (fun hb H1 e1 => ?_) (fun hb H1 e1 => ?_)
      · refine s_ret ev_c fun H2 e2 => k _ _ (e1.trans e2) ?_
        show V.bl false = V.bl (decide (yearC l ys hs))
        rw [decide_eq_false]
        rintro ⟨⟨h1, h2⟩, _⟩
        simp at hb
        omega
      · have hb1 : 1 ≤ l.length ∧ l.length ≤ 14 := by
          simp at hb
          omega
        let L := (ls.drop 2).take n
        have hLm : ∀ x ∈ L, x.length ≤ 90000 ∧ Sane x := fun x hx => hln x (List.mem_of_mem_drop (List.mem_of_mem_take hx))
        have hLl : L.length ≤ 1000000 := by
          have : L.length ≤ ls.length := by
            rw [List.length_take, List.length_drop]
            omega
          omega
        have sl : ∀ {σ : L2.St} {H2 : Hp}, Ex H H2 → σ[0]? = some (some (.ref p)) → σ[1]? = some (some (.int ((n + 2 : Nat) : Int))) → EvL (tSl (rSlL K) (tVar 0) (tPart (tC (.int 2))) (tPart (tVar 1))) σ H2 (L.map V.str) := fun e h0 h1 =>
          el_is (el_sl (ev_var h0) (eo_some ev_c) (eo_some (ev_var h1)) (sq_of (e _ _ hp))) (by rw [cut_mid _ (by rw [List.length_map]; omega), ← List.map_drop, ← List.map_take])
        have hyr := st.years
        have hhl := st.hols
        have hB : ∀ x ∈ L.filter isY, x.length ≤ 90000 ∧ Sane x := fun x hx => hLm x (List.mem_filter.mp hx).1
        refine q_asgL (xs := (L.filter isY).map V.str) (el_lcF Str.empty V.str isY V.str (sl e1 rfl rfl) hLl (fun _ => by rfl) (fun x hx H2 e2 => et_test (ev_op (ev_slS (ev_var rfl) eo_none (eo_some ev_c) (len_ok (by have := (hLm x hx).1; omega))) ev_c rv_str)) (fun x hx H2 e2 _ => ev_var rfl)) fun pb H2 hpb e2 h2 => ?_
        have e02 := e1.trans e2
        have hsec : ∀ x ∈ L, isH x = true → ∃ q, HolW x q := fun x hx hh => by
          have hm : x ∈ L.filter isH := List.mem_filter.mpr ⟨hx, hh⟩
          obtain ⟨i, hi⟩ := List.getElem?_of_mem hm
          obtain ⟨q, _, hq⟩ := paired_get hhl hi
          exact ⟨q, hq⟩
        have hmo : ∃ g : Str → Int, (∀ x q, HolW x q → g x = q.1) := ⟨fun x => (PySem.intText? ((wordsOf x).getD 1 Str.empty)).getD 0, fun x q hq => by
          show (PySem.intText? ((wordsOf x).getD 1 Str.empty)).getD 0 = _
          rw [hq.1]
          show (PySem.intText? (numS q.1)).getD 0 = _
          rw [(int_num hq.2.1).1]
          rfl⟩
        obtain ⟨g, hg⟩ := hmo
        refine q_asgL (xs := (L.filter isH).map fun x => V.int (g x)) (el_lcF Str.empty V.str isH (fun x => .int (g x)) (sl e02 rfl rfl) hLl (fun _ => by rfl) (fun x hx H3 e3 => et_test (ev_op (ev_slS (ev_var rfl) eo_none (eo_some ev_c) (len_ok (by have := (hLm x hx).1; omega))) ev_c rv_str)) (fun x hx H3 e3 hf => ?_)) fun pm H3 hpm e3 h3 => ?_
        · obtain ⟨q, hq⟩ := hsec x hx hf
          rw [hg x q hq]
          exact ev_intS (ev_word (i := 1) (ev_var rfl) ev_c (fun _ _ => ev_c) (by have := (hLm x hx).1; omega) (by rw [hq.1]; rfl)) (int_num hq.2.1).1 (int_num hq.2.1).2
        have hgm : ((L.filter isH).map fun x => V.int (g x)) = (hs.map (·.1)).map V.int := by
          exact map_pair hg hhl
        rw [hgm] at h3
        have e03 := e02.trans e3
        have hby : (L.filter isY).length = ys.length := Paired.length hyr
        have ht : EvT (tOr (tTest (tOp (rI0 fun i j => .bl (decide (j ≤ i))) (tCB (fun xs H Q => ∃ p ys, xs = [.ref p] ∧ (SqL K H p ys ∨ SqT K H p ys) ∧ Q (.int ys.length) H) (tCons (tVar 3) tNil)) (tC (.int 400)))) (tAnd (tTest (tOp (rNeD K) (tVar 3) (tLst tNil))) (tTest (tOp rNe (tCB (fun xs H Q => ∃ p ys, xs = [.ref p] ∧ (SqL K H p ys ∨ SqT K H p ys) ∧ Q (.int ys.length) H) (tCons (tM1 (fun x xs H Q => ∃ a b, x = .str a ∧ xs = [.str b] ∧ (b.length == 0) = false ∧ a.length + 2 ≤ sizeLine ∧ rNewStrs (Txt.split a b) H Q) (tOp (rIxL K) (tVar 3) (tC (.int 0))) (tC (.str " "))) tNil)) (tOp (rI0 fun i j => .int (i + j)) (tCB (fun xs H Q => ∃ p ys, xs = [.ref p] ∧ (SqL K H p ys ∨ SqT K H p ys) ∧ Q (.int ys.length) H) (tCons (tVar 2) tNil)) (tC (.int 1)))))))
            [some (.ref p), some (.int ((n + 2 : Nat) : Int)), some (.ref q), some (.ref pb), some (.ref pm), none, none] H3 (!decide (ys.length ≠ 400 ∧ ∀ y, ys.head? = some y → y.length = l.length)) := by
          have h3b : H3 pb = some (.lst ((L.filter isY).map V.str)) := e3 _ _ h2
          refine et_is (et_or (et_test (ev_op (ev_lenQ (ev_var rfl) (sq_of h3b)) ev_c rv_I0)) (b := decide (∃ y, ys.head? = some y ∧ y.length ≠ l.length)) fun hb2 => ?_) ?_
          · refine et_is (et_and (et_test (ev_neNil (d := (L.filter isY).map PyData.str) (n := 1) (ev_var rfl) (fun H4 e4 => .lst (sq_of (e4 _ _ h3b)) (dpall_strs _)) (pl_list fun d hd => by
                obtain ⟨y, hy, rfl⟩ := List.mem_map.mp hd
                exact pl_str (hB y hy).2) (by decide))) (b := decide (∃ y, ys.head? = some y ∧ y.length ≠ l.length)) fun hne => ?_) ?_
            · cases hyr2 : L.filter isY with
              | nil => rw [hyr2] at hne; cases hne
              | cons x0 xr =>
                have hyr3 := hyr
                rw [hyr2] at hyr3
                cases hys : ys with
                | nil => rw [hys] at hyr3; cases hyr3
                | cons y0 yr =>
                  rw [hys] at hyr3
                  cases hyr3 with
                  | cons r _ =>
                    refine et_is (et_test (ev_op (ev_lenN (el_split (ev_op (ev_var rfl) ev_c (rv_ixL (sq_of h3b) (by rw [hyr2]; exact strs_at (i := 0) rfl))) ev_c sep1_ok (by have := (hB x0 (by rw [hyr2]; exact List.mem_cons_self)).1; omega))) (ev_op (lenL e03 rfl) ev_c rv_I0) rv_intN)) ?_
                    have hw : Txt.split x0 (Str.ofString " ") = wYear :: y0.map numS := r.1
                    rw [hw, List.length_map, List.length_cons, List.length_map]
                    rw [Bool.eq_iff_iff]
                    simp
                    omega
            · cases hyr2 : L.filter isY with
              | nil =>
                have : ys = [] := by
                  rw [hyr2] at hby
                  exact List.length_eq_zero_iff.mp hby.symm
                rw [this]
                simp
              | cons a r => simp
          · rw [List.length_map, hby]
            have hle := lok.n
            rw [Bool.eq_iff_iff]
            simp only [Bool.or_eq_true, decide_eq_true_eq, Bool.not_eq_true', decide_eq_false_iff_not]
            constructor
            · rintro (h | ⟨y, h1, h2⟩) ⟨h3, h4⟩
              · omega
              · exact h2 (h4 y h1)
            · intro h
              by_cases h1 : ys.length = 400
              · left; omega
              · right
                refine Classical.byContradiction fun h2 => h ⟨h1, fun y hy => ?_⟩
                refine Classical.byContradiction fun h3 => h2 ⟨y, hy, h3⟩
        refine q_when ht (fun hb2 H4 e4 => ?_) (fun hb2 H4 e4 => ?_)
        · refine s_ret ev_c fun H5 e5 => k _ _ (e03.trans (e4.trans e5)) ?_
          show V.bl false = V.bl (decide (yearC l ys hs))
          rw [decide_eq_false]
          rintro ⟨_, h1, h2, _⟩
          rw [decide_eq_true ⟨h1, h2⟩] at hb2
          cases hb2
        · have hb3 : ys.length ≠ 400 ∧ ∀ y, ys.head? = some y → y.length = l.length := by simpa using hb2
          refine s_ret (v := .bl (yearB (some l) ys hs)) ?_ fun H5 e5 => k _ _ (e03.trans (e4.trans e5)) rfl
          refine ev_is (ev_eqNilL (d := (((hs.map (·.1)).filter fun i => decide (i > (l.length : Int))).map PyData.int)) (n := 1) (el_lcFR (0 : Int) V.int (fun i => decide (i > (l.length : Int))) V.int (ev_var rfl) (sq_of (e4 _ _ h3)) (by
              rw [List.length_map, ← Paired.length hhl]
              exact Nat.le_trans (List.length_filter_le _ _) hLl) (fun _ => by rfl) (fun x hx H5 e5 => et_test (ev_op (ev_var rfl) (lenL (e03.trans (e4.trans e5)) rfl) rv_I0)) (fun x hx H5 e5 _ => ev_var rfl)) (fun H5 e5 => dpall_ints _) (pl_dL _) (by decide)) ?_
          congr 1
          rw [Bool.eq_iff_iff]
          show _ ↔ decide (yearC l ys hs) = true
          rw [decide_eq_true_eq, List.isEmpty_iff, List.map_eq_nil_iff, List.filter_eq_nil_iff]
          constructor
          · intro h
            refine ⟨hb1, hb3.1, hb3.2, fun q hq => ?_⟩
            have hm : q ∈ hs := List.mem_of_getLast? hq
            have := h q.1 (List.mem_map_of_mem hm)
            simp at this
            omega
          · rintro ⟨_, _, _, h⟩ i hi
            obtain ⟨q, hq, rfl⟩ := List.mem_map.mp hi
            have := le_last lok.ho h q hq
            simp
            omega
end
end K9
end
section
set_option Elab.async false
set_option linter.all false
set_option maxRecDepth 100000
set_option maxHeartbeats 4000000
namespace K9
open PySem PySem.Spec PyProof.Rows L2 Evl
/-! ### two lists of two ints: which is less -/
def rLtL2 (K : PySem.W.Frag) : R2 := fun x y H Q => ∃ (a b : Addr) (i1 j1 i2 j2 : Int), x = .ref a ∧ y = .ref b ∧ SqL K H a ([i1, j1].map V.int) ∧ SqL K H b ([i2, j2].map V.int) ∧ Q (.bl (HT.lexLt [i1, j1] [i2, j2])) H
theorem two_ints {us : List Value} {i j : Int} (h : IntsAre us [i, j]) : ∃ t u, us = [.int i t, .int j u] := by
  cases h with
  | cons _ t h1 => cases h1 with
    | cons _ u h2 => cases h2; exact ⟨t, u, rfl⟩
theorem op_ltL2 {X : Cx} (hu : X.A.units < cLine) : OpR X (compareOp .Lt) (rLtL2 X.K) := by
  intro pins s σ H x y v u Q I rx ry h
  obtain ⟨a, b, i1, j1, i2, j2, rfl, rfl, ha, hb, q⟩ := h
  cases rx
  cases ry
  obtain ⟨its, r1, p1, _⟩ := I.list ha
  obtain ⟨its2, r2, p2, _⟩ := I.list hb
  obtain ⟨t1, t2, rfl⟩ := two_ints (ints_of_vals r1)
  obtain ⟨u1, u2, rfl⟩ := two_ints (ints_of_vals r2)
  let e : Nat → Bool := fun k => if k = 0 then (i1 == i2) else (j1 == j2)
  let r : Nat → Bool := fun k => if k = 0 then decide (i1 < i2) else decide (j1 < j2)
  refine SeqAt.RcLt.lists (e := e) (r := r) p1.isList p2.isList hu (fun k h1 h2 => ?_) (fun k h1 h2 _ => ?_) X.prog X.w _ _ ?_
  · match k, h1, h2 with
    | 0, _, _ => exact SeqAt.EqAt.int_int i1 t1 i2 u1
    | 1, _, _ => exact SeqAt.EqAt.int_int j1 t2 j2 u2
  · match k, h1, h2 with
    | 0, _, _ => exact fun prog w E Q h => HT.rcLt_int _ _ _ _ _ _ _ _ _ _ h
    | 1, _, _ => exact fun prog w E Q h => HT.rcLt_int _ _ _ _ _ _ _ _ _ _ h
  · refine ⟨_, H, I, ?_, q⟩
    show Value.bool _ = Value.bool _
    congr 1
    rw [HT.lexLt_cons, HT.lexLt_cons, HT.lexLt_nil_nil]
    show SeqAt.firstLt e r false [0, 1] = _
    by_cases h1 : i1 = i2
    · rw [SeqAt.firstLt_yes (show e 0 = true from beq_iff_eq.mpr h1), if_pos h1]
      by_cases h2 : j1 = j2
      · rw [SeqAt.firstLt_yes (show e 1 = true from beq_iff_eq.mpr h2), if_pos h2]
        rfl
      · rw [SeqAt.firstLt_no (show e 1 = false from beq_eq_false_iff_ne.mpr h2), if_neg h2]
        rfl
    · rw [SeqAt.firstLt_no (show e 0 = false from beq_eq_false_iff_ne.mpr h1), if_neg h1]
      rfl
/-! ### words keep the signs -/
theorem spl_mem {c : Nat} : ∀ (l acc : List Nat) (p : List Nat), p ∈ TL.spl [c] 0 acc l → ∀ x ∈ p, x ∈ acc ∨ x ∈ l
  | [], acc, p, h => by
    rw [TL.spl_nil] at h
    rw [List.mem_singleton.mp h]
    exact fun x hx => .inl hx
  | d :: l, acc, p, h => by
    cases e : TL.pre [c] (d :: l) with
    | true =>
      rw [TL.spl_hit e] at h
      rcases List.mem_cons.mp h with h | h
      · rw [h]
        exact fun x hx => .inl hx
      · intro x hx
        rcases spl_mem l [] p h x hx with h2 | h2
        · cases h2
        · exact .inr (List.mem_cons_of_mem _ h2)
    | false =>
      rw [TL.spl_miss e] at h
      intro x hx
      rcases spl_mem l (acc ++ [d]) p h x hx with h2 | h2
      · rcases List.mem_append.mp h2 with h2 | h2
        · exact .inl h2
        · rw [List.mem_singleton.mp h2]
          exact .inr List.mem_cons_self
      · exact .inr (List.mem_cons_of_mem _ h2)
theorem split_sane {z s x : Str} {c : Nat} (e : TL.tl s = [c]) (hc : c < 256) (hz : Sane z) (h : x ∈ Txt.split z s) : Sane x := fun d hd => by
  have hm : TL.tl x ∈ (Txt.split z s).map TL.tl := List.mem_map_of_mem h
  rw [split_tl e hc] at hm
  rcases spl_mem _ _ _ hm d hd with h2 | h2
  · cases h2
  · exact hz d h2
theorem words_sane {z x : Str} (hz : Sane z) (h : x ∈ wordsOf z) : Sane x := split_sane tl_sep1 (by decide) hz h
theorem lines_sane {z x : Str} (hz : Sane z) (h : x ∈ linesOf z) : Sane x := split_sane tl_nl (by decide) hz h
section
variable {K : PySem.W.Frag} {σ : L2.St} {H : Hp} {ta tb tc tl : TE} {t : TT} {x y z : V} {r : R2} {E : XK} {xs : List V}
theorem el_if {b : Bool} (h : EvT t σ H b) (h1 : b = true → EvL ta σ H xs) (h2 : b = false → EvL tb σ H xs) : EvL (tIf t ta tb) σ H xs := fun H1 e Q q => h H1 e _ fun H2 e2 => by
  cases b with
  | true =>
    show ta σ H2 Q
    exact h1 rfl H2 (e.trans e2) Q fun p H3 hp e3 h3 => q p H3 (fresh_back e2 hp) (e2.trans e3) h3
  | false =>
    show tb σ H2 Q
    exact h2 rfl H2 (e.trans e2) Q fun p H3 hp e3 h3 => q p H3 (fresh_back e2 hp) (e2.trans e3) h3
theorem el_slN {tl th : TO} {lo hi : Option Int} (h : EvL ta σ H xs) (h1 : EvO tl σ H lo) (h2 : EvO th σ H hi) : EvL (tSl (rSlL K) ta tl th) σ H (cutV xs lo hi) := fun H1 e Q q =>
  h H1 e _ fun a H2 ha e2 hx => h1 H2 (e.trans e2) _ fun H3 e3 => h2 H3 ((e.trans e2).trans e3) _ fun H4 e4 => ⟨a, xs, rfl, sq_of (e4 _ _ (e3 _ _ hx)), fun p hp => q p _ (fresh_back (e2.trans (e3.trans e4)) hp) ((e2.trans (e3.trans e4)).trans (Ex.new hp)) upd_same⟩
theorem ev_opR {R : V → Hp → Prop} (ha : Ev ta σ H x) (hb : EvP tb σ H R) (hr : ∀ y H1, Ex H H1 → R y H1 → RV r x y H1 z) : Ev (tOp r ta tb) σ H z := fun H1 e Q q =>
  ha H1 e _ fun H2 e2 => hb H2 (e.trans e2) _ fun y H3 e3 hy => hr y H3 ((e.trans e2).trans e3) hy H3 (Ex.refl _) Q fun H4 e4 => q H4 ((e2.trans e3).trans e4)
theorem ep_nums {ws : List Str} {lo hi : Int} (ha : EvL ta σ H (ws.map V.str)) (hb : Ev tb σ H (.int lo)) (hc : Ev tc σ H (.int hi)) (h1 : ws.length ≤ 100000) (h2 : ∀ x ∈ ws, x.length ≤ 100000 ∧ Sane x) :
    EvP (tCall sp48 [] E (tCons ta (tCons tb (tCons tc tNil)))) σ H (OptL H (nums lo hi ws)) := fun H1 e Q q =>
  ha H1 e _ fun p H2 hp e2 hx => hb H2 (e.trans e2) _ fun H3 e3 => hc H3 ((e.trans e2).trans e3) _ fun H4 e4 =>
    ⟨_, ⟨p, ws, lo, hi, rfl, e4 _ _ (e3 _ _ hx), h1, h2, rfl⟩, fun v H5 e5 r => q v H5 (e2.trans (e3.trans (e4.trans e5))) (r.back (e.trans (e2.trans (e3.trans e4))))⟩
theorem ep_sortN {ns : List Int} (h : EvL ta σ H (ns.map V.int)) : EvP (tCB (rSortedI K) (tCons ta tNil)) σ H (fun v H2 => ∃ (q : Addr) (ms : List Int), v = .ref q ∧ H2 q = some (.lst (ms.map V.int)) ∧ ms.Perm ns ∧ ms.Pairwise (· ≤ ·)) := fun H1 e Q k =>
  h H1 e _ fun p H2 hp e2 hx => ⟨p, ns, rfl, sq_of hx, fun ms q h1 h2 hq => k _ _ (e2.trans (Ex.new hq)) ⟨q, ms, rfl, upd_same, h1, h2⟩⟩
end
/-! ### the law's line: right behind the right lines before it -/
def stepB (l : Str) (ys : List (List Int)) (hs : List (Int × Int)) : Bool := (if ys = [] then holP l hs else none).isSome || (yearP l ys hs).isSome
theorem sorted_same : ∀ {a b : List Int}, a.Pairwise (· < ·) → b.Pairwise (· < ·) → (∀ i, i ∈ a ↔ i ∈ b) → a = b
  | [], [], _, _, _ => rfl
  | [], y :: b, _, _, h => absurd ((h y).mpr List.mem_cons_self) (by simp)
  | x :: a, [], _, _, h => absurd ((h x).mp List.mem_cons_self) (by simp)
  | x :: a, y :: b, h1, h2, h => by
    obtain ⟨p1, p2⟩ := List.pairwise_cons.mp h1
    obtain ⟨q1, q2⟩ := List.pairwise_cons.mp h2
    have e : x = y := by
      rcases List.mem_cons.mp ((h x).mp List.mem_cons_self) with e | e
      · exact e
      · rcases List.mem_cons.mp ((h y).mpr List.mem_cons_self) with e2 | e2
        · exact e2.symm
        · have := q1 x e
          have := p1 y e2
          omega
    subst e
    rw [sorted_same p2 q2 fun i => ?_]
    constructor
    · intro hi
      rcases List.mem_cons.mp ((h i).mp (List.mem_cons_of_mem _ hi)) with e | e
      · have := p1 i hi
        omega
      · exact e
    · intro hi
      rcases List.mem_cons.mp ((h i).mpr (List.mem_cons_of_mem _ hi)) with e | e
      · have := q1 i hi
        omega
      · exact e
theorem pw_asc {l : List Int} (h : l.Pairwise (· < ·)) : ascB l = true := by
  unfold ascB
  rw [List.all_eq_true]
  intro i hi
  have hi2 := List.mem_range.mp hi
  have a1 : i < l.length := by omega
  have a2 : i + 1 < l.length := by omega
  rw [List.getD_eq_getElem?_getD, List.getD_eq_getElem?_getD, List.getElem?_eq_getElem a1, List.getElem?_eq_getElem a2]
  exact decide_eq_true (List.pairwise_iff_getElem.mp h i (i + 1) a1 a2 (by omega))
/-- the ten weekdays that a list has -/
def tens (l : List Int) : List Int := ((List.range 10).filter fun (i : Nat) => decide ((i : Int) ∈ l)).map fun (i : Nat) => (i : Int)
theorem tens_pw (l : List Int) : (tens l).Pairwise (· < ·) := by
  unfold tens
  rw [List.pairwise_map]
  exact (List.pairwise_lt_range.filter _).imp fun h => Int.ofNat_lt.mpr h
theorem tens_mem {l : List Int} (h : ∀ i ∈ l, 0 ≤ i ∧ i < 10) (i : Int) : i ∈ tens l ↔ i ∈ l := by
  unfold tens
  rw [List.mem_map]
  constructor
  · rintro ⟨n, hn, rfl⟩
    exact of_decide_eq_true (List.mem_filter.mp hn).2
  · intro hi
    have hb := h i hi
    refine ⟨i.toNat, List.mem_filter.mpr ⟨List.mem_range.mpr (by omega), ?_⟩, by omega⟩
    rw [Int.toNat_of_nonneg hb.1]
    exact decide_eq_true hi
theorem le_lt_perm {a b : List Int} (hp : a.Perm b) (ha : a.Pairwise (· ≤ ·)) (hb : b.Pairwise (· < ·)) : a = b := by
  have hn : a.Nodup := hp.nodup_iff.mpr (lt_nodup hb)
  refine sorted_same ?_ hb fun i => hp.mem_iff
  exact (List.pairwise_and_iff.mpr ⟨ha, hn⟩).imp fun ⟨h1, h2⟩ => by omega
theorem eqvAll_ints : ∀ a b : List Int, PyData.eqvAll (a.map PyData.int) (b.map PyData.int) = decide (a = b)
  | [], [] => by simp [PyData.eqvAll]
  | [], y :: b => by simp [PyData.eqvAll]
  | x :: a, [] => by simp [PyData.eqvAll]
  | x :: a, y :: b => by
    rw [List.map_cons, List.map_cons, PyData.eqvAll, eqvAll_ints a b, PyData.eqv]
    rw [Bool.eq_iff_iff]
    simp
theorem eqv_dL (a b : List Int) : PyData.eqv (dL a) (dL b) = decide (a = b) := by
  unfold dL
  rw [PyData.eqv]
  exact eqvAll_ints a b
theorem paired_last {α β : Type} {F : α → β → Prop} {xs : List α} {ys : List β} {x : α} (h : Paired F xs ys) (hx : xs.getLast? = some x) : ∃ y, ys.getLast? = some y ∧ F x y := by
  rw [List.getLast?_eq_getElem?] at hx
  obtain ⟨y, h1, h2⟩ := paired_get h hx
  rw [Paired.length h] at h1
  exact ⟨y, by rw [List.getLast?_eq_getElem?]; exact h1, h2⟩
theorem St.last {L : List Str} {hs : List (Int × Int)} {ys : List (List Int)} {x : Str} (h : St L hs ys) (hx : L.getLast? = some x) : (ys ≠ [] ∧ isY x = true) ∨ (ys = [] ∧ ∃ q, hs.getLast? = some q ∧ HolW x q) := by
  obtain ⟨A, B, rfl, h1, h2⟩ := h
  cases B with
  | nil =>
    cases h2
    rw [List.append_nil] at hx
    exact .inr ⟨rfl, paired_last h1 hx⟩
  | cons b r =>
    have hb : (b :: r).getLast? = some x := by
      rw [List.getLast?_append, List.getLast?_cons] at hx
      rw [List.getLast?_cons]
      exact hx
    obtain ⟨y, _, hy⟩ := paired_last h2 hb
    refine .inl ⟨fun z => ?_, isY_year hy.1⟩
    rw [z] at h2
    cases h2
theorem St.none {hs : List (Int × Int)} {ys : List (List Int)} (h : St [] hs ys) : hs = [] ∧ ys = [] := by
  obtain ⟨A, B, e, h1, h2⟩ := h
  obtain ⟨rfl, rfl⟩ := List.append_eq_nil_iff.mp e.symm
  cases h1
  cases h2
  exact ⟨rfl, rfl⟩
def FitsB (ls : List Str) (at' : Nat) (b : Bool) : Prop :=
  (at' = 0 ∧ ∃ l0, ls[0]? = some l0 ∧ b = (weekP l0).isSome) ∨
  (at' = 1 ∧ ∃ l0 l1 k j, ls[0]? = some l0 ∧ ls[1]? = some l1 ∧ weekP l0 = some (k, j) ∧ b = (restP l1 k).isSome) ∨
  (∃ (n : Nat) (l l1 : Str) (ws : List Str) (ys : List (List Int)) (hs : List (Int × Int)), at' = n + 2 ∧ ls[n + 2]? = some l ∧ ls[1]? = some l1 ∧ wordsOf l1 = wRest :: ws ∧ St ((ls.drop 2).take n) hs ys ∧ LOk ys hs ∧ b = stepB l ys hs)
def sp49 : Sp := spR fun vs H R => ∃ (p : Addr) (ls : List Str) (n : Nat) (b : Bool), vs = [.ref p, .int (n : Int)] ∧ H p = some (.lst (ls.map V.str)) ∧ LnOk ls ∧ FitsB ls n b ∧ R = fun v _ => v = .bl b
abbrev s49 : Stmt := top 49
theorem sc49 : FnScope ["_law_lines", "_law_at", "_law_words", "_law_sizes", "_law_found", "_law_before", "_law_day", "_law_word"] ["_law_lines", "_law_at"] (defScope s49) := ⟨rfl, rfl, rfl, by decide +kernel, rfl, by decide +kernel, by decide +kernel⟩
theorem cut_dropK (xs : List V) (k : Nat) : cutV xs (some (k : Int)) none = xs.drop k := by
  show (xs.drop (HT.sIx xs.length 0 (some (k : Int)))).take (HT.sIx xs.length xs.length none - HT.sIx xs.length 0 (some (k : Int))) = xs.drop k
  rw [HT.sIx_nat, HT.sIx_none]
  by_cases h : k ≤ xs.length
  · rw [Nat.min_eq_left h]
    exact List.take_of_length_le (by rw [List.length_drop]; omega)
  · rw [Nat.min_eq_right (by omega), Nat.sub_self, List.take_zero, List.drop_eq_nil_of_le (by omega)]
theorem cut_12 (xs : List V) : cutV xs (some 1) (some 2) = (xs.drop 1).take 1 := by
  show (xs.drop (HT.sIx xs.length 0 (some ((1 : Nat) : Int)))).take (HT.sIx xs.length xs.length (some ((2 : Nat) : Int)) - HT.sIx xs.length 0 (some ((1 : Nat) : Int))) = _
  rw [HT.sIx_nat, HT.sIx_nat]
  match xs with
  | [] => rfl
  | [a] => rfl
  | a :: b :: r =>
    rw [Nat.min_eq_left (show 2 ≤ (a :: b :: r).length by simp), Nat.min_eq_left (show 1 ≤ (a :: b :: r).length by simp)]
theorem nums_one {lo hi : Int} (x : Str) : nums lo hi [x] = (bnd lo hi x).map fun i => [i] := by
  unfold nums
  cases bnd lo hi x <;> rfl
section
variable {P : Program} {w : World} {K : PySem.W.Frag} {mg : Str → Option Value} {base : Heap} {f : Addr} {fd : FuncData}
theorem ok49 (F : FnP K "_law_line_fits" s49 f fd) (T : Txt mg) (C_law_numbers : CalN P w K mg base 1 "_law_numbers" sp48) (C_law_year_fits : CalN P w K mg base 1 "_law_year_fits" sp50) : FnOk P w K mg base L2.CX0 2 f fd ["_law_lines", "_law_at"] sp49 := by
  refine F.ok sc49 (fun vs H Q E h => ?_) (fun cdv A outer s H vs Q E hr h => ?_)
  · obtain ⟨R, ⟨p, ls, n, b, rfl, _⟩, _⟩ := h
    rfl
  · obtain ⟨R, ⟨p, ls, n, b, rfl, hp, lnok, fits, rfl⟩, k⟩ := h
    have nd := sc49.nd
    refine ⟨_, PSs.nox (pss_cons (ps_set (i := 2) nd rfl (Or.inl rfl) (pe_split (pe_ix ix_list (pv 0) (pv 1) (fun _ _ => rfl)) pe_str))
    (pss_cons (ps_if (pt_cmpR op_eq (pv 1) pe_int (nomark _)) (pss_cons (ps_set (i := 3) nd rfl (Or.inl rfl) (C8.pe_c (C_law_numbers) hr (by decide) (by rfl) (pa_cons (pe_slice sl_list (pv 2) (po_some pe_int) (po_some pe_int)) (pa_cons pe_int (pa_cons pe_int pa_nil)))))
    (pss_cons (ps_if (PW.pt (pw_or (pt_cmpR op_ne (pe_callB call_len_seq (by rfl) T.len (by decide +kernel) (pa_cons (pv 2) pa_nil)) pe_int (nomark _)) (pw_or (pt_cmpR op_ne (pe_ix ix_list (pv 2) pe_int (fun _ _ => rfl)) pe_str (nomark _)) (pw_or (pt_cmpR op_ne (pe_ix ix_list (pv 2) pe_int (fun _ _ => rfl)) pe_str (nomark _)) (pw_or1 (pt_cmpR op_isN (pv 3) pe_non (nomark _))))))) (pss_one (ps_ret pe_bl)) pss_nil)
    (pss_one (ps_ret (pe_cmpR op_notN (C8.pe_c (C_law_numbers) hr (by decide) (by rfl) (pa_cons (pe_slice sl_list (pv 2) (po_some pe_int) po_none) (pa_cons pe_int (pa_cons (pe_op op_sub (pe_ix ix_list (pv 3) pe_int (fun _ _ => rfl)) pe_int) pa_nil)))) pe_non (nomark _)))))) pss_nil)
    (pss_cons (ps_if (pt_cmpR op_eq (pv 1) pe_int (nomark _)) (pss_cons (ps_set (i := 4) nd rfl (Or.inr rfl) (C8.pe_c (C_law_numbers) hr (by decide) (by rfl) (pa_cons (pe_slice sl_list (pv 2) (po_some pe_int) po_none) (pa_cons pe_int (pa_cons (pe_op op_sub (pe_callTy call_int_str (by rfl) T.int (by decide +kernel) (pa_cons (pe_ix ix_list (pe_split (pe_ix ix_list (pv 0) pe_int (fun _ _ => rfl)) pe_str) pe_int (fun _ _ => rfl)) pa_nil)) pe_int) pa_nil)))))
    (pss_one (ps_ret (pe_and (pe_cmpR op_eq (pe_ix ix_list (pv 2) pe_int (fun _ _ => rfl)) pe_str (nomark _)) (pe_and (pe_cmpR op_notN (pv 4) pe_non (nomark _)) (pe_one (pe_cmpR (op_eqD hr.units) (pv 4) (pe_callB cr_sortedI (by rfl) T.sorted (by decide +kernel) (pa_cons (pe_lc (own := [("_law_day", 6)]) (g := gName 6) rfl nd (pi_range1 (by rfl) T.range (pa_cons pe_int pa_nil)) (blkOk_by (own := [("_law_day", 6)]) (N := ["_law_lines", "_law_at", "_law_words", "_law_sizes", "_law_found", "_law_before", "_law_day", "_law_word"]) (sc := defScope s49) (by decide +kernel)) (fun _ _ _ _ _ => (pg_name (i := 6) nd rfl (Or.inl rfl))) (fun _ _ _ _ _ => (pts_one (pt_cmpR (r := rIn K false) op_in_seq (pv 6) (pv 4) (by rfl)))) (fun _ _ _ _ _ => (pv 6))) pa_nil)) (nomark _)))))))) pss_nil)
    (pss_cons (ps_if (pt_cmpR op_eq (pe_ix ix_list (pv 2) pe_int (fun _ _ => rfl)) pe_str (nomark _)) (pss_cons (ps_set (i := 4) nd rfl (Or.inr rfl) (C8.pe_c (C_law_numbers) hr (by decide) (by rfl) (pa_cons (pe_slice sl_list (pv 2) (po_some pe_int) po_none) (pa_cons pe_int (pa_cons pe_int pa_nil)))))
    (pss_cons (ps_if (PW.pt (pw_or (pt_cmpR op_isN (pv 4) pe_non (nomark _)) (pw_or (pt_cmpR op_ne (pe_callB call_len_seq (by rfl) T.len (by decide +kernel) (pa_cons (pv 4) pa_nil)) pe_int (nomark _)) (pw_or (pt_cmpR op_gt (pe_ix ix_list (pv 4) pe_int (fun _ _ => rfl)) pe_int (nomark _)) (pw_or1 (pt_cmpR op_eq (pe_slice sl_str (pe_ix ix_list (pv 0) (pe_op op_sub (pv 1) pe_int) (fun _ _ => rfl)) po_none (po_some pe_int)) pe_str (nomark _))))))) (pss_one (ps_ret pe_bl)) pss_nil)
    (pss_cons (ps_set (i := 5) nd rfl (Or.inl rfl) (pe_ifExp (pt_cmpR op_gt (pv 1) pe_int (nomark _)) (pe_lc (own := [("_law_word", 7)]) (g := gName 7) rfl nd (pi_list (pe_slice sl_list (pe_split (pe_ix ix_list (pv 0) (pe_op op_sub (pv 1) pe_int) (fun _ _ => rfl)) pe_str) (po_some pe_int) po_none)) (blkOk_by (own := [("_law_word", 7)]) (N := ["_law_lines", "_law_at", "_law_words", "_law_sizes", "_law_found", "_law_before", "_law_day", "_law_word"]) (sc := defScope s49) (by decide +kernel)) (fun _ _ _ _ _ => (pg_name (i := 7) nd rfl (Or.inl rfl))) (fun _ _ _ _ _ => pts_nil) (fun _ _ _ _ _ => (pe_callTy call_int_str (by rfl) T.int (by decide +kernel) (pa_cons (pv 7) pa_nil)))) (pe_lst (pa_cons pe_int (pa_cons pe_int pa_nil)))))
    (pss_one (ps_ret (pe_cmpR (op_ltL2 hr.units0) (pv 5) (pv 4) (nomark _))))))) pss_nil)
    (pss_one (ps_ret (pe_and (pe_cmpR op_eq (pe_ix ix_list (pv 2) pe_int (fun _ _ => rfl)) pe_str (nomark _)) (pe_one (C8.pe_c (C_law_year_fits) hr (by decide) (by rfl) (pa_cons (pv 0) (pa_cons (pv 1) (pa_cons (C8.pe_c (C_law_numbers) hr (by decide) (by rfl) (pa_cons (pe_slice sl_list (pv 2) (po_some pe_int) po_none) (pa_cons pe_int (pa_cons pe_int pa_nil)))) pa_nil)))))))))))), ?_⟩
    obtain ⟨hl, hln⟩ := lnok
    have lnok : LnOk ls := ⟨hl, hln⟩
    obtain ⟨z, hz⟩ : ∃ z, ls[n]? = some z := by
      rcases fits with ⟨rfl, l0, h, _⟩ | ⟨rfl, l0, l1, k, j, _, h, _⟩ | ⟨m, l, _, _, _, _, rfl, h, _⟩
      · exact ⟨_, h⟩
      · exact ⟨_, h⟩
      · exact ⟨_, h⟩
    have hzm := List.mem_of_getElem? hz
    obtain ⟨hzl, hzs⟩ := hln z hzm
    refine q_asgL (xs := (wordsOf z).map V.str) (el_split (ev_op (ev_var rfl) (ev_var rfl) (rv_ixL (sq_of hp) (strs_at hz))) ev_c sep1_ok (by omega)) fun pw H1 hpw e1 h1 => ?_
    have hws : ∀ x ∈ wordsOf z, x.length ≤ 100000 ∧ Sane x := fun x hx => ⟨by have := words_short hx; omega, words_sane hzs hx⟩
    have hwl : (wordsOf z).length ≤ 100000 := by have := words_len z; omega
    obtain ⟨a, ws, hW⟩ : ∃ a ws, wordsOf z = a :: ws := by
      cases e : wordsOf z with
      | nil => exact absurd e (words_ne z)
      | cons a ws => exact ⟨a, ws, rfl⟩
    have tlW : ∀ {σ : L2.St} {H2 : Hp} {j : Nat}, Ex H1 H2 → σ[2]? = some (some (.ref pw)) → EvL (tSl (rSlL K) (tVar 2) (tPart (tC (.int (j : Int)))) tNoPart) σ H2 (((wordsOf z).drop j).map V.str) := fun {σ H2 j} e hσ =>
      el_is (el_sl (ev_var hσ) (eo_some ev_c) eo_none (sq_of (e _ _ h1))) (by rw [cut_dropK, List.map_drop])
    have w0 : ∀ {σ : L2.St} {H2 : Hp}, Ex H1 H2 → σ[2]? = some (some (.ref pw)) → Ev (tOp (rIxL K) (tVar 2) (tC (.int 0))) σ H2 (.str a) := fun e hσ => ev_op (ev_var hσ) ev_c (rv_ixL (sq_of (e _ _ h1)) (strs_at (i := 0) (by rw [hW]; rfl)))
    have hdr : ∀ (j : Nat), ∀ x ∈ (wordsOf z).drop j, x.length ≤ 100000 ∧ Sane x := fun j x hx => hws x (List.mem_of_mem_drop hx)
    have hdl : ∀ (j : Nat), ((wordsOf z).drop j).length ≤ 100000 := fun j => by rw [List.length_drop]; omega
    rcases fits with ⟨rfl, l0, hl0, hb⟩ | ⟨rfl, l0, l1, kk, jj, hl0, hl1, hwk, hb⟩ | ⟨m, l, l1, ws1, ys, hs, rfl, hl2, hl1, hW1, st, lok, hb⟩
    · rw [hl0] at hz
      obtain rfl := Option.some.inj hz
      refine q_when (b := true) (et_test (ev_op (ev_var rfl) ev_c rv_int)) (fun _ H2 e2 => ?_) (fun h => by cases h)
      refine q_asgP (ep_nums (ws := ((wordsOf l0).drop 1).take 1) (lo := 1) (hi := 10) (el_is (el_sl (ev_var rfl) (eo_some ev_c) (eo_some ev_c) (sq_of (e2 _ _ h1))) (by rw [cut_12, ← List.map_drop, ← List.map_take])) ev_c ev_c (by rw [List.length_take, List.length_drop]; omega) (fun x hx => hdr 1 x (List.mem_of_mem_take hx))) fun v H3 e3 r3 => ?_
      have e13 := e2.trans e3
      have e03 := e1.trans e13
      have hlen : Ev (tCB (fun xs H Q => ∃ p ys, xs = [.ref p] ∧ (SqL K H p ys ∨ SqT K H p ys) ∧ Q (.int ys.length) H) (tCons (tVar 2) tNil)) [some (.ref p), some (.int 0), some (.ref pw), some v, none, none, none, none] H3 (.int ((wordsOf l0).length : Int)) :=
        ev_is (ev_lenQ (ev_var rfl) (sq_of (e13 _ _ h1))) (by rw [List.length_map])
      have no : weekP l0 = none → ∀ H4, Ex H3 H4 → Q (.bl false) H4 := fun h H4 e4 => k _ _ (e03.trans e4) (by rw [hb, h]; rfl)
      by_cases h4 : (wordsOf l0).length = 4
      · obtain ⟨x, b2, y, rfl⟩ : ∃ x b2 y, ws = [x, b2, y] := by
          rw [hW] at h4
          match ws, h4 with
          | [x, b2, y], _ => exact ⟨x, b2, y, rfl⟩
        have hp4 : weekP l0 = if a = Str.ofString "week" ∧ b2 = Str.ofString "first" then (match bnd 1 10 x with
            | some k => (bnd 0 (k - 1) y).map fun j => (k, j)
            | none => none) else none := by
          unfold weekP
          rw [hW] <;> rfl
        rw [hW] at r3
        have r3' : OptL H2 ((bnd 1 10 x).map fun i => [i]) v H3 := by
          rw [← nums_one]
          exact r3
        have w2 : ∀ {σ : L2.St} {H2 : Hp}, Ex H1 H2 → σ[2]? = some (some (.ref pw)) → Ev (tOp (rIxL K) (tVar 2) (tC (.int 2))) σ H2 (.str b2) := fun e hσ => ev_op (ev_var hσ) ev_c (rv_ixL (sq_of (e _ _ h1)) (strs_at (i := 2) (by rw [hW]; rfl)))
        refine q_when (b := false || (!decide (a = Str.ofString "week") || (!decide (b2 = Str.ofString "first") || decide (v = .non)))) (et_or (et_is (et_test (ev_op hlen ev_c rv_intN)) (by rw [h4]; rfl)) fun _ => et_or (et_test (ev_op (w0 e13 rfl) ev_c rv_strN)) fun _ => et_or (et_test (ev_op (w2 e13 rfl) ev_c rv_strN)) fun _ => et_test (ev_op (ev_var rfl) ev_c rv_isN)) (fun hb2 H4 e4 => ?_) (fun hb2 H4 e4 => ?_)
        · refine s_ret ev_c fun H5 e5 => no ?_ H5 (e4.trans e5)
          rw [hp4]
          by_cases hab : a = Str.ofString "week" ∧ b2 = Str.ofString "first"
          · rw [if_pos hab]
            rw [decide_eq_true hab.1, decide_eq_true hab.2] at hb2
            have hv : v = .non := by simpa using hb2
            cases hx : bnd 1 10 x with
            | none => rfl
            | some i =>
              rw [hx] at r3'
              obtain ⟨q, hq, _⟩ := r3'
              rw [hq] at hv
              cases hv
          · rw [if_neg hab]
        · have hab : a = Str.ofString "week" ∧ b2 = Str.ofString "first" ∧ v ≠ .non := by
            simpa [Bool.or_eq_false_iff] using hb2
          rw [if_pos ⟨hab.1, hab.2.1⟩] at hp4
          cases hx : bnd 1 10 x with
          | none =>
            rw [hx] at r3'
            exact absurd r3' hab.2.2
          | some i =>
            rw [hx] at r3' hp4
            obtain ⟨q, rfl, hq, h3⟩ := r3'
            have hp5 : weekP l0 = (bnd 0 (i - 1) y).map fun j => (i, j) := hp4
            refine s_ret (v := .bl (weekP l0).isSome) (ev_is (ep_op (R := OptL H4 (nums 0 (i - 1) [y])) (ep_nums (ws := [y]) (el_is (tlW (j := 3) (e13.trans e4) rfl) (by rw [hW]; rfl)) ev_c (ev_op (ev_op (ev_var rfl) ev_c (rv_ixL (sq_of (e4 _ _ h3)) (ints_at (l := [i]) (i := 0) (by simp)))) ev_c rv_I0) (by simp) (fun x hx => hws x (by
                rw [hW]
                rw [List.mem_singleton.mp hx]
                simp))) (fun v H5 e5 r => ev_c) (z := .bl (nums 0 (i - 1) [y]).isSome) (fun v H5 e5 r => rv_val fun H6 e6 Q2 q2 => ?_) (fun v H5 H6 r e => r.fwd e)) ?_) fun H5 e5 => k _ _ (e03.trans (e4.trans e5)) (by rw [hb])
            · refine ⟨rfl, ?_⟩
              cases ho : nums 0 (i - 1) [y] with
              | none =>
                rw [ho] at r q2
                cases r
                exact q2
              | some l =>
                rw [ho] at r q2
                obtain ⟨q', rfl, _⟩ := r
                exact q2
            · rw [hp5, nums_one]
              cases bnd 0 (i - 1) y <;> rfl
      · have hp4 : weekP l0 = none := by
          unfold weekP
          match hm : wordsOf l0, h4 with
          | [], _ => rfl
          | [_], _ => rfl
          | [_, _], _ => rfl
          | [_, _, _], _ => rfl
          | [_, _, _, _], h => exact absurd rfl h
          | _ :: _ :: _ :: _ :: _ :: _, _ => rfl
        refine q_when (b := true) (et_or (a := true) (b := true) (et_is (et_test (ev_op hlen ev_c rv_intN)) (by simp; omega)) (fun h => by cases h)) (fun _ H4 e4 => s_ret ev_c fun H5 e5 => no hp4 H5 (e4.trans e5)) (fun h => by cases h)
    · rw [hl1] at hz
      obtain rfl := Option.some.inj hz
      refine q_when (b := false) (et_test (ev_op (ev_var rfl) ev_c rv_int)) (fun h => by cases h) (fun _ H2 e2 => ?_)
      refine q_when (b := true) (et_test (ev_op (ev_var rfl) ev_c rv_int)) (fun _ H3 e3 => ?_) (fun h => by cases h)
      obtain ⟨w1, w2, _⟩ := weekP_some hwk
      have hsec : (wordsOf l0)[1]? = some (numS kk) := by
        unfold weekP at hwk
        split at hwk
        · rename_i a x b2 y hw
          rw [hw]
          split at hwk
          · cases hx : bnd 1 10 x with
            | none => rw [hx] at hwk; cases hwk
            | some k' =>
              rw [hx] at hwk
              have h9 : (bnd 0 (k' - 1) y).map (fun j => (k', j)) = some (kk, jj) := hwk
              cases hy : bnd 0 (k' - 1) y with
              | none => rw [hy] at h9; cases h9
              | some j' =>
                rw [hy] at h9
                cases h9
                rw [bnd_num hx]
                rfl
          · cases hwk
        · cases hwk
      have hl0m := hln l0 (List.mem_of_getElem? hl0)
      have hin := int_num (i := kk) ⟨by omega, by omega⟩
      have e13 := e2.trans e3
      refine q_asgP (ep_nums (ws := (wordsOf l1).drop 1) (lo := 0) (hi := kk - 1) (tlW (j := 1) e13 rfl) ev_c (ev_op (ev_intS (ev_word (i := 1) (ev_op (ev_var rfl) ev_c (rv_ixL (sq_of ((e1.trans e13) _ _ hp)) (strs_at (i := 0) hl0))) ev_c (fun _ _ => ev_c) (by have := hl0m.1; omega) hsec) hin.1 hin.2) ev_c rv_I0) (hdl 1) (hdr 1)) fun v H4 e4 r4 => ?_
      have e14 := e13.trans e4
      have hws1 : (wordsOf l1).drop 1 = ws := by rw [hW]; rfl
      rw [hws1] at r4
      have hP : restP l1 kk = if a = Str.ofString "rest" then (match nums 0 (kk - 1) ws with
          | some l => if ascB l = true then some l else none
          | none => none) else none := by
        unfold restP numbersP
        rw [hW]
        show (match (if a = Str.ofString "rest" then nums 0 (kk - 1) ws else none) with
          | some l => if ascB l = true then some l else none
          | none => none) = _
        by_cases ha : a = Str.ofString "rest"
        · rw [if_pos ha, if_pos ha]
        · rw [if_neg ha, if_neg ha]
      refine s_ret (v := .bl (restP l1 kk).isSome) ?_ fun H5 e5 => k _ _ (e1.trans (e14.trans e5)) (by rw [hb])
      cases ho : nums 0 (kk - 1) ws with
      | none =>
        rw [ho] at r4 hP
        cases r4
        refine ev_is (ev_andV (b := false) (ev_op (w0 e14 rfl) ev_c rv_str) fun _ => ev_andV (a := false) (b := false) (ev_op (ev_var rfl) ev_c rv_notN) (fun h => by cases h)) ?_
        rw [hP]
        by_cases ha : a = Str.ofString "rest"
        · rw [if_pos ha]
          simp
        · rw [if_neg ha]
          simp
      | some l =>
        rw [ho] at r4 hP
        obtain ⟨q, rfl, hq, h4⟩ := r4
        have hb10 : ∀ i ∈ l, 0 ≤ i ∧ i < 10 := fun i hi => by
          have := (nums_some ho).2 i hi
          omega
        refine ev_is (ev_andV (ev_op (w0 e14 rfl) ev_c rv_str) fun _ => ev_andV (a := true) (b := decide (l = tens l)) (ev_op (ev_var rfl) ev_c rv_notN) fun _ => ?_) (?_ : V.bl (decide (a = Str.ofString "rest") && (true && decide (l = tens l))) = _)
        · refine ev_opR (ev_var rfl) (ep_sortN (ns := tens l) (el_is (el_lcR (n := 10) (fun (i : Nat) => decide ((i : Int) ∈ l)) (fun (i : Nat) => .int (i : Int)) (ea_cons ev_c ea_nil) (by decide) (fun _ => by rfl) (fun i H5 e5 hi => et_test (ev_is (ev_op (ev_var rfl) (ev_var rfl) (rv_isL (sq_of (e5 _ _ h4)) rfl (by rw [List.all_map, List.all_eq_true]; intro _ _; rfl))) (by rw [inV_int]))) (fun i H5 e5 hi _ => ev_var rfl)) ?_)) fun y H5 e5 ⟨q2, ms, hy, hq2, hpm, hms⟩ => ?_
          · unfold given tens
            rw [List.map_map]
            rfl
          · subst hy
            have hms2 := le_lt_perm hpm hms (tens_pw l)
            subst hms2
            exact fun H6 e6 Q2 q2' => ⟨_, _, .lst (sq_of ((e5.trans e6) _ _ h4)) (dpall_ints l), .lst (sq_of (e6 _ _ hq2)) (dpall_ints (tens l)), sh_of (pl_dL l) (by decide), sh_of (pl_dL (tens l)) (by decide), by
              rw [show PyData.eqv (.list (l.map PyData.int)) (.list ((tens l).map PyData.int)) = decide (l = tens l) from eqv_dL l (tens l)]
              exact q2' H6 (Ex.refl _)⟩
        · rw [hP]
          by_cases ha : a = Str.ofString "rest"
          · rw [if_pos ha, decide_eq_true ha]
            show V.bl (true && (true && decide (l = tens l))) = V.bl (if ascB l = true then some l else none).isSome
            have hiff : l = tens l ↔ ascB l = true := by
              constructor
              · intro h
                rw [h]
                exact pw_asc (tens_pw l)
              · intro h
                exact sorted_same (asc_pw h) (tens_pw l) fun i => (tens_mem hb10 i).symm
            by_cases hasc : ascB l = true
            · rw [if_pos hasc, decide_eq_true (hiff.mpr hasc)]
              rfl
            · rw [if_neg hasc, decide_eq_false fun h => hasc (hiff.mp h)]
              rfl
          · rw [if_neg ha, decide_eq_false ha]
            rfl
    · rw [hl2] at hz
      obtain rfl := Option.some.inj hz
      have hmI : ((m + 2 : Nat) : Int) ≠ 0 ∧ ((m + 2 : Nat) : Int) ≠ 1 := by omega
      refine q_when (b := false) (et_is (et_test (ev_op (ev_var rfl) ev_c rv_int)) (decide_eq_false hmI.1)) (fun h => by cases h) (fun _ H2 e2 => ?_)
      refine q_when (b := false) (et_is (et_test (ev_op (ev_var rfl) ev_c rv_int)) (decide_eq_false hmI.2)) (fun h => by cases h) (fun _ H3 e3 => ?_)
      have e13 := e2.trans e3
      have hws1 : (wordsOf l).drop 1 = ws := by rw [hW]; rfl
      have hm2 : m + 2 < ls.length := by
        rcases Nat.lt_or_ge (m + 2) ls.length with h | h
        · exact h
        · rw [List.getElem?_eq_none h] at hl2
          cases hl2
      refine q_when (b := decide (a = wHol)) (et_test (ev_op (w0 e13 rfl) ev_c rv_str)) (fun ha H4 e4 => ?_) (fun ha H4 e4 => ?_)
      · have ha' : a = wHol := of_decide_eq_true ha
        have hy0 : yearP l ys hs = none := by
          unfold yearP numbersP
          rw [hW]
          show (match (if a = Str.ofString "year" then nums 1 40 ws else none) with
            | some l => _
            | none => none) = none
          rw [if_neg]
          rw [ha']
          decide +kernel
        have hh0 : holP l hs = match nums 1 40 ws with
            | some [m, d] => if m ≤ 14 ∧ (∀ q, hs.getLast? = some q → ltP q (m, d) = true) then some (m, d) else none
            | _ => none := by
          unfold holP numbersP
          rw [hW]
          show (match (if a = Str.ofString "holiday" then nums 1 40 ws else none) with
            | some [m, d] => _
            | _ => none) = _
          rw [if_pos (show a = Str.ofString "holiday" from ha')]
        have hb' : b = (if ys = [] then holP l hs else none).isSome := by
          rw [hb]
          unfold stepB
          rw [hy0]
          simp
        have e14 := e13.trans e4
        refine q_asgP (ep_nums (ws := (wordsOf l).drop 1) (lo := 1) (hi := 40) (tlW (j := 1) e14 rfl) ev_c ev_c (hdl 1) (hdr 1)) fun v H5 e5 r5 => ?_
        rw [hws1] at r5
        have e15 := e14.trans e5
        have e05 := e1.trans e15
        have no : (if ys = [] then holP l hs else none) = none → ∀ H6, Ex H5 H6 → Q (.bl false) H6 := fun h H6 e6 => k _ _ (e05.trans e6) (by rw [hb', h]; rfl)
        -- the line before
        obtain ⟨x, hx⟩ : ∃ x, ls[m + 1]? = some x := ⟨_, List.getElem?_eq_getElem (by omega)⟩
        have hxm := hln x (List.mem_of_getElem? hx)
        have hprev : (ys ≠ [] ∧ isY x = true ∧ 0 < m) ∨ (ys = [] ∧ isY x = false ∧ ((m = 0 ∧ hs = []) ∨ (0 < m ∧ ∃ q, hs.getLast? = some q ∧ HolW x q))) := by
          cases m with
          | zero =>
            rw [List.take_zero] at st
            obtain ⟨rfl, rfl⟩ := st.none
            have : x = l1 := by
              rw [show (0 + 1 : Nat) = 1 from rfl, hl1] at hx
              exact (Option.some.inj hx).symm
            subst this
            exact .inr ⟨rfl, isY_rest hW1, .inl ⟨rfl, rfl⟩⟩
          | succ m' =>
            have hlast : ((ls.drop 2).take (m' + 1)).getLast? = some x := by
              rw [List.getLast?_eq_getElem?, List.length_take, List.length_drop, Nat.min_eq_left (by omega), List.getElem?_take_of_lt (by omega), List.getElem?_drop]
              rw [← hx]
              congr 1
              omega
            rcases st.last hlast with ⟨h, h'⟩ | ⟨h, q, hq, h'⟩
            · exact .inl ⟨h, h', Nat.succ_pos _⟩
            · exact .inr ⟨h, isY_hol h'.1, .inr ⟨Nat.succ_pos _, q, hq, h'⟩⟩
        have ixP : ∀ {σ : L2.St} {H6 : Hp}, Ex H1 H6 → σ[0]? = some (some (.ref p)) → σ[1]? = some (some (.int ((m + 2 : Nat) : Int))) → Ev (tOp (rIxL K) (tVar 0) (tOp (rI0 fun i j => .int (i - j)) (tVar 1) (tC (.int 1)))) σ H6 (.str x) := fun e s0 s1 =>
          ev_op (ev_var s0) (ev_is (ev_op (ev_var s1) ev_c rv_I0) (show V.int (((m + 2 : Nat) : Int) - 1) = V.int ((m + 1 : Nat) : Int) by congr 1; omega)) (rv_ixL (sq_of ((e1.trans e) _ _ hp)) (strs_at hx))
        have hY : ∀ {σ : L2.St} {H6 : Hp}, Ex H1 H6 → σ[0]? = some (some (.ref p)) → σ[1]? = some (some (.int ((m + 2 : Nat) : Int))) → EvT (tTest (tOp rEq (tSl rSlS (tOp (rIxL K) (tVar 0) (tOp (rI0 fun i j => .int (i - j)) (tVar 1) (tC (.int 1)))) tNoPart (tPart (tC (.int 4)))) (tC (.str "year")))) σ H6 (isY x) := fun e s0 s1 =>
          et_test (ev_op (ev_slS (ixP e s0 s1) eo_none (eo_some ev_c) (len_ok (by have := hxm.1; omega))) ev_c rv_str)
        cases ho : nums 1 40 ws with
        | none =>
          rw [ho] at r5 hh0
          cases r5
          refine q_when (b := true) (et_or (a := true) (b := true) (et_test (ev_op (ev_var (v := .non) rfl) ev_c rv_isN)) (fun h => by cases h)) (fun _ H6 e6 => s_ret ev_c fun H7 e7 => no ?_ _ (e6.trans e7)) (fun h => by cases h)
          rw [hh0]
          split <;> rfl
        | some fo =>
          rw [ho] at r5 hh0
          obtain ⟨q, rfl, hq, h5⟩ := r5
          have lenF : ∀ {σ : L2.St} {H6 : Hp}, Ex H5 H6 → σ[4]? = some (some (.ref q)) → Ev (tCB (fun xs H Q => ∃ p ys, xs = [.ref p] ∧ (SqL K H p ys ∨ SqT K H p ys) ∧ Q (.int ys.length) H) (tCons (tVar 4) tNil)) σ H6 (.int (fo.length : Int)) := fun e hσ => ev_is (ev_lenQ (ev_var hσ) (sq_of (e _ _ h5))) (by rw [List.length_map])
          by_cases h2 : fo.length = 2
          · obtain ⟨mo, da, rfl⟩ : ∃ mo da, fo = [mo, da] := by
              match fo, h2 with
              | [mo, da], _ => exact ⟨mo, da, rfl⟩
            have hmd := (nums_some ho).2
            have hmo := hmd mo (by simp)
            replace hh0 : holP l hs = if mo ≤ 14 ∧ (∀ q, hs.getLast? = some q → ltP q (mo, da) = true) then some (mo, da) else none := hh0
            refine q_when (b := false || (false || (decide (mo > 14) || isY x))) (et_or (et_test (ev_op (ev_var (v := .ref q) rfl) ev_c rv_isN)) fun _ => et_or (et_is (et_test (ev_op (lenF (Ex.refl _) rfl) ev_c rv_intN)) rfl) fun _ => et_or (et_test (ev_op (ev_op (ev_var rfl) ev_c (rv_ixL (sq_of h5) (ints_at (l := [mo, da]) (i := 0) (by simp)))) ev_c rv_I0)) fun _ => hY e15 rfl rfl) (fun hb2 H6 e6 => ?_) (fun hb2 H6 e6 => ?_)
            · refine s_ret ev_c fun H7 e7 => no ?_ _ (e6.trans e7)
              rcases hprev with ⟨h3, _⟩ | ⟨h3, h4, _⟩
              · rw [if_neg h3]
              · rw [if_pos h3, hh0, if_neg]
                rintro ⟨h6, _⟩
                rw [h4] at hb2
                simp at hb2
                omega
            · have hb3 : ¬ mo > 14 ∧ isY x = false := by
                simpa [Bool.or_eq_false_iff] using hb2
              rcases hprev with ⟨h3, h4, _⟩ | ⟨h3, _, hlast⟩
              · rw [hb3.2] at h4
                cases h4
              · rw [if_pos h3] at hb'
                have e16 := e15.trans e6
                have hbef : ∃ i j : Int, EvL (tIf (tTest (tOp (rI0 fun i j => .bl (decide (i > j))) (tVar 1) (tC (.int 2)))) (tLc (iList K (tSl (rSlL K) (tM1 (fun x xs H Q => ∃ a b, x = .str a ∧ xs = [.str b] ∧ (b.length == 0) = false ∧ a.length + 2 ≤ sizeLine ∧ rNewStrs (Txt.split a b) H Q) (tOp (rIxL K) (tVar 0) (tOp (rI0 fun i j => .int (i - j)) (tVar 1) (tC (.int 1)))) (tC (.str " "))) (tPart (tC (.int 1))) tNoPart)) (gName 7) tYes (tCB (fun xs H Q => ∃ a n, xs = [.str a] ∧ PySem.intText? a = some n ∧ a.length ≤ 640 ∧ Q (.int n) H) (tCons (tVar 7) tNil)) [7]) (tLst (tCons (tC (.int 0)) (tCons (tC (.int 0)) tNil))))
                    [some (.ref p), some (.int ((m + 2 : Nat) : Int)), some (.ref pw), none, some (.ref q), none, none, none] H6 ([i, j].map V.int) ∧ HT.lexLt [i, j] [mo, da] = decide (∀ q, hs.getLast? = some q → ltP q (mo, da) = true) := by
                  rcases hlast with ⟨rfl, rfl⟩ | ⟨hm0, qq, hqq, hqw⟩
                  · refine ⟨0, 0, el_if (b := false) (et_is (et_test (ev_op (ev_var rfl) ev_c rv_I0)) (by decide)) (fun h => by cases h) (fun _ => el_lst (ea_cons ev_c (ea_cons ev_c ea_nil)) (by decide)), ?_⟩
                    rw [HT.lexLt_cons, if_neg (by omega), decide_eq_true (by omega : (0 : Int) < mo)]
                    symm
                    exact decide_eq_true fun q hq => by cases hq
                  · refine ⟨qq.1, qq.2, el_if (b := true) (et_is (et_test (ev_op (ev_var rfl) ev_c rv_I0)) (decide_eq_true (by omega))) (fun _ => ?_) (fun h => by cases h), ?_⟩
                    · refine el_is (el_lcF (L := [numS qq.1, numS qq.2]) Str.empty V.str (fun _ => true) (fun x => .int ((PySem.intText? x).getD 0)) (el_is (el_slN (el_split (ixP e16 rfl rfl) ev_c sep1_ok (by have := hxm.1; omega)) (eo_some ev_c) eo_none) ?_) (by simp) (fun _ => by rfl) (fun _ _ _ _ => et_yes) (fun x hx H7 e7 _ => ?_)) ?_
                      · rw [drop1_cut]
                        have hw : Txt.split x (Str.ofString " ") = [wHol, numS qq.1, numS qq.2] := hqw.1
                        rw [hw]
                        rfl
                      · rcases List.mem_cons.mp hx with rfl | hx
                        · have hi := int_num hqw.2.1
                          rw [hi.1]
                          exact ev_intS (ev_var rfl) hi.1 hi.2
                        · rw [List.mem_singleton.mp hx]
                          have hi := int_num hqw.2.2
                          rw [hi.1]
                          exact ev_intS (ev_var rfl) hi.1 hi.2
                      · rw [List.filter_eq_self.mpr fun _ _ => rfl]
                        show [V.int _, V.int _] = _
                        rw [(int_num hqw.2.1).1, (int_num hqw.2.2).1]
                        rfl
                    · rw [hqq]
                      show ltP qq (mo, da) = _
                      cases hc : ltP qq (mo, da) with
                      | true =>
                        symm
                        exact decide_eq_true fun q' hq' => by cases hq'; exact hc
                      | false =>
                        symm
                        refine decide_eq_false fun h => ?_
                        have := h qq rfl
                        rw [hc] at this
                        cases this
                obtain ⟨i, j, hbl, hlex⟩ := hbef
                refine q_asgL hbl fun pb H7 hpb e7 h7 => ?_
                refine s_ret (ev_op (ev_var rfl) (ev_var rfl) (fun H8 e8 Q2 q2 => ⟨pb, q, i, j, mo, da, rfl, rfl, sq_of (e8 _ _ h7), sq_of ((e6.trans (e7.trans e8)) _ _ h5), q2 H8 (Ex.refl _)⟩)) fun H8 e8 => k _ _ (e05.trans (e6.trans (e7.trans e8))) ?_
                rw [hb', hh0, hlex]
                congr 1
                by_cases hc : ∀ q, hs.getLast? = some q → ltP q (mo, da) = true
                · rw [if_pos ⟨by omega, hc⟩, decide_eq_true hc]
                  rfl
                · rw [if_neg fun h => hc h.2, decide_eq_false hc]
                  rfl
          · refine q_when (b := true) (et_or (a := false) (et_test (ev_op (ev_var (v := .ref q) rfl) ev_c rv_isN)) (fun _ => et_or (a := true) (b := true) (et_is (et_test (ev_op (lenF (Ex.refl _) rfl) ev_c rv_intN)) (by simp; omega)) (fun h => by cases h))) (fun _ H6 e6 => s_ret ev_c fun H7 e7 => no ?_ _ (e6.trans e7)) (fun h => by cases h)
            rw [hh0]
            have : (match (some fo : Option (List Int)) with
              | some [m, d] => if m ≤ 14 ∧ (∀ q, hs.getLast? = some q → ltP q (m, d) = true) then some (m, d) else none
              | _ => none) = none := by
              match fo, h2 with
              | [], _ => rfl
              | [_], _ => rfl
              | [_, _], h => exact absurd rfl h
              | _ :: _ :: _ :: _, _ => rfl
            rw [this]
            split <;> rfl
      · have ha' : a ≠ wHol := of_decide_eq_false ha
        have hh0 : holP l hs = none := by
          unfold holP numbersP
          rw [hW]
          show (match (if a = Str.ofString "holiday" then nums 1 40 ws else none) with
            | some [m, d] => _
            | _ => none) = none
          rw [if_neg (show ¬ a = Str.ofString "holiday" from ha')]
        have hb' : b = (yearP l ys hs).isSome := by
          rw [hb]
          unfold stepB
          rw [hh0]
          simp
        have hy0 : (yearP l ys hs).isSome = (decide (a = wYear) && yearB (nums 1 40 ws) ys hs) := by
          unfold yearP numbersP
          rw [hW]
          show (match (if a = wYear then nums 1 40 ws else none) with
            | some l => if (1 ≤ l.length ∧ l.length ≤ 14) ∧ ys.length ≠ 400 ∧ (∀ y, ys.head? = some y → y.length = l.length) ∧ (∀ q, hs.getLast? = some q → q.1 ≤ (l.length : Int)) then some l else none
            | none => none).isSome = _
          by_cases hw : a = wYear
          · rw [if_pos hw, decide_eq_true hw, Bool.true_and]
            cases nums 1 40 ws with
            | none => rfl
            | some l =>
              show (if yearC l ys hs then some l else none).isSome = decide (yearC l ys hs)
              by_cases hc : yearC l ys hs
              · rw [if_pos hc, decide_eq_true hc]
                rfl
              · rw [if_neg hc, decide_eq_false hc]
                rfl
          · rw [if_neg hw, decide_eq_false hw]
            rfl
        have e14 := e13.trans e4
        refine s_ret (ev_andV (ev_op (w0 e14 rfl) ev_c rv_str) (b := yearB (nums 1 40 ws) ys hs) fun _ => ?_) fun H5 e5 => k _ _ (e1.trans (e14.trans e5)) (by rw [hb', hy0]; rfl)
        intro H5 e5 Q2 q2
        have e15 := e14.trans e5
        refine ⟨_, rfl, ⟨_, rfl, ep_nums (ws := (wordsOf l).drop 1) (lo := 1) (hi := 40) (tlW (j := 1) e15 rfl) ev_c ev_c (hdl 1) (hdr 1) H5 (Ex.refl _) _ fun v H6 e6 r6 => ?_⟩⟩
        rw [hws1] at r6
        refine ⟨_, ⟨p, ls, m, v, nums 1 40 ws, ys, hs, rfl, (e1.trans (e15.trans e6)) _ _ hp, hm2, lnok, ?_, st, lok, rfl⟩, fun v H7 e7 r => ?_⟩
        · cases ho : nums 1 40 ws with
          | none =>
            rw [ho] at r6
            exact r6
          | some fo =>
            rw [ho] at r6
            obtain ⟨q, h1, _, h3⟩ := r6
            exact ⟨q, h1, h3⟩
        · rw [r]
          exact q2 H7 (e6.trans e7)
end
end K9
end
section
set_option Elab.async false
set_option linter.all false
set_option maxRecDepth 100000
set_option maxHeartbeats 4000000
namespace K9
open PySem PySem.Spec PyProof.Rows L2 Evl
/-! ### how far the lines are right -/
theorem nums_words {lo hi : Int} {ws : List Str} {l : List Int} (h : nums lo hi ws = some l) : ws = l.map numS ∧ ∀ i ∈ l, 0 ≤ i ∧ i < 10 ^ 12 := ⟨(nums_some h).1, fun i hi => ⟨((nums_some h).2 i hi).2.2.1, ((nums_some h).2 i hi).2.2.2⟩⟩
theorem numbers_words {line wd : Str} {lo hi : Int} {l : List Int} (h : numbersP line wd lo hi = some l) : wordsOf line = wd :: l.map numS ∧ ∀ i ∈ l, 0 ≤ i ∧ i < 10 ^ 12 := by
  unfold numbersP at h
  cases hw : wordsOf line with
  | nil => rw [hw] at h; cases h
  | cons a ws =>
    rw [hw] at h
    have h1 : (if a = wd then nums lo hi ws else none) = some l := h
    split at h1
    · rename_i ha
      obtain ⟨e1, e2⟩ := nums_words h1
      rw [ha, e1]
      exact ⟨rfl, e2⟩
    · cases h1
theorem holW_of {l : Str} {hs : List (Int × Int)} {p : Int × Int} (h : holP l hs = some p) : HolW l p := by
  unfold holP at h
  split at h
  · rename_i m d hn
    split at h
    · cases h
      obtain ⟨e1, e2⟩ := numbers_words hn
      exact ⟨e1, e2 m (by simp), e2 d (by simp)⟩
    · cases h
  · cases h
theorem yearW_of {l : Str} {ys : List (List Int)} {hs : List (Int × Int)} {y : List Int} (h : yearP l ys hs = some y) : YearW l y := by
  unfold yearP at h
  split at h
  · rename_i l' hn
    split at h
    · cases h
      exact numbers_words hn
    · cases h
  · cases h
theorem restW_of {l : Str} {w : Int} {rs : List Int} (h : restP l w = some rs) : wordsOf l = wRest :: rs.map numS ∧ ∀ i ∈ rs, 0 ≤ i ∧ i < 10 ^ 12 := by
  unfold restP at h
  split at h
  · rename_i l' hn
    split at h
    · cases h
      exact numbers_words hn
    · cases h
  · cases h
theorem weekW_of {l : Str} {k j : Int} (h : weekP l = some (k, j)) : wordsOf l = [Str.ofString "week", numS k, Str.ofString "first", numS j] := by
  unfold weekP at h
  split at h
  · rename_i a x b y hw
    split at h
    · rename_i hab
      obtain ⟨rfl, rfl⟩ := hab
      cases hx : bnd 1 10 x with
      | none => rw [hx] at h; cases h
      | some k' =>
        rw [hx] at h
        have h1 : (bnd 0 (k' - 1) y).map (fun j => (k', j)) = some (k, j) := h
        cases hy : bnd 0 (k' - 1) y with
        | none => rw [hy] at h1; cases h1
        | some j' =>
          rw [hy] at h1
          cases h1
          rw [hw, bnd_num hx, bnd_num hy]
    · cases h
  · cases h
theorem LOk.hol {hs : List (Int × Int)} {l : Str} {p : Int × Int} (o : LOk [] hs) (h : holP l hs = some p) : LOk [] (hs ++ [p]) := by
  obtain ⟨e1, e2, e3, e4⟩ := holP_some h
  exact ⟨pw_snoc (fun {_ _ _} => ltP_trans) o.ho e4, fun q hq => by
    rcases List.mem_append.mp hq with hq | hq
    · exact o.hb q hq
    · rw [List.mem_singleton.mp hq]; exact ⟨e2, e3⟩, (fun y hy => by cases hy), by simp⟩
theorem LOk.year {ys : List (List Int)} {hs : List (Int × Int)} {l : Str} {y : List Int} (o : LOk ys hs) (h : yearP l ys hs = some y) : LOk (ys ++ [y]) hs := by
  obtain ⟨e1, e2, e3, e4, e5, e6⟩ := yearP_some h
  have hq := le_last o.ho e6
  have hd : ∀ {y' : List Int}, (ys ++ [y]).head? = some y' → y'.length = y.length := fun {y'} h => by
    cases ys with
    | nil => simp at h; rw [h]
    | cons a r => exact e5 y' (by simpa using h)
  exact ⟨o.ho, o.hb, fun y1 hy1 => by
    rcases List.mem_append.mp hy1 with hy1 | hy1
    · obtain ⟨b1, b2, b3, b4⟩ := o.yo y1 hy1
      refine ⟨b1, b2, fun y' h => ?_, b4⟩
      cases ys with
      | nil => cases hy1
      | cons a r => exact b3 y' (by simpa using h)
    · rw [List.mem_singleton.mp hy1]
      exact ⟨e2, e3, fun y' h => hd h, hq⟩, by rw [List.length_append]; have := o.n; simp; omega⟩
theorem St.hol {L : List Str} {hs : List (Int × Int)} {l : Str} {p : Int × Int} (h : St L hs []) (hl : HolW l p) : St (L ++ [l]) (hs ++ [p]) [] := by
  obtain ⟨A, B, rfl, h1, h2⟩ := h
  cases h2
  exact ⟨A ++ [l], [], by simp, paired_snoc h1 hl, .nil⟩
theorem St.year {L : List Str} {hs : List (Int × Int)} {ys : List (List Int)} {l : Str} {y : List Int} (h : St L hs ys) (hl : YearW l y) : St (L ++ [l]) hs (ys ++ [y]) := by
  obtain ⟨A, B, rfl, h1, h2⟩ := h
  exact ⟨A, B ++ [l], by simp, h1, paired_snoc h2 hl⟩
def DSt (ls : List Str) (n : Nat) : Prop :=
  n = 0 ∨ (n = 1 ∧ ∃ (l0 : Str) (r : List Str) (k j : Int), ls = l0 :: r ∧ weekP l0 = some (k, j)) ∨
  (∃ (m : Nat) (l0 l1 : Str) (r2 : List Str) (k j : Int) (rs : List Int) (ys : List (List Int)) (hs : List (Int × Int)), n = m + 2 ∧ ls = l0 :: l1 :: r2 ∧ weekP l0 = some (k, j) ∧ restP l1 k = some rs ∧ St (r2.take m) hs ys ∧ LOk ys hs ∧ readL 2 r2 [] [] = readL (2 + m) (r2.drop m) ys hs)
theorem DSt.step {ls : List Str} {n : Nat} (h : DSt ls n) (hn : n < ls.length) : ∃ b, FitsB ls n b ∧ (b = true → DSt ls (n + 1)) ∧ (b = false → readH ls = .error n) := by
  rcases h with rfl | ⟨rfl, l0, r, k, j, rfl, hw⟩ | ⟨m, l0, l1, r2, k, j, rs, ys, hs, rfl, rfl, hw, hr, st, lok, hL⟩
  · cases ls with
    | nil => cases hn
    | cons l0 r =>
      refine ⟨(weekP l0).isSome, .inl ⟨rfl, l0, rfl, rfl⟩, fun hb => ?_, fun hb => ?_⟩
      · obtain ⟨⟨k, j⟩, hk⟩ := Option.isSome_iff_exists.mp hb
        exact .inr (.inl ⟨rfl, l0, r, k, j, rfl, hk⟩)
      · have hk : weekP l0 = none := by simpa using hb
        simp only [readH, hk]
  · cases r with
    | nil => exact absurd hn (by simp)
    | cons l1 r2 =>
      refine ⟨(restP l1 k).isSome, .inr (.inl ⟨rfl, l0, l1, k, j, rfl, rfl, hw, rfl⟩), fun hb => ?_, fun hb => ?_⟩
      · obtain ⟨rs, hk⟩ := Option.isSome_iff_exists.mp hb
        exact .inr (.inr ⟨0, l0, l1, r2, k, j, rs, [], [], rfl, rfl, hw, hk, ⟨[], [], rfl, .nil, .nil⟩, ⟨.nil, (fun p hp => by cases hp), (fun y hy => by cases hy), by simp⟩, rfl⟩)
      · have hk : restP l1 k = none := by simpa using hb
        simp only [readH, hw, readA, hk]
  · have hm : m < r2.length := by simpa using hn
    obtain ⟨l, hl⟩ : ∃ l, r2[m]? = some l := ⟨_, List.getElem?_eq_getElem hm⟩
    have hd : r2.drop m = l :: r2.drop (m + 1) := drop_of hl
    have ht : r2.take (m + 1) = r2.take m ++ [l] := by
      rw [List.take_add_one, hl]
      rfl
    have step : readL (2 + m) (r2.drop m) ys hs = match (if ys = [] then holP l hs else none) with
        | some h => readL (2 + m + 1) (r2.drop (m + 1)) ys (hs ++ [h])
        | none => match yearP l ys hs with
          | some y => readL (2 + m + 1) (r2.drop (m + 1)) (ys ++ [y]) hs
          | none => .error (2 + m) := by
      rw [hd]
      rfl
    refine ⟨stepB l ys hs, .inr (.inr ⟨m, l, l1, rs.map numS, ys, hs, rfl, hl, rfl, (restW_of hr).1, st, lok, rfl⟩), fun hb => ?_, fun hb => ?_⟩
    · unfold stepB at hb
      cases hh : (if ys = [] then holP l hs else none) with
      | some p =>
        rw [hh] at step
        have hy : ys = [] := by
          by_cases e : ys = []
          · exact e
          · rw [if_neg e] at hh; cases hh
        subst hy
        rw [if_pos rfl] at hh
        exact .inr (.inr ⟨m + 1, l0, l1, r2, k, j, rs, [], hs ++ [p], rfl, rfl, hw, hr, by rw [ht]; exact st.hol (holW_of hh), lok.hol hh, by rw [hL, step]; rfl⟩)
      | none =>
        rw [hh] at step hb
        cases hy : yearP l ys hs with
        | none => rw [hy] at hb; cases hb
        | some y =>
          rw [hy] at step
          exact .inr (.inr ⟨m + 1, l0, l1, r2, k, j, rs, ys ++ [y], hs, rfl, rfl, hw, hr, by rw [ht]; exact st.year (yearW_of hy), lok.year hy, by rw [hL, step]; rfl⟩)
    · unfold stepB at hb
      rw [Bool.or_eq_false_iff] at hb
      have h1 : (if ys = [] then holP l hs else none) = none := by simpa using hb.1
      have h2 : yearP l ys hs = none := by simpa using hb.2
      rw [h1] at step
      have step2 : readL (2 + m) (r2.drop m) ys hs = .error (2 + m) := by
        rw [step]
        show (match yearP l ys hs with
          | some y => readL (2 + m + 1) (r2.drop (m + 1)) (ys ++ [y]) hs
          | none => .error (2 + m)) = _
        rw [h2]
      simp only [readH, hw, readA, hr, readB, hL, step2]
      rw [Nat.add_comm]
theorem DSt.fin {ls : List Str} (h : DSt ls ls.length) (hne : ls ≠ []) : (∃ l0 k j, ls = [l0] ∧ weekP l0 = some (k, j) ∧ readH ls = .error 1) ∨ (∃ l0 l1 r2 k j rs ys hs, ls = l0 :: l1 :: r2 ∧ weekP l0 = some (k, j) ∧ restP l1 k = some rs ∧ St r2 hs ys ∧ LOk ys hs ∧
    readH ls = if ys = [] then .error (r2.length + 2) else .ok ⟨ys, k, j, rs, hs, r2.length + 2⟩) := by
  rcases h with h | ⟨h, l0, r, k, j, rfl, hw⟩ | ⟨m, l0, l1, r2, k, j, rs, ys, hs, h, rfl, hw, hr, st, lok, hL⟩
  · exact absurd (List.length_eq_zero_iff.mp h) hne
  · have : r = [] := by
      cases r with
      | nil => rfl
      | cons a b => simp at h
    subst this
    exact .inl ⟨l0, k, j, rfl, hw, by simp only [readH, hw, readA]⟩
  · have hm : m = r2.length := by simp at h; omega
    subst hm
    rw [List.drop_length] at hL
    rw [List.take_length] at st
    refine .inr ⟨l0, l1, r2, k, j, rs, ys, hs, rfl, hw, hr, st, lok, ?_⟩
    simp only [readH, hw, readA, hr, readB, hL, readL]
noncomputable def dueV (z : Str) : V := match readF z with
  | .ok _ => .non
  | .error n => .int (n : Int)
theorem due_err {z : Str} {n : Nat} (h : readH (linesOf z) = .error n) : dueV z = .int (n : Int) := by
  unfold dueV
  rw [readF_err h]
theorem due_fine {z : Str} {d : RD} (h : readH (linesOf z) = .ok d) (hf : d.cd.Fine) : dueV z = .non := by
  unfold dueV
  rw [readF_fine h hf]
theorem due_bad {z : Str} {d : RD} (h : readH (linesOf z) = .ok d) (hf : ¬ d.cd.Fine) : dueV z = .int (d.count : Int) := by
  unfold dueV
  rw [readF_bad h hf]
/-! ### comprehensions that give new lists, new tuples -/
def IsO {α : Type} (o : α → HO) (H : Hp) (v : V) (a : α) : Prop := ∃ t, v = .ref t ∧ H t = some (o a)
section
variable {K : PySem.W.Frag} {σ : L2.St} {H : Hp} {ta tb te tl : TE} {t : TT} {xs ys : List V} {D : Ends} {tz : TS}
theorem ep_lcO {α : Type} (d : α) (emb : α → V) {L : List α} {j : Nat} {vs : List Nat} (f : α → Bool) (o : α → HO) (h : EvL tl σ H (L.map emb)) (hz : L.length ≤ 1000000) (hw : ∀ x, wipe ((wipe σ vs).set j (some x)) vs = wipe σ vs)
    (ht : ∀ a ∈ L, ∀ H1, Ex H H1 → EvT t ((wipe σ vs).set j (some (emb a))) H1 (f a)) (he : ∀ a ∈ L, ∀ H1, Ex H H1 → f a = true → EvP te ((wipe σ vs).set j (some (emb a))) H1 (fun v H2 => ∃ p, v = .ref p ∧ H1 p = none ∧ H2 p = some (o a))) :
    EvP (tLc (iList K tl) (gName j) t te vs) σ H (fun v H2 => ∃ p ys, v = .ref p ∧ H p = none ∧ H2 p = some (.lst ys) ∧ Paired (IsO o (hid p p H2)) ys (L.filter f)) := fun H0 e Q q => h H0 e _ fun a H1 ha e1 hx => ⟨a, rfl, ⟨_, sq_of hx⟩, fun Dl hD => by
  have e01 := e.trans e1
  have fwd : ∀ {H2 H3 : Hp} {ys : List V} {M : List α}, Paired (IsO o H2) ys M → Ex H2 H3 → Paired (IsO o H3) ys M := fun h e => Paired.mapP h fun _ _ ⟨t, h1, h2⟩ => ⟨t, h1, e _ _ h2⟩
  refine lc_it (g := gName j) ((walk_list (K := K) (a := a) (xs := L.map emb)).mono (fun _ h => h) (fun i H x H' hi _ y => y)) (fun i H' => ∃ ys, Ex H1 (hid Dl Dl H') ∧ H' Dl = some (.lst ys) ∧ ys.length ≤ i ∧ Paired (IsO o (hid Dl Dl H')) ys ((L.take i).filter f)) ⟨[], ?_, upd_same, Nat.le_refl _, .nil⟩ (fun i H' _ p => ?_) (fun i x H2 H' hi p y => ?_) (fun H' p => ?_)
  · rw [hid_up1]
    exact hid_of (Ex.refl _) hD hD
  · obtain ⟨ys, p1, _⟩ := p
    exact sq_of ((p1.trans hid_le) _ _ hx)
  · obtain ⟨ys, p1, p2, p3, p4⟩ := p
    obtain ⟨y1, y2⟩ := y
    subst y1
    rw [List.getElem?_map] at y2
    obtain ⟨b, hb, rfl⟩ : ∃ b, L[i]? = some b ∧ emb b = x := by
      cases e : L[i]? with
      | none => rw [e] at y2; cases y2
      | some z => rw [e] at y2; exact ⟨z, rfl, by simpa using y2⟩
    have hbm := List.mem_of_getElem? hb
    have htk : L.take (i + 1) = L.take i ++ [b] := by
      rw [List.take_add_one, hb]
      rfl
    have hiL : i < 1000000 := by
      rw [List.length_map] at hi
      omega
    refine ⟨hw _, ht b hbm _ ((e01.trans p1).trans hid_le) _ (Ex.refl _) _ fun H3 e3 => ?_⟩
    cases hf : f b with
    | true =>
      show te _ H3 _
      refine he b hbm H3 (((e01.trans p1).trans hid_le).trans e3) hf H3 (Ex.refl _) _ fun v H4 e4 ⟨tp, h1, h2, h3⟩ => ?_
      subst h1
      have htD : tp ≠ Dl := fun z => by
        rw [z, e3 _ _ p2] at h2
        cases h2
      have e34 := e3.trans e4
      refine ⟨ys, e34 _ _ p2, by rw [sizeLine_eq]; omega, ys ++ [.ref tp], ?_, upd_same, by rw [List.length_append]; simp; omega, ?_⟩
      · rw [hid_up1]
        exact p1.trans (hid_ex e34)
      · rw [hid_up1, htk, List.filter_append, List.filter_cons_of_pos hf]
        refine paired_snoc (fwd p4 (hid_ex e34)) ⟨tp, rfl, ?_⟩
        rw [hid_at htD htD]
        exact h3
    | false =>
      show ∃ ys, _
      refine ⟨ys, p1.trans (hid_ex e3), e3 _ _ p2, by omega, ?_⟩
      rw [htk, List.filter_append, List.filter_cons_of_neg (by rw [hf]; decide), List.filter_nil, List.append_nil]
      exact fwd p4 (hid_ex e3)
  · obtain ⟨ys, p1, p2, p3, p4⟩ := p
    rw [List.length_map, List.take_length] at p4
    exact q _ _ (e1.trans (p1.trans hid_le)) ⟨Dl, ys, rfl, fresh_back e01 hD, p2, p4⟩⟩
theorem eu_tupN (ha : EvL ta σ H xs) : EvU (tCB (rTupOf K) (tCons ta tNil)) σ H xs := fun H1 e Q q =>
  ha H1 e _ fun p H2 hp e2 hx => ⟨p, xs, rfl, .inl ⟨sq_of hx, fun l hl => q l _ (fresh_back e2 hl) (e2.trans (Ex.new hl)) upd_same⟩⟩
theorem ev_sumR {p : Addr} {ns : List Int} (ha : Ev ta σ H (.ref p)) (h : SqL K H p (ns.map V.int)) : Ev (tCB (rSum K) (tCons ta tNil)) σ H (.int ns.sum) := fun H1 e Q q =>
  ha H1 e _ fun H2 e2 => ⟨p, ns, rfl, ex_l (e.trans e2) h, q H2 e2⟩
theorem ev_sumN {ns : List Int} (ha : EvL ta σ H (ns.map V.int)) : Ev (tCB (rSum K) (tCons ta tNil)) σ H (.int ns.sum) := fun H1 e Q q =>
  ha H1 e _ fun p H2 hp e2 hx => ⟨p, ns, rfl, sq_of hx, q H2 e2⟩
theorem q_par3 {i j k : Nat} {tc : TE} {x y z : V} (ha : Ev ta σ H x) (hb : Ev tb σ H y) (hc : Ev tc σ H z) (go : ∀ H1, Ex H H1 → tz D (((σ.set i (some x)).set j (some y)).set k (some z)) H1) :
    tSeq (tPar3 i j k (tCons ta (tCons tb (tCons tc tNil)))) tz D σ H :=
  ha H (Ex.refl H) _ fun H1 e1 => hb H1 e1 _ fun H2 e2 => hc H2 (e1.trans e2) _ fun H3 e3 => ⟨x, y, z, rfl, go _ (e1.trans (e2.trans e3))⟩
end
end K9
end
section
set_option Elab.async false
set_option linter.all false
set_option maxRecDepth 100000
set_option maxHeartbeats 4000000
namespace K9
open PySem PySem.Spec PyProof.Rows L2 Evl
section
variable {K : PySem.W.Frag} {σ : L2.St} {H : Hp} {ta tb te tl : TE} {t : TT} {xs : List V}
theorem el_ints {l : Str} {is : List Int} {j : Nat} {vs : List Nat} (h : Ev te σ H (.str l)) (hs : (wordsOf l).drop 1 = is.map numS) (hb : ∀ i ∈ is, 0 ≤ i ∧ i < 10 ^ 12) (hz : l.length ≤ 90000) (hw : ∀ x, wipe ((wipe σ vs).set j (some x)) vs = wipe σ vs) (hj : ∀ x, ((wipe σ vs).set j (some x))[j]? = some (some x)) :
    EvL (tLc (iList K (tSl (rSlL K) (tM1 (fun x xs H Q => ∃ a b, x = .str a ∧ xs = [.str b] ∧ (b.length == 0) = false ∧ a.length + 2 ≤ sizeLine ∧ rNewStrs (Txt.split a b) H Q) te (tC (.str " "))) (tPart (tC (.int 1))) tNoPart)) (gName j) tYes (tCB (fun xs H Q => ∃ a n, xs = [.str a] ∧ PySem.intText? a = some n ∧ a.length ≤ 640 ∧ Q (.int n) H) (tCons (tVar j) tNil)) vs) σ H (is.map V.int) := by
  have hl : is.length ≤ 1000000 := by
    have h1 := words_len l
    have h2 := congrArg List.length hs
    rw [List.length_drop, List.length_map] at h2
    omega
  refine el_is (el_lcF (L := is) (0 : Int) (fun i => V.str (numS i)) (fun _ => true) V.int (el_is (el_slN (el_split h ev_c sep1_ok (by omega)) (eo_some ev_c) eo_none) ?_) hl hw (fun _ _ _ _ => et_yes) (fun i hi H1 e1 _ => ?_)) (by rw [List.filter_eq_self.mpr fun _ _ => rfl])
  · rw [drop1_cut, ← List.map_drop]
    have hw2 : (Txt.split l (Str.ofString " ")).drop 1 = is.map numS := hs
    rw [hw2, List.map_map]
    rfl
  · have hi2 := int_num (hb i hi)
    exact ev_intS (ev_var (hj _)) hi2.1 hi2.2
theorem el_sums {a : Addr} {j : Nat} {vs : List Nat} {rs : List (List Int)} (h : Ev tl σ H (.ref a)) (hx : SqL K H a xs) (hr : RowsAt H xs rs) (hz : rs.length ≤ 1000000) (hw : ∀ x, wipe ((wipe σ vs).set j (some x)) vs = wipe σ vs) (hj : ∀ x, ((wipe σ vs).set j (some x))[j]? = some (some x)) :
    EvL (tLc (iList K tl) (gName j) tYes (tCB (rSum K) (tCons (tVar j) tNil)) vs) σ H ((rs.map List.sum).map V.int) := by
  have hl : xs.length = rs.length := Paired.length hr
  refine el_is (el_lcLi (fun _ => true) (fun i => .int (rs.getD i []).sum) h hx (by rw [hl]; exact len_ok hz) hw (fun _ _ _ _ => et_yes) (fun i H1 e1 hi _ => ?_)) ?_
  · obtain ⟨r, h1, t, h2, h3⟩ := paired_get hr (getD_at (d := V.non) hi)
    have e : rs.getD i [] = r := by
      rw [List.getD_eq_getElem?_getD, h1]
      rfl
    rw [e, h2]
    exact ev_sumR (ev_var (hj _)) (sq_of (e1 _ _ h3))
  · rw [given_all, hl]
    rw [given_list rs [] fun r => V.int r.sum, List.map_map]
    rfl
end
theorem ep_dgetC {σ : L2.St} {H : Hp} {E : XK} {ta : TA} {vs : List V} {k : Str} {R : V → Hp → Prop} {pre : List V → Hp → (V → Hp → Prop) → Prop} (hA : EvA ta σ H vs)
    (hs : ∀ H1, Ex H H1 → ∃ R1, pre vs H1 R1 ∧ ∀ v H2, Ex H1 H2 → R1 v H2 → ∃ a kvs w, v = .ref a ∧ H2 a = some (.dK kvs) ∧ valV kvs (kS k) = some w ∧ R w H2) : EvP (tDGet (tCall (spR pre) [] E ta) (tC (.str k))) σ H R := fun H1 e Q q => hA H1 e _ fun H2 e2 => by
  obtain ⟨R1, h1, h2⟩ := hs H2 (e.trans e2)
  rw [List.append_nil]
  refine ⟨R1, h1, fun v H3 e3 r => ?_⟩
  obtain ⟨a, kvs, w, rfl, ha, hw, hR⟩ := h2 v H3 e3 r
  exact ⟨a, w, rfl, by rw [← hw]; exact DGet.k (k := kS k) ha, q _ _ (e2.trans e3) hR⟩
theorem sum_flat : ∀ ys : List (List Int), (ys.map List.sum).sum = (ys.flatMap fun r => r.map id).sum
  | [] => rfl
  | r :: ys => by
    rw [List.map_cons, List.sum_cons, sum_flat ys, List.flatMap_cons, List.sum_append, List.map_id]
def sp51 (K : PySem.W.Frag) : Sp := spR fun vs H R => ∃ x, vs = [x] ∧
  ((∃ z, x = .str z ∧ z.length ≤ 90000 ∧ Sane z ∧ (linesOf z).length ≤ 60 ∧ R = fun v _ => v = dueV z) ∨
   (∃ t, TyX K H x (.type t) ∧ kitB t "str" = some false ∧ R = fun v _ => v = .int 0))
abbrev s51 : Stmt := top 51
theorem sc51 : FnScope ["_law_value", "_law_lines", "_law_at", "_law_rows", "_law_free", "_law_head", "_law_idle", "_law_size", "_law_begin", "_law_total", "_law_works", "_law_line", "_law_word", "_law_row"] ["_law_value"] (defScope s51) := ⟨rfl, rfl, rfl, by decide +kernel, rfl, by decide +kernel, by decide +kernel⟩
theorem rows_of {α : Type} {F : Str → α → Prop} {o : Str → HO} {G : Hp → V → α → Prop} {H : Hp} (h : ∀ v l a, F l a → IsO o H v l → G H v a) : ∀ {ys : List V} {L : List Str} {as : List α}, Paired (IsO o H) ys L → Paired F L as → Paired (G H) ys as
  | _, _, _, .nil, .nil => .nil
  | _, _, _, .cons r t, .cons r2 t2 => .cons (h _ _ _ r2 r) (rows_of h t t2)
section
variable {P : Program} {w : World} {K : PySem.W.Frag} {mg : Str → Option Value} {base : Heap} {f : Addr} {fd : FuncData}
theorem ok51 (F : FnP K "_law_due" s51 f fd) (T : Txt mg) (C_law_line_fits : CalN P w K mg base 2 "_law_line_fits" sp49) (C_law_gcd : CalN P w K mg base 1 "_law_gcd" sp23) (C_law_with_days : CalN P w K mg base 3 "_law_with_days" (sp42 K)) : FnOk P w K mg base L2.CX0 4 f fd ["_law_value"] (sp51 K) := by
  refine F.ok sc51 (fun vs H Q E h => ?_) (fun cdv A outer s H vs Q E hr h => ?_)
  · obtain ⟨R, ⟨x, rfl, _⟩, _⟩ := h
    rfl
  · obtain ⟨R, ⟨x, rfl, h⟩, k⟩ := h
    have nd := sc51.nd
    refine ⟨_, PSs.nox (pss_cons (ps_if (pt_not (pt_val (pe_callB call_isi (by rfl) T.isinstance (by decide +kernel) (pa_cons (pv 0) (pa_cons (pe_bltn (v := .ty "str") (by rfl) T.str (by decide +kernel) rfl) pa_nil))))) (pss_one (ps_ret pe_int)) pss_nil)
    (pss_cons (ps_set (i := 1) nd rfl (Or.inl rfl) (pe_split (pv 0) pe_str))
    (pss_cons (ps_for PassesOwn.never rfl (pi_range1 (by rfl) T.range (pa_cons (pe_callB call_len_seq (by rfl) T.len (by decide +kernel) (pa_cons (pv 1) pa_nil)) pa_nil)) (pg_name (i := 2) nd rfl (Or.inl rfl)) (pss_one (ps_if (pt_not (pt_val (C8.pe_c (C_law_line_fits) hr (by decide) (by rfl) (pa_cons (pv 1) (pa_cons (pv 2) pa_nil))))) (pss_one (ps_ret (pv 2))) pss_nil)))
    (pss_cons (ps_setLc (i := 3) (own := [("_law_line", 11)]) (g := gName 11) rfl nd rfl rfl (sw_true rfl rfl rfl (by decide +kernel)) (pi_list (pe_slice sl_list (pv 1) (po_some pe_int) po_none)) (blkOk_by (own := [("_law_line", 11)]) (N := ["_law_value", "_law_lines", "_law_at", "_law_rows", "_law_free", "_law_head", "_law_idle", "_law_size", "_law_begin", "_law_total", "_law_works", "_law_line", "_law_word", "_law_row"]) (sc := (defScope s51)) (by decide +kernel)) (fun _ _ _ _ _ => (pg_name (i := 11) nd rfl (Or.inl rfl))) (fun _ _ _ _ _ => (pts_one (pt_cmpR op_eq (pe_slice sl_str (pv 11) po_none (po_some pe_int)) pe_str (nomark _)))) (fun _ _ _ _ _ => (pe_lc (own := [("_law_word", 12)]) (g := gName 12) rfl nd (pi_list (pe_slice (r := rSlL K) sl_list (pe_split (pv 11) pe_str) (po_some pe_int) po_none) : PI _ _ _ (iList K _)) (blkOk_by (own := [("_law_word", 12)]) (N := ["_law_value", "_law_lines", "_law_at", "_law_rows", "_law_free", "_law_head", "_law_idle", "_law_size", "_law_begin", "_law_total", "_law_works", "_law_line", "_law_word", "_law_row"]) (sc := (relS _ (defScope s51))) (by decide +kernel)) (fun _ _ _ _ _ => (pg_name (i := 12) nd rfl (Or.inl rfl))) (fun _ _ _ _ _ => pts_nil) (fun _ _ _ _ _ => (pe_callTy call_int_str (by rfl) T.int (by decide +kernel) (pa_cons (pv 12) pa_nil))))))
    (pss_cons (ps_if (PW.pt (pw_or (pt_cmpR op_lt (pe_callB call_len_seq (by rfl) T.len (by decide +kernel) (pa_cons (pv 1) pa_nil)) pe_int (nomark _)) (pw_or1 (pt_cmpR (op_eqD hr.units) (pv 3) (pe_lst pa_nil) (nomark _))))) (pss_one (ps_ret (pe_callB call_len_seq (by rfl) T.len (by decide +kernel) (pa_cons (pv 1) pa_nil)))) pss_nil)
    (pss_cons (ps_setLc (i := 4) (own := [("_law_line", 11)]) (g := gName 11) rfl nd rfl rfl (sw_true rfl rfl rfl (by decide +kernel)) (pi_list (pe_slice sl_list (pv 1) (po_some pe_int) po_none)) (blkOk_by (own := [("_law_line", 11)]) (N := ["_law_value", "_law_lines", "_law_at", "_law_rows", "_law_free", "_law_head", "_law_idle", "_law_size", "_law_begin", "_law_total", "_law_works", "_law_line", "_law_word", "_law_row"]) (sc := (defScope s51)) (by decide +kernel)) (fun _ _ _ _ _ => (pg_name (i := 11) nd rfl (Or.inl rfl))) (fun _ _ _ _ _ => (pts_one (pt_cmpR op_eq (pe_slice sl_str (pv 11) po_none (po_some pe_int)) pe_str (nomark _)))) (fun _ _ _ _ _ => (pe_callTy (r := rTupOf K) call_tuple_of (by rfl) T.tuple (by decide +kernel) (pa_cons (pe_lc (own := [("_law_word", 12)]) (g := gName 12) rfl nd (pi_list (pe_slice (r := rSlL K) sl_list (pe_split (pv 11) pe_str) (po_some pe_int) po_none) : PI _ _ _ (iList K _)) (blkOk_by (own := [("_law_word", 12)]) (N := ["_law_value", "_law_lines", "_law_at", "_law_rows", "_law_free", "_law_head", "_law_idle", "_law_size", "_law_begin", "_law_total", "_law_works", "_law_line", "_law_word", "_law_row"]) (sc := (relS _ (defScope s51))) (by decide +kernel)) (fun _ _ _ _ _ => (pg_name (i := 12) nd rfl (Or.inl rfl))) (fun _ _ _ _ _ => pts_nil) (fun _ _ _ _ _ => (pe_callTy call_int_str (by rfl) T.int (by decide +kernel) (pa_cons (pv 12) pa_nil)))) pa_nil))))
    (pss_cons (ps_par (i := 5) (j := 6) rfl nd rfl rfl (by decide) rfl rfl (pa_cons (pe_split (pe_ix ix_list (pv 1) pe_int (fun _ _ => rfl)) pe_str) (pa_cons (pe_lc (own := [("_law_word", 12)]) (g := gName 12) rfl nd (pi_list (pe_slice sl_list (pe_split (pe_ix ix_list (pv 1) pe_int (fun _ _ => rfl)) pe_str) (po_some pe_int) po_none)) (blkOk_by (own := [("_law_word", 12)]) (N := ["_law_value", "_law_lines", "_law_at", "_law_rows", "_law_free", "_law_head", "_law_idle", "_law_size", "_law_begin", "_law_total", "_law_works", "_law_line", "_law_word", "_law_row"]) (sc := (defScope s51)) (by decide +kernel)) (fun _ _ _ _ _ => (pg_name (i := 12) nd rfl (Or.inl rfl))) (fun _ _ _ _ _ => pts_nil) (fun _ _ _ _ _ => (pe_callTy call_int_str (by rfl) T.int (by decide +kernel) (pa_cons (pv 12) pa_nil)))) pa_nil)) (by rfl))
    (pss_cons (ps_par3 (i := 7) (j := 8) (l := 9) rfl nd rfl rfl rfl (by decide) (by decide) (by decide) rfl rfl rfl (pa_cons (pe_callTy call_int_str (by rfl) T.int (by decide +kernel) (pa_cons (pe_ix ix_list (pv 5) pe_int (fun _ _ => rfl)) pa_nil)) (pa_cons (pe_callTy call_int_str (by rfl) T.int (by decide +kernel) (pa_cons (pe_ix ix_list (pv 5) pe_int (fun _ _ => rfl)) pa_nil)) (pa_cons (pe_callB (cr_sum rfl) (by rfl) T.sum (by decide +kernel) (pa_cons (pe_lc (own := [("_law_row", 13)]) (g := gName 13) rfl nd (pi_list (pv 3)) (blkOk_by (own := [("_law_row", 13)]) (N := ["_law_value", "_law_lines", "_law_at", "_law_rows", "_law_free", "_law_head", "_law_idle", "_law_size", "_law_begin", "_law_total", "_law_works", "_law_line", "_law_word", "_law_row"]) (sc := (defScope s51)) (by decide +kernel)) (fun _ _ _ _ _ => (pg_name (i := 13) nd rfl (Or.inl rfl))) (fun _ _ _ _ _ => pts_nil) (fun _ _ _ _ _ => (pe_callB (r := rSum K) (cr_sum rfl) (by rfl) T.sum (by decide +kernel) (pa_cons (pv 13) pa_nil)))) pa_nil)) pa_nil))) (by rfl))
    (pss_cons (ps_if (pt_cmpR op_gt (pe_op op_mul (pe_op op_fdiv (pv 9) (C8.pe_c (C_law_gcd) hr (by decide) (by rfl) (pa_cons (pv 9) (pa_cons (pv 7) pa_nil)))) (pv 7)) pe_int (nomark _)) (pss_one (ps_ret (pe_callB call_len_seq (by rfl) T.len (by decide +kernel) (pa_cons (pv 1) pa_nil)))) pss_nil)
    (pss_cons (ps_set (i := 10) nd rfl (Or.inl rfl) (pe_dget (hu_of hr) (C8.pe_c (C_law_with_days) hr (by decide) (by rfl) (pa_cons (pv 3) (pa_cons (pv 7) (pa_cons (pv 8) (pa_cons (pv 6) (pa_cons (pv 4) pa_nil)))))) pe_str (fun _ _ => rfl)))
    (pss_one (ps_ret (pe_ifExp (pt_cmpR (op_neD hr.units) (pv 10) (pe_lst pa_nil) (nomark _)) pe_non (pe_callB call_len_seq (by rfl) T.len (by decide +kernel) (pa_cons (pv 1) pa_nil))))))))))))))), ?_⟩
    rcases h with ⟨z, rfl, hz, hsane, hlines, rfl⟩ | ⟨t, ht, hk, rfl⟩
    · refine q_when (b := false) (et_is (et_not (et_test (ev_isi (b := true) (ev_var rfl) (.base (.str z)) (by decide +kernel)))) rfl) (fun h => by cases h) (fun _ H1 e1 => ?_)
      refine q_asgL (xs := (linesOf z).map V.str) (el_split (ev_var rfl) ev_c nl_ok (by omega)) fun p H2 hp e2 h2 => ?_
      have e02 := e1.trans e2
      have hln : LnOk (linesOf z) := ⟨by omega, fun x hx => ⟨Nat.le_trans (lines_short hx) hz, lines_sane hsane hx⟩⟩
      have lenL : ∀ {σ : L2.St} {H3 : Hp}, Ex H2 H3 → σ[1]? = some (some (.ref p)) → Ev (tCB (fun xs H Q => ∃ p ys, xs = [.ref p] ∧ (SqL K H p ys ∨ SqT K H p ys) ∧ Q (.int ys.length) H) (tCons (tVar 1) tNil)) σ H3 (.int ((linesOf z).length : Int)) := fun e hσ =>
        ev_is (ev_lenQ (ev_var hσ) (sq_of (e _ _ h2))) (by rw [List.length_map])
      generalize hls : linesOf z = ls at *
      have hne : ls ≠ [] := by rw [← hls]; exact lines_ne z
      let Pv : Nat → L2.St → Hp → Prop := fun i σ H' => ∃ x2 : Option V, σ = [some (.str z), some (.ref p), x2, none, none, none, none, none, none, none, none, none, none, none] ∧ Ex H2 H' ∧ DSt ls i
      refine q_forR1b (n := (ls.length : Int)) (ea_cons (lenL (Ex.refl _) rfl) ea_nil) (by omega) Pv (fun H3 e3 => ⟨none, rfl, e3, .inl rfl⟩) (fun i σ' H' hi q => ?_) (fun σ' H' q => ?_)
      · obtain ⟨x2, rfl, q1, q2⟩ := q
        obtain ⟨b, b1, b2, b3⟩ := q2.step (by omega)
        refine s_when (b := !b) (et_not (et_test (ev_sp (z := .bl b) (ea_cons (ev_var rfl) (ea_cons (ev_var rfl) ea_nil)) fun H3 e3 => ⟨_, ⟨p, ls, i, b, rfl, (q1.trans e3) _ _ h2, hln, b1, rfl⟩, fun v H4 _ r => r⟩))) (fun hb H3 e3 => ?_) (fun hb H3 e3 => ?_)
        · refine s_ret (ev_var rfl) fun H4 e4 => k _ _ (e02.trans (q1.trans (e3.trans e4))) ?_
          exact (due_err (by rw [hls]; exact b3 (by simpa using hb))).symm
        · exact ⟨some (.int (i : Int)), rfl, q1.trans e3, b2 (by simpa using hb)⟩
      · obtain ⟨x2, rfl, q1, q2⟩ := q
        rw [Int.toNat_natCast] at q2
        have e0 : Ex H H' := e02.trans q1
        have fin := q2.fin hne
        -- the lines behind the second
        have tlL : ∀ {σ : L2.St} {H3 : Hp}, Ex H2 H3 → σ[1]? = some (some (.ref p)) → EvL (tSl (rSlL K) (tVar 1) (tPart (tC (.int 2))) tNoPart) σ H3 ((ls.drop 2).map V.str) := fun e hσ =>
          el_is (el_sl (ev_var hσ) (eo_some ev_c) eo_none (sq_of (e _ _ h2))) (by rw [List.map_drop]; exact cut_dropK _ 2)
        have hdm : ∀ x ∈ ls.drop 2, x.length ≤ 90000 ∧ Sane x := fun x hx => hln.2 x (List.mem_of_mem_drop hx)
        have hdl : (ls.drop 2).length ≤ 1000000 := by rw [List.length_drop]; omega
        obtain ⟨r2, hr2, ys, hs, st, lok, hfin⟩ : ∃ r2, ls.drop 2 = r2 ∧ ∃ ys hs, St r2 hs ys ∧ LOk ys hs ∧ ((∃ l0 k j, ls = [l0] ∧ ys = [] ∧ weekP l0 = some (k, j) ∧ readH ls = .error 1) ∨ (∃ l0 l1 k j rs, ls = l0 :: l1 :: r2 ∧ weekP l0 = some (k, j) ∧ restP l1 k = some rs ∧
            readH ls = if ys = [] then .error (r2.length + 2) else .ok ⟨ys, k, j, rs, hs, r2.length + 2⟩)) := by
          rcases fin with ⟨l0, k, j, h1, h2, h3⟩ | ⟨l0, l1, r2, k, j, rs, ys, hs, h1, h2, h3, h4, h5, h6⟩
          · exact ⟨[], by rw [h1]; rfl, [], [], ⟨[], [], rfl, .nil, .nil⟩, ⟨.nil, (fun p hp => by cases hp), (fun y hy => by cases hy), by simp⟩, .inl ⟨l0, k, j, h1, rfl, h2, h3⟩⟩
          · exact ⟨r2, by rw [h1]; rfl, ys, hs, h4, h5, .inr ⟨l0, l1, k, j, rs, h1, h2, h3, h6⟩⟩
        rw [hr2] at hdm hdl
        -- rows
        have hyr := st.years
        have hhl := st.hols
        let oY : Str → HO := fun l => .lst ((((wordsOf l).drop 1).map fun x => (PySem.intText? x).getD 0).map V.int)
        let oH : Str → HO := fun l => .tup ((((wordsOf l).drop 1).map fun x => (PySem.intText? x).getD 0).map V.int)
        have back : ∀ {is : List Int}, (∀ i ∈ is, 0 ≤ i ∧ i < 10 ^ 12) → (is.map numS).map (fun x => (PySem.intText? x).getD 0) = is := fun {is} h => by
          rw [List.map_map]
          have : ∀ i ∈ is, ((fun x => (PySem.intText? x).getD 0) ∘ numS) i = id i := fun i hi => by
            show (PySem.intText? (numS i)).getD 0 = i
            rw [(int_num (h i hi)).1]
            rfl
          rw [List.map_congr_left this, List.map_id]
        have yOf : ∀ x ∈ r2, isY x = true → ∃ y, YearW x y := fun x hx hh => by
          obtain ⟨i, hi⟩ := List.getElem?_of_mem (List.mem_filter.mpr ⟨hx, hh⟩ : x ∈ r2.filter isY)
          obtain ⟨q, _, hq⟩ := paired_get hyr hi
          exact ⟨q, hq⟩
        have hOf : ∀ x ∈ r2, isH x = true → ∃ q, HolW x q := fun x hx hh => by
          obtain ⟨i, hi⟩ := List.getElem?_of_mem (List.mem_filter.mpr ⟨hx, hh⟩ : x ∈ r2.filter isH)
          obtain ⟨q, _, hq⟩ := paired_get hhl hi
          exact ⟨q, hq⟩
        refine q_asgP (ep_lcO Str.empty V.str isY oY (el_is (tlL q1 rfl) (by rw [hr2])) hdl (fun _ => by rfl) (fun x hx H3 e3 => et_test (ev_op (ev_slS (ev_var rfl) eo_none (eo_some ev_c) (len_ok (by have := (hdm x hx).1; omega))) ev_c rv_str)) (fun x hx H3 e3 hf => ?_)) fun v H3 e3 ⟨py, xs, hv, hpy, h3, hx3⟩ => ?_
        · obtain ⟨y, hy, hyb⟩ := yOf x hx hf
          have hy1 : (wordsOf x).drop 1 = y.map numS := by rw [hy]; rfl
          have e := ep_l (el_ints (K := K) (j := 12) (vs := [12]) (te := tVar 11) (σ := (wipe [some (.str z), some (.ref p), x2, none, none, none, none, none, none, none, none, none, none, none] [11]).set 11 (some (.str x))) (H := H3) (l := x) (is := y) (ev_var rfl) hy1 hyb (hdm x hx).1 (fun _ => by rfl) (fun _ => by rfl))
          refine EvP.imp e fun v H4 e4 ⟨pp, h1, h2', h3⟩ => ⟨pp, h1, h2', ?_⟩
          rw [h3]
          show _ = some (HO.lst _)
          rw [hy1, back hyb]
        subst hv
        have hrows : RowsAt H3 xs ys := Paired.mapP (rows_of (F := YearW) (G := fun H v a => IsRow H v a) (fun v l a h ⟨t, h1, h2⟩ => ⟨t, h1, by
            rw [h2]
            show some (HO.lst _) = _
            have hl1 : (wordsOf l).drop 1 = a.map numS := by rw [h.1]; rfl
            rw [hl1, back h.2]⟩) hx3 hyr) fun _ _ r => r.fwd hid_le
        clear hx3
        have e03 := e0.trans e3
        have g13 := q1.trans e3
        -- no rows
        have hysl : ys.length ≤ 60 := by
          have := Paired.length hyr
          have h9 := List.length_filter_le isY r2
          have h10 : r2.length ≤ 58 := by
            rw [← hr2, List.length_drop]
            omega
          omega
        refine q_when (b := decide ((ls.length : Int) < 2) || (ys.map dL).isEmpty) (et_or (et_test (ev_op (lenL g13 rfl) ev_c rv_I0)) fun _ => et_test (ev_eqNil (ev_var rfl) (fun H4 e4 => dp_rows (sq_of (e4 _ _ h3)) (hrows.fwd e4)) (pl_rows ys) (by decide))) (fun hb H4 e4 => ?_) (fun hb H4 e4 => ?_)
        · refine s_ret (lenL (g13.trans e4) rfl) fun H5 e5 => k _ _ (e03.trans (e4.trans e5)) ?_
          rcases hfin with ⟨l0, kk, jj, hl1, _, _, hr⟩ | ⟨l0, l1, kk, jj, rs, hl1, _, _, hr⟩
          · rw [due_err (hls.symm ▸ hr), hl1]
            rfl
          · have hy0 : ys = [] := by
              rw [hl1] at hb
              simp at hb
              rcases hb with hb | hb
              · omega
              · exact hb
            rw [if_pos hy0] at hr
            rw [due_err (hls.symm ▸ hr), hl1]
            rfl
        · have hy0 : ys ≠ [] := fun h => by
            rw [h] at hb
            simp at hb
          rcases hfin with ⟨l0, kk, jj, hl1, h0, _⟩ | ⟨l0, l1, kk, jj, rs, hl1, hwk, hrs, hr⟩
          · exact absurd h0 hy0
          rw [if_neg hy0] at hr
          have hlen : ls.length = r2.length + 2 := by rw [hl1]; rfl
          obtain ⟨_, _, _, _, hholn, hcd⟩ := readT_ok (z := z) (d := ⟨ys, kk, jj, rs, hs, r2.length + 2⟩) (by unfold readT; rw [hls]; exact hr)
          have hcok := hcd (by rw [hls] at hholn; have : hs.length ≤ ls.length := hholn; show hs.length < 64; omega)
          generalize hd : (⟨ys, kk, jj, rs, hs, r2.length + 2⟩ : RD) = rd at *
          have d1 : rd.cd.ys = ys := by rw [← hd]; rfl
          have d2 : rd.cd.w = kk := by rw [← hd]; rfl
          have d3 : rd.cd.f = jj := by rw [← hd]; rfl
          have d4 : rd.cd.rs = rs := by rw [← hd]; rfl
          have d5 : rd.cd.hs = hs := by rw [← hd]; rfl
          have d6 : rd.count = ls.length := by rw [← hd, hlen]
          have e04 := e03.trans e4
          have g14 := g13.trans e4
          -- holidays
          refine q_asgP (ep_lcO Str.empty V.str isH oH (el_is (tlL g14 rfl) (by rw [hr2])) hdl (fun _ => by rfl) (fun x hx H5 e5 => et_test (ev_op (ev_slS (ev_var rfl) eo_none (eo_some ev_c) (len_ok (by have := (hdm x hx).1; omega))) ev_c rv_str)) (fun x hx H5 e5 hf => ?_)) fun v H5 e5 ⟨ph, us, hv, hph, h5, hx5⟩ => ?_
          · obtain ⟨q, hq, hq1, hq2⟩ := hOf x hx hf
            have hy1 : (wordsOf x).drop 1 = [q.1, q.2].map numS := by rw [hq]; rfl
            have hyb : ∀ i ∈ [q.1, q.2], 0 ≤ i ∧ i < 10 ^ 12 := fun i hi => by
              rcases List.mem_cons.mp hi with rfl | hi
              · exact hq1
              · rw [List.mem_singleton.mp hi]; exact hq2
            have e := ep_u (eu_tupN (K := K) (el_ints (K := K) (j := 12) (vs := [12]) (te := tVar 11) (σ := (wipe [some (.str z), some (.ref p), x2, some (.ref py), none, none, none, none, none, none, none, none, none, none] [11]).set 11 (some (.str x))) (H := H5) (l := x) (is := [q.1, q.2]) (ev_var rfl) hy1 hyb (hdm x hx).1 (fun _ => by rfl) (fun _ => by rfl)))
            refine EvP.imp e fun v H6 e6 ⟨pp, h1, h2', h3⟩ => ⟨pp, h1, h2', ?_⟩
            rw [h3]
            show _ = some (HO.tup _)
            rw [hy1, back hyb]
          subst hv
          have hprs : PrsAt H5 us hs := Paired.mapP (rows_of (F := HolW) (G := fun H v a => IsPr H v a) (fun v l a h ⟨t, h1, h2⟩ => ⟨t, h1, by
              rw [h2]
              show some (HO.tup _) = _
              have hl1 : (wordsOf l).drop 1 = [a.1, a.2].map numS := by rw [h.1]; rfl
              have hyb : ∀ i ∈ [a.1, a.2], 0 ≤ i ∧ i < 10 ^ 12 := fun i hi => by
                rcases List.mem_cons.mp hi with rfl | hi
                · exact h.2.1
                · rw [List.mem_singleton.mp hi]; exact h.2.2
              rw [hl1, back hyb]
              rfl⟩) hx5 hhl) fun _ _ r => r.fwd hid_le
          clear hx5
          have g15 := g14.trans e5
          -- head, rest
          have hl0m := hln.2 l0 (by rw [hl1]; exact List.mem_cons_self)
          have hl1m := hln.2 l1 (by rw [hl1]; exact List.mem_cons_of_mem _ List.mem_cons_self)
          have hr1 := restW_of hrs
          refine q_parLL (xs := (wordsOf l0).map V.str) (ys := rs.map V.int) (el_split (ev_op (ev_var rfl) ev_c (rv_ixL (sq_of (g15 _ _ h2)) (strs_at (i := 0) (by rw [hl1]; rfl)))) ev_c sep1_ok (by have := hl0m.1; omega)) (el_ints (l := l1) (ev_op (ev_var rfl) ev_c (rv_ixL (sq_of (g15 _ _ h2)) (strs_at (i := 1) (by rw [hl1]; rfl)))) (by rw [hr1.1]; rfl) hr1.2 hl1m.1 (fun _ => by rfl) (fun _ => by rfl)) fun p0 pr H6 hp0 hpr hne6 e6 h6 hr6 => ?_
          rw [weekW_of hwk] at h6
          obtain ⟨w1, w2, _⟩ := weekP_some hwk
          have g16 := g15.trans e6
          have ik := int_num (i := kk) ⟨by omega, by omega⟩
          have ij := int_num (i := jj) ⟨by omega, by omega⟩
          have htot : rd.cd.total = (ys.map List.sum).sum := by
            rw [sum_flat, ← d1]
            rfl
          refine q_par3 (ev_intS (ev_op (ev_var rfl) ev_c (rv_ixL (sq_of h6) (strs_at (l := [Str.ofString "week", numS kk, Str.ofString "first", numS jj]) (i := 1) rfl))) ik.1 ik.2) (ev_intS (ev_op (ev_var rfl) ev_c (rv_ixL (sq_of h6) (strs_at (l := [Str.ofString "week", numS kk, Str.ofString "first", numS jj]) (i := 3) rfl))) ij.1 ij.2)
            (ev_is (ev_sumN (el_sums (ev_var rfl) (sq_of ((e4.trans (e5.trans e6)) _ _ h3)) (hrows.fwd (e4.trans (e5.trans e6))) (by omega) (fun _ => by rfl) (fun _ => by rfl))) (congrArg V.int htot.symm)) fun H7 e7 => ?_
          have ht := hcok.total
          have hw := hcok.w
          have hg1 : 0 < Int.gcd rd.cd.total kk := Int.gcd_pos_of_ne_zero_right _ (by omega)
          have hg2 : (Int.gcd rd.cd.total kk : Int) ≤ kk := Int.le_of_dvd (by omega) (Int.gcd_dvd_right ..)
          refine q_when (b := decide (rd.cd.turn > 200000)) (et_is (et_test (ev_op (ev_op (ev_op (ev_var rfl) (ev_sp (z := .int (Int.gcd rd.cd.total kk : Nat)) (ea_cons (ev_var rfl) (ea_cons (ev_var rfl) ea_nil)) fun H8 _ => ⟨_, ⟨rd.cd.total, kk, rfl, rfl⟩, fun v H9 _ r => r⟩) (rv_I ⟨by omega, by omega⟩)) (ev_var rfl) (rv_I (Or.inr (by omega)))) ev_c rv_I0)) (by unfold CD.turn; rw [d2])) (fun hb2 H8 e8 => ?_) (fun hb2 H8 e8 => ?_)
          · refine s_ret (lenL (g16.trans (e7.trans e8)) rfl) fun H9 e9 => k _ _ (e04.trans (e5.trans (e6.trans (e7.trans (e8.trans e9))))) ?_
            rw [due_bad (hls.symm ▸ hr) (fun hf => by
              have := of_decide_eq_true hb2
              have := hf.1
              omega), d6]
          · have hturn : rd.cd.turn ≤ 200000 := by
              have := of_decide_eq_false hb2
              omega
            have e38 := e4.trans (e5.trans (e6.trans (e7.trans e8)))
            have e58 := e6.trans (e7.trans e8)
            refine q_asgP (R := fun v H2 => ∃ (pw : Addr) (ws : List Int), v = .ref pw ∧ H2 pw = some (.lst (ws.map V.int)) ∧ (ws = [] ↔ ∀ i : Nat, (i : Int) < rd.cd.turn → rd.cd.work i = false)) (ep_dgetC (vs := [.ref py, .int kk, .int jj, .ref pr, .ref ph]) (ea_cons (ev_var rfl) (ea_cons (ev_var rfl) (ea_cons (ev_var rfl) (ea_cons (ev_var rfl) (ea_cons (ev_var rfl) ea_nil))))) fun HA e9A => ?_) fun v H9 e9 ⟨pw, ws, hv, hws, hiff⟩ => ?_
            · refine ⟨_, ⟨py, pr, ph, rd.cd, xs, us, by rw [d2, d3], hcok, hturn, (e38.trans e9A) _ _ h3, by rw [d1]; exact hrows.fwd (e38.trans e9A), by rw [d4]; exact (e7.trans (e8.trans e9A)) _ _ hr6, (e58.trans e9A) _ _ h5, by rw [d5]; exact hprs.fwd (e58.trans e9A), rfl⟩, fun v HB eB r => ?_⟩
              obtain ⟨a, pw, kvs, _, _, _, _, _, _, _, ws, rfl, _, ha, _, _, hkv, hpw, hiff⟩ := r
              exact ⟨a, kvs, .ref pw, rfl, ha, hkv, pw, ws, rfl, hpw, hiff⟩
            · subst hv
              refine s_ret (v := dueV z) ?_ fun HA eA => k _ _ (e04.trans (e5.trans (e58.trans (e9.trans eA)))) rfl
              refine ev_if (et_test (ev_neNil (d := ws.map PyData.int) (n := 1) (ev_var rfl) (fun HA eA => .lst (sq_of (eA _ _ hws)) (dpall_ints ws)) (pl_dL ws) (by decide))) (fun hb3 => ?_) (fun hb3 => ?_)
              · refine ev_is ev_c (due_fine (hls.symm ▸ hr) ⟨hturn, ?_⟩).symm
                refine Classical.byContradiction fun h => ?_
                have : ws = [] := hiff.mpr fun i hi => by
                  cases h3 : rd.cd.work i with
                  | false => rfl
                  | true => exact absurd ⟨i, hi, h3⟩ h
                rw [this] at hb3
                cases hb3
              · refine ev_is (lenL (g16.trans (e7.trans (e8.trans e9))) rfl) ?_
                have hw0 : ws = [] := by
                  cases ws with
                  | nil => rfl
                  | cons a b => cases hb3
                rw [due_bad (hls.symm ▸ hr) (fun ⟨_, i, h1, h2⟩ => by
                  rw [hiff.mp hw0 i h1] at h2
                  cases h2), d6]
    · exact q_when (b := true) (et_is (et_not (et_test (ev_isi (ev_var rfl) ht hk))) rfl) (fun _ H1 e1 => s_ret ev_c fun H2 e2 => k _ _ (e1.trans e2) rfl) (fun h => by cases h)
end
end K9
end
section
set_option Elab.async false
set_option linter.all false
set_option maxRecDepth 100000
set_option maxHeartbeats 1000000
namespace K9
open PySem PySem.Spec PyProof.Rows L2 Evl
/-! ### expressions that draw -/
/-- over a heap G without the pen: n draws, the value told by the heap ahead, itself, and the heap behind -/
def EvC (a c : Addr) (n : Nat) (te : TE) (σ : L2.St) (G : Hp) (R : Hp → V → Hp → Prop) : Prop := ∀ H m, Ex G H → Pen H a c (m + n) → ∀ Q : VK, (∀ v H2, Exa a H H2 → Pen H2 a c m → R H v H2 → Q v H2) → te σ H Q
def IntP (P : Int → Prop) : Hp → V → Hp → Prop := fun _ v _ => ∃ i, v = .int i ∧ P i
theorem exg {a : Addr} {G H H2 : Hp} (hG : G a = none) (e : Ex G H) (x : Exa a H H2) : Ex G H2 := fun b o h => x b o (fun z => by rw [z, hG] at h; cases h) (e b o h)
theorem exa_mut {a D : Addr} {H H2 : Hp} {o : HO} (x : Exa a H H2) (h : H D = none) : Exa a H (upd H2 D o) := fun b u n e => by
  rw [upd_ne fun z => by rw [z, h] at e; cases e]
  exact x b u n e
theorem pen_at {H : Hp} {a c : Addr} {n : Nat} (h : Pen H a c n) : ∃ kvs, H a = some (.dK kvs) := by
  obtain ⟨kvs, _, _, _, h1, _⟩ := h
  exact ⟨kvs, h1⟩
theorem pen_ne {H : Hp} {a c p : Addr} {n : Nat} (h : Pen H a c n) (hp : H p = none) : p ≠ a := fun z => by
  obtain ⟨kvs, h1⟩ := pen_at h
  rw [z, h1] at hp
  cases hp
theorem Pen.mut {H : Hp} {a c D : Addr} {n : Nat} {o : HO} (h : Pen H a c n) (h1 : a ≠ D) (h2 : c ≠ D) : Pen (upd H D o) a c n := by
  obtain ⟨kvs, cs, t, l, k1, k2, k3, k4⟩ := h
  exact ⟨kvs, cs, t, l, by rw [upd_ne h1]; exact k1, k2, by rw [upd_ne h2]; exact k3, k4⟩
theorem pen_nc {H : Hp} {a c p : Addr} {n : Nat} (h : Pen H a c n) (hp : H p = none) : c ≠ p := fun z => by
  obtain ⟨kvs, cs, t, l, _, _, h3, _⟩ := h
  rw [z, hp] at h3
  cases h3
section
variable {K : PySem.W.Frag} {σ : L2.St} {G H : Hp} {ta tb te : TE} {a c : Addr} {n m : Nat} {v x y z : V} {E : XK} {R R' : Hp → V → Hp → Prop} {P P' : Int → Prop}
theorem EvC.more (h : EvC a c n te σ G R) (k : n ≤ m) : EvC a c m te σ G R := fun H l e p Q q => h H (l + m - n) e (p.less (by omega)) Q fun v H2 x p2 r => q v H2 x (p2.less (by omega)) r
theorem EvC.imp (h : EvC a c n te σ G R) (k : ∀ H v H2, Ex G H → (∃ kvs, H a = some (.dK kvs)) → R H v H2 → R' H v H2) : EvC a c n te σ G R' := fun H l e p Q q => h H l e p Q fun v H2 x p2 r => q v H2 x p2 (k H v H2 e (pen_at p) r)
theorem EvC.mono {G' : Hp} (h : EvC a c n te σ G R) (k : Ex G G') : EvC a c n te σ G' R := fun H l e p Q q => h H l (k.trans e) p Q q
theorem ec_ev (h : Ev te σ G v) : EvC a c 0 te σ G (fun _ x _ => x = v) := fun H m e p Q q => h H e Q fun H2 e2 => q v H2 (Exa.of e2) (p.ex e2) rfl
theorem ec_int {i : Int} (h : Ev te σ G (.int i)) : EvC a c 0 te σ G (IntP fun j => j = i) := fun H m e p Q q => h H e Q fun H2 e2 => q _ H2 (Exa.of e2) (p.ex e2) ⟨i, rfl, rfl⟩
theorem ec_draw {i : Nat} {many : Int} (hσ : σ[i]? = some (some (.ref a))) (hb : Ev tb σ G (.int many)) (h1 : 1 ≤ many) (h2 : many < 1000000000) : EvC a c 1 (tCall sp37 [] E (tCons (tVar i) (tCons tb tNil))) σ G (IntP fun j => 0 ≤ j ∧ j < many) := fun H m e p Q q =>
  ⟨_, hσ, hb H e _ fun H2 e2 => ⟨a, c, many, m, rfl, h1, h2, p.ex e2, fun j H3 x3 p3 h0 hj => q _ H3 ((Exa.of e2).trans x3) p3 ⟨j, rfl, h0, hj⟩⟩⟩
theorem ec_opI0 {g : Int → Int → V} (hG : G a = none) (ha : EvC a c n ta σ G (IntP P)) (hb : EvC a c m tb σ G (IntP P')) : EvC a c (n + m) (tOp (rI0 g) ta tb) σ G (fun _ v _ => ∃ i j, v = g i j ∧ P i ∧ P' j) := fun H l e p Q q =>
  ha H (l + m) e (by rw [Nat.add_assoc, Nat.add_comm m n]; exact p) _ fun v H2 x2 p2 ⟨i, hv, hi⟩ => hb H2 l (exg hG e x2) p2 _ fun w H3 x3 p3 ⟨j, hw, hj⟩ => ⟨i, j, hv, hw, q _ H3 (x2.trans x3) p3 ⟨i, j, rfl, hi, hj⟩⟩
theorem ec_plus {k : Int} (hG : G a = none) (hb : EvC a c n tb σ G (IntP P)) : EvC a c n (tOp (rI0 fun i j => .int (i + j)) (tC (.int k)) tb) σ G (IntP fun i => ∃ j, i = k + j ∧ P j) := fun H l e p Q q =>
  ec_opI0 (P := fun j => j = k) hG (ec_int ev_c) hb H l e (p.less (by omega)) Q fun v H2 x2 p2 ⟨i, j, hv, hi, hj⟩ => q v H2 x2 p2 ⟨k + j, by rw [hv, hi], j, rfl, hj⟩
/-- a new list, a new tuple -/
def NewL (a : Addr) (xs : List V) : Hp → V → Hp → Prop := fun H v H2 => ∃ p, v = .ref p ∧ p ≠ a ∧ H p = none ∧ H2 p = some (.lst xs)
theorem ec_newL {xs : List V} (h : EvL te σ G xs) : EvC a c 0 te σ G (NewL a xs) := fun H m e p Q q => h H e Q fun pp H2 hp e2 h2 => q _ H2 (Exa.of e2) (p.ex e2) ⟨pp, rfl, pen_ne p hp, hp, h2⟩
/-- a pick from a new list -/
theorem ec_pick {i k : Nat} {S : List V → Hp → Prop} (hσ : σ[i]? = some (some (.ref a))) (hb : ∀ H, Ex G H → (∃ kvs, H a = some (.dK kvs)) → EvP tb σ H (fun v H2 => ∃ p vs, v = .ref p ∧ H p = none ∧ H2 p = some (.lst vs) ∧ vs.length = k ∧ S vs H2)) (h1 : 1 ≤ k) (h2 : k ≤ 100000000) :
    EvC a c 1 (tCall (sp38 K) [] E (tCons (tVar i) (tCons tb tNil))) σ G (fun _ v H' => ∃ vs H2, v ∈ vs ∧ S vs H2 ∧ Exa a H2 H') := fun H m e p Q q =>
  ⟨_, hσ, hb H e (pen_at p) H (Ex.refl _) _ fun v H2 e2 ⟨o, vs, hv, ho, h3, h4, h5⟩ => ⟨a, c, o, vs, m, by rw [hv]; rfl, pen_ne p ho, h3, by omega, by omega, p.ex e2, fun u H3 x3 p3 hu => q u H3 ((Exa.of e2).trans x3) p3 ⟨vs, H2, hu, h5, x3⟩⟩⟩
/-! ### statements -/
variable {D : Ends} {tz tu tw : TS} {i : Nat} {t : TT}
theorem c_asg (h : EvC a c n te σ (hid a a H) R) (p : Pen H a c (m + n)) (k : ∀ v H1, Exa a H H1 → Pen H1 a c m → R H v H1 → tz D (σ.set i (some v)) H1) : tSeq (tAsg te (gName i)) tz D σ H := h H m hid_le p _ fun v H1 x p1 r => k v H1 x p1 r
theorem c_ret (h : EvC a c n te σ (hid a a H) R) (p : Pen H a c (m + n)) (k : ∀ v H1, Exa a H H1 → Pen H1 a c m → R H v H1 → D.rt v H1) : tRet te D σ H := h H m hid_le p _ fun v H1 x p1 r => k v H1 x p1 r
theorem hid_none : hid a a H a = none := by
  unfold K9.hid
  exact if_pos (Or.inl rfl)
theorem c_asgT2 {j : Nat} (ha : EvC a c n ta σ (hid a a H) R) (hb : EvC a c m tb σ (hid a a H) R') {l : Nat} (p : Pen H a c (l + (n + m))) (k : ∀ x y H1 H2 H3, Exa a H H1 → R H x H1 → Exa a H1 H2 → R' H1 y H2 → Ex H2 H3 → Pen H3 a c l → tz D ((σ.set i (some x)).set j (some y)) H3) :
    tSeq (tAsg (tTup (tCons ta (tCons tb tNil))) (gTup K 2 (gCons (gName i) (gCons (gName j) gNil)))) tz D σ H :=
  ha H (l + m) hid_le (by rw [Nat.add_assoc, Nat.add_comm m n]; exact p) _ fun x H1 x1 p1 r1 => hb H1 l (exg hid_none hid_le x1) p1 _ fun y H2 x2 p2 r2 =>
    ⟨by show 2 ≤ sizeLine; decide, fun t ht => ⟨t, _, rfl, st_of upd_same, rfl, _, _, rfl, _, _, rfl, rfl, k x y H1 H2 _ x1 r1 x2 r2 (Ex.new ht) (p2.ex (Ex.new ht))⟩⟩
theorem c_par {j : Nat} (ha : EvC a c n ta σ (hid a a H) R) (hb : EvC a c m tb σ (hid a a H) R') {l : Nat} (p : Pen H a c (l + (n + m))) (k : ∀ x y H1 H2, Exa a H H1 → R H x H1 → Exa a H1 H2 → R' H1 y H2 → Pen H2 a c l → tz D ((σ.set i (some x)).set j (some y)) H2) :
    tSeq (tPar i j (tCons ta (tCons tb tNil))) tz D σ H :=
  ha H (l + m) hid_le (by rw [Nat.add_assoc, Nat.add_comm m n]; exact p) _ fun x H1 x1 p1 r1 => hb H1 l (exg hid_none hid_le x1) p1 _ fun y H2 x2 p2 r2 => ⟨x, y, rfl, k x y H1 H2 x1 r1 x2 r2 p2⟩
end
/-! ### values of any kind -/
def Txk (z : Str) : Prop := z.length ≤ 90000 ∧ Sane z ∧ (linesOf z).length ≤ 60
def Knd (K : PySem.W.Frag) (H : Hp) (v : V) : Prop := (∃ z, v = .str z ∧ Txk z) ∨ (∃ t, TyX K H v (.type t) ∧ kitB t "str" = some false)
theorem Knd.fwd {K : PySem.W.Frag} {H H' : Hp} {v : V} (h : Knd K H v) (e : Ex H H') : Knd K H' v := h.imp id fun ⟨t, h1, h2⟩ => ⟨t, K9.TyX.mono e h1, h2⟩
theorem txk_small {z : Str} (h : z.length ≤ 50) (hs : z.cps.all (· < 256) = true) : Txk z := by
  refine ⟨by omega, fun c hc => ?_, by have := lines_len z; omega⟩
  rw [← Array.all_toList, List.all_eq_true] at hs
  have := of_decide_eq_true (hs c hc)
  omega
/-- all of a row are such values -/
def EvK (K : PySem.W.Frag) (a : Addr) (ta : TA) (σ : L2.St) (H : Hp) (n : Nat) : Prop := ∀ H1, Ex H H1 → ∀ Q : List V → Hp → Prop, (∀ vs H2, Ex H1 H2 → vs.length = n → (∀ v ∈ vs, Knd K (hid a a H2) v) → Q vs H2) → ta σ H1 Q
section
variable {K : PySem.W.Frag} {σ : L2.St} {H : Hp} {te : TE} {ta : TA} {a : Addr} {n : Nat} {v : V}
theorem ek_nil : EvK K a tNil σ H 0 := fun H1 e Q q => q [] H1 (Ex.refl _) rfl fun v hv => by cases hv
theorem ek_cons (h : EvP te σ H (fun v H2 => Knd K (hid a a H2) v)) (hr : EvK K a ta σ H n) : EvK K a (tCons te ta) σ H (n + 1) := fun H1 e Q q =>
  h H1 e _ fun v H2 e2 hv => hr H2 (e.trans e2) _ fun vs H3 e3 hl hvs => q (v :: vs) H3 (e2.trans e3) (by rw [List.length_cons, hl]) fun u hu => by
    rcases List.mem_cons.mp hu with rfl | hu
    · exact hv.fwd (hid_ex e3)
    · exact hvs u hu
theorem kp_c (h : ∀ H, Knd K H v) : EvP (tC v) σ H (fun v H2 => Knd K (hid a a H2) v) := fun H1 e Q q => q v H1 (Ex.refl _) (h _)
theorem kp_e (he : Ev te σ H v) (h : ∀ H, Knd K H v) : EvP te σ H (fun v H2 => Knd K (hid a a H2) v) := fun H1 e Q q => he H1 e Q fun H2 e2 => q v H2 e2 (h _)
theorem kp_l {xs : List V} {o : HO} (ha : H a = some o) (h : EvL te σ H xs) : EvP te σ H (fun v H2 => Knd K (hid a a H2) v) := fun H1 e Q q => h H1 e Q fun p H2 hp e2 h2 => q _ H2 e2 (.inr ⟨"list", .base (.lst (by
  have n : p ≠ a := fun z => by rw [z, e _ _ ha] at hp; cases hp
  rw [hid_at n n]
  exact h2)), by decide +kernel⟩)
theorem kp_u {xs : List V} {o : HO} (ha : H a = some o) (h : EvU te σ H xs) : EvP te σ H (fun v H2 => Knd K (hid a a H2) v) := fun H1 e Q q => h H1 e Q fun p H2 hp e2 h2 => q _ H2 e2 (.inr ⟨"tuple", .base (.tup (by
  have n : p ≠ a := fun z => by rw [z, e _ _ ha] at hp; cases hp
  rw [hid_at n n]
  exact h2)), by decide +kernel⟩)
def EvY (ta : TA) (σ : L2.St) (H : Hp) (n : Nat) : Prop := ∀ H1, Ex H H1 → ∀ Q : List V → Hp → Prop, (∀ vs H2, Ex H1 H2 → vs.length = n → Q vs H2) → ta σ H1 Q
theorem ey_u {xs : List V} (h : EvU te σ H xs) : EvY (tCons te tNil) σ H 1 := fun H1 e Q q => h H1 e _ fun p H2 hp e2 h2 => q _ H2 e2 rfl
theorem kp_uY {o : HO} (ha : H a = some o) (h : EvY ta σ H n) (hn : n ≤ 100000) : EvP (tTup ta) σ H (fun v H2 => Knd K (hid a a H2) v) := fun H1 e Q q => h H1 e _ fun vs H2 e2 hl => ⟨by rw [hl]; exact sz_of hn, fun p hp => q _ _ (e2.trans (Ex.new hp)) (.inr ⟨"tuple", .base (.tup (xs := vs) (by
  have n : p ≠ a := fun z => by rw [z, e2 _ _ (e _ _ ha)] at hp; cases hp
  rw [hid_at n n]
  exact upd_same)), by decide +kernel⟩)⟩
theorem kp_lY {o : HO} (ha : H a = some o) (h : EvY ta σ H n) (hn : n ≤ 100000) : EvP (tLst ta) σ H (fun v H2 => Knd K (hid a a H2) v) := fun H1 e Q q => h H1 e _ fun vs H2 e2 hl => ⟨by rw [hl]; exact sz_of hn, fun p hp => q _ _ (e2.trans (Ex.new hp)) (.inr ⟨"list", .base (.lst (xs := vs) (by
  have n : p ≠ a := fun z => by rw [z, e2 _ _ (e _ _ ha)] at hp; cases hp
  rw [hid_at n n]
  exact upd_same)), by decide +kernel⟩)⟩
theorem kp_d {kvs : List (Key × V)} {o : HO} (ha : H a = some o) (h : EvP te σ H (fun v H2 => ∃ p, v = .ref p ∧ H p = none ∧ H2 p = some (.dK kvs))) : EvP te σ H (fun v H2 => Knd K (hid a a H2) v) := fun H1 e Q q => h H1 e Q fun v H2 e2 ⟨p, hv, hp, h2⟩ => q _ H2 e2 (.inr ⟨"dict", by
  subst hv
  have n : p ≠ a := fun z => by rw [z, ha] at hp; cases hp
  refine .base (.dK (kvs := kvs) ?_)
  rw [hid_at n n]
  exact h2, by decide +kernel⟩)
/-- a new list of such values -/
def NewK (K : PySem.W.Frag) (a : Addr) (H : Hp) (n : Nat) (v : V) (H2 : Hp) : Prop := ∃ p vs, v = .ref p ∧ H p = none ∧ H2 p = some (.lst vs) ∧ vs.length = n ∧ ∀ u ∈ vs, Knd K (hid a a H2) u
theorem ek_lst {o : HO} (ha : H a = some o) (h : EvK K a ta σ H n) (hn : n ≤ 100000) : EvP (tLst ta) σ H (NewK K a H n) := fun H1 e Q q => h H1 e _ fun vs H2 e2 hl hvs => ⟨by rw [hl]; exact sz_of hn, fun p hp => q _ _ (e2.trans (Ex.new hp))
  ⟨p, vs, rfl, fresh_back (e.trans e2) hp, upd_same, hl, fun u hu => (hvs u hu).fwd (hid_ex (Ex.new hp))⟩⟩
theorem ek_cat {o : HO} {tb : TE} {l : Addr} {xs : List V} {m : Nat} (ha : H a = some o) (hl : Ev te σ H (.ref l)) (hx : H l = some (.lst xs)) (hxs : ∀ u ∈ xs, Knd K (hid a a H) u) (hn : xs.length = n) (hb : EvP tb σ H (NewK K a H m)) (hs : n + m ≤ 100000) : EvP (tOp rCat te tb) σ H (NewK K a H (n + m)) := fun H1 e Q q =>
  hl H1 e _ fun H2 e2 => hb H2 (e.trans e2) _ fun v H3 e3 ⟨p, vs, hv, hp, h3, h4, h5⟩ => ⟨l, p, xs, vs, rfl, hv, (e.trans (e2.trans e3)) _ _ hx, h3, by rw [hn, h4]; exact sz_of hs, fun r hr => q _ _ (e2.trans (e3.trans (Ex.new hr)))
    ⟨r, xs ++ vs, rfl, fresh_back (e.trans (e2.trans e3)) hr, upd_same, by rw [List.length_append, hn, h4], fun u hu => by
      rcases List.mem_append.mp hu with hu | hu
      · exact (hxs u hu).fwd (hid_ex (e.trans (e2.trans (e3.trans (Ex.new hr)))))
      · exact (h5 u hu).fwd (hid_ex (Ex.new hr))⟩⟩
theorem ed_new : EvP tDNewK σ H (fun v H2 => ∃ p, v = .ref p ∧ H p = none ∧ H2 p = some (.dK [])) := fun H1 e Q q p hp => q _ _ (Ex.new hp) ⟨p, rfl, fresh_back e hp, upd_same⟩
theorem ev_powC {i j : Int} (h : CPow i j) : Ev (tOp (rI CPow fun i j => .int (i ^ j.toNat)) (tC (.int i)) (tC (.int j))) σ H (.int (i ^ j.toNat)) := ev_op ev_c ev_c (rv_I h)
theorem k_non (H : Hp) : Knd K H .non := .inr ⟨_, .base .non, by decide +kernel⟩
theorem k_bl (b : Bool) (H : Hp) : Knd K H (.bl b) := .inr ⟨_, .base (.bl b), by decide +kernel⟩
theorem k_int (i : Int) (H : Hp) : Knd K H (.int i) := .inr ⟨_, .base (.int i), by decide +kernel⟩
theorem k_str {z : Str} (h : z.length ≤ 50) (hs : z.cps.all (· < 256) = true) (H : Hp) : Knd K H (.str z) := .inl ⟨z, rfl, txk_small h hs⟩
end
def sp40 (K : PySem.W.Frag) : Sp := fun vs H Q _ => ∃ (a c : Addr) (n : Nat), vs = [.ref a] ∧ Pen H a c (n + 1) ∧ ∀ v H', Exa a H H' → Pen H' a c n → Knd K (hid a a H') v → Q v H'
abbrev s40 : Stmt := top 40
theorem sc40 : FnScope ["_law_pen_here", "_law_some"] ["_law_pen_here"] (defScope s40) := ⟨rfl, rfl, rfl, by decide +kernel, rfl, by decide +kernel, by decide +kernel⟩
section
variable {P : Program} {w : World} {K : PySem.W.Frag} {mg : Str → Option Value} {base : Heap} {f : Addr} {fd : FuncData}
theorem ok40 (F : FnP K "_law_any_value" s40 f fd) (T : Txt mg) (C_law_pick : CalN P w K mg base 2 "_law_pick" (sp38 K)) : FnOk P w K mg base L2.CX0 3 f fd ["_law_pen_here"] (sp40 K) := by
  refine F.ok sc40 (fun vs H Q E h => ?_) (fun cdv A outer s H vs Q E hr h => ?_)
  · obtain ⟨a, c, n, rfl, _⟩ := h
    rfl
  · obtain ⟨a, c, n, rfl, hpen, k⟩ := h
    have nd := sc40.nd
    refine ⟨_, PSs.nox (pss_cons (ps_set (i := 1) nd rfl (Or.inl rfl) (pe_lst (pa_cons pe_non (pa_cons pe_bl (pa_cons pe_bl (pa_cons pe_int (pa_cons pe_int (pa_cons (pe_un un_neg pe_int) (pa_cons pe_int (pa_cons (pe_op op_pow pe_int pe_int) (pa_cons pe_str (pa_cons pe_str (pa_cons pe_str (pa_cons (pe_tup pa_nil) (pa_cons (pe_tup (pa_cons pe_int pa_nil)) (pa_cons (pe_tup (pa_cons pe_int (pa_cons pe_int pa_nil))) (pa_cons (pe_lst pa_nil) (pa_cons (pe_lst (pa_cons pe_int pa_nil)) (pa_cons (pe_lst (pa_cons pe_int (pa_cons pe_int pa_nil))) (pa_cons pe_dnewK (pa_cons (pe_disp (pps_cons pe_str pe_int pps_nil) (by rfl) (by rfl) (fun z => by cases z) (by decide)) pa_nil)))))))))))))))))))))
    (pss_one (ps_ret (C8.pe_c (C_law_pick) hr (by decide) (by rfl) (pa_cons (pv 0) (pa_cons (pe_op op_cat (pv 1) (pe_lst (pa_cons (pe_tup (pa_cons (pe_tup (pa_cons pe_int (pa_cons pe_int pa_nil))) pa_nil)) (pa_cons (pe_lst (pa_cons (pe_tup (pa_cons pe_int (pa_cons pe_int pa_nil))) pa_nil)) (pa_cons (pe_lst (pa_cons pe_non pa_nil)) (pa_cons pe_str (pa_cons pe_str pa_nil))))))) pa_nil)))))), ?_⟩
    obtain ⟨pk, hpk⟩ := pen_at hpen
    have row : EvK K a (tCons (tC .non) (tCons (tC (.bl true)) (tCons (tC (.bl false)) (tCons (tC (.int 0)) (tCons (tC (.int 1)) (tCons (tUn (rU fun i => .int (-i)) (tC (.int 1))) (tCons (tC (.int 7)) (tCons (tOp (rI CPow fun i j => .int (i ^ j.toNat)) (tC (.int 10)) (tC (.int 50))) (tCons (tC (.str "")) (tCons (tC (.str "0")) (tCons (tC (.str "a")) (tCons (tTup tNil) (tCons (tTup (tCons (tC (.int 0)) tNil)) (tCons (tTup (tCons (tC (.int 0)) (tCons (tC (.int 1)) tNil))) (tCons (tLst tNil) (tCons (tLst (tCons (tC (.int 0)) tNil)) (tCons (tLst (tCons (tC (.int 1)) (tCons (tC (.int 0)) tNil))) (tCons tDNewK (tCons (tDisp [(tC (.str "a"), tC (.int 0))]) tNil)))))))))))))))))))
        [some (.ref a), none] H 19 :=
      ek_cons (kp_c k_non) (ek_cons (kp_c (k_bl _)) (ek_cons (kp_c (k_bl _)) (ek_cons (kp_c (k_int _)) (ek_cons (kp_c (k_int _)) (ek_cons (kp_e (ev_un ev_c ru_neg) (k_int _)) (ek_cons (kp_c (k_int _)) (ek_cons (kp_e (ev_powC ⟨by decide, by decide, by decide⟩) (k_int _))
        (ek_cons (kp_c (k_str (by decide +kernel) (by decide +kernel))) (ek_cons (kp_c (k_str (by decide +kernel) (by decide +kernel))) (ek_cons (kp_c (k_str (by decide +kernel) (by decide +kernel)))
        (ek_cons (kp_u hpk (eu_tup ea_nil (by decide))) (ek_cons (kp_u hpk (eu_tup (ea_cons ev_c ea_nil) (by decide))) (ek_cons (kp_u hpk (eu_tup (ea_cons ev_c (ea_cons ev_c ea_nil)) (by decide)))
        (ek_cons (kp_l hpk (el_lst ea_nil (by decide))) (ek_cons (kp_l hpk (el_lst (ea_cons ev_c ea_nil) (by decide))) (ek_cons (kp_l hpk (el_lst (ea_cons ev_c (ea_cons ev_c ea_nil)) (by decide)))
        (ek_cons (kp_d hpk ed_new) (ek_cons (kp_d hpk (ed_disp (er_cons ev_c ev_c er_nil) (by simp))) ek_nil))))))))))))))))))
    refine q_asgP (ek_lst hpk row (by decide)) fun v H1 e1 ⟨p, vs, hv, hp, h1, hl, hvs⟩ => ?_
    subst hv
    have np : p ≠ a := fun z => by rw [z, hpk] at hp; cases hp
    have g1 : hid a a H1 p = some (.lst vs) := by rw [hid_at np np]; exact h1
    refine c_ret (m := n) (ec_pick (k := 19 + 5) (S := fun vs H2 => ∀ u ∈ vs, Knd K (hid a a H2) u) rfl (fun H2 e2 ⟨kvs, hk⟩ => ?_) (by decide) (by decide)) (hpen.ex e1) fun v H2 x2 p2 ⟨us, H3, h2, h3, x3⟩ => k v H2 ((Exa.of e1).trans x2) p2 ((h3 v h2).fwd x3.hid)
    refine EvP.imp (ek_cat hk (ev_var rfl) (e2 _ _ g1) (fun u hu => (hvs u hu).fwd ?_) hl (ek_lst (n := 5) hk ?_ (by decide)) (by decide)) fun v H3 e3 ⟨p, vs, h1, h2, h3, h4, h5⟩ => ⟨p, vs, h1, h2, h3, h4, h5⟩
    · have z := hid_ex (a := a) (b := a) e2
      exact fun b o hb => z b o (by
        have nb : b ≠ a := fun z => by rw [z, hid_none] at hb; cases hb
        rw [hid_at nb nb]
        exact hb)
    · exact ek_cons (kp_uY hk (ey_u (eu_tup (ea_cons ev_c (ea_cons ev_c ea_nil)) (by decide))) (by decide)) (ek_cons (kp_lY hk (ey_u (eu_tup (ea_cons ev_c (ea_cons ev_c ea_nil)) (by decide))) (by decide)) (ek_cons (kp_l hk (el_lst (ea_cons ev_c ea_nil) (by decide))) (ek_cons (kp_c (k_str (by decide +kernel) (by decide +kernel))) (ek_cons (kp_c (k_str (by decide +kernel) (by decide +kernel))) ek_nil))))
end
end K9
end
section
set_option Elab.async false
set_option linter.all false
set_option maxRecDepth 100000
set_option maxHeartbeats 1000000
namespace K9
open PySem PySem.Spec PyProof.Rows L2 Evl
def EvCT (a c : Addr) (n : Nat) (t : TT) (σ : L2.St) (G : Hp) : Prop := ∀ H m, Ex G H → Pen H a c (m + n) → ∀ Q : Bool → Hp → Prop, (∀ b H2, Exa a H H2 → Pen H2 a c m → Q b H2) → t σ H Q
/-- a new list of n ints -/
def NewInts (n : Nat) (P : Int → Prop) : Hp → V → Hp → Prop := fun H v H2 => ∃ (p : Addr) (is : List Int), v = .ref p ∧ H p = none ∧ H2 p = some (.lst (is.map V.int)) ∧ is.length = n ∧ ∀ i ∈ is, P i
def NewSel (n : Int) : Hp → V → Hp → Prop := fun H v H2 => ∃ (p : Addr) (is : List Int), v = .ref p ∧ H p = none ∧ H2 p = some (.lst (is.map V.int)) ∧ is.Pairwise (· < ·) ∧ ∀ i ∈ is, 0 ≤ i ∧ i < n
def NewRows (a : Addr) (k n : Nat) (P : Int → Prop) : Hp → V → Hp → Prop := fun H v H2 => ∃ (p : Addr) (xs : List V) (rs : List (List Int)), v = .ref p ∧ H p = none ∧ H2 p = some (.lst xs) ∧ RowsAt (hid a a H2) xs rs ∧ rs.length = k ∧ ∀ r ∈ rs, r.length = n ∧ ∀ i ∈ r, P i
theorem Exa.hid2 {a b : Addr} {H H1 : Hp} (h : Exa a H H1) : Ex (K9.hid a b H) (K9.hid a b H1) := fun d o e => by
  by_cases z : d = a ∨ d = b
  · unfold K9.hid at e
    rw [if_pos z] at e
    cases e
  · have n1 : d ≠ a := fun h => z (.inl h)
    have n2 : d ≠ b := fun h => z (.inr h)
    rw [hid_at n1 n2] at e ⊢
    exact h d o n1 e
section
variable {K : PySem.W.Frag} {σ : L2.St} {G H : Hp} {ta tb te : TE} {t : TA} {tt : TT} {a c : Addr} {n m k : Nat} {v x y z : V} {E : XK} {R R' : Hp → V → Hp → Prop} {P P' : Int → Prop}
theorem ec_eq0 {i : Int} (h : EvC a c n te σ G (IntP P)) : EvCT a c n (tTest (tOp rEq te (tC (.int i)))) σ G := fun H m e p Q q => h H m e p _ fun v H2 x2 p2 ⟨j, hv, _⟩ => by
  subst hv
  exact ⟨rfl, _, rfl, q _ H2 x2 p2⟩
theorem ec_lt {i : Int} (hG : G a = none) (h : EvC a c n te σ G (IntP P)) (hb : Ev tb σ G (.int i)) : EvCT a c n (tTest (tOp (rI0 fun i j => .bl (decide (i < j))) te tb)) σ G := fun H m e p Q q => h H m e p _ fun v H2 x2 p2 ⟨j, hv, _⟩ => by
  subst hv
  exact hb H2 (exg hG e x2) _ fun H3 e3 => ⟨j, i, rfl, rfl, _, rfl, q _ H3 (x2.trans (Exa.of e3)) (p2.ex e3)⟩
theorem ct_yes : EvCT a c 0 tYes σ G := fun H m e p Q q => q true H Exa.refl p
theorem ec_lcI {j : Nat} {vs : List Nat} {nn : Int} (hG : G a = none) (h : EvA t σ G [.int nn]) (hn : 0 ≤ nn ∧ nn ≤ 1000) (hw : ∀ x, wipe ((wipe σ vs).set j (some x)) vs = wipe σ vs)
    (he : ∀ (i : Nat), (i : Int) < nn → EvC a c n te ((wipe σ vs).set j (some (.int (i : Int)))) G (IntP P)) : EvC a c (n * nn.toNat) (tLc (iRng1 t) (gName j) tYes te vs) σ G (NewInts nn.toNat P) := fun H m e p Q q => h H e _ fun H1 e1 => ⟨nn, rfl, by omega, by omega, fun Dl hD => by
  have nD := pen_ne (p.ex e1) hD
  have nc := pen_nc (p.ex e1) hD
  refine lc_it (g := gName j) ((walk_range (lo := 0) (n := nn.toNat)).mono (fun _ h => h) (fun i H x H' hi _ y => y)) (fun i H' => ∃ is : List Int, Exa a H1 H' ∧ H' Dl = some (.lst (is.map V.int)) ∧ is.length = i ∧ (∀ k ∈ is, P k) ∧ Pen H' a c (m + n * (nn.toNat - i))) ⟨[], exa_mut Exa.refl hD, upd_same, rfl, (fun k hk => by cases hk), (p.ex e1).ex (Ex.new hD)⟩ (fun i H' _ p => trivial) (fun i x H2 H' hi p2 y => ?_) (fun H' p2 => ?_)
  · obtain ⟨is, p1, p2, p3, p4, p5⟩ := p2
    obtain ⟨y1, y2⟩ := y
    subst y1
    have ex : x = V.int (i : Int) := by
      rw [y2]
      show V.int (0 + (i : Int)) = _
      rw [Int.zero_add]
    subst ex
    have hk : nn.toNat - i = (nn.toNat - (i + 1)) + 1 := by omega
    rw [hk, Nat.mul_succ, ← Nat.add_assoc] at p5
    refine ⟨hw _, yes_go ?_⟩
    refine he i (by omega) H' (m + n * (nn.toNat - (i + 1))) (exg hG (e.trans e1) p1) p5 _ fun v H3 x3 p6 ⟨k, hv, hk⟩ => ?_
    subst hv
    refine ⟨is.map V.int, x3 _ _ (Ne.symm nD.symm) p2, by rw [List.length_map, p3, sizeLine_eq]; omega, is ++ [k], exa_mut (p1.trans x3) hD, ?_, by rw [List.length_append, p3]; rfl, fun u hu => ?_, p6.mut (Ne.symm nD) nc⟩
    · refine upd_same.trans ?_
      rw [List.map_append]
      rfl
    · rcases List.mem_append.mp hu with hu | hu
      · exact p4 u hu
      · rw [List.mem_singleton.mp hu]
        exact hk
  · obtain ⟨is, p1, p2, p3, p4, p5⟩ := p2
    rw [Nat.sub_self, Nat.mul_zero, Nat.add_zero] at p5
    exact q _ H' ((Exa.of e1).trans p1) p5 ⟨Dl, is, rfl, fresh_back e1 hD, p2, p3, p4⟩⟩
theorem ec_lcS {j : Nat} {vs : List Nat} {nn : Int} (hG : G a = none) (h : EvA t σ G [.int nn]) (hn : 0 ≤ nn ∧ nn ≤ 1000) (hw : ∀ x, wipe ((wipe σ vs).set j (some x)) vs = wipe σ vs) (hj : ∀ x, ((wipe σ vs).set j (some x))[j]? = some (some x))
    (he : ∀ (i : Nat), (i : Int) < nn → EvCT a c n tt ((wipe σ vs).set j (some (.int (i : Int)))) G) : EvC a c (n * nn.toNat) (tLc (iRng1 t) (gName j) tt (tVar j) vs) σ G (NewSel nn) := fun H m e p Q q => h H e _ fun H1 e1 => ⟨nn, rfl, by omega, by omega, fun Dl hD => by
  have nD := pen_ne (p.ex e1) hD
  have nc := pen_nc (p.ex e1) hD
  refine lc_it (g := gName j) ((walk_range (lo := 0) (n := nn.toNat)).mono (fun _ h => h) (fun i H x H' hi _ y => y)) (fun i H' => ∃ is : List Int, Exa a H1 H' ∧ H' Dl = some (.lst (is.map V.int)) ∧ is.length ≤ i ∧ (is.Pairwise (· < ·) ∧ ∀ k ∈ is, 0 ≤ k ∧ k < (i : Int)) ∧ Pen H' a c (m + n * (nn.toNat - i))) ⟨[], exa_mut Exa.refl hD, upd_same, Nat.le_refl _, ⟨.nil, fun k hk => by cases hk⟩, (p.ex e1).ex (Ex.new hD)⟩ (fun i H' _ p => trivial) (fun i x H2 H' hi p2 y => ?_) (fun H' p2 => ?_)
  · obtain ⟨is, p1, p2, p3, ⟨p4, p4'⟩, p5⟩ := p2
    obtain ⟨y1, y2⟩ := y
    subst y1
    have ex : x = V.int (i : Int) := by
      rw [y2]
      show V.int (0 + (i : Int)) = _
      rw [Int.zero_add]
    subst ex
    have hk : nn.toNat - i = (nn.toNat - (i + 1)) + 1 := by omega
    rw [hk, Nat.mul_succ, ← Nat.add_assoc] at p5
    refine ⟨hw _, he i (by omega) H' (m + n * (nn.toNat - (i + 1))) (exg hG (e.trans e1) p1) p5 _ fun b H3 x3 p6 => ?_⟩
    have p2' := x3 _ _ (Ne.symm nD.symm) p2
    cases b with
    | true =>
      rw [if_pos rfl]
      refine ⟨_, hj _, is.map V.int, p2', by rw [List.length_map, sizeLine_eq]; omega, is ++ [(i : Int)], exa_mut (p1.trans x3) hD, ?_, by rw [List.length_append]; simp; omega, ⟨?_, fun u hu => ?_⟩, p6.mut (Ne.symm nD) nc⟩
      · refine upd_same.trans ?_
        rw [List.map_append]
        rfl
      · exact List.pairwise_append.mpr ⟨p4, List.pairwise_singleton _ _, fun u hu w hw => by
          rw [List.mem_singleton.mp hw]
          exact (p4' u hu).2⟩
      · rcases List.mem_append.mp hu with hu | hu
        · have := p4' u hu
          omega
        · rw [List.mem_singleton.mp hu]
          omega
    | false =>
      rw [if_neg (by decide)]
      exact ⟨is, p1.trans x3, p2', by omega, ⟨p4, fun u hu => by have := p4' u hu; omega⟩, p6⟩
  · obtain ⟨is, p1, p2, p3, ⟨p4, p4'⟩, p5⟩ := p2
    rw [Nat.sub_self, Nat.mul_zero, Nat.add_zero] at p5
    exact q _ H' ((Exa.of e1).trans p1) p5 ⟨Dl, is, rfl, fresh_back e1 hD, p2, p4, fun u hu => by have := p4' u hu; omega⟩⟩
theorem ec_lcW {j : Nat} {vs : List Nat} {nn : Int} (hG : G a = none) (h : EvA t σ G [.int nn]) (hn : 0 ≤ nn ∧ nn ≤ 1000) (hw : ∀ x, wipe ((wipe σ vs).set j (some x)) vs = wipe σ vs)
    (he : ∀ (i : Nat), (i : Int) < nn → EvC a c n te ((wipe σ vs).set j (some (.int (i : Int)))) G (NewInts k P)) : EvC a c (n * nn.toNat) (tLc (iRng1 t) (gName j) tYes te vs) σ G (NewRows a nn.toNat k P) := fun H m e p Q q => h H e _ fun H1 e1 => ⟨nn, rfl, by omega, by omega, fun Dl hD => by
  have nD := pen_ne (p.ex e1) hD
  have nc := pen_nc (p.ex e1) hD
  refine lc_it (g := gName j) ((walk_range (lo := 0) (n := nn.toNat)).mono (fun _ h => h) (fun i H x H' hi _ y => y)) (fun i H' => ∃ (xs : List V) (rs : List (List Int)), Exa a H1 H' ∧ H' Dl = some (.lst xs) ∧ rs.length = i ∧ (RowsAt (hid a Dl H') xs rs ∧ ∀ r ∈ rs, r.length = k ∧ ∀ i ∈ r, P i) ∧ Pen H' a c (m + n * (nn.toNat - i))) ⟨[], [], exa_mut Exa.refl hD, upd_same, rfl, ⟨.nil, fun k hk => by cases hk⟩, (p.ex e1).ex (Ex.new hD)⟩ (fun i H' _ p => trivial) (fun i x H2 H' hi p2 y => ?_) (fun H' p2 => ?_)
  · obtain ⟨xs, rs, p1, p2, p3, ⟨p4, p4'⟩, p5⟩ := p2
    obtain ⟨y1, y2⟩ := y
    subst y1
    have ex : x = V.int (i : Int) := by
      rw [y2]
      show V.int (0 + (i : Int)) = _
      rw [Int.zero_add]
    subst ex
    have hk : nn.toNat - i = (nn.toNat - (i + 1)) + 1 := by omega
    rw [hk, Nat.mul_succ, ← Nat.add_assoc] at p5
    refine ⟨hw _, yes_go ?_⟩
    refine he i (by omega) H' (m + n * (nn.toNat - (i + 1))) (exg hG (e.trans e1) p1) p5 _ fun v H3 x3 p6 ⟨pp, is, hv, hpp, h3, hl, hP⟩ => ?_
    subst hv
    have npa : pp ≠ a := pen_ne p5 hpp
    have npD : pp ≠ Dl := fun z => by rw [z, p2] at hpp; cases hpp
    refine ⟨xs, x3 _ _ (Ne.symm nD.symm) p2, by rw [Paired.length p4, p3, sizeLine_eq]; omega, xs ++ [.ref pp], rs ++ [is], exa_mut (p1.trans x3) hD, upd_same, by rw [List.length_append, p3]; rfl, ⟨?_, fun u hu => ?_⟩, p6.mut (Ne.symm nD) nc⟩
    · rw [hid_up2]
      refine paired_snoc (p4.fwd x3.hid2) ⟨pp, rfl, ?_⟩
      rw [hid_at npa npD]
      exact h3
    · rcases List.mem_append.mp hu with hu | hu
      · exact p4' u hu
      · rw [List.mem_singleton.mp hu]
        exact ⟨hl, hP⟩
  · obtain ⟨xs, rs, p1, p2, p3, ⟨p4, p4'⟩, p5⟩ := p2
    rw [Nat.sub_self, Nat.mul_zero, Nat.add_zero] at p5
    refine q _ H' ((Exa.of e1).trans p1) p5 ⟨Dl, xs, rs, rfl, fresh_back e1 hD, p2, p4.fwd (fun b o hb => ?_), p3, p4'⟩
    have n1 : b ≠ a := fun z => by
      unfold K9.hid at hb
      rw [if_pos (.inl z)] at hb
      cases hb
    rw [hid_at n1 n1]
    exact hid_le _ _ hb⟩
variable {D : Ends} {tz tu tw : TS} {i : Nat}
theorem c_if (h : EvCT a c n tt σ (hid a a H)) (p : Pen H a c (m + n)) (k : ∀ b H1, Exa a H H1 → Pen H1 a c m → if b = true then tu D σ H1 else tw D σ H1) : tIfS tt tu tw D σ H := h H m hid_le p _ fun b H1 x p1 => k b H1 x p1
theorem c_sT2 {j : Nat} (ha : EvC a c n ta σ (hid a a H) R) (hb : EvC a c m tb σ (hid a a H) R') {l : Nat} (p : Pen H a c (l + (n + m))) (k : ∀ x y H1 H2 H3, Exa a H H1 → R H x H1 → Exa a H1 H2 → R' H1 y H2 → Ex H2 H3 → Pen H3 a c l → D.nx ((σ.set i (some x)).set j (some y)) H3) :
    tAsg (tTup (tCons ta (tCons tb tNil))) (gTup K 2 (gCons (gName i) (gCons (gName j) gNil))) D σ H :=
  ha H (l + m) hid_le (by rw [Nat.add_assoc, Nat.add_comm m n]; exact p) _ fun x H1 x1 p1 r1 => hb H1 l (exg hid_none hid_le x1) p1 _ fun y H2 x2 p2 r2 =>
    ⟨by show 2 ≤ sizeLine; decide, fun t ht => ⟨t, _, rfl, st_of upd_same, rfl, _, _, rfl, _, _, rfl, rfl, k x y H1 H2 _ x1 r1 x2 r2 (Ex.new ht) (p2.ex (Ex.new ht))⟩⟩
/-- for j in range(a draw) -/
theorem c_forR {j : Nat} {b : Int} (h : EvC a c n te σ (hid a a H) (IntP fun i => 0 ≤ i ∧ i ≤ b)) (hb : b ≤ 1000) (p : Pen H a c (m + n)) (Pv : Nat → L2.St → Hp → Prop) (h0 : ∀ H1, Exa a H H1 → Pen H1 a c m → Pv 0 σ H1)
    (hs : ∀ (i : Nat) σ' H', (i : Int) < b → Pv i σ' H' → tu { D with nx := Pv (i + 1), ct := Pv (i + 1), bk := tz D } (σ'.set j (some (.int (i : Int)))) H') (hd : ∀ (i : Nat) σ' H', (i : Int) ≤ b → Pv i σ' H' → tz D σ' H') : tSeq (tFor (iRng1 (tCons te tNil)) (gName j) tu) tz D σ H :=
  h H m hid_le p _ fun v H1 x1 p1 ⟨nn, hv, hn⟩ => ⟨nn, by rw [hv], by omega, by omega, for_range (lo := 0) (n := nn.toNat) Pv (h0 H1 x1 p1) (fun i σ' H' hi p => by
    have z : (0 : Int) + (i : Int) = (i : Int) := Int.zero_add _
    show tu { D with nx := Pv (i + 1), ct := Pv (i + 1), bk := tz D } (σ'.set j (some (.int ((0 : Int) + (i : Int))))) H'
    rw [z]
    exact hs i σ' H' (by omega) p) (hd nn.toNat · · (by omega))⟩
end
end K9
end
section
set_option Elab.async false
set_option linter.all false
set_option maxRecDepth 100000
set_option maxHeartbeats 1000000
namespace K9
open PySem PySem.Spec PyProof.Rows L2 Evl
section
variable {K : PySem.W.Frag} {σ : L2.St} {G H : Hp} {ta tb te : TE} {t : TA} {a c : Addr} {n m : Nat} {xs ys : List V} {P P' : Int → Prop} {D : Ends} {tz : TS} {i : Nat}
theorem ec_min {k : Int} (h : EvC a c n tb σ G (IntP P)) : EvC a c n (tCB (fun xs H Q => ∃ i j, xs = [.int i, .int j] ∧ Q (.int (if j < i then j else i)) H) (tCons (tC (.int k)) (tCons tb tNil))) σ G (IntP fun i => ∃ j, P j ∧ i = if j < k then j else k) := fun H m e p Q q =>
  h H m e p _ fun v H2 x2 p2 ⟨j, hv, hj⟩ => ⟨k, j, by rw [hv], q _ H2 x2 p2 ⟨_, rfl, j, hj, rfl⟩⟩
theorem c_tup2 (ha : EvC a c n ta σ (hid a a H) (IntP P)) (hb : EvC a c m tb σ (hid a a H) (IntP P')) {l : Nat} (p : Pen H a c (l + (n + m))) (k : ∀ (x y : Int) (t : Addr) H3, P x → P' y → Exa a H H3 → Pen H3 a c l → t ≠ a → H3 t = some (.tup [.int x, .int y]) → tz D (σ.set i (some (.ref t))) H3) :
    tSeq (tAsg (tTup (tCons ta (tCons tb tNil))) (gName i)) tz D σ H :=
  ha H (l + m) hid_le (by rw [Nat.add_assoc, Nat.add_comm m n]; exact p) _ fun v H1 x1 p1 ⟨x, hv, hx⟩ => hb H1 l (exg hid_none hid_le x1) p1 _ fun w H2 x2 p2 ⟨y, hw, hy⟩ =>
    ⟨by show 2 ≤ sizeLine; decide, fun t ht => by
      subst hv hw
      exact k x y t _ hx hy ((x1.trans x2).trans (Exa.of (Ex.new ht))) (p2.ex (Ex.new ht)) (pen_ne p2 ht) upd_same⟩
theorem el_catR {l : Addr} (hl : Ev ta σ H (.ref l)) (hx : H l = some (.lst xs)) (hb : EvL tb σ H ys) (hs : xs.length + ys.length ≤ 100000) : EvL (tOp rCat ta tb) σ H (xs ++ ys) := fun H1 e Q q =>
  hl H1 e _ fun H2 e2 => hb H2 (e.trans e2) _ fun p H3 hp e3 h3 => ⟨l, p, xs, ys, rfl, rfl, (e.trans (e2.trans e3)) _ _ hx, h3, sz_of hs, fun r hr => q r _ (fresh_back (e2.trans e3) hr) (e2.trans (e3.trans (Ex.new hr))) upd_same⟩
theorem el_rep {k : Int} (ha : EvL ta σ H xs) (hb : Ev tb σ H (.int k)) (hk : -(2 ^ 63) ≤ k ∧ k < 2 ^ 63) (hs : xs.length * k.toNat ≤ 100000) : EvL (tOp rRep ta tb) σ H (List.replicate k.toNat xs).flatten := fun H1 e Q q =>
  ha H1 e _ fun p H2 hp e2 h2 => hb H2 (e.trans e2) _ fun H3 e3 => ⟨p, k, xs, rfl, rfl, e3 _ _ h2, hk.1, hk.2, sz_of hs, fun r hr => q r _ (fresh_back (e2.trans e3) hr) (e2.trans (e3.trans (Ex.new hr))) upd_same⟩
end
theorem sum_le40 : ∀ {l : List Int}, (∀ x ∈ l, x ≤ 40) → l.sum ≤ 40 * (l.length : Int)
  | [], _ => by simp
  | x :: l, h => by
    have h1 := h x List.mem_cons_self
    have h2 := sum_le40 (l := l) fun y hy => h y (List.mem_cons_of_mem _ hy)
    simp only [List.sum_cons, List.length_cons]
    omega
theorem turn_small {d : CD} (k : d.Ok) (h : d.ys.length ≤ 3) : 1 ≤ d.turn ∧ d.turn ≤ 200000 := by
  have hn := k.n
  have ht := k.total
  have hw := k.w
  have hs := sum_le40 (l := d.lens) fun x hx => (k.pos x hx).2
  have hlen : d.lens.length ≤ 42 := by
    rw [hn]
    exact Nat.le_trans (Nat.mul_le_mul h k.ys.mo.2) (by decide)
  have htt : d.total ≤ 1680 := by
    show d.lens.sum ≤ 1680
    omega
  have hg1 : 0 < Int.gcd d.total d.w := Int.gcd_pos_of_ne_zero_right _ (by omega)
  have hg2 : (Int.gcd d.total d.w : Int) ≤ d.total := Int.le_of_dvd (by omega) (Int.gcd_dvd_left ..)
  have q1 : 1 ≤ d.total / (Int.gcd d.total d.w : Nat) := (Int.le_ediv_iff_mul_le (by omega)).mpr (by omega)
  have q2 : d.total / (Int.gcd d.total d.w : Nat) ≤ d.total := Int.ediv_le_self _ (by omega)
  unfold CD.turn
  generalize d.total / (Int.gcd d.total d.w : Nat) = q at *
  constructor
  · have := Int.mul_le_mul q1 hw.1 (by omega) (by omega)
    omega
  · have := Int.mul_le_mul (show q ≤ 1680 by omega) hw.2 (by omega) (by omega)
    omega
def MM (many months : Int) : Prop := ((1 ≤ many ∧ many ≤ 3) ∧ 1 ≤ months ∧ months ≤ 4) ∨ (many = 1 ∧ 10 ≤ months ∧ months ≤ 14)
theorem MM.mul {x y : Int} (h : MM x y) : (1 ≤ x ∧ x ≤ 3) ∧ (1 ≤ y ∧ y ≤ 14) ∧ 1 ≤ x * y ∧ x * y ≤ 14 := by
  rcases h with ⟨⟨h1, h2⟩, h3, h4⟩ | ⟨h1, h3, h4⟩
  · have a1 := Int.mul_le_mul h1 h3 (by omega) (by omega)
    have a2 := Int.mul_le_mul h2 h4 (by omega) (by omega)
    omega
  · subst h1
    omega
def sp41 : Sp := fun vs H Q _ => ∃ (a c : Addr) (n : Nat), vs = [.ref a] ∧ Pen H a c (n + 1000) ∧ ∀ (p : Addr) H' (d : CD), Exa a H H' → Pen H' a c n → d.Ok → d.Fine → PlainAt H' p d → d.ys.length ≤ 3 → d.hs.length ≤ 2 → Q (.ref p) H'
abbrev s41 : Stmt := top 41
theorem sc41 : FnScope ["_law_pen_here", "_law_many", "_law_months", "_law_longest", "_law_size", "_law_lists", "_law_share", "_law_free", "_law_idle", "_law_k", "_law_one", "_law_plain_here", "_law_year", "_law_month", "_law_day"] ["_law_pen_here"] (defScope s41) := ⟨rfl, rfl, rfl, by decide +kernel, rfl, by decide +kernel, by decide +kernel⟩
section
variable {P : Program} {w : World} {K : PySem.W.Frag} {mg : Str → Option Value} {base : Heap} {f : Addr} {fd : FuncData}
theorem ok41 (F : FnP K "_law_plain" s41 f fd) (T : Txt mg) (C_law_draw : CalN P w K mg base 1 "_law_draw" sp37) (C_law_pick : CalN P w K mg base 2 "_law_pick" (sp38 K)) (C_law_with_days : CalN P w K mg base 3 "_law_with_days" (sp42 K)) : FnOk P w K mg base L2.CX0 4 f fd ["_law_pen_here"] sp41 := by
  refine F.ok sc41 (fun vs H Q E h => ?_) (fun cdv A outer s H vs Q E hr h => ?_)
  · obtain ⟨a, c, n, rfl, _⟩ := h
    rfl
  · obtain ⟨a, c, n, rfl, hpen, k⟩ := h
    have nd := sc41.nd
    refine ⟨_, PSs.nox (pss_cons (ps_asg (pe_tup (pa_cons (pe_op op_add pe_int (C8.pe_c (C_law_draw) hr (by decide) (by rfl) (pa_cons (pv 0) (pa_cons pe_int pa_nil)))) (pa_cons (pe_op op_add pe_int (C8.pe_c (C_law_draw) hr (by decide) (by rfl) (pa_cons (pv 0) (pa_cons pe_int pa_nil)))) pa_nil))) (pg_tup rfl (pgs_cons (pg_name (i := 1) nd rfl (Or.inl rfl)) (pgs_cons (pg_name (i := 2) nd rfl (Or.inr rfl)) pgs_nil))))
    (Evl.pss_cut (ps_if (pt_cmpR op_eq (C8.pe_c (C_law_draw) hr (by decide) (by rfl) (pa_cons (pv 0) (pa_cons pe_int pa_nil))) pe_int (nomark _)) (pss_one (ps_asg (pe_tup (pa_cons pe_int (pa_cons (pe_op op_add pe_int (C8.pe_c (C_law_draw) hr (by decide) (by rfl) (pa_cons (pv 0) (pa_cons pe_int pa_nil)))) pa_nil))) (pg_tup rfl (pgs_cons (pg_name (i := 1) nd rfl (Or.inl rfl)) (pgs_cons (pg_name (i := 2) nd rfl (Or.inr rfl)) pgs_nil))))) pss_nil)
    (pss_cons (ps_asg (pe_tup (pa_cons (C8.pe_c (C_law_pick) hr (by decide) (by rfl) (pa_cons (pv 0) (pa_cons (pe_lst (pa_cons pe_int (pa_cons pe_int (pa_cons pe_int (pa_cons pe_int (pa_cons (pe_op op_fdiv pe_int (pe_op op_mul (pv 1) (pv 2))) pa_nil)))))) pa_nil))) (pa_cons (pe_op op_add pe_int (C8.pe_c (C_law_draw) hr (by decide) (by rfl) (pa_cons (pv 0) (pa_cons pe_int pa_nil)))) pa_nil))) (pg_tup rfl (pgs_cons (pg_name (i := 3) nd rfl (Or.inr rfl)) (pgs_cons (pg_name (i := 4) nd rfl (Or.inl rfl)) pgs_nil))))
    (pss_cons (ps_setLc (i := 5) (own := [("_law_year", 12)]) (g := gName 12) rfl nd rfl rfl (sw_true rfl rfl rfl (by decide +kernel)) (pi_range1 (by rfl) T.range (pa_cons (pv 1) pa_nil)) (blkOk_by (own := [("_law_year", 12)]) (N := ["_law_pen_here", "_law_many", "_law_months", "_law_longest", "_law_size", "_law_lists", "_law_share", "_law_free", "_law_idle", "_law_k", "_law_one", "_law_plain_here", "_law_year", "_law_month", "_law_day"]) (sc := (defScope s41)) (by decide +kernel)) (fun _ _ _ _ _ => (pg_name (i := 12) nd rfl (Or.inl rfl))) (fun _ _ _ _ _ => pts_nil) (fun _ _ _ _ _ => (pe_lc (own := [("_law_month", 13)]) (g := gName 13) rfl nd (pi_range1 (by rfl) T.range (pa_cons (pv 2) pa_nil)) (blkOk_by (own := [("_law_month", 13)]) (N := ["_law_pen_here", "_law_many", "_law_months", "_law_longest", "_law_size", "_law_lists", "_law_share", "_law_free", "_law_idle", "_law_k", "_law_one", "_law_plain_here", "_law_year", "_law_month", "_law_day"]) (sc := (relS _ (defScope s41))) (by decide +kernel)) (fun _ _ _ _ _ => (pg_name (i := 13) nd rfl (Or.inl rfl))) (fun _ _ _ _ _ => pts_nil) (fun _ _ _ _ _ => (pe_op op_add pe_int (C8.pe_c (C_law_draw) hr (by decide) (by rfl) (pa_cons (pv 0) (pa_cons (pv 3) pa_nil))))))))
    (pss_cons (ps_asg (pe_tup (pa_cons (C8.pe_c (C_law_draw) hr (by decide) (by rfl) (pa_cons (pv 0) (pa_cons pe_int pa_nil))) (pa_cons (pe_lst pa_nil) pa_nil))) (pg_tup rfl (pgs_cons (pg_name (i := 6) nd rfl (Or.inr rfl)) (pgs_cons (pg_name (i := 7) nd rfl (Or.inl rfl)) pgs_nil))))
    (pss_cons (ps_setLc (i := 8) (own := [("_law_day", 14)]) (g := gName 14) rfl nd rfl rfl (sw_true rfl rfl rfl (by decide +kernel)) (pi_range1 (by rfl) T.range (pa_cons (pv 4) pa_nil)) (blkOk_by (own := [("_law_day", 14)]) (N := ["_law_pen_here", "_law_many", "_law_months", "_law_longest", "_law_size", "_law_lists", "_law_share", "_law_free", "_law_idle", "_law_k", "_law_one", "_law_plain_here", "_law_year", "_law_month", "_law_day"]) (sc := (defScope s41)) (by decide +kernel)) (fun _ _ _ _ _ => (pg_name (i := 14) nd rfl (Or.inl rfl))) (fun _ _ _ _ _ => (pts_one (pt_cmpR op_lt (C8.pe_c (C_law_draw) hr (by decide) (by rfl) (pa_cons (pv 0) (pa_cons pe_int pa_nil))) (pv 6) (nomark _)))) (fun _ _ _ _ _ => (pv 14)))
    (pss_cons (ps_for PassesOwn.never rfl (pi_range1 (by rfl) T.range (pa_cons (C8.pe_c (C_law_draw) hr (by decide) (by rfl) (pa_cons (pv 0) (pa_cons pe_int pa_nil))) pa_nil)) (pg_name (i := 9) nd rfl (Or.inl rfl)) (pss_cons (ps_set (i := 10) nd rfl (Or.inl rfl) (pe_tup (pa_cons (pe_op op_add pe_int (C8.pe_c (C_law_draw) hr (by decide) (by rfl) (pa_cons (pv 0) (pa_cons (pv 2) pa_nil)))) (pa_cons (pe_callB (call_min2 rfl) (by rfl) T.min (by decide +kernel) (pa_cons pe_int (pa_cons (pe_op op_add pe_int (C8.pe_c (C_law_draw) hr (by decide) (by rfl) (pa_cons (pv 0) (pa_cons (pe_op op_add (pv 3) pe_int) pa_nil)))) pa_nil))) pa_nil))))
    (pss_one (ps_set (i := 7) nd rfl (Or.inl rfl) (pe_op op_cat (pv 7) (pe_op op_rep (pe_lst (pa_cons (pv 10) pa_nil)) (pe_callTy call_int1 (by rfl) T.int (by decide +kernel) (pa_cons (pe_cmpR (op_notInD (r65 hr)) (pv 10) (pv 7) (by rfl)) pa_nil))))))))
    (pss_cons (ps_set (i := 11) nd rfl (Or.inl rfl) (C8.pe_c (C_law_with_days) hr (by decide) (by rfl) (pa_cons (pv 5) (pa_cons (pv 4) (pa_cons (C8.pe_c (C_law_draw) hr (by decide) (by rfl) (pa_cons (pv 0) (pa_cons (pv 4) pa_nil))) (pa_cons (pv 8) (pa_cons (pv 7) pa_nil)))))))
    (pss_cons (ps_if (pt_cmpR (op_neD hr.units) (pe_dget (hu_of hr) (pv 11) pe_str (fun _ _ => rfl)) (pe_lst pa_nil) (nomark _)) (pss_one (ps_ret (pv 11))) pss_nil)
    (pss_one (ps_ret (C8.pe_c (C_law_with_days) hr (by decide) (by rfl) (pa_cons (pv 5) (pa_cons (pv 4) (pa_cons (pe_dget (hu_of hr) (pv 11) pe_str (fun _ _ => rfl)) (pa_cons (pe_lst pa_nil) (pa_cons (pe_lst pa_nil) pa_nil))))))))))))))))), ?_⟩
    refine c_asgT2 (l := n + 998) (ec_plus hid_none (ec_draw rfl ev_c (by decide) (by decide))) (ec_plus hid_none (ec_draw rfl ev_c (by decide) (by decide))) (hpen.less (by omega)) fun x y H1 H2 H3 x1 ⟨i1, hx, j1, hi1, hj1⟩ x2 ⟨i2, hy, j2, hi2, hj2⟩ e3 p3 => ?_
    subst hx hy
    have x03 := x1.trans (x2.trans (Exa.of e3))
    refine Evl.q_cut (M := fun σ' H' => ∃ many months, σ' = [some (.ref a), some (.int many), some (.int months), none, none, none, none, none, none, none, none, none, none, none, none] ∧ MM many months ∧ Exa a H H' ∧ Pen H' a c (n + 996)) (c_if (m := n + 997) (ec_eq0 (ec_draw rfl ev_c (by decide) (by decide))) p3 fun b H4 x4 p4 => ?_) fun σ' H4 ⟨many, months, hσ, mm, x04, p4⟩ => ?_
    · cases b with
      | true =>
        rw [if_pos rfl]
        refine c_sT2 (l := n + 996) (ec_int ev_c) (ec_plus hid_none (ec_draw rfl ev_c (by decide) (by decide))) (p4.less (by omega)) fun x y H5 H6 H7 x5 ⟨i3, hx, hi3⟩ x6 ⟨i4, hy, j4, hi4, hj4⟩ e7 p7 => ?_
        subst hx hy
        exact ⟨i3, i4, rfl, .inr ⟨hi3, by omega, by omega⟩, x03.trans (x4.trans (x5.trans (x6.trans (Exa.of e7)))), p7⟩
      | false =>
        rw [if_neg (by decide)]
        exact ⟨i1, i2, rfl, .inl ⟨by omega, by omega⟩, x03.trans x4, p4.less (by omega)⟩
    subst hσ
    obtain ⟨hm1, hm2, hm3⟩ := mm.mul
    -- longest, size
    refine c_asgT2 (l := n + 994) (ec_pick (k := 5) (S := fun vs _ => ∀ u ∈ vs, ∃ i, u = V.int i ∧ 1 ≤ i ∧ i ≤ 40) rfl (fun H5 e5 _ => ?_) (by decide) (by decide)) (ec_plus hid_none (ec_draw rfl ev_c (by decide) (by decide))) (p4.less (by omega)) fun x y H5 H6 H7 x5 ⟨vs, _, hxm, hvs, _⟩ x6 ⟨size, hy, js, hsz, hjs⟩ e7 p7 => ?_
    · refine EvP.imp (ep_l (el_lst (ea_cons ev_c (ea_cons ev_c (ea_cons ev_c (ea_cons ev_c (ea_cons (ev_op ev_c (ev_op (ev_var rfl) (ev_var rfl) (rv_I (Or.inl (by omega)))) (rv_I ⟨by omega, by omega⟩)) ea_nil))))) (by show 5 ≤ 100000; decide))) fun v H6 e6 ⟨p, h1, h2, h3⟩ => ⟨p, _, h1, h2, h3, rfl, fun u hu => ?_⟩
      have q1 : 1 ≤ 40 / (many * months) := (Int.le_ediv_iff_mul_le (by omega)).mpr (by omega)
      have q2 : 40 / (many * months) ≤ 40 := Int.ediv_le_self _ (by omega)
      simp only [List.mem_cons, List.not_mem_nil, or_false] at hu
      rcases hu with rfl | rfl | rfl | rfl | rfl
      · exact ⟨_, rfl, by decide, by decide⟩
      · exact ⟨_, rfl, by decide, by decide⟩
      · exact ⟨_, rfl, by decide, by decide⟩
      · exact ⟨_, rfl, by decide, by decide⟩
      · exact ⟨_, rfl, q1, q2⟩
    obtain ⟨longest, hx, hlo⟩ := hvs x hxm
    subst hx hy hsz
    have x07 := x04.trans (x5.trans (x6.trans (Exa.of e7)))
    -- lists
    have hcnt : 1 * months.toNat * many.toNat ≤ 42 := by
      rw [Nat.one_mul]
      exact Nat.mul_le_mul (show months.toNat ≤ 14 by omega) (show many.toNat ≤ 3 by omega)
    refine c_asg (m := n + 952) (EvC.more (m := 42) (ec_lcW (k := months.toNat) (P := fun i => 1 ≤ i ∧ i ≤ 40) hid_none (ea_cons (ev_var rfl) ea_nil) (by omega) (fun _ => by rfl) fun i hi => ec_lcI hid_none (ea_cons (ev_var rfl) ea_nil) (by omega) (fun _ => by rfl) fun j hj => EvC.imp (ec_plus hid_none (ec_draw rfl (ev_var rfl) hlo.1 (by omega))) fun _ v _ _ _ ⟨u, hv, w, hw, hw2⟩ => ⟨u, hv, by omega, by omega⟩) hcnt) (p7.less (by omega)) fun v H8 x8 p8 ⟨py, xs, rs, hv, hpy, h8, hrows, hrl, hrs⟩ => ?_
    subst hv
    have npy : py ≠ a := pen_ne p7 hpy
    -- share, free
    refine c_asgT2 (l := n + 951) (ec_draw rfl ev_c (by decide) (by decide)) (ec_newL (el_lst ea_nil (by decide))) (p8.less (by omega)) fun x y H9 HA HB x9 ⟨share, hx, hsh⟩ xA ⟨pf, hy, npf, hpf, hA⟩ eB pB => ?_
    subst hx hy
    have x8B : Exa a H8 HB := x9.trans (xA.trans (Exa.of eB))
    have x0B := x07.trans (x8.trans x8B)
    have hB : HB pf = some (.lst []) := eB _ _ hA
    -- idle
    refine c_asg (m := n + 946) (EvC.more (m := 5) (ec_lcS hid_none (ea_cons (ev_var rfl) ea_nil) (by omega) (fun _ => by rfl) (fun _ => by rfl) fun i hi => ec_lt hid_none (ec_draw rfl ev_c (by decide) (by decide)) (ev_var rfl)) (by omega)) (pB.less (by omega)) fun v HC xC pC ⟨pr, idle, hv, hpr, hC, hpw, hid1⟩ => ?_
    subst hv
    have npr : pr ≠ a := pen_ne pB hpr
    have x0C := x0B.trans xC
    have x8C := x8B.trans xC
    -- the holidays
    let Pv : Nat → L2.St → Hp → Prop := fun i σ' H' => ∃ (pf : Addr) (us : List V) (hs : List (Int × Int)) (x9 x10 : Option V), σ' = [some (.ref a), some (.int many), some (.int months), some (.int longest), some (.int (1 + js)), some (.ref py), some (.int share), some (.ref pf), some (.ref pr), x9, x10, none, none, none, none] ∧
      Exa a HC H' ∧ Pen H' a c (n + 900 - 10 * i) ∧ pf ≠ a ∧ H' pf = some (.lst us) ∧ PrsAt (hid a a H') us hs ∧ hs.length ≤ i ∧ hs.Nodup ∧ ∀ q ∈ hs, (1 ≤ q.1 ∧ q.1 ≤ months) ∧ 1 ≤ q.2 ∧ q.2 ≤ 40
    refine c_forR (b := 2) (m := n + 945) (EvC.imp (ec_draw rfl ev_c (by decide) (by decide)) fun _ v _ _ _ ⟨u, hv, h1, h2⟩ => ⟨u, hv, h1, by omega⟩) (by decide) (pC.less (by omega)) Pv (fun HD xD pD => ⟨pf, [], [], none, none, rfl, xD, pD.less (by omega), npf, xD _ _ npf (xC _ _ npf hB), .nil, by simp, .nil, fun q hq => by cases hq⟩) (fun i σ' H' hi pv => ?_) (fun i σ' H' hi pv => ?_)
    · obtain ⟨pf, us, hs, x9, x10, rfl, q1, q2, q3, q4, q5, q6, q7, q8⟩ := pv
      refine c_tup2 (l := n + 898 - 10 * i) (ec_plus hid_none (ec_draw rfl (ev_var rfl) (by omega) (by omega))) (ec_min (ec_plus hid_none (ec_draw rfl (ev_op (ev_var rfl) ev_c rv_I0) (by omega) (by omega)))) (q2.less (by omega)) fun x y t HD ⟨jx, hx, hx1, hx2⟩ ⟨jy, ⟨jz, hy, hy1, hy2⟩, hy3⟩ xD pD nt hD => ?_
      have hxb : 1 ≤ x ∧ x ≤ months := by omega
      have hyb : 1 ≤ y ∧ y ≤ 40 := by
        rw [hy3]
        split <;> omega
      have hlen : us.length ≤ 10 := by
        have := Paired.length q5
        omega
      have g4 := xD _ _ q3 q4
      have g5 : PrsAt HD us hs := (q5.fwd xD.hid).fwd hid_le
      have hpair : IsPr HD (.ref t) (x, y) := ⟨t, rfl, hD⟩
      refine s_asgL (el_catR (ev_var rfl) g4 (el_rep (k := if !decide ((x, y) ∈ hs) then 1 else 0) (el_lst (ea_cons (ev_var rfl) ea_nil) (by simp)) (ev_intB (ev_op (ev_var rfl) (ev_var rfl) (fun H1 e1 Q2 q2 => ⟨_, _, dp_pr (hpair.fwd e1), dp_prs (sq_of (e1 _ _ g4)) (g5.fwd e1), sh_of (n := 1) (pl_tup fun d hd => by
          simp only [List.mem_cons, List.not_mem_nil, or_false] at hd
          rcases hd with rfl | rfl
          · exact pl_int
          · exact pl_int) (by decide), sh_of (pl_prs hs) (by decide), by rw [any_dP]; exact q2 H1 (Ex.refl _)⟩))) (by split <;> decide) (by split <;> simp)) (by split <;> simp <;> omega)) fun pn HE hpn eE hE => ?_
      have npn : pn ≠ a := pen_ne pD hpn
      by_cases hin : (x, y) ∈ hs
      · rw [decide_eq_true hin] at hE
        refine ⟨pn, us, hs, _, _, rfl, q1.trans (xD.trans (Exa.of eE)), (pD.ex eE).less (by omega), npn, ?_, (q5.fwd xD.hid).fwd (hid_ex eE), by omega, q7, q8⟩
        rw [hE]
        simp
      · rw [decide_eq_false hin] at hE
        refine ⟨pn, us ++ [.ref t], hs ++ [(x, y)], _, _, rfl, q1.trans (xD.trans (Exa.of eE)), (pD.ex eE).less (by omega), npn, ?_, paired_snoc ((q5.fwd xD.hid).fwd (hid_ex eE)) ⟨t, rfl, ?_⟩, by rw [List.length_append]; simp; omega, ?_, fun q hq => ?_⟩
        · rw [hE]
          simp
        · rw [hid_at nt nt]
          exact eE _ _ hD
        · rw [List.nodup_append]
          exact ⟨q7, by simp, fun u hu v hv huv => hin (by
            rw [List.mem_singleton.mp hv] at huv
            rw [← huv]
            exact hu)⟩
        · rcases List.mem_append.mp hq with hq | hq
          · exact q8 q hq
          · rw [List.mem_singleton.mp hq]
            exact ⟨hxb, hyb⟩
    · obtain ⟨pf, us, hs, x9, x10, rfl, q1, q2, q3, q4, q5, q6, q7, q8⟩ := pv
      have x8' := x8C.trans q1
      have gpy := x8' _ _ npy h8
      have grows : RowsAt (hid a a H') xs rs := hrows.fwd x8'.hid
      have gpr := q1 _ _ npr hC
      have okd : ∀ (fi : Int) (rs' : List Int) (hs' : List (Int × Int)), 0 ≤ fi → fi < 1 + js → ((∀ i ∈ rs', 0 ≤ i ∧ i < 1 + js) ∧ rs'.Nodup ∧ rs'.length ≤ 20) → ((∀ q ∈ hs', (1 ≤ q.1 ∧ q.1 ≤ months) ∧ 1 ≤ q.2 ∧ q.2 ≤ 40) ∧ hs'.Nodup ∧ hs'.length < 64) → (⟨rs, months.toNat, 1 + js, fi, rs', hs'⟩ : CD).Ok := fun fi rs' hs' f1 f2 h1 h2 =>
        ⟨⟨by show 1 ≤ rs.length ∧ rs.length ≤ 400; omega, by show 1 ≤ months.toNat ∧ months.toNat ≤ 14; omega, fun y hy => (hrs y hy).1, fun y hy d hd => (hrs y hy).2 d hd⟩, by show 1 ≤ 1 + js ∧ 1 + js ≤ 10; omega, ⟨f1, f2⟩, h1, ⟨fun q hq => ⟨⟨(h2.1 q hq).1.1, by
          show q.1 ≤ ((months.toNat : Nat) : Int)
          have := (h2.1 q hq).1.2
          omega⟩, (h2.1 q hq).2⟩, h2.2⟩⟩
      have hidl : idle.length ≤ 20 := by
        rcases pigeon (a := 0) hpw hid1 with h | h
        · omega
        · rw [h]; decide
      refine ⟨_, rfl, ⟨_, rfl, ec_draw (G := hid a a H') rfl (ev_var rfl) (show 1 ≤ 1 + js by omega) (by omega) H' (n + 800) hid_le (q2.less (by omega)) _ fun v HD xD pD ⟨fi, hv, hf1, hf2⟩ => ⟨_, rfl, ⟨_, rfl, ?_⟩⟩⟩⟩
      subst hv
      have dok := okd fi idle hs hf1 hf2 ⟨hid1, lt_nodup hpw, hidl⟩ ⟨q8, q7, by omega⟩
      have hts := turn_small dok (by show rs.length ≤ 3; omega)
      have xDr : RowsAt HD xs rs := (grows.fwd xD.hid).fwd hid_le
      have x0D := x0C.trans (q1.trans xD)
      refine ⟨_, ⟨py, pr, pf, ⟨rs, months.toNat, 1 + js, fi, idle, hs⟩, xs, us, rfl, dok, hts.2, xD _ _ npy gpy, xDr, xD _ _ npr gpr, xD _ _ q3 q4, (q5.fwd xD.hid).fwd hid_le, rfl⟩, fun v HE eE r => ?_⟩
      obtain ⟨pp, pw, kvs, _, _, _, _, _, _, _, ws, rfl, hpp, hE, hpv, hph, hkw, hws, hiff⟩ := r
      show tSeq _ _ _ _ _
      refine q_when (et_test (ev_neNil (d := ws.map PyData.int) (n := 1) (ev_ix_dict (ev_var rfl) hE hkw) (fun H1 e1 => .lst (sq_of (e1 _ _ hws)) (dpall_ints ws)) (pl_dL ws) (by decide))) (fun hb HF eF => ?_) (fun hb HF eF => ?_)
      · refine s_ret (ev_var rfl) fun HG eG => ?_
        have eDG := eE.trans (eF.trans eG)
        refine k pp HG _ (x0D.trans (Exa.of eDG)) ((pD.ex eDG).less (by omega)) dok ⟨hts.2, ?_⟩ (PlainAt.fwd ⟨kvs, _, _, _, _, _, _, _, hE, hpv, hph⟩ (eF.trans eG)) (by show rs.length ≤ 3; omega) (by show hs.length ≤ 2; omega)
        refine Classical.byContradiction fun h => ?_
        have : ws = [] := hiff.mpr fun i hi => by
          cases h3 : CD.work _ (i : Int) with
          | false => rfl
          | true => exact absurd ⟨i, hi, h3⟩ h
        rw [this] at hb
        cases hb
      · have dok' := okd fi [] [] hf1 hf2 ⟨(fun _ h => by cases h), .nil, by simp⟩ ⟨(fun _ h => by cases h), .nil, by simp⟩
        have hts' := turn_small dok' (by show rs.length ≤ 3; omega)
        have eDF := eE.trans eF
        refine ⟨_, rfl, ⟨_, rfl, ?_⟩⟩
        refine ev_ix_dict (ev_var rfl) (eF _ _ hE) hpv.first HF (Ex.refl _) _ fun HG eG => ?_
        refine el_lst ea_nil (by decide) HG (Ex.refl _) _ fun p1 HH hp1 eH hH => ?_
        refine el_lst ea_nil (by decide) HH (Ex.refl _) _ fun p2 HI hp2 eI hI => ?_
        have eDI := eDF.trans (eG.trans (eH.trans eI))
        refine ⟨_, ⟨py, p1, p2, ⟨rs, months.toNat, 1 + js, fi, [], []⟩, xs, [], rfl, dok', hts'.2, eDI _ _ (xD _ _ npy gpy), xDr.fwd eDI, eI _ _ hH, hI, .nil, rfl⟩, fun v HJ eJ r => ?_⟩
        obtain ⟨pp', pw', kvs', _, _, _, _, _, _, _, ws', rfl, hpp', hE', hpv', hph', hkw', hws', hiff'⟩ := r
        refine k pp' HJ _ (x0D.trans (Exa.of (eDI.trans eJ))) ((pD.ex (eDI.trans eJ)).less (by omega)) dok' ⟨hts'.2, 0, by omega, ?_⟩ ⟨kvs', _, _, _, _, _, _, _, hE', hpv', hph'⟩ (by show rs.length ≤ 3; omega) (by simp)
        simp [CD.work]
end
end K9
end
section
set_option Elab.async false
set_option linter.all false
set_option maxRecDepth 100000
set_option maxHeartbeats 1000000
namespace K9
open PySem PySem.Spec PyProof.Rows L2 Evl
/-! ### texts and their lines: weights -/
def wt (L : List Str) : Nat := (L.map (·.length)).sum + L.length
def Cl (z : Str) : Prop := ∀ c ∈ TL.tl z, c ≠ 10 ∧ c < 0x110000
theorem wt_nil : wt [] = 0 := rfl
theorem wt_cons (x : Str) (L : List Str) : wt (x :: L) = x.length + 1 + wt L := by
  unfold wt
  rw [List.map_cons, List.sum_cons, List.length_cons]
  omega
theorem wt_app (A B : List Str) : wt (A ++ B) = wt A + wt B := by
  unfold wt
  rw [List.map_append, List.sum_append, List.length_append]
  omega
theorem wt_cut (L : List Str) (k : Nat) : wt (L.take k) + wt (L.drop k) = wt L := by
  rw [← wt_app, List.take_append_drop]
theorem wt_take (L : List Str) (k : Nat) : wt (L.take k) ≤ wt L := by
  have := wt_cut L k
  omega
theorem wt_drop (L : List Str) (k : Nat) : wt (L.drop k) ≤ wt L := by
  have := wt_cut L k
  omega
theorem wt_at {L : List Str} {k : Nat} {x : Str} (h : L[k]? = some x) : wt (L.take k) + (x.length + 1) + wt (L.drop (k + 1)) = wt L := by
  have h1 := wt_cut L k
  rw [drop_of h, wt_cons] at h1
  omega
theorem wt_len (L : List Str) : L.length ≤ wt L := by
  unfold wt
  omega
theorem join_wt {y : Str} (hy : y.length = 1) (L : List Str) : (Txt.join y L).length ≤ wt L := by
  have := join_len y L
  rw [hy] at this
  unfold wt
  omega
theorem join_size {y : Str} (hy : y.length = 1) {L : List Str} {b : Nat} (h : wt L ≤ b) : (L.map (·.length)).sum + L.length * y.length ≤ b := by
  rw [hy]
  unfold wt at h
  omega
theorem sep1_1 : sep1.length = 1 := by decide +kernel
theorem nl_1 : nl.length = 1 := by decide +kernel
theorem words_wt (z : Str) : wt (wordsOf z) ≤ z.length + 1 := split_weight z sep1 (by rw [sep1_1]; exact Nat.le_refl _)
theorem lines_wt (z : Str) : wt (linesOf z) ≤ z.length + 1 := split_weight z nl (by rw [nl_1]; exact Nat.le_refl _)
theorem Cl.sane {z : Str} (h : Cl z) : Sane z := fun c hc => (h c hc).2
theorem words_cl {z x : Str} (hz : Cl z) (h : x ∈ wordsOf z) : Cl x := fun d hd => by
  have hm : TL.tl x ∈ (Txt.split z sep1).map TL.tl := List.mem_map_of_mem h
  rw [split_tl tl_sep1 (by decide)] at hm
  rcases spl_mem _ _ _ hm d hd with h2 | h2
  · cases h2
  · exact hz d h2
theorem spl_no {c : Nat} : ∀ (l acc : List Nat), c ∉ acc → ∀ p ∈ TL.spl [c] 0 acc l, c ∉ p
  | [], acc, ha, p, h => by
    rw [TL.spl_nil] at h
    rw [List.mem_singleton.mp h]
    exact ha
  | d :: l, acc, ha, p, h => by
    cases e : TL.pre [c] (d :: l) with
    | true =>
      rw [TL.spl_hit e] at h
      rcases List.mem_cons.mp h with h | h
      · rw [h]
        exact ha
      · exact spl_no l [] (by simp) p h
    | false =>
      rw [TL.spl_miss e] at h
      refine spl_no l (acc ++ [d]) (fun hm => ?_) p h
      rcases List.mem_append.mp hm with hm | hm
      · exact ha hm
      · rw [List.mem_singleton.mp hm] at e
        simp [TL.pre] at e
theorem lines_cl {z x : Str} (hz : Sane z) (h : x ∈ linesOf z) : Cl x := fun d hd => by
  have hm : TL.tl x ∈ (Txt.split z nl).map TL.tl := List.mem_map_of_mem h
  rw [split_tl tl_nl (by decide)] at hm
  refine ⟨fun e => ?_, lines_sane hz h d hd⟩
  rw [e] at hd
  exact spl_no _ _ (by simp) _ hm hd
theorem joinL_mem {s : List Nat} : ∀ {ps : List (List Nat)} {c : Nat}, c ∈ TL.joinL s ps → c ∈ s ∨ ∃ p ∈ ps, c ∈ p
  | [], c, h => by cases h
  | [p], c, h => .inr ⟨p, List.mem_singleton.mpr rfl, h⟩
  | p :: q :: r, c, h => by
    rcases List.mem_append.mp (show c ∈ p ++ (s ++ TL.joinL s (q :: r)) from h) with h | h
    · exact .inr ⟨p, List.mem_cons_self, h⟩
    · rcases List.mem_append.mp h with h | h
      · exact .inl h
      · rcases joinL_mem h with h | ⟨p', h1, h2⟩
        · exact .inl h
        · exact .inr ⟨p', List.mem_cons_of_mem _ h1, h2⟩
theorem join_all {y : Str} {L : List Str} {P : Nat → Prop} (hy : ∀ c ∈ TL.tl y, P c) (h : ∀ x ∈ L, ∀ c ∈ TL.tl x, P c) : ∀ c ∈ TL.tl (Txt.join y L), P c := fun c hc => by
  rw [TL.join_eq, TL.tl_join] at hc
  rcases joinL_mem hc with hc | ⟨p, h1, h2⟩
  · exact hy c hc
  · obtain ⟨x, hx, rfl⟩ := List.mem_map.mp h1
    exact h x hx c h2
theorem join_cl {L : List Str} (h : ∀ x ∈ L, Cl x) : Cl (Txt.join sep1 L) := join_all (by rw [tl_sep1]; simp) h
theorem join_sane {L : List Str} (h : ∀ x ∈ L, Cl x) : Sane (Txt.join nl L) := join_all (by rw [tl_nl]; simp) fun x hx c hc => (h x hx c hc).2
theorem lines_join {L : List Str} (h : ∀ x ∈ L, Cl x) : (linesOf (Txt.join nl L)).length ≤ L.length + 1 := by
  cases L with
  | nil =>
    have := lines_len (Txt.join nl [])
    have h2 := join_wt nl_1 []
    rw [wt_nil] at h2
    simp
    omega
  | cons a r =>
    have e : linesOf (Txt.join nl (a :: r)) = a :: r := TL.split_join (s := 10) (S := []) tl_nl (by decide +kernel) (by simp) fun p hp hc => (h p hp 10 hc).1 rfl
    rw [e]
    exact Nat.le_succ _
theorem lines_join1 {L : List Str} (h : ∀ x ∈ L, Cl x) (hne : L ≠ []) : linesOf (Txt.join nl L) = L := TL.split_join (s := 10) (S := []) tl_nl (by decide +kernel) hne fun p hp hc => (h p hp 10 hc).1 rfl
theorem cl_small {z : Str} (h : z.cps.all (fun c => decide (c ≠ 10) && decide (c < 256)) = true) : Cl z := fun c hc => by
  rw [← Array.all_toList, List.all_eq_true] at h
  have := h c hc
  simp at this
  exact ⟨this.1, by omega⟩
theorem cl_num {i : Int} (h : 0 ≤ i) : Cl (numS i) := fun c hc => by
  rw [tl_numS h] at hc
  have := TL.numL_digits i.toNat c hc
  omega
/-- a text of at most T signs, N lines -/
def Tx (T N : Nat) (z : Str) : Prop := z.length ≤ T ∧ Sane z ∧ (linesOf z).length ≤ N
theorem tx_join {T N : Nat} {L : List Str} (h : ∀ x ∈ L, Cl x) (h1 : wt L ≤ T) (h2 : L.length + 1 ≤ N) : Tx T N (Txt.join nl L) := ⟨Nat.le_trans (join_wt nl_1 L) h1, join_sane h, Nat.le_trans (lines_join h) h2⟩
/-! ### the text of a small calendar -/
theorem cl_app {a b : Str} (h1 : Cl a) (h2 : Cl b) : Cl (a ++ b) := fun c hc => by
  rw [tl_app] at hc
  rcases List.mem_append.mp hc with hc | hc
  · exact h1 c hc
  · exact h2 c hc
theorem cl_numLine {wd : Str} {l : List Int} (h : Cl wd) (hl : ∀ i ∈ l, SmI i) : Cl (numLine wd l) := join_cl fun x hx => by
  rcases List.mem_cons.mp hx with rfl | hx
  · exact h
  · obtain ⟨i, hi, rfl⟩ := List.mem_map.mp hx
    exact cl_num (hl i hi).1
theorem text_tx {d : CD} (ok : d.Ok) (hy : d.ys.length ≤ 3) (hh : d.hs.length ≤ 2) : Tx 1500 8 (textP d.ys d.w d.f d.rs d.hs) := by
  have S := ok.small
  have hl := line_len S
  have e : textP d.ys d.w d.f d.rs d.hs = Txt.join nl (linesP d.ys d.w d.f d.rs d.hs) := rfl
  rw [e]
  have hn : (linesP d.ys d.w d.f d.rs d.hs).length ≤ 7 := by
    unfold linesP
    simp
    omega
  refine tx_join (fun x hx => ?_) ?_ (by omega)
  · have hw : Cl wYear := cl_small (by decide +kernel)
    have hr : Cl wRest := cl_small (by decide +kernel)
    have hys : ∀ y ∈ d.ys, ∀ i ∈ y, SmI i := fun y hy i hi => by
      have := ok.ys.days y hy i hi
      exact ⟨by omega, by omega⟩
    unfold linesP at hx
    rcases List.mem_append.mp hx with hx | hx
    · rcases List.mem_append.mp hx with hx | hx
      · rcases List.mem_cons.mp hx with rfl | hx
        · unfold headLine
          exact cl_app (cl_app (cl_app (cl_app (cl_small (by decide +kernel)) (cl_small (by decide +kernel))) (cl_num (by have := ok.w; omega))) (cl_small (by decide +kernel))) (cl_num ok.f.1)
        · rw [List.mem_singleton.mp hx]
          exact cl_numLine hr fun i hi => by
            have := ok.rs.1 i hi
            have := ok.w
            exact ⟨by omega, by omega⟩
      · obtain ⟨q, hq, rfl⟩ := List.mem_map.mp hx
        have := ok.hs.1 q hq
        unfold holLine
        exact cl_app (cl_app (cl_app (cl_app (cl_small (by decide +kernel)) (cl_small (by decide +kernel))) (cl_num (by omega))) (cl_small (by decide +kernel))) (cl_num (by omega))
    · obtain ⟨y, hy, rfl⟩ := List.mem_map.mp hx
      exact cl_numLine hw (hys y hy)
  · have := sum_le (g := fun x : Str => x.length) (b := 200) (l := linesP d.ys d.w d.f d.rs d.hs) hl
    unfold wt
    have h2 : (linesP d.ys d.w d.f d.rs d.hs).length * 200 ≤ 7 * 200 := Nat.mul_le_mul_right _ hn
    omega
end K9
end
section
set_option Elab.async false
set_option linter.all false
set_option maxRecDepth 100000
set_option maxHeartbeats 1000000
namespace K9
open PySem PySem.Spec PyProof.Rows L2 Evl
/-! ### a text times a number -/
def rRepS : R2 := fun x y H Q => ∃ (z : Str) (i : Int), x = .str z ∧ y = .int i ∧ MulOk z i ∧ Q (.str (PySem.Txt.mul z i)) H
theorem op_repS {X : Cx} : OpR X (binaryOp .Mult) rRepS := by
  intro pins s σ H x y v u Q I rx ry h
  obtain ⟨z, i, rfl, rfl, hok, q⟩ := h
  obtain ⟨t, rfl⟩ := rx
  obtain ⟨t', rfl⟩ := ry
  exact SB.mul hok fun t' k => ⟨.str _, H, I.tok _, ⟨_, rfl⟩, q⟩
theorem fold_app : ∀ (L : List (Array Nat)) (a : Array Nat), (L.foldl (· ++ ·) a).toList = a.toList ++ (L.map Array.toList).flatten
  | [], a => by simp
  | b :: L, a => by
    rw [List.foldl_cons, fold_app L (a ++ b), List.map_cons, List.flatten_cons, Array.toList_append, List.append_assoc]
theorem mul_tl {z : Str} {i : Int} (h : 1 ≤ i) : TL.tl (PySem.Txt.mul z i) = (List.replicate i.toNat (TL.tl z)).flatten := by
  unfold PySem.Txt.mul
  rw [if_neg (by omega)]
  by_cases h1 : i = 1
  · subst h1
    rw [if_pos (by rfl)]
    show TL.tl z = (List.replicate 1 (TL.tl z)).flatten
    simp
  · by_cases h2 : z.length = 0
    · rw [if_pos (by rw [h2]; simp)]
      have e : TL.tl z = [] := List.length_eq_zero_iff.mp (by rw [← TL.len_tl]; exact h2)
      rw [e]
      simp
    · rw [if_neg (by simp [h1, h2])]
      show ((List.replicate i.toNat z.cps).foldl (· ++ ·) #[]).toList = _
      rw [fold_app, List.map_replicate]
      rfl
theorem mul_len {z : Str} {i : Int} (h : 1 ≤ i) : (PySem.Txt.mul z i).length = i.toNat * z.length := by
  rw [TL.len_tl, mul_tl h, TL.len_tl]
  simp
theorem mul_cl {z : Str} {i : Int} (h : 1 ≤ i) (hz : Cl z) : Cl (PySem.Txt.mul z i) := fun c hc => by
  rw [mul_tl h] at hc
  obtain ⟨l, h1, h2⟩ := List.mem_flatten.mp hc
  rw [List.eq_of_mem_replicate h1] at h2
  exact hz c h2
theorem cut_takeK (xs : List V) (k : Nat) : cutV xs none (some (k : Int)) = xs.take k := by
  show (xs.drop (HT.sIx xs.length 0 none)).take (HT.sIx xs.length xs.length (some (k : Int)) - HT.sIx xs.length 0 none) = _
  rw [HT.sIx_nat, HT.sIx_none, List.drop_zero, Nat.sub_zero]
  by_cases h : k ≤ xs.length
  · rw [Nat.min_eq_left h]
  · rw [Nat.min_eq_right (by omega), List.take_of_length_le (Nat.le_refl _), List.take_of_length_le (by omega)]
/-- rows of texts -/
def IsSs (H : Hp) (v : V) (L : List Str) : Prop := ∃ t, v = .ref t ∧ H t = some (.lst (L.map V.str))
theorem ss_fwd {H H' : Hp} {vs : List V} {Ls : List (List Str)} (h : Paired (IsSs H) vs Ls) (e : Ex H H') : Paired (IsSs H') vs Ls := Paired.mapP h fun _ _ ⟨t, h1, h2⟩ => ⟨t, h1, e _ _ h2⟩
def EvRs (ta : TA) (σ : L2.St) (H : Hp) (Ls : List (List Str)) : Prop := ∀ H1, Ex H H1 → ∀ Q : List V → Hp → Prop, (∀ vs H2, Ex H1 H2 → Paired (IsSs H2) vs Ls → Q vs H2) → ta σ H1 Q
section
variable {K : PySem.W.Frag} {σ : L2.St} {G H : Hp} {ta : TA} {te tb : TE} {L M : List Str} {Ls Ms : List (List Str)} {p a c : Addr} {xs ys : List V} {n m : Nat} {P : Int → Prop} {E : XK} {tt : TT} {g : TG} {vs0 : List Nat}
theorem es_take {k : Nat} (h : Ev te σ H (.ref p)) (hp : H p = some (.lst (L.map V.str))) (hb : Ev tb σ H (.int (k : Int))) : EvL (tSl (rSlL K) te tNoPart (tPart tb)) σ H ((L.take k).map V.str) := el_is (el_sl h eo_none (eo_some hb) (sq_of hp)) (by rw [cut_takeK, List.map_take])
theorem es_drop {k : Nat} (h : Ev te σ H (.ref p)) (hp : H p = some (.lst (L.map V.str))) (hb : Ev tb σ H (.int (k : Int))) : EvL (tSl (rSlL K) te (tPart tb) tNoPart) σ H ((L.drop k).map V.str) := el_is (el_sl h (eo_some hb) eo_none (sq_of hp)) (by rw [cut_dropK, List.map_drop])
theorem el_catN (ha : EvL te σ H xs) (hb : EvL tb σ H ys) (hs : xs.length + ys.length ≤ 1000000) : EvL (tOp rCat te tb) σ H (xs ++ ys) := fun H1 e Q q =>
  ha H1 e _ fun p1 H2 hp1 e2 h2 => hb H2 (e.trans e2) _ fun p2 H3 hp2 e3 h3 => ⟨p1, p2, xs, ys, rfl, rfl, e3 _ _ h2, h3, len_ok hs, fun r hr => q r _ (fresh_back (e2.trans e3) hr) (e2.trans (e3.trans (Ex.new hr))) upd_same⟩
theorem es_cat (ha : EvL te σ H (L.map V.str)) (hb : EvL tb σ H (M.map V.str)) (hs : L.length + M.length ≤ 1000000) : EvL (tOp rCat te tb) σ H ((L ++ M).map V.str) := el_is (el_catN ha hb (by rw [List.length_map, List.length_map]; exact hs)) (by rw [List.map_append])
theorem es_one {z : Str} (h : Ev te σ H (.str z)) : EvL (tLst (tCons te tNil)) σ H ([z].map V.str) := el_lst (ea_cons h ea_nil) (by simp)
theorem rs_nil : EvRs tNil σ H [] := fun H1 e Q q => q [] H1 (Ex.refl _) .nil
theorem rs_new (h : EvL te σ H (L.map V.str)) (hr : EvRs ta σ H Ls) : EvRs (tCons te ta) σ H (L :: Ls) := fun H1 e Q q =>
  h H1 e _ fun p H2 hp e2 h2 => hr H2 (e.trans e2) _ fun vs H3 e3 hvs => q _ H3 (e2.trans e3) (.cons ⟨p, rfl, e3 _ _ h2⟩ hvs)
theorem rs_old (h : Ev te σ H (.ref p)) (hp : H p = some (.lst (L.map V.str))) (hr : EvRs ta σ H Ls) : EvRs (tCons te ta) σ H (L :: Ls) := fun H1 e Q q =>
  h H1 e _ fun H2 e2 => hr H2 (e.trans e2) _ fun vs H3 e3 hvs => q _ H3 (e2.trans e3) (.cons ⟨p, rfl, (e.trans (e2.trans e3)) _ _ hp⟩ hvs)
/-- a new list of such rows -/
def NewSs (Ls : List (List Str)) (H : Hp) (v : V) (H2 : Hp) : Prop := ∃ p vs, v = .ref p ∧ H p = none ∧ H2 p = some (.lst vs) ∧ Paired (IsSs H2) vs Ls
theorem es_rows (h : EvRs ta σ H Ls) (hs : Ls.length ≤ 100000) : EvP (tLst ta) σ H (NewSs Ls H) := fun H1 e Q q => h H1 e _ fun vs H2 e2 hvs => ⟨by rw [Paired.length hvs]; exact sz_of hs, fun p hp => q _ _ (e2.trans (Ex.new hp)) ⟨p, vs, rfl, fresh_back (e.trans e2) hp, upd_same, ss_fwd hvs (Ex.new hp)⟩⟩
theorem es_rowsCat {vs : List V} (h : Ev te σ H (.ref p)) (hp : H p = some (.lst vs)) (hvs : Paired (IsSs H) vs Ls) (hb : EvP tb σ H (NewSs Ms H)) (hs : Ls.length + Ms.length ≤ 100000) : EvP (tOp rCat te tb) σ H (NewSs (Ls ++ Ms) H) := fun H1 e Q q =>
  h H1 e _ fun H2 e2 => hb H2 (e.trans e2) _ fun v H3 e3 ⟨r, us, hv, hr, h3, hus⟩ => ⟨p, r, vs, us, rfl, hv, (e.trans (e2.trans e3)) _ _ hp, h3, by rw [Paired.length hvs, Paired.length hus]; exact sz_of hs, fun u hu => q _ _ (e2.trans (e3.trans (Ex.new hu)))
    ⟨u, vs ++ us, rfl, fresh_back (e.trans (e2.trans e3)) hu, upd_same, paired_app (ss_fwd hvs (e.trans (e2.trans (e3.trans (Ex.new hu))))) (ss_fwd hus (Ex.new hu))⟩⟩
theorem ev_joinRow {vs : List V} {y : Str} {k : Nat} {ti : TE} (hy : Ev te σ H (.str y)) (h : Ev tb σ H (.ref p)) (hp : H p = some (.lst vs)) (hvs : Paired (IsSs H) vs Ls) (hi : Ev ti σ H (.int (k : Int))) (hL : Ls[k]? = some L) (hz : (L.map (·.length)).sum + L.length * y.length ≤ 16777216) :
    Ev (tM1 (rJoin K) te (tOp (rIxL K) tb ti)) σ H (.str (Txt.join y L)) := by
  obtain ⟨v, hv, t, rfl, ht⟩ := paired_get2 hvs hL
  exact ev_joinR hy (ev_op h hi (rv_ixL (sq_of hp) (atI_nat hv))) (sq_of ht) hz
theorem ec_pickV {i : Nat} {o : Addr} {vs : List V} (hG : G a = none) (hσ : σ[i]? = some (some (.ref a))) (hb : Ev tb σ G (.ref o)) (ho : G o = some (.lst vs)) (h1 : 1 ≤ vs.length) (h2 : vs.length ≤ 100000000) :
    EvC a c 1 (tCall (sp38 K) [] E (tCons (tVar i) (tCons tb tNil))) σ G (fun _ v _ => v ∈ vs) := fun H m e p Q q =>
  ⟨_, hσ, hb H e _ fun H2 e2 => ⟨a, c, o, vs, m, rfl, (fun z => by rw [z, hG] at ho; cases ho), (e.trans e2) _ _ ho, h1, h2, p.ex e2, fun u H3 x3 p3 hu => q u H3 ((Exa.of e2).trans x3) p3 hu⟩⟩
theorem ec_lcD {xs : Int → List V} (hG : G a = none) (h : EvC a c n te σ G (IntP P)) (he : ∀ i, P i → ∀ H1, Ex G H1 → EvL (tLc (iRng1 (tCons (tC (.int i)) tNil)) g tt tb vs0) σ H1 (xs i)) : EvC a c n (tLc (iRng1 (tCons te tNil)) g tt tb vs0) σ G (fun _ v H2 => ∃ i p, P i ∧ v = .ref p ∧ H2 p = some (.lst (xs i))) := fun H m e p Q q =>
  h H m e p _ fun v H1 x1 p1 ⟨i, hv, hi⟩ => by
    subst hv
    exact he i hi H1 (exg hG e x1) H1 (Ex.refl _) _ fun r H2 hr e2 h2 => q _ H2 (x1.trans (Exa.of e2)) (p1.ex e2) ⟨i, r, hi, rfl, h2⟩
end
end K9
end
section
set_option Elab.async false
set_option linter.all false
set_option maxRecDepth 100000
set_option maxHeartbeats 1000000
namespace K9
open PySem PySem.Spec PyProof.Rows L2 Evl
theorem tx_join2 {T N : Nat} {L : List Str} (h : ∀ x ∈ L, Cl x) (h1 : wt L ≤ T) (h2 : L.length ≤ N) (h3 : 1 ≤ N) : Tx T N (Txt.join nl L) := by
  refine ⟨Nat.le_trans (join_wt nl_1 L) h1, join_sane h, ?_⟩
  cases L with
  | nil => exact Nat.le_trans (lines_join h) h3
  | cons a r =>
    rw [lines_join1 h (by simp)]
    exact h2
theorem wt_skip (L : List Str) (k : Nat) : wt (L.take k) + wt (L.drop (k + 1)) ≤ wt L := by
  have h1 := wt_cut L k
  have h2 : L.drop (k + 1) = (L.drop k).drop 1 := by rw [List.drop_drop]
  have h3 := wt_drop (L.drop k) 1
  rw [h2]
  omega
theorem wt_one (x : Str) : wt [x] = x.length + 1 := by rw [wt_cons, wt_nil]
theorem cl_take {L : List Str} {k : Nat} (h : ∀ x ∈ L, Cl x) : ∀ x ∈ L.take k, Cl x := fun x hx => h x (List.mem_of_mem_take hx)
theorem cl_drop {L : List Str} {k : Nat} (h : ∀ x ∈ L, Cl x) : ∀ x ∈ L.drop k, Cl x := fun x hx => h x (List.mem_of_mem_drop hx)
theorem cl_cat {L M : List Str} (h : ∀ x ∈ L, Cl x) (h2 : ∀ x ∈ M, Cl x) : ∀ x ∈ L ++ M, Cl x := fun x hx => by
  rcases List.mem_append.mp hx with hx | hx
  · exact h x hx
  · exact h2 x hx
theorem cl_one {z : Str} (h : Cl z) : ∀ x ∈ [z], Cl x := fun x hx => by rw [List.mem_singleton.mp hx]; exact h
/-- the rows that one change of a line's words may give -/
theorem words_rows {W : List Str} {od : Str} {k j : Nat} {R : List Str} (hW : ∀ x ∈ W, Cl x) (ho : Cl od) (hl : od.length ≤ 5000) (h : [(W.take k ++ [od]) ++ W.drop (k + 1), (W.take k ++ [od]) ++ W.drop k, W.take k ++ W.drop (k + 1)][j]? = some R) : (∀ x ∈ R, Cl x) ∧ wt R ≤ wt W + 5001 := by
  have hm := List.mem_of_getElem? h
  have h1 := wt_skip W k
  have h2 := wt_cut W k
  have h3 := wt_one od
  simp only [List.mem_cons, List.not_mem_nil, or_false] at hm
  rcases hm with rfl | rfl | rfl
  · exact ⟨cl_cat (cl_cat (cl_take hW) (cl_one ho)) (cl_drop hW), by rw [wt_app, wt_app]; omega⟩
  · exact ⟨cl_cat (cl_cat (cl_take hW) (cl_one ho)) (cl_drop hW), by rw [wt_app, wt_app]; omega⟩
  · exact ⟨cl_cat (cl_take hW) (cl_drop hW), by rw [wt_app]; omega⟩
theorem lines_rows {L : List Str} {l hd : Str} {A B j : Nat} {R : List Str} (hL : ∀ x ∈ L, Cl x) (hl : L[A]? = some l) (hh : Cl hd) (hl2 : hd.length ≤ 60)
    (h : ([L.take A ++ L.drop (A + 1), (L.take A ++ [l]) ++ L.drop A, ((L.take A ++ L.drop (A + 1)).take B ++ [l]) ++ (L.take A ++ L.drop (A + 1)).drop B, L ++ [wYear]] ++ [(L.take 1 ++ [hd]) ++ L.drop 2, (L.take 2 ++ [Str.ofString "holiday 1 1"]) ++ L.drop 2])[j]? = some R) :
    (∀ x ∈ R, Cl x) ∧ wt R ≤ 2 * wt L + 100 ∧ R.length ≤ L.length + 1 := by
  have hm := List.mem_of_getElem? h
  have hlm := hL l (List.mem_of_getElem? hl)
  have a1 := wt_at hl
  have a2 := wt_skip L A
  have a3 := wt_cut L A
  have a4 := wt_cut (L.take A ++ L.drop (A + 1)) B
  rw [wt_app (L.take A)] at a4
  have a5 := wt_skip L 1
  have a6 := wt_cut L 2
  have b1 : wt [wYear] ≤ 60 := by decide +kernel
  have b2 : wt [Str.ofString "holiday 1 1"] ≤ 60 := by decide +kernel
  have b3 := wt_one hd
  have b4 := wt_one l
  have cLess : ∀ x ∈ L.take A ++ L.drop (A + 1), Cl x := cl_cat (cl_take hL) (cl_drop hL)
  have n1 : (L.take A ++ L.drop (A + 1)).length ≤ L.length := by
    rw [List.length_append, List.length_take, List.length_drop]
    omega
  simp only [List.mem_append, List.mem_cons, List.not_mem_nil, or_false] at hm
  rcases hm with (rfl | rfl | rfl | rfl) | (rfl | rfl)
  · exact ⟨cLess, by rw [wt_app]; omega, by omega⟩
  · exact ⟨cl_cat (cl_cat (cl_take hL) (cl_one hlm)) (cl_drop hL), by rw [wt_app, wt_app]; omega, by simp; omega⟩
  · refine ⟨cl_cat (cl_cat (cl_take cLess) (cl_one hlm)) (cl_drop cLess), by rw [wt_app, wt_app]; omega, ?_⟩
    generalize L.take A ++ L.drop (A + 1) = M at n1
    simp
    omega
  · exact ⟨cl_cat hL (cl_one (cl_small (by decide +kernel))), by rw [wt_app]; omega, by simp⟩
  · exact ⟨cl_cat (cl_cat (cl_take hL) (cl_one hh)) (cl_drop hL), by rw [wt_app, wt_app]; omega, by simp; omega⟩
  · exact ⟨cl_cat (cl_cat (cl_take hL) (cl_one (cl_small (by decide +kernel)))) (cl_drop hL), by rw [wt_app, wt_app]; omega, by simp; omega⟩
section
variable {K : PySem.W.Frag} {σ : L2.St} {G H : Hp} {te tb : TE} {a c : Addr} {n : Nat} {P : Int → Prop}
theorem ec_joinCat {A : List Str} {B : Int → List Str} {y : Str} (hl : EvL te σ G (A.map V.str)) (h : EvC a c n tb σ G (fun _ v H2 => ∃ i p, P i ∧ v = .ref p ∧ H2 p = some (.lst ((B i).map V.str)))) (hz : ∀ i, P i → A.length + (B i).length ≤ 1000 ∧ ((A ++ B i).map (·.length)).sum + (A ++ B i).length * y.length ≤ 16777216) :
    EvC a c n (tM1 (rJoin K) (tC (.str y)) (tOp rCat te tb)) σ G (fun _ v _ => ∃ i, P i ∧ v = .str (Txt.join y (A ++ B i))) := fun H m e p Q q =>
  ⟨⟨y, rfl⟩, hl H e _ fun p1 H1 hp1 e1 h1 => h H1 m (e.trans e1) (p.ex e1) _ fun v H2 x2 p2 ⟨i, r, hi, hv, hr⟩ =>
    ⟨p1, r, A.map V.str, (B i).map V.str, rfl, hv, x2 _ _ (pen_ne p hp1) h1, hr, by rw [List.length_map, List.length_map]; exact len_ok (by have := (hz i hi).1; omega), fun u hu => ⟨y, u, A ++ B i, rfl, rfl, .inl (by rw [List.map_append]; exact sq_of upd_same), (hz i hi).2, q _ _ ((Exa.of e1).trans (x2.trans (Exa.of (Ex.new hu)))) (p2.ex (Ex.new hu)) ⟨i, hi, rfl⟩⟩⟩⟩
end
def daysT (i : Int) : List Str := (List.range i.toNat).map fun (j : Nat) => numS (j : Int)
theorem head_ok {i : Int} (h : 0 ≤ i ∧ i < 11) : Cl (Txt.join sep1 ([wRest] ++ daysT i)) ∧ wt ([wRest] ++ daysT i) ≤ 60 := by
  have hd : ∀ x ∈ daysT i, Cl x ∧ x.length ≤ 4 := fun x hx => by
    obtain ⟨j, hj, rfl⟩ := List.mem_map.mp hx
    have := List.mem_range.mp hj
    exact ⟨cl_num (by omega), numS_len ⟨by omega, by omega⟩⟩
  refine ⟨join_cl (cl_cat (cl_one (cl_small (by decide +kernel))) fun x hx => (hd x hx).1), ?_⟩
  rw [wt_app]
  have b1 : wt [wRest] ≤ 5 := by decide +kernel
  have b2 := sum_le (g := fun x : Str => x.length) (b := 4) (l := daysT i) fun x hx => (hd x hx).2
  have b3 : (daysT i).length ≤ 10 := by
    unfold daysT
    rw [List.length_map, List.length_range]
    omega
  unfold wt at b1 ⊢
  omega
def sp52 : Sp := fun vs H Q _ => ∃ (a c : Addr) (n T N : Nat) (z : Str), vs = [.ref a, .str z] ∧ Tx T N z ∧ T ≤ 30000 ∧ N ≤ 50 ∧ Pen H a c (n + 100) ∧ ∀ z' H', Exa a H H' → Pen H' a c n → Tx (2 * T + 5200) (N + 1) z' → Q (.str z') H'
abbrev s52 : Stmt := top 52
theorem sc52 : FnScope ["_law_pen_here", "_law_text", "_law_lines", "_law_way", "_law_at", "_law_to", "_law_words", "_law_k", "_law_some", "_law_odd", "_law_rows", "_law_less", "_law_head", "_law_day"] ["_law_pen_here", "_law_text"] (defScope s52) := ⟨rfl, rfl, rfl, by decide +kernel, rfl, by decide +kernel, by decide +kernel⟩
def odds : List Str := (["", "0", "00", "01", "1", "7", "10", "11", "14", "15", "40", "41", "-1", "year", "rest"] : List Str) ++ [PySem.Txt.mul "1" 5000]
theorem odds_ok : ∀ x ∈ odds, Cl x ∧ x.length ≤ 5000 := fun x hx => by
  have key : ∀ y ∈ (["", "0", "00", "01", "1", "7", "10", "11", "14", "15", "40", "41", "-1", "year", "rest"] : List Str), y.cps.all (fun c => decide (c ≠ 10) && decide (c < 256)) = true ∧ y.length ≤ 5000 := by decide +kernel
  rcases List.mem_append.mp (show x ∈ (["", "0", "00", "01", "1", "7", "10", "11", "14", "15", "40", "41", "-1", "year", "rest"] : List Str) ++ [PySem.Txt.mul "1" 5000] from hx) with hx | hx
  · exact ⟨cl_small (key x hx).1, (key x hx).2⟩
  · rw [List.mem_singleton.mp hx]
    refine ⟨mul_cl (by decide) (cl_small (by decide +kernel)), ?_⟩
    rw [mul_len (by decide), show ("1" : Str).length = 1 by decide +kernel]
    decide
end K9
end
section
set_option Elab.async false
set_option linter.all false
set_option maxRecDepth 100000
set_option maxHeartbeats 1000000
namespace K9
open PySem PySem.Spec PyProof.Rows L2 Evl
section
variable {P : Program} {w : World} {K : PySem.W.Frag} {mg : Str → Option Value} {base : Heap} {f : Addr} {fd : FuncData}
theorem ok52 (F : FnP K "_law_bent" s52 f fd) (T : Txt mg) (C_law_draw : CalN P w K mg base 1 "_law_draw" sp37) (C_law_pick : CalN P w K mg base 2 "_law_pick" (sp38 K)) : FnOk P w K mg base L2.CX0 3 f fd ["_law_pen_here", "_law_text"] sp52 := by
  refine F.ok sc52 (fun vs H Q E h => ?_) (fun cdv A outer s H vs Q E hr h => ?_)
  · obtain ⟨a, c, n, T, N, z, rfl, _⟩ := h
    rfl
  · obtain ⟨a, c, n, TT, N, z, rfl, ⟨tx1, tx2, tx3⟩, hT, hN, hpen, k⟩ := h
    have nd := sc52.nd
    refine ⟨_, PSs.nox (pss_cons (ps_par (i := 2) (j := 3) rfl nd rfl rfl (by decide) rfl rfl (pa_cons (pe_split (pv 1) pe_str) (pa_cons (C8.pe_c (C_law_draw) hr (by decide) (by rfl) (pa_cons (pv 0) (pa_cons pe_int pa_nil))) pa_nil)) (by rfl))
    (pss_cons (ps_par (i := 4) (j := 5) rfl nd rfl rfl (by decide) rfl rfl (pa_cons (C8.pe_c (C_law_draw) hr (by decide) (by rfl) (pa_cons (pv 0) (pa_cons (pe_callB call_len_seq (by rfl) T.len (by decide +kernel) (pa_cons (pv 2) pa_nil)) pa_nil))) (pa_cons (C8.pe_c (C_law_draw) hr (by decide) (by rfl) (pa_cons (pv 0) (pa_cons (pe_callB call_len_seq (by rfl) T.len (by decide +kernel) (pa_cons (pv 2) pa_nil)) pa_nil))) pa_nil)) (by rfl))
    (pss_cons (ps_set (i := 6) nd rfl (Or.inl rfl) (pe_split (pe_ix ix_list (pv 2) (pv 4) (fun _ _ => rfl)) pe_str))
    (pss_cons (ps_set (i := 7) nd rfl (Or.inl rfl) (C8.pe_c (C_law_draw) hr (by decide) (by rfl) (pa_cons (pv 0) (pa_cons (pe_callB call_len_seq (by rfl) T.len (by decide +kernel) (pa_cons (pv 6) pa_nil)) pa_nil))))
    (pss_cons (ps_set (i := 8) nd rfl (Or.inl rfl) (pe_lst (pa_cons pe_str (pa_cons pe_str (pa_cons pe_str (pa_cons pe_str (pa_cons pe_str (pa_cons pe_str (pa_cons pe_str (pa_cons pe_str (pa_cons pe_str (pa_cons pe_str (pa_cons pe_str (pa_cons pe_str (pa_cons pe_str (pa_cons pe_str (pa_cons pe_str (pa_cons (pe_op op_repS pe_str pe_int) pa_nil))))))))))))))))))
    (pss_cons (ps_set (i := 9) nd rfl (Or.inl rfl) (C8.pe_c (C_law_pick) hr (by decide) (by rfl) (pa_cons (pv 0) (pa_cons (pv 8) pa_nil))))
    (pss_cons (ps_if (pt_cmpR op_lt (pv 3) pe_int (nomark _)) (pss_cons (ps_set (i := 10) nd rfl (Or.inl rfl) (pe_lst (pa_cons (pe_op op_cat (pe_op op_cat (pe_slice sl_list (pv 6) po_none (po_some (pv 7))) (pe_lst (pa_cons (pv 9) pa_nil))) (pe_slice sl_list (pv 6) (po_some (pe_op op_add (pv 7) pe_int)) po_none)) (pa_cons (pe_op op_cat (pe_op op_cat (pe_slice sl_list (pv 6) po_none (po_some (pv 7))) (pe_lst (pa_cons (pv 9) pa_nil))) (pe_slice sl_list (pv 6) (po_some (pv 7)) po_none)) (pa_cons (pe_op op_cat (pe_slice sl_list (pv 6) po_none (po_some (pv 7))) (pe_slice sl_list (pv 6) (po_some (pe_op op_add (pv 7) pe_int)) po_none)) pa_nil)))))
    (pss_one (ps_ret (pe_joinK (K := K) rfl pe_str (pe_op op_cat (pe_op op_cat (pe_slice sl_list (pv 2) po_none (po_some (pv 4))) (pe_lst (pa_cons (pe_joinK (K := K) rfl pe_str (pe_ix ix_list (pv 10) (pv 3) (fun _ _ => rfl))) pa_nil))) (pe_slice sl_list (pv 2) (po_some (pe_op op_add (pv 4) pe_int)) po_none)))))) pss_nil)
    (pss_cons (ps_set (i := 11) nd rfl (Or.inl rfl) (pe_op op_cat (pe_slice sl_list (pv 2) po_none (po_some (pv 4))) (pe_slice sl_list (pv 2) (po_some (pe_op op_add (pv 4) pe_int)) po_none)))
    (pss_cons (ps_set (i := 10) nd rfl (Or.inl rfl) (pe_lst (pa_cons (pv 11) (pa_cons (pe_op op_cat (pe_op op_cat (pe_slice sl_list (pv 2) po_none (po_some (pv 4))) (pe_lst (pa_cons (pe_ix ix_list (pv 2) (pv 4) (fun _ _ => rfl)) pa_nil))) (pe_slice sl_list (pv 2) (po_some (pv 4)) po_none)) (pa_cons (pe_op op_cat (pe_op op_cat (pe_slice sl_list (pv 11) po_none (po_some (pv 5))) (pe_lst (pa_cons (pe_ix ix_list (pv 2) (pv 4) (fun _ _ => rfl)) pa_nil))) (pe_slice sl_list (pv 11) (po_some (pv 5)) po_none)) (pa_cons (pe_op op_cat (pv 2) (pe_lst (pa_cons pe_str pa_nil))) pa_nil))))))
    (pss_cons (ps_set (i := 12) nd rfl (Or.inl rfl) (pe_joinK (K := K) rfl pe_str (pe_op op_cat (pe_lst (pa_cons pe_str pa_nil)) (pe_lc (own := [("_law_day", 13)]) (g := gName 13) rfl nd (pi_range1 (by rfl) T.range (pa_cons (C8.pe_c (C_law_draw) hr (by decide) (by rfl) (pa_cons (pv 0) (pa_cons pe_int pa_nil))) pa_nil)) (blkOk_by (own := [("_law_day", 13)]) (N := ["_law_pen_here", "_law_text", "_law_lines", "_law_way", "_law_at", "_law_to", "_law_words", "_law_k", "_law_some", "_law_odd", "_law_rows", "_law_less", "_law_head", "_law_day"]) (sc := (defScope s52)) (by decide +kernel)) (fun _ _ _ _ _ => (pg_name (i := 13) nd rfl (Or.inl rfl))) (fun _ _ _ _ _ => pts_nil) (fun _ _ _ _ _ => (pe_callTy call_str_int (by rfl) T.str (by decide +kernel) (pa_cons (pv 13) pa_nil)))))))
    (pss_cons (ps_set (i := 10) nd rfl (Or.inl rfl) (pe_op op_cat (pv 10) (pe_lst (pa_cons (pe_op op_cat (pe_op op_cat (pe_slice sl_list (pv 2) po_none (po_some pe_int)) (pe_lst (pa_cons (pv 12) pa_nil))) (pe_slice sl_list (pv 2) (po_some pe_int) po_none)) (pa_cons (pe_op op_cat (pe_op op_cat (pe_slice sl_list (pv 2) po_none (po_some pe_int)) (pe_lst (pa_cons pe_str pa_nil))) (pe_slice sl_list (pv 2) (po_some pe_int) po_none)) pa_nil)))))
    (pss_one (ps_ret (pe_joinK (K := K) rfl pe_str (pe_ix ix_list (pv 10) (pe_op op_sub (pv 3) pe_int) (fun _ _ => rfl)))))))))))))))), ?_⟩
    refine c_par (l := n + 99) (ec_newL (el_split (ev_var rfl) ev_c nl_ok (by omega))) (ec_draw rfl ev_c (by decide) (by decide)) (hpen.less (by omega)) fun x y H1 H2 x1 ⟨p, hx, np, hp, h1⟩ x2 ⟨way, hy, hw0, hw1⟩ p2 => ?_
    subst hx hy
    have h2 : H2 p = some (.lst ((linesOf z).map V.str)) := x2 _ _ np h1
    show tSeq _ _ _ [some (.ref a), some (.str z), some (.ref p), some (.int way), none, none, none, none, none, none, none, none, none, none] H2
    have hcl : ∀ x ∈ linesOf z, Cl x := fun x hx => lines_cl tx2 hx
    have hlne := lines_ne z
    have hlwt := lines_wt z
    generalize linesOf z = L at *
    have hL1 : 1 ≤ L.length := List.length_pos_iff.mpr hlne
    have g2 : hid a a H2 p = some (.lst (L.map V.str)) := by rw [hid_at np np]; exact h2
    have lenL : ∀ {σ : L2.St} {H3 : Hp}, H3 p = some (.lst (L.map V.str)) → σ[2]? = some (some (.ref p)) → Ev (tCB (fun xs H Q => ∃ p ys, xs = [.ref p] ∧ (SqL K H p ys ∨ SqT K H p ys) ∧ Q (.int ys.length) H) (tCons (tVar 2) tNil)) σ H3 (.int (L.length : Int)) := fun e hσ =>
      ev_is (ev_lenQ (ev_var hσ) (sq_of e)) (by rw [List.length_map])
    refine c_par (l := n + 97) (ec_draw rfl (lenL g2 rfl) (by omega) (by omega)) (ec_draw rfl (lenL g2 rfl) (by omega) (by omega)) (p2.less (by omega)) fun x y H3 H4 x3 ⟨at', hx, ha0, ha1⟩ x4 ⟨to, hy, ht0, ht1⟩ p4 => ?_
    subst hx hy
    obtain ⟨A', rfl⟩ := Int.eq_ofNat_of_zero_le ha0
    obtain ⟨B, rfl⟩ := Int.eq_ofNat_of_zero_le ht0
    show tSeq _ _ _ [some (.ref a), some (.str z), some (.ref p), some (.int way), some (.int (A' : Int)), some (.int (B : Int)), none, none, none, none, none, none, none, none] H4
    have h4 : H4 p = some (.lst (L.map V.str)) := x4 _ _ np (x3 _ _ np h2)
    obtain ⟨l, hl⟩ : ∃ l, L[A']? = some l := ⟨_, List.getElem?_eq_getElem (by omega)⟩
    have hlw := wt_at hl
    have hll : l.length ≤ TT := by omega
    have hlc := hcl l (List.mem_of_getElem? hl)
    refine q_asgL (xs := (wordsOf l).map V.str) (el_split (ev_op (ev_var rfl) (ev_var rfl) (rv_ixL (sq_of h4) (strs_at hl))) ev_c sep1_ok (by omega)) fun pw H5 hpw e5 h5 => ?_
    have p5 := p4.ex e5
    have npw : pw ≠ a := pen_ne p4 hpw
    show tSeq _ _ _ [some (.ref a), some (.str z), some (.ref p), some (.int way), some (.int (A' : Int)), some (.int (B : Int)), some (.ref pw), none, none, none, none, none, none, none] H5
    have hwcl : ∀ x ∈ wordsOf l, Cl x := fun x hx => words_cl hlc hx
    have hwne := words_ne l
    have hwwt := words_wt l
    generalize wordsOf l = W at *
    have hW1 : 1 ≤ W.length := List.length_pos_iff.mpr hwne
    have hW2 := wt_len W
    have g5 : hid a a H5 pw = some (.lst (W.map V.str)) := by rw [hid_at npw npw]; exact h5
    refine c_asg (m := n + 96) (ec_draw rfl (ev_is (ev_lenQ (ev_var rfl) (sq_of g5)) (show _ = V.int (W.length : Int) by rw [List.length_map])) (by omega) (by omega)) (p5.less (by omega)) fun x H6 x6 p6 ⟨ki, hx, hk0, hk1⟩ => ?_
    subst hx
    obtain ⟨kk, rfl⟩ := Int.eq_ofNat_of_zero_le hk0
    show tSeq _ _ _ [some (.ref a), some (.str z), some (.ref p), some (.int way), some (.int (A' : Int)), some (.int (B : Int)), some (.ref pw), some (.int (kk : Int)), none, none, none, none, none, none] H6
    refine q_asgL (xs := odds.map V.str) (el_is (el_lst (ea_cons ev_c (ea_cons ev_c (ea_cons ev_c (ea_cons ev_c (ea_cons ev_c (ea_cons ev_c (ea_cons ev_c (ea_cons ev_c (ea_cons ev_c (ea_cons ev_c (ea_cons ev_c (ea_cons ev_c (ea_cons ev_c (ea_cons ev_c (ea_cons ev_c (ea_cons (ev_op ev_c ev_c (rv_val fun _ _ _ q => ⟨_, _, rfl, rfl, ⟨by decide, (fun _ _ => by decide +kernel), (fun _ _ => by decide +kernel)⟩, q⟩)) ea_nil)))))))))))))))) (by show 16 ≤ 100000; decide)) rfl) fun po H7 hpo e7 h7 => ?_
    have p7 := p6.ex e7
    have npo : po ≠ a := pen_ne p6 hpo
    show tSeq _ _ _ [some (.ref a), some (.str z), some (.ref p), some (.int way), some (.int (A' : Int)), some (.int (B : Int)), some (.ref pw), some (.int (kk : Int)), some (.ref po), none, none, none, none, none] H7
    have g7 : hid a a H7 po = some (.lst (odds.map V.str)) := by rw [hid_at npo npo]; exact h7
    refine c_asg (m := n + 95) (ec_pickV hid_none rfl (ev_var rfl) g7 (by rw [List.length_map]; decide) (by rw [List.length_map]; decide)) (p7.less (by omega)) fun x H8 x8 p8 hx => ?_
    obtain ⟨od, hod, rfl⟩ := List.mem_map.mp hx
    obtain ⟨ho1, ho2⟩ := odds_ok od hod
    show tSeq _ _ _ [some (.ref a), some (.str z), some (.ref p), some (.int way), some (.int (A' : Int)), some (.int (B : Int)), some (.ref pw), some (.int (kk : Int)), some (.ref po), some (.str od), none, none, none, none] H8
    have x48 : Exa a H4 H8 := (Exa.of e5).trans (x6.trans ((Exa.of e7).trans x8))
    have h8 : H8 p = some (.lst (L.map V.str)) := x48 _ _ np h4
    have h8w : H8 pw = some (.lst (W.map V.str)) := (x6.trans ((Exa.of e7).trans x8)) _ _ npw h5
    have x08 : Exa a H H8 := x1.trans (x2.trans (x3.trans (x4.trans x48)))
    have kk1 : ∀ {σ : L2.St} {H9 : Hp}, σ[7]? = some (some (.int (kk : Int))) → Ev (tOp (rI0 fun i j => .int (i + j)) (tVar 7) (tC (.int 1))) σ H9 (.int ((kk + 1 : Nat) : Int)) := fun hσ => ev_is (ev_op (ev_var hσ) ev_c rv_I0) rfl
    have at1 : ∀ {σ : L2.St} {H9 : Hp}, σ[4]? = some (some (.int (A' : Int))) → Ev (tOp (rI0 fun i j => .int (i + j)) (tVar 4) (tC (.int 1))) σ H9 (.int ((A' + 1 : Nat) : Int)) := fun hσ => ev_is (ev_op (ev_var hσ) ev_c rv_I0) rfl
    have hLlen := wt_len L
    refine q_when (b := decide (way < 3)) (et_test (ev_op (ev_var rfl) ev_c rv_I0)) (fun hb H9 e9 => ?_) (fun hb H9 e9 => ?_)
    · have hw3 : way < 3 := of_decide_eq_true hb
      obtain ⟨j, rfl⟩ := Int.eq_ofNat_of_zero_le hw0
      have f9 := e9 _ _ h8w
      refine q_asgP (es_rows (rs_new (es_cat (es_cat (es_take (k := kk) (ev_var rfl) f9 (ev_var rfl)) (es_one (ev_var rfl)) (by simp; omega)) (es_drop (k := kk + 1) (ev_var rfl) f9 (kk1 rfl)) (by simp; omega)) (rs_new (es_cat (es_cat (es_take (k := kk) (ev_var rfl) f9 (ev_var rfl)) (es_one (ev_var rfl)) (by simp; omega)) (es_drop (k := kk) (ev_var rfl) f9 (ev_var rfl)) (by simp; omega)) (rs_new (es_cat (es_take (k := kk) (ev_var rfl) f9 (ev_var rfl)) (es_drop (k := kk + 1) (ev_var rfl) f9 (kk1 rfl)) (by simp; omega)) rs_nil))) (by show 3 ≤ 100000; decide)) fun v HA eA ⟨pr, vs, hv, hpr, hA, hvs⟩ => ?_
      subst hv
      obtain ⟨R, hR⟩ : ∃ R, [(W.take kk ++ [od]) ++ W.drop (kk + 1), (W.take kk ++ [od]) ++ W.drop kk, W.take kk ++ W.drop (kk + 1)][j]? = some R := ⟨_, List.getElem?_eq_getElem (by show j < 3; omega)⟩
      obtain ⟨r1, r2⟩ := words_rows hwcl ho1 ho2 hR
      have hj := join_wt sep1_1 R
      have hA8 := (e9.trans eA) _ _ h8
      have hwt : wt ((L.take A' ++ [Txt.join sep1 R]) ++ L.drop (A' + 1)) ≤ 2 * TT + 5200 := by
        rw [wt_app, wt_app, wt_one]
        omega
      refine s_ret (ev_join ev_c (es_cat (es_cat (es_take (k := A') (ev_var rfl) hA8 (ev_var rfl)) (es_one (ev_joinRow ev_c (ev_var rfl) hA hvs (ev_var rfl) hR (Nat.le_trans (join_size sep1_1 (b := wt R) (Nat.le_refl _)) (by omega)))) (by simp; omega)) (es_drop (k := A' + 1) (ev_var rfl) hA8 (at1 rfl)) (by simp; omega)) (Nat.le_trans (join_size nl_1 hwt) (by omega))) fun HB eB => ?_
      refine k _ HB (x08.trans (Exa.of (e9.trans (eA.trans eB)))) ((p8.ex (e9.trans (eA.trans eB))).less (by omega)) (tx_join2 (cl_cat (cl_cat (cl_take hcl) (cl_one (join_cl r1))) (cl_drop hcl)) hwt ?_ (by omega))
      simp
      omega
    · have hw3 : ¬ way < 3 := of_decide_eq_false hb
      obtain ⟨j, hj⟩ := Int.eq_ofNat_of_zero_le (show 0 ≤ way - 3 by omega)
      have f9 := e9 _ _ h8
      refine q_asgL (xs := (L.take A' ++ L.drop (A' + 1)).map V.str) (es_cat (es_take (k := A') (ev_var rfl) f9 (ev_var rfl)) (es_drop (k := A' + 1) (ev_var rfl) f9 (at1 rfl)) (by simp; omega)) fun pl HA hpl eA hA => ?_
      have fA := eA _ _ f9
      show tSeq _ _ _ [some (.ref a), some (.str z), some (.ref p), some (.int way), some (.int (A' : Int)), some (.int (B : Int)), some (.ref pw), some (.int (kk : Int)), some (.ref po), some (.str od), none, some (.ref pl), none, none] HA
      have hlen2 : (L.take A' ++ L.drop (A' + 1)).length ≤ L.length := by
        rw [List.length_append, List.length_take, List.length_drop]
        omega
      generalize hM : L.take A' ++ L.drop (A' + 1) = M at *
      refine q_asgP (es_rows (rs_old (ev_var rfl) hA (rs_new (es_cat (es_cat (es_take (k := A') (ev_var rfl) fA (ev_var rfl)) (es_one (ev_op (ev_var rfl) (ev_var rfl) (rv_ixL (sq_of fA) (strs_at hl)))) (by simp; omega)) (es_drop (k := A') (ev_var rfl) fA (ev_var rfl)) (by simp; omega))
        (rs_new (es_cat (es_cat (es_take (k := B) (ev_var rfl) hA (ev_var rfl)) (es_one (ev_op (ev_var rfl) (ev_var rfl) (rv_ixL (sq_of fA) (strs_at hl)))) (by simp; omega)) (es_drop (k := B) (ev_var rfl) hA (ev_var rfl)) (by simp; omega))
        (rs_new (el_is (el_catR (ev_var rfl) fA (es_one ev_c) (by simp; omega)) (show _ = (L ++ [wYear]).map V.str by rw [List.map_append]; rfl)) rs_nil)))) (by show 4 ≤ 100000; decide)) fun v HB eB ⟨pr, vs, hv, hpr, hB, hvs⟩ => ?_
      subst hv
      have pB := p8.ex (e9.trans (eA.trans eB))
      have npr : pr ≠ a := pen_ne (p8.ex (e9.trans eA)) hpr
      show tSeq _ _ _ [some (.ref a), some (.str z), some (.ref p), some (.int way), some (.int (A' : Int)), some (.int (B : Int)), some (.ref pw), some (.int (kk : Int)), some (.ref po), some (.str od), some (.ref pr), some (.ref pl), none, none] HB
      refine c_asg (m := n + 94) (ec_joinCat (y := sep1) (A := [wRest]) (B := daysT) (es_one ev_c) (ec_lcD hid_none (ec_draw rfl ev_c (by decide) (by decide)) fun i hi HC eC => el_is (el_lcR (n := i) (fun _ => true) (fun (j : Nat) => .str (numS (j : Int))) (ea_cons ev_c ea_nil) (by omega) (fun _ => by rfl) (fun _ _ _ _ => et_yes) (fun j HD eD hj _ => ev_strI (ev_var rfl) (log_small (by omega) (by omega)))) (by
          rw [given_all]
          unfold daysT
          rw [List.map_map]
          rfl)) (fun i hi => ⟨by
          have := wt_len ([wRest] ++ daysT i)
          have := (head_ok hi).2
          rw [List.length_append] at *
          omega, Nat.le_trans (join_size sep1_1 (head_ok hi).2) (by decide)⟩)) (pB.less (by omega)) fun v HC xC pC ⟨i, hi, hv⟩ => ?_
      subst hv
      obtain ⟨hd1, hd2⟩ := head_ok hi
      have hd3 := join_wt sep1_1 ([wRest] ++ daysT i)
      generalize Txt.join sep1 ([wRest] ++ daysT i) = hd at *
      show tSeq _ _ _ [some (.ref a), some (.str z), some (.ref p), some (.int way), some (.int (A' : Int)), some (.int (B : Int)), some (.ref pw), some (.int (kk : Int)), some (.ref po), some (.str od), some (.ref pr), some (.ref pl), some (.str hd), none] HC
      have fC : HC p = some (.lst (L.map V.str)) := xC _ _ np (eB _ _ fA)
      have hC := xC _ _ npr hB
      obtain ⟨pk, hpk⟩ := pen_at pB
      have hvs2 : Paired (IsSs (hid a a HB)) vs _ := Paired.mapP hvs fun _ _ ⟨t, h1, h2⟩ => ⟨t, h1, by
        have nt : t ≠ a := fun z => by rw [z, hpk] at h2; cases h2
        rw [hid_at nt nt]
        exact h2⟩
      have hvsC := ss_fwd (ss_fwd hvs2 xC.hid) hid_le
      refine q_asgP (es_rowsCat (ev_var rfl) hC hvsC (es_rows (rs_new (es_cat (es_cat (es_take (k := 1) (ev_var rfl) fC ev_c) (es_one (ev_var rfl)) (by simp; omega)) (es_drop (k := 2) (ev_var rfl) fC ev_c) (by simp; omega)) (rs_new (es_cat (es_cat (es_take (k := 2) (ev_var rfl) fC ev_c) (es_one ev_c) (by simp; omega)) (es_drop (k := 2) (ev_var rfl) fC ev_c) (by simp; omega)) rs_nil)) (by show 2 ≤ 100000; decide)) (by show 4 + 2 ≤ 100000; decide)) fun v HD eD ⟨pr2, vs2, hv, hpr2, hD, hvsD⟩ => ?_
      subst hv
      rw [← hM] at hvsD
      obtain ⟨R, hR⟩ : ∃ R, ([L.take A' ++ L.drop (A' + 1), (L.take A' ++ [l]) ++ L.drop A', ((L.take A' ++ L.drop (A' + 1)).take B ++ [l]) ++ (L.take A' ++ L.drop (A' + 1)).drop B, L ++ [wYear]] ++ [(L.take 1 ++ [hd]) ++ L.drop 2, (L.take 2 ++ [Str.ofString "holiday 1 1"]) ++ L.drop 2])[j]? = some R := ⟨_, List.getElem?_eq_getElem (by show j < 6; omega)⟩
      obtain ⟨r1, r2, r3⟩ := lines_rows hcl hl hd1 (by omega) hR
      refine s_ret (ev_joinRow ev_c (ev_var rfl) hD hvsD (ev_is (ev_op (ev_var rfl) ev_c rv_I0) (congrArg V.int hj)) hR (Nat.le_trans (join_size nl_1 r2) (by omega))) fun HE eE => ?_
      exact k _ HE (x08.trans ((Exa.of (e9.trans (eA.trans eB))).trans (xC.trans (Exa.of (eD.trans eE))))) ((pC.ex (eD.trans eE)).less (by omega)) (tx_join2 r1 (by omega) (by omega) (by omega))
end
end K9
end
section
set_option Elab.async false
set_option linter.all false
set_option maxRecDepth 100000
set_option maxHeartbeats 1000000
namespace K9
open PySem PySem.Spec PyProof.Rows L2 Evl
/-! ### except (A, B, C) as n: the error is kept behind the clause -/
/-- a caught error, as it stands -/
def excK (a : Addr) (cls : Value) (d : Option Addr) : HO := .ext fun h => ∃ o : Obj, h.get? a = some o ∧ Zc cls d o ∧ ∃ vs, o.data = .fields vs
theorem fly_keeps {B h h' : Heap} {l : List Env} {e : Addr} {Z : Obj → Prop} (R : HandSPX.FlyingZ B l e Z h) (k : ∀ b o, h.get? b = some o → h'.get? b = some o) : HandSPX.FlyingZ B l e Z h' := by
  obtain ⟨r1, r2, r3, oe, vs, T, oT, ts, r4, r5, r6, r7, r8, r9, r10, r11, r12⟩ := R
  exact ⟨fun b o q => k b o (r1 b o q), r2, r3.of_keeps fun b o q _ => ⟨o, k b o q, rfl⟩, oe, vs, T, oT, ts, k _ _ r4, r5, r6, r7, r8, r9, k _ _ r10, r11, r12⟩
section
variable {X : Cx} {pins : List (Addr × Obj)} {σ : L2.St} {H : Hp} {sI s s' : Shared} {B : Heap}
theorem landedT {a : Addr} {o : HO} (I : Inv X pins σ H sI) (nb : ∀ b o, sI.heap.get? b = some o → b ∉ frs X.stack → B.get? b = some o) (st : B.StaysIn s'.heap) (up : sI.heap.UpToSlots s'.heap) (os : s'.os = sI.os) (ag : AllBare s'.gens)
    (na : H a = none) (nI : sI.heap.get? a = none) (new : ObjOk X.prog X.w (upd H a o) s'.heap a o) : Inv X pins σ (upd H a o) s' := by
  have nf : ∀ b ∈ frs X.stack, ∀ o, sI.heap.get? b = some o → ∃ sl, s'.heap.get? b = some { o with slots := sl } := fun b hb o e => by
    obtain ⟨_, o', e', hd⟩ := I.stack.mem hb
    rw [e] at e'; cases e'
    exact up b o e hd
  have ne : ∀ b u, sI.heap.get? b = some u → b ≠ a := fun b u q z => by rw [z, nI] at q; cases q
  have u : Un (frs X.stack) [] H (upd H a o) sI.heap s'.heap :=
    ⟨fun b o e _ hb _ => st b o (nb b o e hb), fun b o e _ hb _ => nf b hb o e, fun b u q n _ => by rw [upd_ne (ne b u q)]; exact n, fun b o e _ => by
      by_cases hb : b ∈ frs X.stack
      · obtain ⟨sl, q⟩ := nf b hb o e
        exact ⟨_, q⟩
      · exact ⟨o, st b o (nb b o e hb)⟩, fun b xs q => by rw [upd_ne (ne_of_none q na)]; exact q, fun b o' u q => by rw [upd_ne (ne_of_none q na)]; exact q, fun b ps q => ⟨#[], by rw [upd_ne (ne_of_none q na), q]; simp⟩⟩
  exact I.call' os u (((I.inGround nb).kept st).laidN (fun _ _ q => q) na new) ag (fun _ z => nomatch z)
theorem suite0 (I : Inv X pins σ H s) (a : Addr) : Inv (X.suite a (X.pn ++ pins)) [] σ H s :=
  ⟨I.ok.suite _ _, I.os, I.bare, I.base, I.loc, I.cell, I.free, I.freeC, fun p hp => I.pin p (by rw [List.append_nil] at hp; exact hp), I.hok, I.len⟩
theorem unsuite0 {a : Addr} {pn' : List (Addr × Obj)} (I : Inv (X.suite a (X.pn ++ pins)) pn' σ H s) (ok : X.Ok) : Inv X pins σ H s :=
  ⟨ok, I.os, I.bare, I.base, I.loc, I.cell, I.free, I.freeC, fun p hp => I.pin p (List.mem_append_left _ hp), I.hok, I.len⟩
end
def wKeep (K : PySem.W.Frag) (ln : Nat) (c1 c2 c3 : Value) (i : Nat) (ts : Addr → TS) (D : Ends) : WX := fun cls d σ H =>
  PySem.W.exmAny K cls [c1, c2, c3] = some true ∧ (σ.length = ln → ∀ a, H a = none → ts a { nx := fun σ' H' => D.nx (σ'.set i none) H', rt := D.rt, bk := fun σ' H' => D.bk (σ'.set i none) H', ct := fun σ' H' => D.ct (σ'.set i none) H' } (σ.set i (some (.ref a))) (upd H a (excK a cls d)))
section
variable {X : Cx} {x1 x2 x3 n : Str} {c1 c2 c3 : Value} {i : Nat} {body suite : List Stmt} {b₀ : Stmt} {tb : WX → TS} {ts : Addr → TS} {p1 p2 p3 pt pos pos' : Pos} {kk : Nat}
theorem ps_try_keep (hs : X.stack = X.env :: X.outer) (hf : X.env.frame = some X.env.locals) (hN : X.N.Nodup) (hi : X.N[i]? = some n) (hln : X.env.kindOf n = some .local) (hc1 : Names X x1 c1) (hc2 : Names X x2 c2) (hc3 : Names X x3 c3)
    (hb : ∀ (W : WX) (pn : List (Addr × Obj)) (xe : Value → Shared → Prop), Takes (X.tr pn xe) W → PSs (X.tr pn xe) body (tb W))
    (hsu : ∀ (a : Addr) (pn : List (Addr × Obj)), PSs (X.suite a pn) (b₀ :: suite) (ts a)) :
    PS X (.Try body [.ExceptHandler (some (.Tuple [.Name x1 p1, .Name x2 p2, .Name x3 p3] kk pt)) (some n) (b₀ :: suite) pos'] [] [] pos) (fun D σ H => tb (wKeep X.K X.N.length c1 c2 c3 i ts D) D σ H) := by
  refine ⟨fun pins s σ H D I h => ?_⟩
  have ok := I.ok
  have hfr : X.A.frames = some (X.env :: X.outer) := by rw [ok.frames, hs]
  have hloc : Loc X.env.scope n := .inl hln
  refine wpAny_Try_except ?_
  refine wpAny_mono ((hb (wKeep X.K X.N.length c1 c2 c3 i ts D) (X.pn ++ pins) (fun e s₁ => wpAny (model X.prog X.w) X.A (noteFrame e X.env) (fun _ s₂ => wpAny (model X.prog X.w) X.A (setFlight e none) (fun _ s₃ =>
    wpAny (model X.prog X.w) X.A (handleBy e X.env [.ExceptHandler (some (.Tuple [.Name x1 p1, .Name x2 p2, .Name x3 p3] kk pt)) (some n) (b₀ :: suite) pos']) (SP X pins D) X.xe s₃) X.xe s₂) X.xe s₁) (fun u s' xx => ?_)).run [] s σ H D (I.toTry _) h) (fun f s1 hsp => ?_) (fun e s1 he => he)
  · obtain ⟨a, B, sI, pins', σ', H', cls, d, rfl, J', nb, up, sky, na, os, ag, hb1, hyes⟩ := xx
    have J : Inv X pins σ' H' sI := J'.ofTry ok
    have sky' : Sky B (X.env :: X.outer) a (Zc cls d) X.env.locals s'.heap := by rw [← hs]; exact sky
    show wpAny (model X.prog X.w) X.A (noteFrame (.ref a) X.env) _ _ _
    refine Sky.land Zc.steady hfr hf sky' fun h3 fl3 up3 => ?_
    have J3 : Inv X pins σ' H' { s' with heap := h3 } := J.landed nb fl3.1 (up.trans up3) os ag
    obtain ⟨oe3, vs3, he3, hz3, hd3⟩ := fl3.there
    have notFr : ∀ {h : Heap} {o : Obj} {vs : Array Value}, h.FunFrames B (X.env :: X.outer) → h.get? a = some o → o.data = .fields vs → a ∉ frs (X.env :: X.outer) := fun {h o vs} ff e dd hm => by
      obtain ⟨_, o', e', hnf⟩ := ff.mem hm
      rw [e] at e'; cases e'
      exact hnf _ dd
    have nfr := notFr fl3.2.2.1 he3 hd3
    have nfr' : a ∉ frs X.stack := by rw [hs]; exact nfr
    have nI : sI.heap.get? a = none := by
      cases e : sI.heap.get? a with
      | none => rfl
      | some o =>
        have z := nb a o e nfr'
        rw [fl3.2.1] at z
        cases z
    have S3 := suite0 J3 a
    refine wpAny_handleBy_cons (codeAny_handlers_test ?_) (by intro q; cases q)
    have test : ∀ {x : Str} {c : Value} {np : Pos} {Q : Value → Shared → Prop} {E : Value → Shared → Prop}, Names X x c → Q c { s' with heap := h3 } → wpAny (model X.prog X.w) (X.A.mark (some (.ref a))) (eval (.Name x np) X.env) Q E { s' with heap := h3 } := fun {x c np Q E} hc q => by
      obtain ⟨hg, hdbg, hm | ⟨hm, hv, hnn⟩⟩ := hc
      · exact ld_glob (X := X.suite a (X.pn ++ pins)) S3 hg hm q hdbg
      · exact ld_blt (X := X.suite a (X.pn ++ pins)) S3 hg hm hv q hnn hdbg
    refine wpAny_Tuple ?_
    refine wpAny_items_cons (test hc1 ?_)
    refine wpAny_items_cons (test hc2 ?_)
    refine wpAny_items_cons (test hc3 ?_)
    refine wpAny_items_nil ⟨by size_fits, ?_⟩
    have kp : ∀ q o, h3.get? q = some o → (h3.push { cls := .type "tuple", data := .seq [c1, c2, c3].toArray }).get? q = some o := fun _ _ z => Heap.get?_push_of_some _ z
    have LT : PySem.W.Looks (model X.prog X.w) h3 (typeOf (.ref a)) cls := fun A Q E s k q => wpAny_typeOf_ref (k _ _ he3) (by rw [hz3.1]; exact q)
    refine (PySem.W.exm_tup3 (M := model X.prog X.w) (J3.kIn.keeps kp) (LT.keeps kp) (Heap.get?_push_size h3 rfl) hb1).here ?_
    have fl3p := fly_keeps fl3 kp
    refine codeAny_handlers_suite_as ?_
    refine HandSPX.lands_againZ fl3p fun h4 fl4 up4 => ?_
    have upP : h3.UpToSlots (h3.push { cls := .type "tuple", data := .seq [c1, c2, c3].toArray }) := fun b o e _ => ⟨o.slots, kp b o e⟩
    obtain ⟨oe4, vs4, he4, hz4, hd4⟩ := fl4.there
    have new : ObjOk X.prog X.w (upd H' a (excK a cls d)) h4 a (excK a cls d) := ⟨⟨oe4, he4, hz4, vs4, hd4⟩, ⟨oe4, he4⟩, fun h1 h2 ⟨o, q1, q2, q3⟩ st => ⟨o, st _ q1, q2, q3⟩⟩
    have J4 : Inv X pins σ' (upd H' a (excK a cls d)) _ := landedT (s' := { s' with heap := h4 }) J nb fl4.1 (((up.trans up3).trans upP).trans up4) os ag na nI new
    have S4 := suite0 J4 a
    refine store_ok (X := X.suite a (X.pn ++ pins)) (v := .ref a) S4 hN hi hloc rfl (fun s5 S5 => ?_) (.inr hln)
    refine wpAny_mono ((hsu a (X.pn ++ pins)).run [] s5 _ _ _ S5 (hyes J.len a na)) (fun f s6 hsp => ?_) (fun _ _ z => False.elim z)
    have end_ : ∀ {σ6 : L2.St} {H6 : Hp} {Q : Shared → Prop}, Inv (X.suite a (X.pn ++ pins)) [] σ6 H6 s6 → (∀ s7, Inv X pins (σ6.set i none) H6 s7 → Q s7) →
        wpAny (model X.prog X.w) X.A (do bindName X.env n .none; unbindBehindTheSuite X.env n pos') (fun _ s7 => Q s7) X.xe s6 := fun {σ6 H6 Q} S6 hq => gone_ok (unsuite0 S6 ok) hN hi hln hq
    cases f with
    | next =>
      obtain ⟨σ6, H6, S6, q6⟩ := hsp
      exact end_ S6 fun s7 J7 => ⟨_, _, J7, q6⟩
    | brk =>
      obtain ⟨σ6, H6, S6, q6⟩ := hsp
      exact end_ S6 fun s7 J7 => ⟨_, _, J7, q6⟩
    | cont =>
      obtain ⟨σ6, H6, S6, q6⟩ := hsp
      exact end_ S6 fun s7 J7 => ⟨_, _, J7, q6⟩
    | ret u =>
      obtain ⟨v6, σ6, H6, S6, r6, q6⟩ := hsp
      exact end_ S6 fun s7 J7 => ⟨_, _, _, J7, r6, q6⟩
  · cases f with
    | next =>
      obtain ⟨σ', H', J', q⟩ := hsp
      exact wpAny_execs_nil ⟨σ', H', J'.ofTry ok, q⟩
    | brk =>
      obtain ⟨σ', H', J', q⟩ := hsp
      exact ⟨σ', H', J'.ofTry ok, q⟩
    | cont =>
      obtain ⟨σ', H', J', q⟩ := hsp
      exact ⟨σ', H', J'.ofTry ok, q⟩
    | ret u =>
      obtain ⟨v, σ', H', J', r, q⟩ := hsp
      exact ⟨v, σ', H', J'.ofTry ok, r, q⟩
end
end K9
end
section
set_option Elab.async false
set_option linter.all false
set_option maxRecDepth 100000
set_option maxHeartbeats 1000000
namespace K9
open PySem PySem.Spec PyProof.Rows L2 Evl
/-! ### what is asked of a kept error -/
theorem kept_at {X : Cx} {pins : List (Addr × Obj)} {σ : L2.St} {H : Hp} {s : Shared} {a C dd : Addr} {fs : List (Str × V)} (I : Inv X pins σ H s) (ha : H a = some (excK a (.ref C) (some dd))) (hd : H dd = some (.xd fs)) :
    ∃ (o od : Obj) (m : Str → Option Value), PySem.W.InstAt s.heap a o C (some od) ∧ (∀ f, PySem.W.lookIn f od = some (m f)) ∧ ∀ f, RelO (fs.lookup f) (m f) := by
  obtain ⟨⟨o, ho, hz, vs, hv⟩, _⟩ := I.hok a _ ha
  have hx : ObjOk X.prog X.w H s.heap dd (.xd fs) := I.hok dd _ hd
  obtain ⟨m, hns, hr⟩ := hx
  obtain ⟨od, hod, hl⟩ := lookIn_ns hns
  exact ⟨o, od, m, ⟨ho, hz.1, by unfold PySem.W.notCls; rw [hv] <;> rfl, by rw [hz.2]; exact hod⟩, hl, hr⟩
def rIsX (K : PySem.W.Frag) : List V → Hp → VK → Prop := fun xs H Q => ∃ (a C dd : Addr) (fs : List (Str × V)) (c : V) (cv : Value) (b : Bool), xs = [.ref a, c] ∧ H a = some (excK a (.ref C) (some dd)) ∧ H dd = some (.xd fs) ∧ ClsV c cv ∧ ExcC K C ∧ PySem.W.kitOne K (.ref C) cv = some b ∧ Q (.bl b) H
theorem call_isX {X : Cx} : CallR X (.builtin "isinstance") (rIsX X.K) := by
  intro pn σp τ Hq ws us Q I r h
  obtain ⟨a, C, dd, fs, c, cv, b, rfl, ha, hd, hc, hC, e, q⟩ := h
  obtain ⟨v1, v2, rfl, q1, q2⟩ := vals2 r
  have e2 := hc.eq q2
  subst e2
  obtain rfl : v1 = Value.ref a := q1
  obtain ⟨o, od, m, J, _, _⟩ := kept_at I ha hd
  have hcl : (PySem.W.clsIn X.K C).isSome = true := by
    obtain ⟨cd, h1, _⟩ := PySem.W.any_some hC.hd
    rw [h1]
    rfl
  exact PySem.W.kia_one (PySem.W.kitx_exc (od := some od) (ox := o) hcl hC.hg hC.hk hC.hs hC.ha hC.hn hC.ht hC.hm) I.kIn J e (fun z => nomatch z) fun tk => ⟨.bl b, Hq, I.kept (t' := tk) fun _ _ z => z, rfl, q⟩
/-- e.f of a kept error -/
def tXk (K : PySem.W.Frag) (f : Str) (te : TE) : TE := fun σ H Q => te σ H fun x H1 => ∃ (a C dd : Addr) (fs : List (Str × V)) (v : V), x = .ref a ∧ H1 a = some (excK a (.ref C) (some dd)) ∧ H1 dd = some (.xd fs) ∧ XfC K C ∧ PySem.W.findIn K (.ref C) f = some none ∧ fs.lookup f = some v ∧ Q v H1
theorem pe_xk {X : Cx} {e : Expr} {te : TE} {pos : Pos} {f : Str} (he : PE X e te) (hb : attributeBase e f X.env (eval e X.env) = eval e X.env := by rfl) : PE X (.Attribute e f pos) (tXk X.K f te) := by
  refine ⟨fun pn τ σq Hq Q I h => attr_of hb (thn (he.run pn τ σq Hq _ I h) fun u s1 hh => ?_)⟩
  obtain ⟨x, H1, I1, rx, a, C, dd, fs, v, ex, ha, hd, T, hno, hl, q⟩ := hh
  subst ex
  obtain rfl : u = Value.ref a := rx
  obtain ⟨o, od, m, J, hm, hr⟩ := kept_at I1 ha hd
  have hrf := hr f
  rw [hl] at hrf
  obtain ⟨w, hw, rw'⟩ := RelO.some_of (v := v) hrf
  exact HandSPX.exc_get I1.kIn J T.ga T.gg T.exC (PySem.W.findObj_own T.hdC hno rfl (by rw [hm, hw])) (handed_of rw') ⟨v, H1, I1.tok _, rw', q⟩
/-! ### xs.count(True) -/
theorem bools_of : ∀ {bs : List Bool} {us : List Value}, Vals (bs.map V.bl) us → us = bs.map Value.bool
  | [], us, r => by
    cases r
    rfl
  | b :: bs, us, r => by
    rw [List.map_cons] at r
    cases r with
    | cons q1 q2 => rw [bools_of q2, show _ = Value.bool b from q1]; rfl
def isTr (v : Value) : Bool := match v with
  | .bool b => b
  | _ => false
def rCntB (K : PySem.W.Frag) : V → List V → Hp → VK → Prop := fun x xs H Q => ∃ (p : Addr) (bs : List Bool), x = .ref p ∧ xs = [.bl true] ∧ SqL K H p (bs.map V.bl) ∧ Q (.int (bs.countP id : Nat)) H
theorem mt_cntB {X : Cx} : MtR X "list.count" (rCntB X.K) := by
  intro pn τ σq Hq x ws v us Q I rx rws h
  obtain ⟨p, bs, rfl, rfl, hs, q⟩ := h
  cases rx
  obtain ⟨u, rfl, ru⟩ := rws.one
  obtain rfl : u = Value.bool true := ru
  obtain ⟨its, rv, ⟨ob, n, ho, hc, hdn, hd⟩, hlen⟩ := I.list hs
  obtain ⟨cl, od, dt, sl⟩ := ob
  simp only at hc hd
  subst hc hd
  have hb := bools_of rv
  subst hb
  refine call_meets PySem.F.slot_list_count ⟨_, ho, rfl⟩ PySem.F.entry_list_count (PySem.F.args_list_count_2 _ _) (SeqAt.list_countAt p _ n _ sl (.bool true) isTr) ⟨ho, fun y hy => ?_, ?_⟩
  · obtain ⟨b, _, rfl⟩ := List.mem_map.mp (show y ∈ bs.map Value.bool by simpa using hy)
    have z := SeqAt.EqAt.bool_bool (A := X.A.in1) (s := τ) b true
    cases b <;> exact z
  · have ec : (bs.map Value.bool).countP isTr = bs.countP id := by
      rw [List.countP_map]
      rfl
    refine ⟨.int (bs.countP id : Nat), Hq, I.tok _, ⟨τ.toks, ?_⟩, q⟩
    show Value.int (((bs.map Value.bool).toArray.toList.countP isTr : Nat) : Int) τ.toks = _
    rw [List.toList_toArray, ec]
end K9
end
section
set_option Elab.async false
set_option linter.all false
set_option maxRecDepth 100000
set_option maxHeartbeats 1000000
namespace K9
open PySem PySem.Spec PyProof.Rows L2 Evl LamX
/-- what the classes of errors are to the law -/
structure ErrX (K : PySem.W.Frag) (CI CD CT : Addr) : Prop where
  ex : ExcC K CT
  xf : XfC K CT
  no : PySem.W.findIn K (.ref CT) "index" = some none
  any : PySem.W.exmAny K (.ref CT) [.ref CI, .ref CD, .ref CT] = some true
  kI : PySem.W.kitOne K (.ref CT) (.ref CI) = some false
  kD : PySem.W.kitOne K (.ref CT) (.ref CD) = some false
  kT : PySem.W.kitOne K (.ref CT) (.ref CT) = some true
  kV : PySem.W.kitOne K (.ref CT) (.type "ValueError") = some true
/-- the law's error: nothing, or the text's place -/
def ErrQ (CT : Addr) (Q : VK) : XK := fun cls d H' => ∃ (dd : Addr) (i : Int), cls = .ref CT ∧ d = some dd ∧ H' dd = some (.xd [("index", .int i)]) ∧ ∀ t H2, Ex H' H2 → H2 t = some (.tup [.str "text", .int i]) → Q (.ref t) H2
def TTerr (CT : Addr) : (XK → Hp → VK → Prop) → Hp → VK → Prop := fun tl H Q => ∀ (E' : XK) (Q' : VK), (∀ cls d H', ErrQ CT Q cls d H' → E' cls d H') → (∀ v H', (∀ H2, Ex H' H2 → Q .non H2) → Q' v H') → tl E' H Q'
theorem q_set0 {σ : L2.St} {H : Hp} {v : V} {i : Nat} {D : Ends} {tz : TS} (k : tz D (σ.set i (some v)) H) : tSeq (tAsg (tC v) (gName i)) tz D σ H := k
abbrev s47 : Stmt := top 47
theorem sc47 : FnScope ["_law_call", "_law_caught", "e", "_law_kinds"] ["_law_call"] (defScope s47) := ⟨rfl, rfl, rfl, by decide +kernel, rfl, by decide +kernel, by decide +kernel⟩
section
variable {X : Cx}
theorem err_gives {CI CD CT g : Addr} {cdg : Value} {q : Str} (T : Txt X.mg) (mI : X.mg "InvalidCalendar" = some (.ref CI)) (mD : X.mg "InvalidDate" = some (.ref CD)) (mT : X.mg "InvalidText" = some (.ref CT)) (R : ErrX X.K CI CD CT) :
    GivesTo X ["_law_call", "_law_caught", "e", "_law_kinds"] "_law_error" (defScope s47) g cdg (defBody s47) "_law_call" q (TTerr CT) := by
  intro f c' s H Q tl act hc h
  have nd := sc47.nd
  have htry : ∀ {p1 p2 p3 pt pos pos' pa pb pc pd pe pf : Pos} {kk : Nat}, PS (cxOf C8.CX0 X.prog X.w X.K X.mg X.base ["_law_call", "_law_caught", "e", "_law_kinds"] "_law_error" (defScope s47) g cdg X.A X.stack s H C8.E0).nox
      (.Try [.Expr (.Call (.Name "_law_call" pa) [] [] pb) pc] [.ExceptHandler (some (.Tuple [.Name "InvalidCalendar" p1, .Name "InvalidDate" p2, .Name "InvalidText" p3] kk pt)) (some "e") [.Assign [.Name "_law_caught" pd] (.Name "e" pe) pf] pos'] [] [] pos)
      (fun D σ H => ∃ Ech : XK, (∀ cls d σ' H', Ech cls d H' → wKeep X.K 4 (.ref CI) (.ref CD) (.ref CT) 2 (fun _ => tAsg (tVar 2) (gName 1)) D cls d σ' H') ∧ σ[0]? = some (some (.ref f)) ∧ H c' = some (CodeO c' q) ∧ tl Ech H fun _ H' => D.nx σ H') := fun {p1 p2 p3 pt pos pos' pa pb pc pd pe pf kk} =>
    ps_try_keep (X := (cxOf C8.CX0 X.prog X.w X.K X.mg X.base ["_law_call", "_law_caught", "e", "_law_kinds"] "_law_error" (defScope s47) g cdg X.A X.stack s H C8.E0).nox) (x1 := "InvalidCalendar") (x2 := "InvalidDate") (x3 := "InvalidText") (n := "e") (i := 2) (ts := fun _ => tAsg (tVar 2) (gName 1))
      (tb := fun W D σ H => ∃ Ech : XK, (∀ cls d σ' H', Ech cls d H' → W cls d σ' H') ∧ σ[0]? = some (some (.ref f)) ∧ H c' = some (CodeO c' q) ∧ tl Ech H fun _ H' => D.nx σ H')
      rfl rfl nd rfl rfl ⟨rfl, by decide, .inl mI⟩ ⟨rfl, by decide, .inl mD⟩ ⟨rfl, by decide, .inl mT⟩
      (fun W pn xe tk => ⟨fun pins s' σ' H' D I h' => by
        obtain ⟨Ech, hW, h1, h2, h3⟩ := h'
        exact (pss_one (ps_expr (pos := pc) (act W pn xe Ech pa pb tk hW))).run pins s' σ' H' D I ⟨h1, h2, h3⟩⟩)
      (fun a pn => pss_one (ps_set (i := 1) nd rfl (Or.inl rfl) (pv 2)))
  refine ⟨_, (pss_cons (ps_set (i := 1) nd rfl (Or.inl rfl) pe_non)
    (pss_cons (htry)
    (pss_cons (ps_if (pt_cmpR op_isN (pv 1) pe_non (nomark _)) (pss_one (ps_ret pe_non)) pss_nil)
    (pss_cons (ps_set (i := 3) nd rfl (Or.inl rfl) (pe_lst (pa_cons (pe_callB call_isX (by rfl) T.isinstance (by decide +kernel) (pa_cons (pv 1) (pa_cons (C8.pe_gc (v := .ref CI) (by rfl) ⟨_, mI, rfl⟩) pa_nil))) (pa_cons (pe_callB call_isX (by rfl) T.isinstance (by decide +kernel) (pa_cons (pv 1) (pa_cons (C8.pe_gc (v := .ref CD) (by rfl) ⟨_, mD, rfl⟩) pa_nil))) (pa_cons (pe_callB call_isX (by rfl) T.isinstance (by decide +kernel) (pa_cons (pv 1) (pa_cons (C8.pe_gc (v := .ref CT) (by rfl) ⟨_, mT, rfl⟩) pa_nil))) pa_nil)))))
    (pss_cons (ps_if (PW.pt (pw_or (pt_cmpR op_ne (pe_bm PySem.F.plainAttrs_list PySem.F.slot_list_count PySem.F.type_list_count mt_cntB (pv 3) (pa_cons pe_bl pa_nil)) pe_int (nomark _)) (pw_or1 (pt_not (pt_val (pe_callB call_isX (by rfl) T.isinstance (by decide +kernel) (pa_cons (pv 1) (pa_cons (pe_bltn (v := .ty "ValueError") (by rfl) T.ValueError (by decide +kernel) rfl) pa_nil)))))))) (pss_one (ps_ret (pe_tup (pa_cons pe_str (pa_cons pe_non pa_nil))))) pss_nil)
    (pss_cons (ps_if (pt_val (pe_ix ix_list (pv 3) pe_int (fun _ _ => rfl))) (pss_one (ps_ret (pe_tup (pa_cons pe_str (pa_cons (pe_xk (pv 1)) pa_nil))))) pss_nil)
    (pss_one (ps_ret (pe_ifExp (pt_val (pe_ix ix_list (pv 3) pe_int (fun _ _ => rfl))) (pe_tup (pa_cons pe_str (pa_cons (pe_callB SkE.call_repr_int (by rfl) T.repr (by decide +kernel) (pa_cons (pe_xk (pv 1)) pa_nil)) pa_nil))) (pe_tup (pa_cons pe_str (pa_cons (pe_xk (pv 1)) pa_nil)))))))))))), ?_⟩
  refine q_set0 ?_
  refine ⟨ErrQ CT Q, fun cls d σ' H' ⟨dd, i, e1, e2, hd, k⟩ => ⟨by rw [e1]; exact R.any, fun hl a na => ?_⟩, rfl, hc, h _ _ (fun _ _ _ z => z) fun v H' k => ?_⟩
  · match σ', hl with
    | [s0, s1, s2, s3], _ =>
      subst e1 e2
      have na2 : dd ≠ a := fun z => by rw [z, na] at hd; cases hd
      have e0 : Ex H' (upd H' a (excK a (.ref CT) (some dd))) := Ex.new na
      have ha : upd H' a (excK a (.ref CT) (some dd)) a = some (excK a (.ref CT) (some dd)) := upd_same
      have hd' := e0 _ _ hd
      refine s_asg (v := .ref a) (ev_var rfl) fun H1 e1 => ?_
      dsimp only
      show tSeq _ _ _ [s0, some (.ref a), none, s3] H1
      refine q_when (b := false) (et_test (ev_op (ev_var (v := .ref a) rfl) ev_c rv_isN)) (fun h => by cases h) fun _ H2 e2 => ?_
      have isx : ∀ {σ : L2.St} {H3 : Hp} {c : V} {cv : Value} {b : Bool}, Ex H1 H3 → σ[1]? = some (some (.ref a)) → ClsV c cv → PySem.W.kitOne X.K (.ref CT) cv = some b → Ev (tCB (rIsX X.K) (tCons (tVar 1) (tCons (tC c) tNil))) σ H3 (.bl b) := fun {σ H3 c cv b} e3 hσ hc hk H4 e4 Q2 q2 =>
        ⟨_, hσ, a, CT, dd, _, c, cv, b, rfl, (e1.trans (e3.trans e4)) _ _ ha, (e1.trans (e3.trans e4)) _ _ hd', hc, R.ex, hk, q2 H4 (Ex.refl _)⟩
      refine q_asgL (xs := [false, false, true].map V.bl) (el_lst (ea_cons (isx e2 rfl (.own CI) R.kI) (ea_cons (isx e2 rfl (.own CD) R.kD) (ea_cons (isx e2 rfl (.own CT) R.kT) ea_nil))) (by decide)) fun pk H3 hpk e3 h3 => ?_
      have e13 := e2.trans e3
      have hcount : ∀ {σ : L2.St} {H4 : Hp}, Ex H3 H4 → σ[3]? = some (some (.ref pk)) → Ev (tBM X.K "list" (rCntB X.K) (tVar 3) (tCons (tC (.bl true)) tNil)) σ H4 (.int 1) := fun {σ H4} e4 hσ H5 e5 Q2 q2 =>
        ⟨_, hσ, Or.inl ⟨rfl, _, sq_of ((e4.trans e5) _ _ h3)⟩, pk, [false, false, true], rfl, rfl, sq_of ((e4.trans e5) _ _ h3), q2 H5 (Ex.refl _)⟩
      refine q_when (b := false) (et_or (a := false) (et_is (et_test (ev_op (hcount (Ex.refl _) rfl) ev_c rv_intN)) rfl) fun _ => et_is (et_not (et_test (isx e13 rfl (.ty "ValueError") R.kV))) rfl) (fun h => by cases h) fun _ H4 e4 => ?_
      have kix : ∀ {σ : L2.St} {H5 : Hp} {j : Nat} {b : Bool}, Ex H3 H5 → σ[3]? = some (some (.ref pk)) → ([false, false, true].map V.bl)[j]? = some (.bl b) → Ev (tOp (rIxL X.K) (tVar 3) (tC (.int (j : Int)))) σ H5 (.bl b) := fun e5 hσ hb => ev_op (ev_var hσ) ev_c (rv_ixL (sq_of (e5 _ _ h3)) (atI_nat hb))
      refine q_when (b := false) (et_test (kix (j := 0) e4 rfl rfl)) (fun h => by cases h) fun _ H5 e5 => ?_
      have e15 := e13.trans (e4.trans e5)
      refine s_retP (ep_if (b := false) (et_test (kix (j := 1) (e4.trans e5) rfl rfl)) (fun h => by cases h) fun _ => ep_u (eu_tup (ea_cons ev_c (ea_cons (x := .int i) (fun H6 e6 Q2 q2 => ⟨_, rfl, a, CT, dd, _, .int i, rfl, (e1.trans (e15.trans e6)) _ _ ha, (e1.trans (e15.trans e6)) _ _ hd', R.xf, R.no, rfl, q2 H6 (Ex.refl _)⟩) ea_nil)) (by show 2 ≤ 100000; decide))) fun v H6 e6 ⟨t, hv, _, ht⟩ => ?_
      subst hv
      exact k t H6 (e0.trans (e1.trans (e15.trans e6))) ht
  · refine q_when (b := true) (et_test (ev_op (ev_var (v := .non) rfl) ev_c rv_isN)) (fun _ H1 e1 => s_ret ev_c fun H2 e2 => k H2 (e1.trans e2)) (fun h => by cases h)
end
end K9
end
section
set_option Elab.async false
set_option linter.all false
set_option maxRecDepth 100000
set_option maxHeartbeats 1000000
namespace K9
open PySem PySem.Spec PyProof.Rows L2 Evl
/-! ### the long texts -/
def lnHead : Str := Str.ofString "week 2 first 0"
def lnHead7 : Str := Str.ofString "week 7 first 0"
def lnY1 : Str := Str.ofString "year 1"
def lnY2 : Str := Str.ofString "year 2"
def t40 : Str := Str.ofString " 40"
def lnA : Str := wYear ++ PySem.Txt.mul t40 14
def lnB : Str := (wYear ++ PySem.Txt.mul t40 13) ++ Str.ofString " 39"
theorem wkA : weekP lnHead = some (2, 0) := by decide +kernel
theorem wkB : weekP lnHead7 = some (7, 0) := by decide +kernel
theorem rsA : restP wRest 2 = some [] := by decide +kernel
theorem rsB : restP wRest 7 = some [] := by decide +kernel
theorem nm1 : numbersP lnY1 wYear 1 40 = some [1] := by decide +kernel
theorem nm2 : numbersP lnY2 wYear 1 40 = some [2] := by decide +kernel
theorem nmA : numbersP lnA wYear 1 40 = some (List.replicate 14 40) := by decide +kernel
theorem nmB : numbersP lnB wYear 1 40 = some (List.replicate 13 40 ++ [39]) := by decide +kernel
theorem hol_none {l : Str} {ws : List Str} {hs : List (Int × Int)} (h : wordsOf l = wYear :: ws) : holP l hs = none := by
  have e : numbersP l (Str.ofString "holiday") 1 40 = none := by
    unfold numbersP
    rw [h]
    show (if wYear = Str.ofString "holiday" then nums 1 40 ws else none) = none
    rw [if_neg (by decide +kernel)]
  unfold holP
  rw [e]
theorem year_if {l : Str} {y : List Int} {ys : List (List Int)} {hs : List (Int × Int)} (h : numbersP l wYear 1 40 = some y) : yearP l ys hs = if yearC y ys hs then some y else none := by
  unfold yearP
  rw [show numbersP l (Str.ofString "year") 1 40 = some y from h]
  rfl
theorem readL_year {l : Str} {y : List Int} {ls : List Str} {ys : List (List Int)} {i : Nat} (h : numbersP l wYear 1 40 = some y) : readL i (l :: ls) ys [] = if yearC y ys [] then readL (i + 1) ls (ys ++ [y]) [] else .error i := by
  have hw := (numbers_words h).1
  have e0 : (if ys = [] then holP l [] else none) = none := by
    rw [hol_none hw]
    split <;> rfl
  show (match (if ys = [] then holP l [] else none) with
    | some h => readL (i + 1) ls ys ([] ++ [h])
    | none => match yearP l ys [] with
      | some y => readL (i + 1) ls (ys ++ [y]) []
      | none => .error i) = _
  rw [e0]
  show (match yearP l ys [] with
    | some y => readL (i + 1) ls (ys ++ [y]) []
    | none => .error i) = _
  rw [year_if h]
  by_cases hc : yearC y ys []
  · rw [if_pos hc, if_pos hc]
  · rw [if_neg hc, if_neg hc]
theorem yearC_rep {y : List Int} {m : Nat} (hy : 1 ≤ y.length ∧ y.length ≤ 14) (ys : List (List Int)) (hys : ∀ z ∈ ys, z.length = y.length) (hm : ys.length ≠ 400) : yearC y ys [] :=
  ⟨hy, hm, fun z hz => hys z (List.mem_of_mem_head? hz), fun q hq => by cases hq⟩
theorem readL_rep {l : Str} {y : List Int} (h : numbersP l wYear 1 40 = some y) (hy : 1 ≤ y.length ∧ y.length ≤ 14) (rest : List Str) : ∀ (k i : Nat) (ys : List (List Int)), (∀ z ∈ ys, z.length = y.length) → ys.length + k ≤ 400 → readL i (List.replicate k l ++ rest) ys [] = readL (i + k) rest (ys ++ List.replicate k y) []
  | 0, i, ys, _, _ => by simp
  | k + 1, i, ys, hys, hk => by
    rw [List.replicate_succ, List.cons_append, readL_year h, if_pos (yearC_rep (m := 0) hy ys hys (by omega)), readL_rep h hy rest k (i + 1) (ys ++ [y]) (fun z hz => by
      rcases List.mem_append.mp hz with hz | hz
      · exact hys z hz
      · rw [List.mem_singleton.mp hz]) (by rw [List.length_append]; simp; omega)]
    rw [show i + 1 + k = i + (k + 1) by omega, List.append_assoc, show [y] ++ List.replicate k y = List.replicate (k + 1) y from rfl]
theorem readH_of {l0 : Str} {k j : Int} {r2 : List Str} (hw : weekP l0 = some (k, j)) (hr : restP wRest k = some []) : readH ([l0, wRest] ++ r2) = readB k j [] r2 := by
  show readH (l0 :: wRest :: r2) = _
  simp only [readH, hw, readA, hr]
theorem cl_year {l : Str} (h : l.cps.all (fun c => decide (c ≠ 10) && decide (c < 256)) = true) : Cl l := cl_small h
theorem long_lines {l0 : Str} {r2 : List Str} (h0 : Cl l0) (h : ∀ x ∈ r2, Cl x) : linesOf (Txt.join nl ([l0, wRest] ++ r2)) = [l0, wRest] ++ r2 := lines_join1 (fun x hx => by
  rcases List.mem_append.mp hx with hx | hx
  · rcases List.mem_cons.mp hx with rfl | hx
    · exact h0
    · rw [List.mem_singleton.mp hx]
      exact cl_small (by decide +kernel)
  · exact h x hx) (by simp)
def longT (l : Str) (n : Nat) : Str := Txt.join nl ([lnHead, wRest] ++ List.replicate n l)
theorem long_read {l : Str} {x : Int} {n : Nat} (h : numbersP l wYear 1 40 = some [x]) (hl : Cl l) (hn : 1 ≤ n) : readT (longT l n) = if n ≤ 400 then .ok ⟨List.replicate n [x], 2, 0, [], [], n + 2⟩ else .error 402 := by
  have e1 : linesOf (longT l n) = [lnHead, wRest] ++ List.replicate n l := long_lines (cl_small (by decide +kernel)) fun y hy => by rw [List.eq_of_mem_replicate hy]; exact hl
  unfold readT
  rw [e1, readH_of wkA rsA]
  unfold readB
  by_cases h4 : n ≤ 400
  · have z := readL_rep h (by simp) [] n 2 [] (fun _ h => by cases h) (by simpa using h4)
    rw [List.append_nil] at z
    rw [if_pos h4, z]
    show (if [] ++ List.replicate n [x] = [] then _ else _) = _
    rw [List.nil_append, if_neg (by
      intro e
      have := congrArg List.length e
      simp at this
      omega), List.length_replicate]
  · rw [if_neg h4]
    obtain ⟨k, rfl⟩ : ∃ k, n = 400 + (k + 1) := ⟨n - 401, by omega⟩
    have z := readL_rep h (by simp) (List.replicate (k + 1) l) 400 2 [] (fun _ h => by cases h) (by simp)
    rw [List.replicate_append_replicate] at z
    rw [z, List.replicate_succ, readL_year h, if_neg]
    rintro ⟨_, hc, _⟩
    apply hc
    simp
theorem fine_small {d : CD} (ok : d.Ok) (h : d.ys.length * d.m ≤ 400) (hw2 : d.w ≤ 2) (hr : d.rs = []) (hh : d.hs = []) : d.Fine := by
  have hn := ok.n
  have ht := ok.total
  have hw := ok.w
  have hs := sum_le40 (l := d.lens) fun x hx => (ok.pos x hx).2
  have htt : d.total ≤ 16000 := by
    show d.lens.sum ≤ 16000
    omega
  have hg1 : 0 < Int.gcd d.total d.w := Int.gcd_pos_of_ne_zero_right _ (by omega)
  have hg2 : (Int.gcd d.total d.w : Int) ≤ d.total := Int.le_of_dvd (by omega) (Int.gcd_dvd_left ..)
  have q1 : 1 ≤ d.total / (Int.gcd d.total d.w : Nat) := (Int.le_ediv_iff_mul_le (by omega)).mpr (by omega)
  have q2 : d.total / (Int.gcd d.total d.w : Nat) ≤ d.total := Int.ediv_le_self _ (by omega)
  have ht2 : 1 ≤ d.turn ∧ d.turn ≤ 200000 := by
    unfold CD.turn
    generalize d.total / (Int.gcd d.total d.w : Nat) = q at *
    constructor
    · have := Int.mul_le_mul q1 hw.1 (by omega) (by omega)
      omega
    · have := Int.mul_le_mul (show q ≤ 16000 by omega) hw2 (by omega) (by omega)
      omega
  refine ⟨ht2.2, 0, by omega, ?_⟩
  simp [CD.work, hr, hh]
theorem long_fine {x : Int} {n c : Nat} (hx : 1 ≤ x ∧ x ≤ 2) (hn : 1 ≤ n ∧ n ≤ 400) : (⟨List.replicate n [x], 2, 0, [], [], c⟩ : RD).cd.Fine := by
  obtain ⟨m, rfl⟩ : ∃ m, n = m + 1 := ⟨n - 1, by omega⟩
  have hlen : (List.replicate (m + 1) [x]).length ≤ 400 := by rw [List.length_replicate]; omega
  refine fine_small ?_ (by show (List.replicate (m + 1) [x]).length * 1 ≤ 400; omega) (by show (2 : Int) ≤ 2; decide) rfl rfl
  refine ⟨⟨by show 1 ≤ (List.replicate (m + 1) [x]).length ∧ (List.replicate (m + 1) [x]).length ≤ 400; rw [List.length_replicate]; omega, by show 1 ≤ 1 ∧ 1 ≤ 14; decide, fun y hy => ?_, fun y hy d hd => ?_⟩, by show (1 : Int) ≤ 2 ∧ (2 : Int) ≤ 10; decide, by show (0 : Int) ≤ 0 ∧ (0 : Int) < 2; decide, ⟨(fun _ h => by cases h), .nil, by show 0 ≤ 20; decide⟩, ⟨(fun _ h => by cases h), .nil, by show 0 < 64; decide⟩⟩
  · rw [List.eq_of_mem_replicate (show y ∈ List.replicate (m + 1) [x] from hy)]
    rfl
  · rw [List.eq_of_mem_replicate (show y ∈ List.replicate (m + 1) [x] from hy)] at hd
    rw [List.mem_singleton.mp hd]
    omega
theorem long_F {l : Str} {x : Int} {n : Nat} (h : numbersP l wYear 1 40 = some [x]) (hl : Cl l) (hx : 1 ≤ x ∧ x ≤ 2) (hn : 1 ≤ n) : if n ≤ 400 then ∃ d, readF (longT l n) = .ok d else readF (longT l n) = .error 402 := by
  have z := long_read h hl hn
  by_cases h4 : n ≤ 400
  · rw [if_pos h4] at z ⊢
    exact ⟨_, readF_fine z (long_fine hx ⟨hn, h4⟩)⟩
  · rw [if_neg h4] at z ⊢
    exact readF_err z
theorem long_hols {l : Str} {x : Int} {n : Nat} (h : numbersP l wYear 1 40 = some [x]) (hl : Cl l) (hn : 1 ≤ n) : ∀ d, readT (longT l n) = .ok d → d.hols.length < 64 := fun d hd => by
  rw [long_read h hl hn] at hd
  split at hd
  · cases hd
    exact Nat.zero_lt_succ _
  · cases hd
theorem wt_rep (l : Str) (n : Nat) : wt (List.replicate n l) = n * (l.length + 1) := by
  unfold wt
  rw [List.map_replicate, List.length_replicate, Nat.mul_add, Nat.mul_one]
  congr 1
  induction n with
  | zero => simp
  | succ n ih => rw [List.replicate_succ, List.sum_cons, ih, Nat.succ_mul]; omega
theorem long_len {l : Str} {n : Nat} (hl : l.length ≤ 10) (hn : n ≤ 500) : wt ([lnHead, wRest] ++ List.replicate n l) ≤ 6000 := by
  have b1 : wt [lnHead, wRest] ≤ 60 := by decide +kernel
  rw [wt_app, wt_rep]
  have := Nat.mul_le_mul hn (show l.length + 1 ≤ 11 by omega)
  omega
/-! ### the text of a period that is too long -/
def lastL : List Str := ([lnHead7, wRest] ++ List.replicate 51 lnA) ++ [lnB]
def lastT : Str := Txt.join nl lastL
def lastD : RD := ⟨List.replicate 51 (List.replicate 14 40) ++ [List.replicate 13 40 ++ [39]], 7, 0, [], [], 54⟩
theorem clA : Cl lnA := cl_small (by decide +kernel)
theorem clB : Cl lnB := cl_small (by decide +kernel)
theorem last_read : readT lastT = .ok lastD := by
  have e1 : linesOf lastT = [lnHead7, wRest] ++ (List.replicate 51 lnA ++ [lnB]) := by
    unfold lastT lastL
    rw [List.append_assoc]
    refine long_lines (cl_small (by decide +kernel)) fun y hy => ?_
    rcases List.mem_append.mp hy with hy | hy
    · rw [List.eq_of_mem_replicate hy]
      exact clA
    · rw [List.mem_singleton.mp hy]
      exact clB
  unfold readT
  rw [e1, readH_of wkB rsB]
  unfold readB
  rw [readL_rep nmA (by decide) [lnB] 51 2 [] (fun _ h => by cases h) (by decide), readL_year nmB, if_pos (yearC_rep (m := 0) (by decide) _ (fun z hz => by
    rw [List.nil_append] at hz
    rw [List.eq_of_mem_replicate hz]
    decide) (by simp))]
  rfl
theorem last_F : readF lastT = .error 54 := readF_bad last_read fun h => by
  have := h.1
  have e : lastD.cd.turn = 203833 := by decide +kernel
  rw [e] at this
  exact absurd this (by decide)
theorem last_hols : ∀ d, readT lastT = .ok d → d.hols.length < 64 := fun d hd => by
  rw [last_read] at hd
  cases hd
  decide
theorem last_len : wt lastL ≤ 6000 := by
  unfold lastL
  rw [wt_app, wt_app, wt_rep]
  have b1 : wt [lnHead7, wRest] ≤ 60 := by decide +kernel
  have b2 : wt [lnB] ≤ 60 := by decide +kernel
  have b3 : lnA.length ≤ 60 := by decide +kernel
  omega
end K9
end
section
set_option Elab.async false
set_option linter.all false
set_option maxRecDepth 100000
set_option maxHeartbeats 1000000
namespace K9
open PySem PySem.Spec PyProof.Rows L2 Evl LamX
/-! ### tables of code objects, beside the pen and beside new objects -/
theorem TabS.exa {a P : Addr} {q : Str} {kvs : List (Key × V)} {H H' : Hp} (t : TabS H P q) (ha : H a = some (.dK kvs)) (x : Exa a H H') : TabS H' P q := by
  obtain ⟨ps, h1, h2, h3⟩ := t
  refine ⟨ps, x _ _ (fun z => by rw [z, ha] at h1; cases h1) h1, h2, fun pos cv hc => ?_⟩
  obtain ⟨c, e1, e2⟩ := h3 pos cv hc
  exact ⟨c, e1, x _ _ (fun z => by rw [z, ha] at e2; unfold CodeO at e2; cases e2) e2⟩
theorem tabs_exa {T : List (Addr × Str)} {a c : Addr} {n : Nat} {H H' : Hp} (t : Tabs T H) (p : Pen H a c n) (x : Exa a H H') : Tabs T H' := fun q hq => by
  obtain ⟨kvs, ha⟩ := pen_at p
  exact K9.TabS.exa (t q hq) ha x
theorem tabs_ex {T : List (Addr × Str)} {H H' : Hp} (t : Tabs T H) (e : Ex H H') : Tabs T H' := t.ext e
theorem pen_extN {H H' : Hp} {a c : Addr} {n : Nat} (h : Pen H a c n) (e : ExtN H H') : Pen H' a c n := by
  obtain ⟨kvs, cs, t, l, h1, h2, h3, h4⟩ := h
  exact ⟨kvs, cs, t, l, e _ _ h1 (fun _ z => by cases z), h2, e _ _ h3 (fun _ z => by cases z), h4⟩
theorem tyx_extN {K : PySem.W.Frag} {H H' : Hp} {x : V} {t : Value} (e : ExtN H H') (h : TyX K H x t) : TyX K H' x t := by
  cases h with
  | base b =>
    refine .base ?_
    cases b with
    | non => exact .non
    | bl x => exact .bl x
    | int x => exact .int x
    | str x => exact .str x
    | flt x => exact .flt x
    | lst h => exact .lst (e _ _ h (fun _ z => by cases z))
    | frz h => exact .frz (e _ _ h (fun _ z => by cases z))
    | tup h => exact .tup (e _ _ h (fun _ z => by cases z))
    | dK h => exact .dK (e _ _ h (fun _ z => by cases z))
    | dT h => exact .dT (e _ _ h (fun _ z => by cases z))
    | ins h k a b c d => exact .ins (e _ _ h (fun _ z => by cases z)) k a b c d
  | byt b => exact .byt b
  | set h => exact .set (e _ _ h (fun _ z => by cases z))
  | kList h c => exact .kList h c
  | kTuple h c => exact .kTuple h c
  | kDict h c => exact .kDict h c
  | fTuple h => exact .fTuple (e _ _ h (fun _ z => by cases z))
  | fDict h => exact .fDict (e _ _ h (fun _ z => by cases z))
/-! ### what a value is read as -/
noncomputable def dueO (z : Str) : Option Nat := match readF z with
  | .ok _ => none
  | .error n => some n
theorem dueO_err {z : Str} {n : Nat} (h : readF z = .error n) : dueO z = some n := by
  unfold dueO
  rw [h]
theorem dueO_ok {z : Str} {d : RD} (h : readF z = .ok d) : dueO z = none := by
  unfold dueO
  rw [h]
def optNV : Option Nat → V
  | none => .non
  | some n => .int (n : Int)
theorem dueV_eq (z : Str) : dueV z = optNV (dueO z) := by
  unfold dueV dueO
  cases readF z <;> rfl
/-- x is read to the end (none) or refused at a line -/
def Rd (K : PySem.W.Frag) (H : Hp) (x : V) (r : Option Nat) : Prop := (∃ z, x = .str z ∧ z.length ≤ 90000 ∧ (∀ d, readT z = .ok d → d.hols.length < 64) ∧ r = dueO z) ∨ (∃ t, TyX K H x (.type t) ∧ kitB t "str" = some false ∧ r = some 0)
theorem Rd.extN {K : PySem.W.Frag} {H H' : Hp} {x : V} {r : Option Nat} (h : Rd K H x r) (e : ExtN H H') : Rd K H' x r := h.imp id fun ⟨t, h1, h2⟩ => ⟨t, tyx_extN e h1, h2⟩
theorem Rd.fwd {K : PySem.W.Frag} {H H' : Hp} {x : V} {r : Option Nat} (h : Rd K H x r) (e : Ex H H') : Rd K H' x r := h.extN (ExtN.of e)
/-- what _law_error gives -/
def ErV : Option Nat → V → Hp → Prop
  | none, v, _ => v = .non
  | some n, v, H => ∃ t, v = .ref t ∧ H t = some (.tup [.str "text", .int (n : Int)])
theorem ErV.fwd {H H' : Hp} {r : Option Nat} {v : V} (h : ErV r v H) (e : Ex H H') : ErV r v H' := by
  cases r with
  | none => exact h
  | some n =>
    obtain ⟨t, h1, h2⟩ := h
    exact ⟨t, h1, e _ _ h2⟩
theorem ErV.extN {H H' : Hp} {r : Option Nat} {v : V} (h : ErV r v H) (e : ExtN H H') : ErV r v H' := by
  cases r with
  | none => exact h
  | some n =>
    obtain ⟨t, h1, h2⟩ := h
    exact ⟨t, h1, e _ _ h2 (fun _ z => by cases z)⟩
def dpE : Option Nat → PyData
  | none => .none
  | some n => .tuple [.str "text", .int (n : Int)]
theorem ErV.dp {K : PySem.W.Frag} {H : Hp} {r : Option Nat} {v : V} (h : ErV r v H) : Dp K H v (dpE r) := by
  cases r with
  | none =>
    obtain rfl : v = .non := h
    exact .non
  | some n =>
    obtain ⟨t, rfl, h2⟩ := h
    exact .tup (st_of h2) (.cons (.str _) (.cons (.int _) .nil))
theorem dpE_sh (r : Option Nat) : SeqAt.shaped (dpE r) = true := by
  cases r with
  | none => exact sh_of pl_non (by decide)
  | some n =>
    refine sh_of (n := 1) (pl_tup fun d hd => ?_) (by decide)
    rcases List.mem_cons.mp hd with rfl | hd
    · exact pl_str (by decide +kernel)
    · rw [List.mem_singleton.mp hd]
      exact pl_int
theorem dpE_eq (r : Option Nat) : PyData.eqv (dpE r) (dpE r) = true := by
  cases r <;> simp [dpE, PyData.eqv, PyData.eqvAll]
section
variable {K : PySem.W.Frag} {σ : L2.St} {H : Hp} {ta tb te : TE} {x v w : V} {C CT : Addr} {r : Option Nat} {T : List (Addr × Str)} {Q : VK}
theorem ne_err (h1 : ErV r v H) (h2 : ErV r w H) (q : Q (.bl false) H) : rNeD K v w H Q := ⟨_, _, h1.dp, h2.dp, dpE_sh r, dpE_sh r, by rw [dpE_eq]; exact q⟩
theorem eq_err (h1 : ErV r v H) (h2 : ErV r w H) (q : Q (.bl true) H) : rEqD K v w H Q := ⟨_, _, h1.dp, h2.dp, dpE_sh r, dpE_sh r, by rw [dpE_eq]; exact q⟩
/-- Calendar.read(x), what comes of it -/
def tRd (K : PySem.W.Frag) (C CT : Addr) (te : TE) : XK → TE := fun E => ClX.tCMeth C (spRead K C CT) E (tC (.ref C)) (tCons te tNil)
theorem read_err (hx : Ev te σ H x) (hr : Rd K H x r) (k : ∀ v H2, Ex H H2 → ErV r v H2 → Q v H2) : TTerr CT (fun E' H' Q' => tRd K C CT te E' σ H' Q') H Q := by
  intro E' Q' hE hQ
  refine ⟨rfl, ?_⟩
  refine hx H (Ex.refl H) _ fun H2 e2 => ?_
  refine ⟨x, rfl, ?_⟩
  rcases hr with ⟨z, rfl, hz, h64, rfl⟩ | ⟨t, ht, hk, rfl⟩
  · refine .inl ⟨z, rfl, hz, h64, ?_⟩
    unfold dueO at k
    cases hF : readF z with
    | ok d =>
      rw [hF] at k
      intro v H3 e3 _
      exact hQ v H3 fun H4 e4 => k _ H4 (e2.trans (e3.trans e4)) rfl
    | error n =>
      rw [hF] at k
      intro e H3 e3 h3
      exact hE _ _ _ ⟨e, (n : Int), rfl, rfl, h3, fun t H4 e4 ht => k _ H4 (e2.trans (e3.trans e4)) ⟨t, rfl, ht⟩⟩
  · exact .inr ⟨t, K9.TyX.mono e2 ht, hk, fun e H3 e3 h3 => hE _ _ _ ⟨e, 0, rfl, rfl, h3, fun t H4 e4 ht => k _ H4 (e2.trans (e3.trans e4)) ⟨t, rfl, ht⟩⟩⟩
theorem lam_call (hT : Tabs T H) (hr : Rd K H x r) (hx : ∀ H1, ExtN H H1 → Ev te σ H1 x) (k : ∀ v H1 H2, ExtN H H1 → Tabs T H1 → Ex H1 H2 → ErV r v H2 → Q v H2) : tLam T (TTerr CT) (tRd K C CT te) σ H Q :=
  ⟨hT, fun H1 e1 t1 => read_err (hx H1 e1) (hr.extN e1) fun v H2 e2 h => k v H1 H2 e1 t1 e2 h⟩
/-- the value of any kind has a place -/
theorem due_run (h : Knd K H x) : ∃ r, Rd K H x r ∧ ∀ (Q : VK) (E : XK), (∀ H', Ex H H' → Q (optNV r) H') → sp51 K [x] H Q E := by
  rcases h with ⟨z, rfl, h1, h2, h3⟩ | ⟨t, ht, hk⟩
  · refine ⟨dueO z, .inl ⟨z, rfl, h1, fun d hd => ?_, rfl⟩, fun Q E q => ⟨_, ⟨_, rfl, .inl ⟨z, rfl, h1, h2, h3, rfl⟩⟩, fun v H' e hv => ?_⟩⟩
    · obtain ⟨_, _, _, _, t5, _⟩ := readT_ok hd
      omega
    · rw [hv, dueV_eq]
      exact q H' e
  · exact ⟨some 0, .inr ⟨t, ht, hk, rfl⟩, fun Q E q => ⟨_, ⟨_, rfl, .inr ⟨t, ht, hk, rfl⟩⟩, fun v H' e hv => by rw [hv]; exact q H' e⟩⟩
/-- read again, and its text -/
theorem ev_text {z : Str} {E : XK} (he : Ev te σ H (.str z)) (hz : z.length ≤ 90000) (h64 : ∀ d, readT z = .ok d → d.hols.length < 64) (hn : dueO z = none) : Ev (tProp C (spText C) [] E0 (tRd K C CT te E)) σ H (.str z) := fun H1 e Q q => by
  refine ⟨rfl, ?_⟩
  refine he H1 e _ fun H2 e2 => ?_
  refine ⟨.str z, rfl, .inl ⟨z, rfl, hz, h64, ?_⟩⟩
  unfold dueO at hn
  cases hF : readF z with
  | error n => rw [hF] at hn; cases hn
  | ok d =>
    intro v H3 e3 ⟨a, hv, hc⟩
    subst hv
    have hT : readT z = .ok d := by
      cases hT : readT z with
      | error n => rw [readF_err hT] at hF; cases hF
      | ok d' =>
        by_cases hf : d'.cd.Fine
        · rw [readF_fine hT hf] at hF
          cases hF
          rfl
        · rw [readF_bad hT hf] at hF
          cases hF
    obtain ⟨t1, _, _, _, _, t6⟩ := readT_ok hT
    have hc' := hc
    obtain ⟨dx, fs, ty, tr, th, tl, ts, xs, us, h1, _, _⟩ := hc
    exact ⟨a, dx, fs, rfl, h1, _, ⟨a, d.cd, [], rfl, t6 (h64 d hT), hc', rfl, rfl⟩, fun v H4 e4 hv => by
      rw [hv]
      have e : textP d.cd.ys d.cd.w d.cd.f d.cd.rs d.cd.hs = z := t1
      rw [e]
      exact q H4 (e2.trans (e3.trans e4))⟩
/-! ### statements with such a call -/
variable {D : Ends} {tu tz : TS} {tA tB : TT}
/-- what stands behind a call of _law_error -/
def Aft (T : List (Addr × Str)) (H H2 : Hp) : Prop := ∃ H1, ExtN H H1 ∧ Tabs T H1 ∧ Ex H1 H2
theorem Aft.pen {a c : Addr} {n : Nat} {H2 : Hp} (h : Aft T H H2) (p : Pen H a c n) : Pen H2 a c n := by
  obtain ⟨H1, e1, _, e2⟩ := h
  exact (pen_extN p e1).ex e2
theorem Aft.tabs {H2 : Hp} (h : Aft T H H2) : Tabs T H2 := by
  obtain ⟨H1, _, t, e2⟩ := h
  exact tabs_ex t e2
theorem q_andLam (hA : EvT tA σ H true) (hB : ∀ H1, Ex H H1 → ∀ Q : Bool → Hp → Prop, (∀ H2, Aft T H1 H2 → Q false H2) → tB σ H1 Q) (k : ∀ H1 H2, Ex H H1 → Aft T H1 H2 → tz D σ H2) : tSeq (tIfS (tAnd tA tB) tu tNext) tz D σ H := hA H (Ex.refl H) _ fun H1 e1 => by
  rw [if_pos rfl]
  refine hB H1 e1 _ fun H2 g => ?_
  rw [if_neg (by decide)]
  exact k H1 H2 e1 g
theorem q_ifLam (hB : ∀ Q : Bool → Hp → Prop, (∀ H2, Aft T H H2 → Q false H2) → tB σ H Q) (k : ∀ H2, Aft T H H2 → tz D σ H2) : tSeq (tIfS tB tu tNext) tz D σ H := hB _ fun H2 g => by
  rw [if_neg (by decide)]
  exact k H2 g
/-- _law_error(..) != ("text", due) -/
theorem ne_lam {n : Nat} {Q : Bool → Hp → Prop} (hT : Tabs T H) (hr : Rd K H x (some n)) (hx : ∀ H1, ExtN H H1 → Ev te σ H1 x) (hb : ∀ H1, ExtN H H1 → Ev tb σ H1 (.int (n : Int))) (q : ∀ H2, Aft T H H2 → Q false H2) :
    tTest (tOp (rNeD K) (tLam T (TTerr CT) (tRd K C CT te)) (tTup (tCons (tC (.str "text")) (tCons tb tNil)))) σ H Q :=
  lam_call hT hr hx fun v H1 H2 e1 t1 e2 h => hb H1 e1 H2 e2 _ fun H3 e3 => ⟨by show 2 ≤ sizeLine; decide, fun p hp => ne_err (r := some n) (h.fwd (e3.trans (Ex.new hp))) ⟨p, rfl, upd_same⟩ ⟨false, rfl, q _ ⟨H1, e1, t1, e2.trans (e3.trans (Ex.new hp))⟩⟩⟩
theorem ne_lamV {Q : Bool → Hp → Prop} (hT : Tabs T H) (hr : Rd K H x r) (hx : ∀ H1, ExtN H H1 → Ev te σ H1 x) (hw : ErV r w H) (hb : ∀ H1, ExtN H H1 → Ev tb σ H1 w) (q : ∀ H2, Aft T H H2 → Q false H2) :
    tTest (tOp (rNeD K) (tLam T (TTerr CT) (tRd K C CT te)) tb) σ H Q :=
  lam_call hT hr hx fun v H1 H2 e1 t1 e2 h => hb H1 e1 H2 e2 _ fun H3 e3 => ne_err (h.fwd e3) ((hw.extN e1).fwd (e2.trans e3)) ⟨false, rfl, q _ ⟨H1, e1, t1, e2.trans e3⟩⟩
theorem eq_lam {n : Nat} (hT : Tabs T H) (hr : Rd K H x (some n)) (hx : ∀ H1, ExtN H H1 → Ev te σ H1 x) (hb : ∀ H1, ExtN H H1 → Ev tb σ H1 (.int (n : Int))) (q : ∀ H2, Q (.bl true) H2) :
    tOp (rEqD K) (tLam T (TTerr CT) (tRd K C CT te)) (tTup (tCons (tC (.str "text")) (tCons tb tNil))) σ H Q :=
  lam_call hT hr hx fun v H1 H2 e1 t1 e2 h => hb H1 e1 H2 e2 _ fun H3 e3 => ⟨by show 2 ≤ sizeLine; decide, fun p hp => eq_err (r := some n) (h.fwd (e3.trans (Ex.new hp))) ⟨p, rfl, upd_same⟩ (q _)⟩
end
end K9
end
section
set_option Elab.async false
set_option linter.all false
set_option maxRecDepth 100000
set_option maxHeartbeats 1000000
namespace K9
open PySem PySem.Spec PyProof.Rows L2 Evl LamX
abbrev s53 : Stmt := top 53
theorem sc53 : FnScope ["_law_script", "_law_pen_here", "_law_turn", "_law_value", "_law_again", "_law_due_here", "_law_many", "_law_rows"] ["_law_script"] (defScope s53) := ⟨rfl, rfl, rfl, by decide +kernel, rfl, by decide +kernel, by decide +kernel⟩
/-- the name of the lambdas' code -/
abbrev qLam : Str := (("law" : Str) ++ (".<locals>." : Str)) ++ ("<lambda>" : Str)
def spLaw (K : PySem.W.Frag) (Pt : Addr) : Sp := fun vs H Q _ => ∃ (a : Addr) (ns : List Int), vs = [.ref a] ∧ SqL K H a (ns.map V.int) ∧ ns.length ≤ 63 ∧ H Pt = some (.tbl #[]) ∧ ∀ H', Q (.bl true) H'
section
variable {K : PySem.W.Frag} {σ : L2.St} {H : Hp} {ta tb te : TE} {x v w : V}
theorem ev_min2 {i j : Int} (h : Ev tb σ H (.int j)) : Ev (tCB (fun xs H Q => ∃ i j, xs = [.int i, .int j] ∧ Q (.int (if j < i then j else i)) H) (tCons (tC (.int i)) (tCons tb tNil))) σ H (.int (if j < i then j else i)) := fun H1 e Q q =>
  h H1 e _ fun H2 e2 => ⟨i, j, rfl, q H2 e2⟩
theorem passF {X : Cx} {P : Program} {w : World} : Passes (L2.CX P w) X (fun _ _ _ => False) := fun pins σ H s e s' I z => by
  obtain ⟨_, _, _, _, _, _, _, _, _, _, _, _, q⟩ := z
  exact q.elim
theorem rv_sadd {a b : Str} (hz : a.length + b.length ≤ 100000) : RV (fun x y H Q => ∃ i j, x = .str i ∧ y = .str j ∧ i.length + j.length ≤ sizeLine ∧ Q (.str (i ++ j)) H) (.str a) (.str b) H (.str (a ++ b)) := rv_val fun _ _ _ q => ⟨a, b, rfl, rfl, sz_of hz, q⟩
theorem rv_smul {a : Str} {i : Int} (h : MulOk a i) : RV rRepS (.str a) (.int i) H (.str (PySem.Txt.mul a i)) := rv_val fun _ _ _ q => ⟨a, i, rfl, rfl, h, q⟩
theorem rep_flat {x : Str} {n : Nat} : (List.replicate n [V.str x]).flatten = (List.replicate n x).map V.str := by rw [List.map_replicate, List.flatten_replicate_singleton]
theorem ln_A : ("year" : Str) ++ PySem.Txt.mul (" 40" : Str) 14 = lnA := rfl
theorem ln_B : (("year" : Str) ++ PySem.Txt.mul (" 40" : Str) 13) ++ (" 39" : Str) = lnB := rfl
abbrev rSadd : R2 := fun x y H Q => ∃ i j, x = .str i ∧ y = .str j ∧ i.length + j.length ≤ sizeLine ∧ Q (.str (i ++ j)) H
theorem ev_y40 {n : Int} (h : MulOk (" 40" : Str) n) (hz : ("year" : Str).length + (PySem.Txt.mul (" 40" : Str) n).length ≤ 100000) : Ev (tOp rSadd (tC (.str "year")) (tOp rRepS (tC (.str " 40")) (tC (.int n)))) σ H (.str (("year" : Str) ++ PySem.Txt.mul (" 40" : Str) n)) := ev_op ev_c (ev_op ev_c ev_c (rv_smul h)) (rv_sadd hz)
theorem ev_lnA : Ev (tOp rSadd (tC (.str "year")) (tOp rRepS (tC (.str " 40")) (tC (.int 14)))) σ H (.str lnA) := ev_is (ev_y40 ⟨by decide, (fun _ _ => by decide +kernel), (fun _ _ => by decide +kernel)⟩ (by decide +kernel)) (congrArg V.str ln_A)
theorem ev_lnB : Ev (tOp rSadd (tOp rSadd (tC (.str "year")) (tOp rRepS (tC (.str " 40")) (tC (.int 13)))) (tC (.str " 39"))) σ H (.str lnB) := ev_is (ev_op (ev_y40 ⟨by decide, (fun _ _ => by decide +kernel), (fun _ _ => by decide +kernel)⟩ (by decide +kernel)) ev_c (rv_sadd (by decide +kernel))) (congrArg V.str ln_B)
theorem el_head7 : EvL (tLst (tCons (tC (.str "week 7 first 0")) (tCons (tC (.str "rest")) tNil))) σ H ([lnHead7, wRest].map V.str) := el_lst (ea_cons ev_c (ea_cons ev_c ea_nil)) (by show 2 ≤ 100000; decide)
theorem el_A51 : EvL (tOp rRep (tLst (tCons (tOp rSadd (tC (.str "year")) (tOp rRepS (tC (.str " 40")) (tC (.int 14)))) tNil)) (tC (.int 51))) σ H ((List.replicate 51 lnA).map V.str) := el_is (el_rep (xs := [V.str lnA]) (k := 51) (el_lst (ea_cons ev_lnA ea_nil) (by show 1 ≤ 100000; decide)) ev_c (by decide) (by show 1 * 51 ≤ 100000; decide)) (rep_flat (n := 51))
theorem el_last : EvL (tOp rCat (tOp rCat (tLst (tCons (tC (.str "week 7 first 0")) (tCons (tC (.str "rest")) tNil))) (tOp rRep (tLst (tCons (tOp rSadd (tC (.str "year")) (tOp rRepS (tC (.str " 40")) (tC (.int 14)))) tNil)) (tC (.int 51)))) (tLst (tCons (tOp rSadd (tOp rSadd (tC (.str "year")) (tOp rRepS (tC (.str " 40")) (tC (.int 13)))) (tC (.str " 39"))) tNil))) σ H (lastL.map V.str) :=
  es_cat (es_cat el_head7 el_A51 (by rw [List.length_replicate]; show 2 + 51 ≤ 1000000; decide)) (es_one ev_lnB) (by rw [List.length_append, List.length_replicate]; show 2 + 51 + 1 ≤ 1000000; decide)
theorem last_size : lastT.length ≤ 90000 := Nat.le_trans (join_wt nl_1 lastL) (Nat.le_trans last_len (by decide))
def yLine (i : Int) : Str := if i = 1 then lnY1 else lnY2
theorem yLine_ok {i : Int} (h : i = 1 ∨ i = 2) : ∃ x : Int, (1 ≤ x ∧ x ≤ 2) ∧ numbersP (yLine i) wYear 1 40 = some [x] ∧ Cl (yLine i) ∧ (yLine i).length ≤ 10 := by
  rcases h with rfl | rfl
  · exact ⟨1, by decide, nm1, cl_small (by decide +kernel), by decide +kernel⟩
  · exact ⟨2, by decide, nm2, cl_small (by decide +kernel), by decide +kernel⟩
theorem ec_years {a c : Addr} {G : Hp} {i1 i6 M : Nat} {E : XK} (hσ : σ[i1]? = some (some (.ref a))) (h6 : σ[i6]? = some (some (.int (M : Int)))) (hM : M ≤ 1000) :
    EvC a c 1 (tOp rRep (tLst (tCons (tOp (fun x y H Q => ∃ i j, x = .str i ∧ y = .str j ∧ i.length + j.length ≤ sizeLine ∧ Q (.str (i ++ j)) H) (tC (.str "year ")) (tCall (sp38 K) [] E (tCons (tVar i1) (tCons (tLst (tCons (tC (.str "1")) (tCons (tC (.str "2")) tNil))) tNil)))) tNil)) (tVar i6)) σ G
      (fun _ v H2 => ∃ i p, (i = 1 ∨ i = 2) ∧ v = .ref p ∧ H2 p = some (.lst ((List.replicate M (yLine i)).map V.str))) := fun H m e p Q q => by
  refine ⟨_, hσ, by show 2 ≤ sizeLine; decide, fun o ho => ⟨a, c, o, _, m, rfl, pen_ne p ho, upd_same, by decide, by decide, p.ex (Ex.new ho), fun u H3 x3 p3 hu => ?_⟩⟩
  have x3' : Exa a H H3 := (Exa.of (Ex.new ho)).trans x3
  have fin : ∀ (i : Int) (w : Str), (i = 1 ∨ i = 2) → u = .str w → ("year " : Str) ++ w = yLine i → w.length ≤ 10 → (fun x y H Q => ∃ i j, x = V.str i ∧ y = V.str j ∧ i.length + j.length ≤ sizeLine ∧ Q (V.str (i ++ j)) H) (V.str "year ") u H3 fun x H1 => (tNil σ H1 fun xs H2 => (x :: xs).length ≤ sizeLine ∧ ∀ p, H2 p = none → (tVar i6) σ (upd H2 p (.lst (x :: xs))) fun y H4 => rRep (.ref p) y H4 Q) := fun i w hi hu hw hl => by
    refine ⟨"year ", w, rfl, hu, sz_of (by have : ("year " : Str).length = 5 := by decide +kernel
                                           omega), ?_⟩
    rw [hw]
    refine ⟨by show 1 ≤ sizeLine; decide, fun l hl2 => ⟨_, h6, l, (M : Int), _, rfl, rfl, upd_same, by omega, by omega, by show 1 * (M : Int).toNat ≤ sizeLine; exact sz_of (by simp; omega), fun r hr => ?_⟩⟩
    refine q _ _ (x3'.trans (Exa.of ((Ex.new hl2).trans (Ex.new hr)))) (p3.ex ((Ex.new hl2).trans (Ex.new hr))) ⟨i, r, hi, rfl, ?_⟩
    refine upd_same.trans ?_
    rw [Int.toNat_natCast, List.map_replicate, List.flatten_replicate_singleton]
  rcases List.mem_cons.mp hu with h | h
  · exact fin 1 _ (.inl rfl) h (by decide +kernel) (by decide +kernel)
  · exact fin 2 _ (.inr rfl) (List.mem_singleton.mp h) (by decide +kernel) (by decide +kernel)
end
/-- the bound of a text that was bent so often -/
def tN : Nat → Nat
  | 0 => 1500
  | 1 => 8200
  | 2 => 21600
  | _ => 48400
theorem tx_mono {T N T' N' : Nat} {z : Str} (h : Tx T N z) (h1 : T ≤ T') (h2 : N ≤ N') : Tx T' N' z := ⟨Nat.le_trans h.1 h1, h.2.1, Nat.le_trans h.2.2 h2⟩
section
variable {P : Program} {w : World} {K : PySem.W.Frag} {mg : Str → Option Value} {base : Heap} {f c0 Pt C CI CD CT gR pR gE : Addr} {dV kV doc pm ct oc : Value} {an od : Option Addr} {osl : Array (Option Value)} {fdE : FuncData}
theorem ok53 (lk : K.lookup f = some ⟨oc, od, .func (PySem.W.fnOf "law" "law" (defArgs s53) (defBody s53) (defScope s53) dV kV doc pm an (.ref c0) ct), osl⟩) (hcd : PySem.W.codeIn K (.ref c0) "law" = true) (TB : TabB base mg c0 Pt) (T : Txt mg)
    (CC : CalK K C) (mC : mg "Calendar" = some (.ref C)) (mI : mg "InvalidCalendar" = some (.ref CI)) (mD : mg "InvalidDate" = some (.ref CD)) (mT : mg "InvalidText" = some (.ref CT)) (EX : ErrX K CI CD CT)
    (CR : ClX.CRead K C (.type "type")) (CM : ClX.CMet K C (.type "type") "read" pR gR) (FR : FnR P w K mg base (L2.CX P w) 8 gR (spRead K C CT)) (P_text : PropP P w K mg base 2 C "text" (spText C))
    (FE : FnP K "_law_error" s47 gE fdE) (mE : mg "_law_error" = some (.ref gE)) (C_law_pen : CalN P w K mg base 1 "_law_pen" (sp36 K)) (C_law_draw : CalN P w K mg base 1 "_law_draw" sp37) (C_law_pick : CalN P w K mg base 2 "_law_pick" (sp38 K))
    (C_law_any_value : CalN P w K mg base 3 "_law_any_value" (sp40 K)) (C_law_plain : CalN P w K mg base 4 "_law_plain" sp41) (C_law_calendar : CalN P w K mg base 8 "_law_calendar" (sp43 C)) (C_law_due : CalN P w K mg base 4 "_law_due" (sp51 K)) (C_law_bent : CalN P w K mg base 3 "_law_bent" sp52) :
    FnOk P w K mg base L2.CX0 12 f (PySem.W.fnOf "law" "law" (defArgs s53) (defBody s53) (defScope s53) dV kV doc pm an (.ref c0) ct) ["_law_script"] (spLaw K Pt) := by
  refine fn_of lk hcd sc53 (fun vs H Q E h => ?_) (fun A outer s H vs Q E hr h => ?_)
  · obtain ⟨a, ns, rfl, _⟩ := h
    rfl
  · obtain ⟨sa, ns, rfl, hS, hlen, hP, k⟩ := h
    have nd := sc53.nd
    obtain ⟨ocE, odE, dVE, kVE, docE, pmE, anE, cdvE, ctE, oslE, rfl, lkE, hcdE, _, _⟩ := id FE.ex
    have bE := FE.bindsN (ps := ["_law_call"]) fun _ _ _ _ _ _ us hl => match us, hl with | [_], _ => rfl
    have ht : ∃ t, PSs (cxOf L2.CX0 P w K mg base ["_law_script", "_law_pen_here", "_law_turn", "_law_value", "_law_again", "_law_due_here", "_law_many", "_law_rows"] "law" (defScope s53) f (.ref c0) A outer s H E).nox (defBody s53) t ∧ t { nx := fun _ H' => Q .non H', rt := Q } (L2.start ["_law_script", "_law_pen_here", "_law_turn", "_law_value", "_law_again", "_law_due_here", "_law_many", "_law_rows"] [.ref sa]) H := by
      refine ⟨_, (pss_cons (ps_set (i := 1) nd rfl (Or.inl rfl) (C8.pe_c (C_law_pen) hr (by decide) (by rfl) (pa_cons (pv 0) pa_nil)))
    (pss_cons (ps_for PassesOwn.never rfl (pi_range1 (by rfl) T.range (pa_cons (pe_op op_add pe_int (pe_callB (call_min2 rfl) (by rfl) T.min (by decide +kernel) (pa_cons pe_int (pa_cons (pe_callB call_len_seq (by rfl) T.len (by decide +kernel) (pa_cons (pv 0) pa_nil)) pa_nil)))) pa_nil)) (pg_name (i := 2) nd rfl (Or.inl rfl)) (pss_cons (ps_set (i := 3) nd rfl (Or.inr rfl) (pe_pr CC.cls (P_text) hr (by decide) (C8.pe_c (C_law_calendar) hr (by decide) (by rfl) (pa_cons (C8.pe_c (C_law_plain) hr (by decide) (by rfl) (pa_cons (pv 1) pa_nil)) pa_nil)) rfl))
    (pss_cons (ps_for PassesOwn.never rfl (pi_range1 (by rfl) T.range (pa_cons (C8.pe_c (C_law_draw) hr (by decide) (by rfl) (pa_cons (pv 1) (pa_cons pe_int pa_nil))) pa_nil)) (pg_name (i := 4) nd rfl (Or.inl rfl)) (pss_one (ps_set (i := 3) nd rfl (Or.inr rfl) (C8.pe_c (C_law_bent) hr (by decide) (by rfl) (pa_cons (pv 1) (pa_cons (pv 3) pa_nil))))))
    (pss_cons (ps_set (i := 3) nd rfl (Or.inr rfl) (C8.pe_c (C_law_pick) hr (by decide) (by rfl) (pa_cons (pv 1) (pa_cons (pe_lst (pa_cons (pv 3) (pa_cons (pv 3) (pa_cons (pv 3) (pa_cons (pv 3) (pa_cons (C8.pe_c (C_law_any_value) hr (by decide) (by rfl) (pa_cons (pv 1) pa_nil)) pa_nil)))))) pa_nil))))
    (pss_cons (ps_set (i := 5) nd rfl (Or.inl rfl) (C8.pe_c (C_law_due) hr (by decide) (by rfl) (pa_cons (pv 3) pa_nil)))
    (pss_cons (ps_if (PW.pt (pw_and (pt_cmpR op_notN (pv 5) pe_non (nomark _)) (pw_and1 (pt_cmpR (op_neD hr.units) (LamX.pe_lamcall (T := [(Pt, qLam)]) (TT := TTerr CT) (t := tRd K C CT (tVar 3)) (k := 8) (by rfl) mE FE.kp lkE hcdE bE sc47 rfl (Or.inl rfl) (err_gives T mI mD mT EX) TB rfl (List.mem_singleton.mpr rfl) (fun p hp _ => by rw [List.mem_singleton.mp hp]; rfl) (hr.mono (by decide)) (lamS_by (sc := defScope s53) (by decide +kernel)) rfl (fun _ _ _ _ _ => rfl) (fun A outer s H E f c' hr8 => ClX.pe_cmeth (C8.pe_gc (v := .ref C) (by rfl) ⟨_, mC, rfl⟩) CR CM FR hr8 (passes_call (takes_of rfl rfl rfl rfl) (fun _ _ _ _ h => h)) (pa_cons (pv 3) pa_nil))) (pe_tup (pa_cons pe_str (pa_cons (pv 5) pa_nil))) (nomark _))))) (pss_one (ps_ret pe_bl)) pss_nil)
    (pss_one (ps_if (PW.pt (pw_and (pt_cmpR op_isN (pv 5) pe_non (nomark _)) (pw_and1 (pt_cmpR op_ne (pe_pr CC.cls (P_text) hr (by decide) (ClX.pe_cmeth (E := fun _ _ _ => False) (C8.pe_gc (v := .ref C) (by rfl) ⟨_, mC, rfl⟩) CR CM FR (hr.mono (by decide)) passF (pa_cons (pv 3) pa_nil)) rfl) (pv 3) (nomark _))))) (pss_one (ps_ret pe_bl)) pss_nil))))))))
    (pss_cons (ps_set (i := 6) nd rfl (Or.inl rfl) (pe_op op_add pe_int (C8.pe_c (C_law_draw) hr (by decide) (by rfl) (pa_cons (pv 1) (pa_cons pe_int pa_nil)))))
    (pss_cons (ps_set (i := 3) nd rfl (Or.inr rfl) (pe_joinK (K := K) rfl pe_str (pe_op op_cat (pe_lst (pa_cons pe_str (pa_cons pe_str pa_nil))) (pe_op op_rep (pe_lst (pa_cons (pe_op op_add_str pe_str (C8.pe_c (C_law_pick) hr (by decide) (by rfl) (pa_cons (pv 1) (pa_cons (pe_lst (pa_cons pe_str (pa_cons pe_str pa_nil))) pa_nil)))) pa_nil)) (pv 6)))))
    (pss_cons (ps_set (i := 5) nd rfl (Or.inl rfl) (pe_ifExp (pt_cmpR op_lt (pv 6) pe_int (nomark _)) pe_non (pe_tup (pa_cons pe_str (pa_cons pe_int pa_nil)))))
    (pss_cons (ps_if (pt_cmpR (op_neD hr.units) (LamX.pe_lamcall (T := [(Pt, qLam)]) (TT := TTerr CT) (t := tRd K C CT (tVar 3)) (k := 8) (by rfl) mE FE.kp lkE hcdE bE sc47 rfl (Or.inl rfl) (err_gives T mI mD mT EX) TB rfl (List.mem_singleton.mpr rfl) (fun p hp _ => by rw [List.mem_singleton.mp hp]; rfl) (hr.mono (by decide)) (lamS_by (sc := defScope s53) (by decide +kernel)) rfl (fun _ _ _ _ _ => rfl) (fun A outer s H E f c' hr8 => ClX.pe_cmeth (C8.pe_gc (v := .ref C) (by rfl) ⟨_, mC, rfl⟩) CR CM FR hr8 (passes_call (takes_of rfl rfl rfl rfl) (fun _ _ _ _ h => h)) (pa_cons (pv 3) pa_nil))) (pv 5) (nomark _)) (pss_one (ps_ret pe_bl)) pss_nil)
    (pss_cons (ps_set (i := 7) nd rfl (Or.inr rfl) (pe_op op_cat (pe_op op_cat (pe_lst (pa_cons pe_str (pa_cons pe_str pa_nil))) (pe_op op_rep (pe_lst (pa_cons (pe_op op_add_str pe_str (pe_op op_repS pe_str pe_int)) pa_nil)) pe_int)) (pe_lst (pa_cons (pe_op op_add_str (pe_op op_add_str pe_str (pe_op op_repS pe_str pe_int)) pe_str) pa_nil))))
    (pss_one (ps_ret (pe_cmpR (r := rEqD K) (op_eqD hr.units) (LamX.pe_lamcall (T := [(Pt, qLam)]) (TT := TTerr CT) (t := tRd K C CT (tM1 (rJoin K) (tC (.str nl)) (tVar 7))) (k := 8) (by rfl) mE FE.kp lkE hcdE bE sc47 rfl (Or.inl rfl) (err_gives T mI mD mT EX) TB rfl (List.mem_singleton.mpr rfl) (fun p hp _ => by rw [List.mem_singleton.mp hp]; rfl) (hr.mono (by decide)) (lamS_by (sc := defScope s53) (by decide +kernel)) rfl (fun _ _ _ _ _ => rfl) (fun A outer s H E f c' hr8 => ClX.pe_cmeth (C8.pe_gc (v := .ref C) (by rfl) ⟨_, mC, rfl⟩) CR CM FR hr8 (passes_call (takes_of rfl rfl rfl rfl) (fun _ _ _ _ h => h)) (pa_cons (pe_joinK (K := K) rfl pe_str (pv 7)) pa_nil))) (pe_tup (pa_cons pe_str (pa_cons pe_int pa_nil))) (nomark _))))))))))), ?_⟩
      -- the pen
      refine ⟨_, rfl, sa, ns, rfl, hS, fun a c H1 ha e1 p1 => ?_⟩
      show tSeq _ _ _ [some (.ref sa), some (.ref a), none, none, none, none, none, none] H1
      have t1 : Tabs [(Pt, qLam)] H1 := fun p hp => by
        rw [List.mem_singleton.mp hp]
        exact TabS.nil (e1 _ _ hP)
      refine q_forR1b (n := 8 + (if (ns.length : Int) < 10 then (ns.length : Int) else 10)) (ea_cons (ev_op ev_c (ev_min2 (ev_is (ev_lenQ (ev_var rfl) (ex_l e1 hS)) (by rw [List.length_map]))) rv_I0) ea_nil) (by split <;> omega)
        (fun i σ' H' => ∃ v2 v3 v4 v5, σ' = [some (.ref sa), some (.ref a), v2, v3, v4, v5, none, none] ∧ Pen H' a c (1000000000 - 2000 * i) ∧ Tabs [(Pt, qLam)] H')
        (fun H2 e2 => ⟨none, none, none, none, rfl, (p1.ex e2).less (by omega), t1.ext e2⟩) (fun i σ' H' hi ⟨v2, v3, v4, v5, hσ, p, t⟩ => ?_) (fun σ' H' ⟨v2, v3, v4, v5, hσ, p, t⟩ => ?_)
      · have hi18 : i < 18 := by split at hi <;> omega
        subst hσ
        obtain ⟨m, hm⟩ : ∃ m, 1000000000 - 2000 * i = m + 2000 := ⟨1000000000 - 2000 * i - 2000, by omega⟩
        have hm2 : 1000000000 - 2000 * (i + 1) = m := by omega
        rw [hm] at p
        show tSeq _ _ _ [some (.ref sa), some (.ref a), some (.int (i : Int)), v3, v4, v5, none, none] H'
        refine ⟨_, rfl, a, c, m + 1000, rfl, p.less (by omega), fun pl H2 d x2 p2 ok fine hpl hy hh => ?_⟩
        refine ⟨_, ⟨pl, d, rfl, ok, fine, hpl, rfl⟩, fun v H3 e3 ⟨ca, rs, hs, hv, q1, q2, hcal⟩ => ?_⟩
        subst hv
        have hcal' := hcal
        obtain ⟨dx, fs, ty, tr, th, tl, ts, xs, us, hca, _, _⟩ := hcal'
        have okS := ok.sorted q1 q2
        refine ⟨ca, dx, fs, rfl, hca, _, ⟨ca, d.sorted rs hs, [], rfl, okS, hcal, rfl, rfl⟩, fun v H4 e4 hv => ?_⟩
        subst hv
        have x4 : Exa a H' H4 := x2.trans (Exa.of (e3.trans e4))
        have p4 := p2.ex (e3.trans e4)
        have t4 := tabs_exa t p x4
        have tx := text_tx okS hy (by show hs.length ≤ 2; rw [q2.length_eq]; exact hh)
        generalize textP (d.sorted rs hs).ys (d.sorted rs hs).w (d.sorted rs hs).f (d.sorted rs hs).rs (d.sorted rs hs).hs = z0 at *
        show tSeq _ _ _ [some (.ref sa), some (.ref a), some (.int (i : Int)), some (.str z0), v4, v5, none, none] H4
        refine c_forR (a := a) (c := c) (n := 1) (m := m + 999) (b := 3) (EvC.imp (ec_draw rfl ev_c (by decide) (by decide)) fun H v H2 _ _ ⟨j, h1, h2⟩ => ⟨j, h1, by omega⟩) (by decide) p4
          (fun j σ' H' => ∃ v4 z, σ' = [some (.ref sa), some (.ref a), some (.int (i : Int)), some (.str z), v4, v5, none, none] ∧ Tx (tN j) (8 + j) z ∧ Pen H' a c (m + 999 - 100 * j) ∧ Tabs [(Pt, qLam)] H')
          (fun H5 x5 p5 => ⟨v4, z0, rfl, tx, p5, tabs_exa t4 p4 x5⟩) (fun j σ5 H5 hj ⟨w4, z, hσ5, tx5, p5, t5⟩ => ?_) (fun j σ5 H5 hj ⟨w4, z, hσ5, tx5, p5, t5⟩ => ?_)
        · subst hσ5
          show tAsg _ _ _ [some (.ref sa), some (.ref a), some (.int (i : Int)), some (.str z), some (.int (j : Int)), v5, none, none] H5
          have b : tN j ≤ 30000 ∧ 8 + j ≤ 50 ∧ 2 * tN j + 5200 ≤ tN (j + 1) := by
            match j, hj with
            | 0, _ => decide
            | 1, _ => decide
            | 2, _ => decide
            | j + 3, hj => exact absurd hj (by omega)
          obtain ⟨b1, b2, b3⟩ := b
          refine ⟨_, rfl, _, rfl, a, c, m + 999 - 100 * (j + 1), tN j, 8 + j, z, rfl, tx5, b1, b2, p5.less (by omega), fun z' H6 x6 p6 tx6 => ?_⟩
          exact ⟨some (.int (j : Int)), z', rfl, tx_mono tx6 b3 (by omega), p6, tabs_exa t5 p5 x6⟩
        · subst hσ5
          have hj3 : j ≤ 3 := by omega
          have txk : Txk z := by
            have b : tN j ≤ 90000 := by
              match j, hj3 with
              | 0, _ => decide
              | 1, _ => decide
              | 2, _ => decide
              | 3, _ => decide
              | j + 4, hj => exact absurd hj (by omega)
            exact ⟨Nat.le_trans tx5.1 b, tx5.2.1, by have := tx5.2.2; omega⟩
          show tSeq _ _ _ [some (.ref sa), some (.ref a), some (.int (i : Int)), some (.str z), w4, v5, none, none] H5
          refine ⟨_, rfl, _, rfl, _, rfl, _, rfl, _, rfl, _, rfl, a, c, m + 1, rfl, p5.less (by omega), fun v H6 x6 p6 hk => ⟨by show 5 ≤ sizeLine; decide, fun o ho => ?_⟩⟩
          refine ⟨a, c, o, _, m, rfl, pen_ne p6 ho, upd_same, by show 1 ≤ 5; decide, by show 5 ≤ 100000000; decide, p6.ex (Ex.new ho), fun u H7 x7 p7 hu => ?_⟩
          have x57 : Exa a H5 H7 := x6.trans ((Exa.of (Ex.new ho)).trans x7)
          have t7 := tabs_exa t5 p5 x57
          have kn : Knd K H7 u := by
            have kz : Knd K H7 (.str z) := .inl ⟨z, rfl, txk⟩
            simp only [List.mem_cons, List.not_mem_nil, or_false] at hu
            rcases hu with rfl | rfl | rfl | rfl | rfl
            · exact kz
            · exact kz
            · exact kz
            · exact kz
            · exact (hk.fwd (((Exa.of (Ex.new ho)).trans x7).hid)).fwd hid_le
          show tSeq _ _ _ [some (.ref sa), some (.ref a), some (.int (i : Int)), some u, w4, v5, none, none] H7
          obtain ⟨r, hr7, hdue⟩ := due_run kn
          refine ⟨_, rfl, hdue _ _ fun H8 e8 => ?_⟩
          have p8 := p7.ex e8
          have t8 := t7.ext e8
          have hr8 := hr7.fwd e8
          rw [← hm2] at p8
          show tSeq _ _ _ [some (.ref sa), some (.ref a), some (.int (i : Int)), some u, w4, some (optNV r), none, none] H8
          cases r with
          | none =>
            rcases hr8 with ⟨z', rfl, hz, h64, hn⟩ | ⟨_, _, _, h⟩
            · refine q_when (b := false) (et_is (et_and (a := false) (b := false) (et_test (ev_op (ev_var (v := .non) rfl) ev_c rv_notN)) (fun h => by cases h)) rfl) (fun h => by cases h) fun _ H9 e9 => ?_
              exact s_when (b := false) (et_is (et_and (a := true) (b := false) (et_test (ev_op (ev_var (v := .non) rfl) ev_c rv_isN)) fun _ => et_is (et_test (ev_op (ev_text (ev_var rfl) hz h64 hn.symm) (ev_var rfl) rv_strN)) (by simp)) rfl) (fun h => by cases h) fun _ HA eA => ⟨_, _, _, _, rfl, p8.ex (e9.trans eA), t8.ext (e9.trans eA)⟩
            · cases h
          | some n =>
            refine q_andLam (T := [(Pt, qLam)]) (et_test (ev_op (ev_var (v := .int (n : Int)) rfl) ev_c rv_notN)) (fun H9 e9 Q q => ne_lam (t8.ext e9) (hr8.fwd e9) (fun _ _ => ev_var rfl) (fun _ _ => ev_var rfl) q) fun H9 HA e9 g => ?_
            exact s_when (b := false) (et_is (et_and (a := false) (b := false) (et_test (ev_op (ev_var (v := .int (n : Int)) rfl) ev_c rv_isN)) (fun h => by cases h)) rfl) (fun h => by cases h) fun _ HB eB => ⟨_, _, _, _, rfl, (g.pen (p8.ex e9)).ex eB, g.tabs.ext eB⟩
      · subst hσ
        have hn18 : (8 + (if (ns.length : Int) < 10 then (ns.length : Int) else 10)).toNat ≤ 18 := by split <;> omega
        refine c_asg (m := 101) (ec_plus hid_none (ec_draw rfl ev_c (by decide) (by decide))) (p.less (by omega)) fun v H2 x2 p2 ⟨mi, hv, j, hmj, hj0, hj3⟩ => ?_
        subst hv
        have t2 := tabs_exa t p x2
        obtain ⟨M, rfl⟩ := Int.eq_ofNat_of_zero_le (show 0 ≤ mi by omega)
        have hM1 : 399 ≤ M := by omega
        have hM2 : M ≤ 401 := by omega
        show tSeq _ _ _ [some (.ref sa), some (.ref a), v2, v3, v4, v5, some (.int (M : Int)), none] H2
        refine c_asg (m := 100) (ec_joinCat (y := nl) (A := [lnHead, wRest]) (B := fun i => List.replicate M (yLine i)) (P := fun i => i = 1 ∨ i = 2) (el_lst (ea_cons ev_c (ea_cons ev_c ea_nil)) (by show 2 ≤ 100000; decide)) (ec_years rfl rfl (by omega)) (fun i hi => ?_)) p2 fun v H3 x3 p3 ⟨i, hi, hv⟩ => ?_
        · obtain ⟨_, _, _, _, hl⟩ := yLine_ok hi
          exact ⟨by rw [List.length_replicate]; show 2 + M ≤ 1000; omega, Nat.le_trans (join_size nl_1 (long_len hl (by omega))) (by decide)⟩
        subst hv
        have t3 := tabs_exa t2 p2 x3
        obtain ⟨yx, hyx, hnum, hcl, hl⟩ := yLine_ok hi
        have hlen3 : (longT (yLine i) M).length ≤ 90000 := Nat.le_trans (join_wt nl_1 _) (Nat.le_trans (long_len hl (by omega)) (by decide))
        have hF := long_F (n := M) hnum hcl hyx (by omega)
        have hh := long_hols (n := M) hnum hcl (by omega)
        obtain ⟨r, hr, hdr⟩ : ∃ r : Option Nat, r = (if M ≤ 400 then none else some 402) ∧ r = dueO (longT (yLine i) M) := by
          refine ⟨_, rfl, ?_⟩
          by_cases h4 : M ≤ 400
          · rw [if_pos h4] at hF ⊢
            obtain ⟨d, hd⟩ := hF
            exact (dueO_ok hd).symm
          · rw [if_neg h4] at hF ⊢
            exact (dueO_err hF).symm
        have hrd : Rd K H3 (.str (longT (yLine i) M)) r := .inl ⟨_, rfl, hlen3, hh, hdr⟩
        have ez : Txt.join nl ([lnHead, wRest] ++ List.replicate M (yLine i)) = longT (yLine i) M := rfl
        rw [ez]
        generalize longT (yLine i) M = z at *
        show tSeq _ _ _ [some (.ref sa), some (.ref a), v2, some (.str z), v4, v5, some (.int (M : Int)), none] H3
        refine q_asgP (R := ErV r) (ep_if (b := decide ((M : Int) < 401)) (et_test (ev_op (ev_var rfl) ev_c rv_I0)) (fun hb => EvP.imp (ep_ev ev_c) fun v H4 _ hv => ?_) (fun hb => EvP.imp (ep_u (eu_tup (ea_cons ev_c (ea_cons ev_c ea_nil)) (by show 2 ≤ 100000; decide))) fun v H4 _ ⟨q, hv, _, hq⟩ => ?_)) fun w H4 e4 hw => ?_
        · have : (M : Int) < 401 := of_decide_eq_true hb
          rw [hr, if_pos (by omega)]
          exact hv
        · have : ¬ (M : Int) < 401 := of_decide_eq_false hb
          rw [hr, if_neg (by omega)]
          exact ⟨q, hv, hq⟩
        show tSeq _ _ _ [some (.ref sa), some (.ref a), v2, some (.str z), v4, some w, some (.int (M : Int)), none] H4
        refine q_ifLam (T := [(Pt, qLam)]) (fun Q q => ne_lamV (t3.ext e4) (hrd.fwd e4) (fun _ _ => ev_var rfl) hw (fun _ _ => ev_var rfl) q) fun H5 g => ?_
        have t5 := g.tabs
        refine q_asgL (xs := lastL.map V.str) el_last fun pr H6 hpr e6 h6 => ?_
        have t6 := t5.ext e6
        have hrd6 : Rd K H6 (.str lastT) (some 54) := .inl ⟨lastT, rfl, last_size, last_hols, (dueO_err last_F).symm⟩
        exact eq_lam (n := 54) t6 hrd6 (fun H7 e7 => ev_joinR ev_c (ev_var rfl) (sq_of (e7 _ _ h6 (fun _ z => by cases z))) (Nat.le_trans (join_size nl_1 last_len) (by decide))) (fun _ _ => ev_c) fun H7 => k H7
    obtain ⟨t, h1, h2⟩ := ht
    exact ⟨t, PSs.nox h1, h2⟩
end
end K9
end
section
set_option Elab.async false
set_option linter.all false
set_option maxRecDepth 100000
set_option maxHeartbeats 0
namespace K9
open PySem PySem.Spec PyProof.Rows L2
/-! ### the head: what stands behind the top, by names -/
def gD (x : Str) (i : Nat) : He5.DefA := ⟨fun K => He.fAd K (x, none), x, x, defArgs (top i), defBody (top i), defScope (top i), [], []⟩
def mD (C m q : Str) (st : Stmt) : He5.DefA := ⟨fun K => He.fAd K (C, some m), m, q, defArgs st, defBody st, defScope st, [], []⟩
def iD (C q : Str) (st : Stmt) (dfl : List He.Dv) : He5.DefA := ⟨fun K => He.fAd K (C, some "__init__"), "__init__", q, defArgs st, defBody st, defScope st, dfl, []⟩
def wD (T : String) (m q : Str) (st : Stmt) : He5.DefA := ⟨fun K => He5.wf K (He.ga K "Calendar") T m, m, q, defArgs st, defBody st, defScope st, [], []⟩
def hfa : List He.Fa := ([.glo "number_in", .glo "bounded_in", .glo "calendar_text", .glo "week_in", .glo "numbers_in", .glo "rest_in", .glo "holiday_in", .glo "year_in", .glo "read_calendar", .glo "is_integer", .glo "common_divisor", .glo "common_multiple", .glo "is_row", .glo "is_between", .glo "are_years", .glo "are_weekdays", .glo "are_holidays", .glo "month_starts", .glo "month_at", .glo "_law_pen"] : List He.Fa) ++ ([.glo "_law_draw", .glo "_law_pick", .glo "_law_gcd", .glo "_law_any_value", .glo "_law_plain", .glo "_law_with_days", .glo "_law_calendar", .glo "_law_facts", .glo "_law_weekday", .glo "_law_is_work", .glo "_law_error", .glo "_law_numbers", .glo "_law_line_fits", .glo "_law_year_fits", .glo "_law_due", .glo "_law_bent", .glo "law", .glo "InvalidCalendar", .glo "InvalidDate", .glo "InvalidText"] : List He.Fa) ++ ([.glo "Calendar", .free "abs", .free "all", .free "int", .free "isinstance", .free "len", .free "list", .free "min", .free "range", .free "repr", .free "set", .free "sorted", .free "str", .free "sum", .free "tuple", .free "bool", .free "ValueError", .int "MAX_PERIOD" 200000, .int "MAX_YEARS" 400, .int "MAX_MONTHS" 14] : List He.Fa) ++ ([.int "MAX_DAYS" 40, .int "MAX_WEEK" 10, .int "SHORT_PERIOD" 2000, .str "DIGITS" "0123456789", .cls "Calendar", .noat "Calendar" "all_years", .noat "Calendar" "days_of_week", .noat "Calendar" "begins", .noat "Calendar" "rests", .noat "Calendar" "free_days", .noat "Calendar" "lengths", .noat "Calendar" "starts", .noat "Calendar" "turn", .noat "Calendar" "works", .meth "Calendar" "weekday", .meth "Calendar" "is_work", .meth "Calendar" "parts", .meth "Calendar" "month_number", .meth "Calendar" "month_start", .meth "Calendar" "first_works"] : List He.Fa) ++ ([.meth "Calendar" "facts", .mkr "Calendar"] : List He.Fa)
def hfn : List He5.DefA := ([gD "number_in" 12, gD "bounded_in" 13, gD "calendar_text" 14, gD "week_in" 15, gD "numbers_in" 16, gD "rest_in" 17, gD "holiday_in" 18, gD "year_in" 19, gD "read_calendar" 20, gD "is_integer" 22, gD "common_divisor" 23, gD "common_multiple" 24, gD "is_row" 27, gD "is_between" 28, gD "are_years" 29, gD "are_weekdays" 30, gD "are_holidays" 31, gD "month_starts" 32, gD "month_at" 33, gD "_law_pen" 36] : List He5.DefA) ++ ([gD "_law_draw" 37, gD "_law_pick" 38, gD "_law_gcd" 39, gD "_law_any_value" 40, gD "_law_plain" 41, gD "_law_with_days" 42, gD "_law_calendar" 43, gD "_law_facts" 44, gD "_law_weekday" 45, gD "_law_is_work" 46, gD "_law_error" 47, gD "_law_numbers" 48, gD "_law_line_fits" 49, gD "_law_year_fits" 50, gD "_law_due" 51, gD "_law_bent" 52, gD "law" 53, mD "Calendar" "weekday" "Calendar.weekday" (inClass (top 34) 25), mD "Calendar" "is_work" "Calendar.is_work" (inClass (top 34) 26), mD "Calendar" "parts" "Calendar.parts" (inClass (top 34) 24)] : List He5.DefA) ++ ([mD "Calendar" "month_number" "Calendar.month_number" (inClass (top 34) 21), mD "Calendar" "month_start" "Calendar.month_start" (inClass (top 34) 19), mD "Calendar" "first_works" "Calendar.first_works" (inClass (top 34) 7), mD "Calendar" "facts" "Calendar.facts" (inClass (top 34) 5), iD "Calendar" "Calendar.__init__" (inClass (top 34) 0) [.int 7], iD "InvalidCalendar" "InvalidCalendar.__init__" (inClass (top 2) 0) [], iD "InvalidText" "InvalidText.__init__" (inClass (top 4) 0) [], wD "property" "period" "Calendar.period" (inClass (top 34) 17), wD "property" "text" "Calendar.text" (inClass (top 34) 18), wD "property" "months" "Calendar.months" (inClass (top 34) 15), wD "classmethod" "read" "Calendar.read" (inClass (top 34) 4)] : List He5.DefA)
/-- a property of Calendar -/
def propB (K : PySem.W.Frag) (C : Addr) (f : Str) : Bool := He.eqO (PySem.W.findIn K (.ref C) f) (some (some (.ref (He.ma K C f)))) && (He.eqO (PySem.W.specialIn K (.ref (He.ma K C f)) "__get__") (some (some (.builtin "property.__get__"))) &&
  (decide (PySem.W.takesIn K (.ref (He.ma K C f)) = some true) && (match PySem.W.recIn K (He.ma K C f) "property" with
    | some (.ref _ :: _) => true
    | _ => false)))
theorem propB_ok {K : PySem.W.Frag} {C : Addr} {f : Str} (h : propB K C f = true) : PropOf K C f (He.ma K C f) (He5.wf K C "property" f) := by
  obtain ⟨h1, h⟩ := He.ba h
  obtain ⟨h2, h⟩ := He.ba h
  obtain ⟨h3, h4⟩ := He.ba h
  refine ⟨He.eqO_ok h1, He.eqO_ok h2, of_decide_eq_true h3, ?_⟩
  unfold He5.wf
  cases e : PySem.W.recIn K (He.ma K C f) "property" with
  | none => rw [e] at h4; cases h4
  | some l =>
    rw [e] at h4
    cases l with
    | nil => cases h4
    | cons v r => cases v with
      | ref g => exact ⟨r, rfl⟩
      | _ => cases h4
/-- an error class with its own __init__ -/
def oexB (K : PySem.W.Frag) (C : Addr) : Bool := (match K.lookup C with
  | some ⟨.type t, _, .cls cd, sl⟩ => decide (t = "type") && (match cd.mro, sl.toList with
    | .ref D :: bm, [_, _, _, _, some (.builtin n), _] => decide (D = C) && (decide (n = "ValueError.__new__") && (!cd.hasDel && (cd.hasDict && PySem.HandSPX.refsVE bm)))
    | _, _ => false)
  | _ => false) && (He.eqO (PySem.W.findIn K (.ref C) "__setattr__") (some (some (.builtin "object.__setattr__"))) && (decide (PySem.W.subIn K (.ref C) (.type "BaseException") = some true) && (decide (PySem.W.typeIn K (.ref C) = some (.type "type")) && PySem.W.keepIn K (.ref C))))
theorem oexB_ok {K : PySem.W.Frag} {C : Addr} (h : oexB K C = true) : OexC K C := by
  obtain ⟨h1, h⟩ := He.ba h
  obtain ⟨h2, h⟩ := He.ba h
  obtain ⟨h3, h⟩ := He.ba h
  obtain ⟨h4, h5⟩ := He.ba h
  refine ⟨?_, He.eqO_ok h2, of_decide_eq_true h3, of_decide_eq_true h4, h5⟩
  clear h2 h3 h4 h5 h
  split at h1
  · rename_i t od cd sl e
    obtain ⟨k1, k⟩ := He.ba h1
    obtain rfl := of_decide_eq_true k1
    split at k
    · rename_i D bm s0 s1 s2 s3 n s5 hm hs
      obtain ⟨q1, k⟩ := He.ba k
      obtain ⟨q2, k⟩ := He.ba k
      obtain ⟨q3, k⟩ := He.ba k
      obtain ⟨q4, q5⟩ := He.ba k
      obtain rfl := of_decide_eq_true q1
      obtain rfl := of_decide_eq_true q2
      obtain ⟨c1, c2, c3, c4, c5, c6, c7, c8, c9, c10, c11⟩ := cd
      dsimp only at hm q3 q4
      subst hm q4
      have q6 : c11 = false := by
        cases c11 with
        | false => rfl
        | true => cases q3
      subst q6
      obtain ⟨l⟩ := sl
      have hs2 : l = [s0, s1, s2, s3, some (.builtin "ValueError.__new__"), s5] := hs
      subst hs2
      exact ⟨c1, c5, c4, c2, bm, c7, c8, c9, c10, od, s0, s1, s2, s3, s5, e, q5⟩
    · cases k
  · cases h1
/-- InvalidText, kept and asked -/
def exkB (K : PySem.W.Frag) (C : Addr) : Bool := He.eqO (PySem.W.findIn K (.ref C) "__getattribute__") (some (some (.builtin "BaseException.__getattribute__"))) && (He.eqO (PySem.W.findIn K (.ref C) "__getattr__") (some none) && (PySem.W.hasDictIn K C &&
  (He.eqO (PySem.W.findIn K (.ref C) "__class__") (some (some (.builtin "object.__class__"))) && (He.eqO (PySem.W.specialIn K (.builtin "object.__class__") "__get__") (some (some (.builtin "getset_descriptor.__get__"))) && (decide (PySem.W.takesIn K (.builtin "object.__class__") = some true) && decide (PySem.W.mroIn K C (.type "object") = some true))))))
theorem exkB_ok {K : PySem.W.Frag} {C : Addr} (o : OexC K C) (h : exkB K C = true) : ExcC K C ∧ XfC K C := by
  obtain ⟨h1, h⟩ := He.ba h
  obtain ⟨h2, h⟩ := He.ba h
  obtain ⟨h3, h⟩ := He.ba h
  obtain ⟨h4, h⟩ := He.ba h
  obtain ⟨h5, h⟩ := He.ba h
  obtain ⟨h6, h7⟩ := He.ba h
  exact ⟨⟨He.eqO_ok h1, He.eqO_ok h2, o.exC, h3, He.eqO_ok h4, He.eqO_ok h5, of_decide_eq_true h6, of_decide_eq_true h7⟩, ⟨He.eqO_ok h1, He.eqO_ok h2, o.exC, h3⟩⟩
/-- an error's __init__: a def -/
def iniB (K : PySem.W.Frag) (C : Addr) : Bool := He.eqO (PySem.W.findIn K (.ref C) "__init__") (some (some (.ref (He.ma K C "__init__")))) && decide (PySem.W.typeIn K (.ref (He.ma K C "__init__")) = some (.type "function"))
def hex (K : PySem.W.Frag) : Bool := propB K (He.ga K "Calendar") "period" && (propB K (He.ga K "Calendar") "text" && (propB K (He.ga K "Calendar") "months" &&
  (He5.wrapB K (He.ga K "Calendar") "classmethod" "classmethod.__get__" "read" && (PySem.W.fnIn K (He5.wf K (He.ga K "Calendar") "classmethod" "read") && (PySem.W.readsIn K (He.ga K "Calendar") (.type "type") && (He.eqO (PySem.W.specialIn K (.ref (He.ga K "Calendar")) "__getattribute__") (some (some (.builtin "type.__getattribute__"))) &&
  (oexB K (He.ga K "InvalidCalendar") && (oexB K (He.ga K "InvalidText") && (exkB K (He.ga K "InvalidText") && (iniB K (He.ga K "InvalidCalendar") && (iniB K (He.ga K "InvalidText") &&
  (He.eqO (PySem.W.findIn K (.ref (He.ga K "InvalidCalendar")) "word") (some none) && (He.eqO (PySem.W.findIn K (.ref (He.ga K "InvalidText")) "index") (some none) &&
  (decide (PySem.W.exmOne K (.ref (He.ga K "InvalidCalendar")) (.ref (He.ga K "InvalidCalendar")) = some true) && (decide (PySem.W.exmAny K (.ref (He.ga K "InvalidText")) [.ref (He.ga K "InvalidCalendar"), .ref (He.ga K "InvalidDate"), .ref (He.ga K "InvalidText")] = some true) &&
  (decide (PySem.W.kitOne K (.ref (He.ga K "InvalidText")) (.ref (He.ga K "InvalidCalendar")) = some false) && (decide (PySem.W.kitOne K (.ref (He.ga K "InvalidText")) (.ref (He.ga K "InvalidDate")) = some false) && (decide (PySem.W.kitOne K (.ref (He.ga K "InvalidText")) (.ref (He.ga K "InvalidText")) = some true) &&
  decide (PySem.W.kitOne K (.ref (He.ga K "InvalidText")) (.type "ValueError") = some true)))))))))))))))))))
/-! ### the Hook -/
def lawD : He.Defn := ("law", none)
/-- law's code object and its table, which is empty -/
def tabY (g : Addr → Option Obj) (K : PySem.W.Frag) : Bool := PySem.W.codeHdIn K (He.cT K lawD).1 (He.cT K lawD).2 && (g (He.cT K lawD).2).any He.emptyTab
abbrev AlY : Type := He.AlD × Bool
def cutY (n : Nat) (g : Addr → Option Obj) : PySem.W.Frag := He.frT g (He5.asA g n)
def obsK (g : Addr → Option Obj) (K : PySem.W.Frag) : AlY := (He5.obsA hfa hfn K, hex K && tabY g K)
def obsY (n : Nat) (g : Addr → Option Obj) : AlY := obsK g (cutY n g)
def valY : AlY := (He5.valA hfn, true)
structure SaysY (h : Heap) (K : PySem.W.Frag) : Prop where
  a : He5.SaysA hfa hfn K
  more : hex K = true
  hd : PySem.W.codeHdIn K (He.cT K lawD).1 (He.cT K lawD).2 = true
  out : K.lookup (He.cT K lawD).2 = none
  empty : h.get? (He.cT K lawD).2 = some { cls := .none, data := .fields #[] }
theorem saysY_of {n : Nat} {h : Heap} (e : obsY n h.get? = valY) : SaysY h (cutY n h.get?) := by
  have e1 : He5.obsA hfa hfn (cutY n h.get?) = He5.valA hfn := congrArg Prod.fst e
  have e2 : (hex (cutY n h.get?) && tabY h.get? (cutY n h.get?)) = true := congrArg Prod.snd e
  obtain ⟨e3, e4⟩ := He.ba e2
  obtain ⟨e5, e6⟩ := He.ba e4
  cases q : h.get? (He.cT (cutY n h.get?) lawD).2 with
  | none => rw [q] at e6; cases e6
  | some o =>
    rw [q] at e6
    have e7 : He.emptyTab o = true := e6
    exact ⟨e1, e3, e5, He.frT_none q e7, by rw [q, He.emptyTab_eq e7]⟩
def hookY (n : Nat) : PySem.W.Hook where
  α := AlY
  obs := fun s => obsY n s.heap.get?
  val := fun _ => valY
  says := fun _ h => ∃ K : PySem.W.Frag, K.In h ∧ SaysY h K
  of := fun _ _ e => ⟨_, He.frT_in, saysY_of e⟩
  keeps := fun _ _ _ ⟨K, hK, c⟩ k => ⟨K, PySem.W.Frag.In.keeps hK k, ⟨c.a, c.more, c.hd, c.out, k _ _ c.empty⟩⟩
/-! ### the run -/
abbrev R : PySem.W.OpenRow := PySem.W.OpenLaw.row PySem.Challenge.rw_dayrecipes_k09_whole_calendar_texts_refu
def hloose : List PySem.Str := (["_wall", "InvalidCalendar", "InvalidDate", "InvalidText", "MAX_PERIOD", "MAX_YEARS", "MAX_MONTHS", "MAX_DAYS", "MAX_WEEK", "DIGITS", "number_in", "bounded_in", "calendar_text", "week_in", "numbers_in", "rest_in", "holiday_in", "year_in", "read_calendar", "is_integer", "common_divisor", "common_multiple", "SHORT_PERIOD", "is_row", "is_between", "are_years", "are_weekdays", "are_holidays", "month_starts", "month_at"] : List PySem.Str) ++ (["Calendar", "_law_pen", "_law_draw", "_law_pick", "_law_gcd", "_law_any_value", "_law_plain", "_law_with_days", "_law_calendar", "_law_facts", "_law_weekday", "_law_is_work", "_law_error", "_law_numbers", "_law_line_fits", "_law_year_fits", "_law_due", "_law_bent"] : List PySem.Str)
def obY (s : PySem.W.SharedT) : AlY := obsY 7 (HandSHeadRun.getT s)
theorem obY_eq (s : PySem.W.SharedT) : obY s = (hookY 7).obs s.abs := by
  have e : HandSHeadRun.getT s = s.abs.heap.get? := funext (HandSHeadRun.getT_eq s)
  show obsY 7 (HandSHeadRun.getT s) = obsY 7 s.abs.heap.get?
  rw [e]
theorem run (w : World) : HandSHeadRun.RunEq R (PySem.W.view R.prog [53]) (hookY 7) obY 20000 hloose w := by
  intro os
  kernel_rfl
end K9
end
section
set_option Elab.async false
set_option linter.all false
set_option maxRecDepth 100000
set_option maxHeartbeats 4000000
namespace K9
open PySem PySem.Spec PyProof.Rows L2 Evl LamX
/-! ### the promises, from the head's facts -/
theorem gc_int {mg : Str → Option Value} {x : Str} {i : Int} (h : ∃ t, mg x = some (.int i t)) : GcI mg x i := by
  obtain ⟨t, e⟩ := h
  exact ⟨_, e, t, rfl⟩
theorem gc_str {mg : Str → Option Value} {x s : Str} (h : ∃ t, mg x = some (.str s t)) : GcS mg x s := by
  obtain ⟨t, e⟩ := h
  exact ⟨_, e, t, rfl⟩
/-- what the Bool hex tells -/
structure HexF (K : PySem.W.Frag) (C CI CD CT : Addr) : Prop where
  pr_period : PropOf K C "period" (He.ma K C "period") (He5.wf K C "property" "period")
  pr_text : PropOf K C "text" (He.ma K C "text") (He5.wf K C "property" "text")
  pr_months : PropOf K C "months" (He.ma K C "months") (He5.wf K C "property" "months")
  cm : ClX.CMet K C (.type "type") "read" (He.ma K C "read") (He5.wf K C "classmethod" "read")
  cr : ClX.CRead K C (.type "type")
  oI : OexC K CI
  oT : OexC K CT
  iI : PySem.W.findIn K (.ref CI) "__init__" = some (some (.ref (He.ma K CI "__init__")))
  iT : PySem.W.findIn K (.ref CT) "__init__" = some (some (.ref (He.ma K CT "__init__")))
  fI : PySem.W.typeIn K (.ref (He.ma K CI "__init__")) = some (.type "function")
  fT : PySem.W.typeIn K (.ref (He.ma K CT "__init__")) = some (.type "function")
  nI : PySem.W.findIn K (.ref CI) "word" = some none
  nT : PySem.W.findIn K (.ref CT) "index" = some none
  xI : PySem.W.exmOne K (.ref CI) (.ref CI) = some true
  ex : ErrX K CI CD CT
theorem hex_ok {K : PySem.W.Frag} (h : hex K = true) : HexF K (He.ga K "Calendar") (He.ga K "InvalidCalendar") (He.ga K "InvalidDate") (He.ga K "InvalidText") := by
  obtain ⟨h1, h⟩ := He.ba h
  obtain ⟨h2, h⟩ := He.ba h
  obtain ⟨h3, h⟩ := He.ba h
  obtain ⟨h4, h⟩ := He.ba h
  obtain ⟨h5, h⟩ := He.ba h
  obtain ⟨h6, h⟩ := He.ba h
  obtain ⟨h7, h⟩ := He.ba h
  obtain ⟨h8, h⟩ := He.ba h
  obtain ⟨h9, h⟩ := He.ba h
  obtain ⟨h10, h⟩ := He.ba h
  obtain ⟨h11, h⟩ := He.ba h
  obtain ⟨h12, h⟩ := He.ba h
  obtain ⟨h13, h⟩ := He.ba h
  obtain ⟨h14, h⟩ := He.ba h
  obtain ⟨h15, h⟩ := He.ba h
  obtain ⟨h16, h⟩ := He.ba h
  obtain ⟨h17, h⟩ := He.ba h
  obtain ⟨h18, h⟩ := He.ba h
  obtain ⟨h19, h20⟩ := He.ba h
  obtain ⟨c1, c2⟩ := He5.wrapB_ok h4
  have oT := oexB_ok h9
  obtain ⟨x1, x2⟩ := exkB_ok oT h10
  obtain ⟨i1, i2⟩ := He.ba h11
  obtain ⟨i3, i4⟩ := He.ba h12
  exact ⟨propB_ok h1, propB_ok h2, propB_ok h3, ⟨c1, c2, h5⟩, ⟨h6, He.eqO_ok h7⟩, oexB_ok h8, oT, He.eqO_ok i1, He.eqO_ok i3, of_decide_eq_true i2, of_decide_eq_true i4, He.eqO_ok h13, He.eqO_ok h14, of_decide_eq_true h15,
    ⟨x1, x2, He.eqO_ok h14, of_decide_eq_true h16, of_decide_eq_true h17, of_decide_eq_true h18, of_decide_eq_true h19, of_decide_eq_true h20⟩⟩
theorem txt_ok {K : PySem.W.Frag} {h : Heap} {mg : Str → Option Value} (X : K.In h) (G : h.Ns mainGlobals mg) (c : He5.SaysA hfa hfn K) : Txt mg := ⟨He.free_ok X G (c.fact 41 (f := .free "abs") rfl), He.free_ok X G (c.fact 42 (f := .free "all") rfl), He.free_ok X G (c.fact 43 (f := .free "int") rfl), He.free_ok X G (c.fact 44 (f := .free "isinstance") rfl), He.free_ok X G (c.fact 45 (f := .free "len") rfl), He.free_ok X G (c.fact 46 (f := .free "list") rfl), He.free_ok X G (c.fact 47 (f := .free "min") rfl), He.free_ok X G (c.fact 48 (f := .free "range") rfl), He.free_ok X G (c.fact 49 (f := .free "repr") rfl), He.free_ok X G (c.fact 50 (f := .free "set") rfl), He.free_ok X G (c.fact 51 (f := .free "sorted") rfl), He.free_ok X G (c.fact 52 (f := .free "str") rfl), He.free_ok X G (c.fact 53 (f := .free "sum") rfl), He.free_ok X G (c.fact 54 (f := .free "tuple") rfl), He.free_ok X G (c.fact 55 (f := .free "bool") rfl), He.free_ok X G (c.fact 56 (f := .free "ValueError") rfl), gc_int (He.int_ok X G (c.fact 57 (f := .int "MAX_PERIOD" 200000) rfl)), gc_int (He.int_ok X G (c.fact 58 (f := .int "MAX_YEARS" 400) rfl)), gc_int (He.int_ok X G (c.fact 59 (f := .int "MAX_MONTHS" 14) rfl)), gc_int (He.int_ok X G (c.fact 60 (f := .int "MAX_DAYS" 40) rfl)), gc_int (He.int_ok X G (c.fact 61 (f := .int "MAX_WEEK" 10) rfl)), gc_int (He.int_ok X G (c.fact 62 (f := .int "SHORT_PERIOD" 2000) rfl)), gc_str (He.str_ok X G (c.fact 63 (f := .str "DIGITS" "0123456789") rfl))⟩
theorem calk_ok {K : PySem.W.Frag} (c : He5.SaysA hfa hfn K) : CalK K (He.ga K "Calendar") := ⟨He.cls_ok (c.fact 64 (f := .cls "Calendar") rfl), He.noat_ok (c.fact 65 (f := .noat "Calendar" "all_years") rfl), He.noat_ok (c.fact 66 (f := .noat "Calendar" "days_of_week") rfl), He.noat_ok (c.fact 67 (f := .noat "Calendar" "begins") rfl), He.noat_ok (c.fact 68 (f := .noat "Calendar" "rests") rfl), He.noat_ok (c.fact 69 (f := .noat "Calendar" "free_days") rfl), He.noat_ok (c.fact 70 (f := .noat "Calendar" "lengths") rfl), He.noat_ok (c.fact 71 (f := .noat "Calendar" "starts") rfl), He.noat_ok (c.fact 72 (f := .noat "Calendar" "turn") rfl), He.noat_ok (c.fact 73 (f := .noat "Calendar" "works") rfl)⟩
theorem scE1 : FnScope ["self", "word"] ["self", "word"] (defScope (inClass (top 2) 0)) := ⟨rfl, rfl, rfl, by decide +kernel, rfl, by decide +kernel, by decide +kernel⟩
theorem scE2 : FnScope ["self", "index"] ["self", "index"] (defScope (inClass (top 4) 0)) := ⟨rfl, rfl, rfl, by decide +kernel, rfl, by decide +kernel, by decide +kernel⟩
abbrev cA (K : PySem.W.Frag) : Addr := He.ga K "Calendar"
abbrev LW : PySem.W.OpenLaw := PySem.Challenge.rw_dayrecipes_k09_whole_calendar_texts_refu
theorem ladder {w : World} {K : PySem.W.Frag} {h : Heap} {mg : Str → Option Value} {base : Heap} {P : Program} (X : K.In h) (G : h.Ns mainGlobals mg) (c : He5.SaysA hfa hfn K) (E : HexF K (He.ga K "Calendar") (He.ga K "InvalidCalendar") (He.ga K "InvalidDate") (He.ga K "InvalidText"))
    {c0 Pt : Addr} {dV kV doc pm ct oc : Value} {an od : Option Addr} {osl : Array (Option Value)} (lk : K.lookup (He.ga K "law") = some ⟨oc, od, .func (PySem.W.fnOf "law" "law" (defArgs s53) (defBody s53) (defScope s53) dV kV doc pm an (.ref c0) ct), osl⟩) (hcd : PySem.W.codeIn K (.ref c0) "law" = true) (TB : TabB base mg c0 Pt) :
    FnOk P w K mg base L2.CX0 12 (He.ga K "law") (PySem.W.fnOf "law" "law" (defArgs s53) (defBody s53) (defScope s53) dV kV doc pm an (.ref c0) ct) ["_law_script"] (spLaw K Pt) := by
  have T := txt_ok X G c
  have CC := calk_ok c
  have mC : mg "Calendar" = some (.ref (He.ga K "Calendar")) := He.glo_ok X G (c.fact 40 (f := .glo "Calendar") rfl)
  have mI : mg "InvalidCalendar" = some (.ref (He.ga K "InvalidCalendar")) := He.glo_ok X G (c.fact 37 (f := .glo "InvalidCalendar") rfl)
  have mDt : mg "InvalidDate" = some (.ref (He.ga K "InvalidDate")) := He.glo_ok X G (c.fact 38 (f := .glo "InvalidDate") rfl)
  have mT : mg "InvalidText" = some (.ref (He.ga K "InvalidText")) := He.glo_ok X G (c.fact 39 (f := .glo "InvalidText") rfl)
  obtain ⟨fd12, F12⟩ := (c.def_ 0 (d := gD "number_in" 12) rfl)
  have C_number_in : CalN P w K mg base 1 "number_in" sp12 := cal_of (st := top 12) (F := F12) (He.glo_ok X G (c.fact 0 (f := .glo "number_in") rfl)) (ok12 F12 T) (fun _ _ _ _ _ _ us hl => match us, hl with | [_, _], _ => rfl)
  obtain ⟨fd13, F13⟩ := (c.def_ 1 (d := gD "bounded_in" 13) rfl)
  have C_bounded_in : CalN P w K mg base 2 "bounded_in" sp13 := cal_of (st := top 13) (F := F13) (He.glo_ok X G (c.fact 1 (f := .glo "bounded_in") rfl)) (ok13 F13 C_number_in) (fun _ _ _ _ _ _ us hl => match us, hl with | [_, _, _], _ => rfl)
  obtain ⟨fd14, F14⟩ := (c.def_ 2 (d := gD "calendar_text" 14) rfl)
  have C_calendar_text : CalN P w K mg base 1 "calendar_text" sp14 := cal_of (st := top 14) (F := F14) (He.glo_ok X G (c.fact 2 (f := .glo "calendar_text") rfl)) (ok14 F14 T) (fun _ _ _ _ _ _ us hl => match us, hl with | [_], _ => rfl)
  obtain ⟨fd15, F15⟩ := (c.def_ 3 (d := gD "week_in" 15) rfl)
  have C_week_in : CalN P w K mg base 3 "week_in" sp15 := cal_of (st := top 15) (F := F15) (He.glo_ok X G (c.fact 3 (f := .glo "week_in") rfl)) (ok15 F15 T C_bounded_in) (fun _ _ _ _ _ _ us hl => match us, hl with | [_], _ => rfl)
  obtain ⟨fd16, F16⟩ := (c.def_ 4 (d := gD "numbers_in" 16) rfl)
  have C_numbers_in : CalN P w K mg base 3 "numbers_in" sp16 := cal_of (st := top 16) (F := F16) (He.glo_ok X G (c.fact 4 (f := .glo "numbers_in") rfl)) (ok16 F16 C_bounded_in) (fun _ _ _ _ _ _ us hl => match us, hl with | [_, _, _, _], _ => rfl)
  obtain ⟨fd17, F17⟩ := (c.def_ 5 (d := gD "rest_in" 17) rfl)
  have C_rest_in : CalN P w K mg base 4 "rest_in" sp17 := cal_of (st := top 17) (F := F17) (He.glo_ok X G (c.fact 5 (f := .glo "rest_in") rfl)) (ok17 F17 T C_numbers_in) (fun _ _ _ _ _ _ us hl => match us, hl with | [_, _], _ => rfl)
  obtain ⟨fd18, F18⟩ := (c.def_ 6 (d := gD "holiday_in" 18) rfl)
  have C_holiday_in : CalN P w K mg base 4 "holiday_in" (sp18 K) := cal_of (st := top 18) (F := F18) (He.glo_ok X G (c.fact 6 (f := .glo "holiday_in") rfl)) (ok18 F18 T C_numbers_in) (fun _ _ _ _ _ _ us hl => match us, hl with | [_, _], _ => rfl)
  obtain ⟨fd19, F19⟩ := (c.def_ 7 (d := gD "year_in" 19) rfl)
  have C_year_in : CalN P w K mg base 4 "year_in" (sp19 K) := cal_of (st := top 19) (F := F19) (He.glo_ok X G (c.fact 7 (f := .glo "year_in") rfl)) (ok19 F19 T C_numbers_in) (fun _ _ _ _ _ _ us hl => match us, hl with | [_, _, _], _ => rfl)
  obtain ⟨fd22, F22⟩ := (c.def_ 9 (d := gD "is_integer" 22) rfl)
  have C_is_integer : CalN P w K mg base 1 "is_integer" sp22 := cal_of (st := top 22) (F := F22) (He.glo_ok X G (c.fact 9 (f := .glo "is_integer") rfl)) (ok22 F22 T) (fun _ _ _ _ _ _ us hl => match us, hl with | [_], _ => rfl)
  obtain ⟨fd23, F23⟩ := (c.def_ 10 (d := gD "common_divisor" 23) rfl)
  have C_common_divisor : CalN P w K mg base 1 "common_divisor" sp23 := cal_of (st := top 23) (F := F23) (He.glo_ok X G (c.fact 10 (f := .glo "common_divisor") rfl)) (ok23 F23 T) (fun _ _ _ _ _ _ us hl => match us, hl with | [_, _], _ => rfl)
  obtain ⟨fd24, F24⟩ := (c.def_ 11 (d := gD "common_multiple" 24) rfl)
  have C_common_multiple : CalN P w K mg base 2 "common_multiple" sp24 := cal_of (st := top 24) (F := F24) (He.glo_ok X G (c.fact 11 (f := .glo "common_multiple") rfl)) (ok24 F24 T C_common_divisor) (fun _ _ _ _ _ _ us hl => match us, hl with | [_, _], _ => rfl)
  obtain ⟨fd27, F27⟩ := (c.def_ 12 (d := gD "is_row" 27) rfl)
  have C_is_row : CalN P w K mg base 1 "is_row" (sp27 K) := cal_of (st := top 27) (F := F27) (He.glo_ok X G (c.fact 12 (f := .glo "is_row") rfl)) (ok27 F27 T) (fun _ _ _ _ _ _ us hl => match us, hl with | [_], _ => rfl)
  obtain ⟨fd28, F28⟩ := (c.def_ 13 (d := gD "is_between" 28) rfl)
  have C_is_between : CalN P w K mg base 2 "is_between" sp28 := cal_of (st := top 28) (F := F28) (He.glo_ok X G (c.fact 13 (f := .glo "is_between") rfl)) (ok28 F28 T C_is_integer) (fun _ _ _ _ _ _ us hl => match us, hl with | [_, _, _], _ => rfl)
  obtain ⟨fd29, F29⟩ := (c.def_ 14 (d := gD "are_years" 29) rfl)
  have C_are_years : CalN P w K mg base 3 "are_years" sp29 := cal_of (st := top 29) (F := F29) (He.glo_ok X G (c.fact 14 (f := .glo "are_years") rfl)) (ok29 F29 T C_is_row C_is_between) (fun _ _ _ _ _ _ us hl => match us, hl with | [_], _ => rfl)
  obtain ⟨fd30, F30⟩ := (c.def_ 15 (d := gD "are_weekdays" 30) rfl)
  have C_are_weekdays : CalN P w K mg base 3 "are_weekdays" (sp30 K) := cal_of (st := top 30) (F := F30) (He.glo_ok X G (c.fact 15 (f := .glo "are_weekdays") rfl)) (ok30 F30 T C_is_row C_is_between) (fun _ _ _ _ _ _ us hl => match us, hl with | [_, _], _ => rfl)
  obtain ⟨fd31, F31⟩ := (c.def_ 16 (d := gD "are_holidays" 31) rfl)
  have C_are_holidays : CalN P w K mg base 3 "are_holidays" (sp31 K) := cal_of (st := top 31) (F := F31) (He.glo_ok X G (c.fact 16 (f := .glo "are_holidays") rfl)) (ok31 F31 T C_is_row C_is_between) (fun _ _ _ _ _ _ us hl => match us, hl with | [_, _], _ => rfl)
  obtain ⟨fd32, F32⟩ := (c.def_ 17 (d := gD "month_starts" 32) rfl)
  have C_month_starts : CalN P w K mg base 1 "month_starts" sp32 := cal_of (st := top 32) (F := F32) (He.glo_ok X G (c.fact 17 (f := .glo "month_starts") rfl)) (ok32 F32) (fun _ _ _ _ _ _ us hl => match us, hl with | [_], _ => rfl)
  obtain ⟨fd33, F33⟩ := (c.def_ 18 (d := gD "month_at" 33) rfl)
  have C_month_at : CalN P w K mg base 1 "month_at" sp33 := cal_of (st := top 33) (F := F33) (He.glo_ok X G (c.fact 18 (f := .glo "month_at") rfl)) (ok33 F33 T) (fun _ _ _ _ _ _ us hl => match us, hl with | [_, _], _ => rfl)
  obtain ⟨fdE1, FE1⟩ := (c.def_ 45 (d := iD "InvalidCalendar" "InvalidCalendar.__init__" (inClass (top 2) 0) []) rfl)
  obtain ⟨fdE2, FE2⟩ := (c.def_ 46 (d := iD "InvalidText" "InvalidText.__init__" (inClass (top 4) 0) []) rfl)
  have R_I : ErrC P w K mg base "InvalidCalendar" "word" (He.ga K "InvalidCalendar") := ⟨mI, E.oI, E.nI, _, fdE1, E.iI, E.fI, okErr (qual := "InvalidCalendar.__init__") (st := inClass (top 2) 0) FE1 scE1 rfl (by decide) (by decide) (fun _ => rfl), FunD.bindsN FE1 (fun _ _ _ _ _ _ us hl => match us, hl with | [_, _], _ => rfl)⟩
  have R_T : ErrC P w K mg base "InvalidText" "index" (He.ga K "InvalidText") := ⟨mT, E.oT, E.nT, _, fdE2, E.iT, E.fT, okErr (qual := "InvalidText.__init__") (st := inClass (top 4) 0) FE2 scE2 rfl (by decide) (by decide) (fun _ => rfl), FunD.bindsN FE2 (fun _ _ _ _ _ _ us hl => match us, hl with | [_, _], _ => rfl)⟩
  have H_T : ErrH P w K mg base "InvalidText" "index" (He.ga K "InvalidText") := ⟨mT, E.oT, E.nT, _, fdE2, E.iT, E.fT, okErrH (qual := "InvalidText.__init__") (st := inClass (top 4) 0) FE2 scE2 rfl (by decide) (by decide) (fun _ => rfl), FunD.bindsN FE2 (fun _ _ _ _ _ _ us hl => match us, hl with | [_, _], _ => rfl)⟩
  obtain ⟨fd20, F20⟩ := (c.def_ 8 (d := gD "read_calendar" 20) rfl)
  have F20' : FnP K "read_calendar" s20 (He.ga K "read_calendar") fd20 := F20
  have C_read_calendar : CalX P w K mg base 5 "read_calendar" (sp20 K (He.ga K "InvalidText")) := ⟨_, fd20, _, ok20 F20' T R_T C_week_in C_rest_in C_holiday_in C_year_in, He.glo_ok X G (c.fact 8 (f := .glo "read_calendar") rfl), F20'.kp, FunD.bindsN F20' (fun _ _ _ _ _ _ us hl => match us, hl with | [_], _ => rfl)⟩
  obtain ⟨fdP_period, FP_period⟩ := (c.def_ 47 (d := wD "property" "period" "Calendar.period" (inClass (top 34) 17)) rfl)
  have P_period : PropP P w K mg base 1 (cA K) "period" (spPeriod (cA K)) := ⟨_, _, fdP_period, E.pr_period, okPeriod FP_period CC, FunD.bindsN FP_period (fun _ _ _ _ _ _ us hl => match us, hl with | [_], _ => rfl)⟩
  obtain ⟨fdP_months, FP_months⟩ := (c.def_ 49 (d := wD "property" "months" "Calendar.months" (inClass (top 34) 15)) rfl)
  have P_months : PropP P w K mg base 1 (cA K) "months" (spMonths (cA K)) := ⟨_, _, fdP_months, E.pr_months, okMonths FP_months CC T, FunD.bindsN FP_months (fun _ _ _ _ _ _ us hl => match us, hl with | [_], _ => rfl)⟩
  obtain ⟨fdM_weekday, FM_weekday⟩ := (c.def_ 37 (d := mD "Calendar" "weekday" "Calendar.weekday" (inClass (top 34) 25)) rfl)
  have M_weekday : C8.Met P w K mg base 1 (cA K) "weekday" (spWeekday (cA K)) [] := ⟨_, fdM_weekday, ["self", "date"], [], CC.cls, He.meth_ok (c.fact 74 (f := .meth "Calendar" "weekday") rfl), okWeekday FM_weekday CC, FunD.bindsN FM_weekday (fun _ _ _ _ _ _ us hl => match us, hl with | [_, _], _ => rfl), .nil⟩
  obtain ⟨fdM_month_start, FM_month_start⟩ := (c.def_ 41 (d := mD "Calendar" "month_start" "Calendar.month_start" (inClass (top 34) 19)) rfl)
  have M_month_start : C8.Met P w K mg base 1 (cA K) "month_start" (spStart (cA K)) [] := ⟨_, fdM_month_start, ["self", "number"], [], CC.cls, He.meth_ok (c.fact 78 (f := .meth "Calendar" "month_start") rfl), okStart FM_month_start CC T, FunD.bindsN FM_month_start (fun _ _ _ _ _ _ us hl => match us, hl with | [_, _], _ => rfl), .nil⟩
  obtain ⟨fdM_month_number, FM_month_number⟩ := (c.def_ 40 (d := mD "Calendar" "month_number" "Calendar.month_number" (inClass (top 34) 21)) rfl)
  have M_month_number : C8.Met P w K mg base 2 (cA K) "month_number" (spNumber (cA K)) [] := ⟨_, fdM_month_number, ["self", "date"], [], CC.cls, He.meth_ok (c.fact 77 (f := .meth "Calendar" "month_number") rfl), okNumber FM_month_number CC T C_month_at, FunD.bindsN FM_month_number (fun _ _ _ _ _ _ us hl => match us, hl with | [_, _], _ => rfl), .nil⟩
  obtain ⟨fdM_parts, FM_parts⟩ := (c.def_ 39 (d := mD "Calendar" "parts" "Calendar.parts" (inClass (top 34) 24)) rfl)
  have M_parts : C8.Met P w K mg base 3 (cA K) "parts" (spParts (cA K)) [] := ⟨_, fdM_parts, ["self", "date"], [], CC.cls, He.meth_ok (c.fact 76 (f := .meth "Calendar" "parts") rfl), okParts FM_parts CC T M_month_number M_month_start P_months, FunD.bindsN FM_parts (fun _ _ _ _ _ _ us hl => match us, hl with | [_, _], _ => rfl), .nil⟩
  obtain ⟨fdM_is_work, FM_is_work⟩ := (c.def_ 38 (d := mD "Calendar" "is_work" "Calendar.is_work" (inClass (top 34) 26)) rfl)
  have M_is_work : C8.Met P w K mg base 4 (cA K) "is_work" (spIsWork (cA K)) [] := ⟨_, fdM_is_work, ["self", "date"], [], CC.cls, He.meth_ok (c.fact 75 (f := .meth "Calendar" "is_work") rfl), okIsWork FM_is_work CC M_weekday M_parts, FunD.bindsN FM_is_work (fun _ _ _ _ _ _ us hl => match us, hl with | [_, _], _ => rfl), .nil⟩
  obtain ⟨fdM_first_works, FM_first_works⟩ := (c.def_ 42 (d := mD "Calendar" "first_works" "Calendar.first_works" (inClass (top 34) 7)) rfl)
  have M_first_works : C8.Met P w K mg base 5 (cA K) "first_works" (spWorks (cA K)) [] := ⟨_, fdM_first_works, ["self"], [], CC.cls, He.meth_ok (c.fact 79 (f := .meth "Calendar" "first_works") rfl), okWorks FM_first_works CC T M_is_work P_period, FunD.bindsN FM_first_works (fun _ _ _ _ _ _ us hl => match us, hl with | [_], _ => rfl), .nil⟩
  obtain ⟨fdM_facts, FM_facts⟩ := (c.def_ 43 (d := mD "Calendar" "facts" "Calendar.facts" (inClass (top 34) 5)) rfl)
  have M_facts : C8.Met P w K mg base 1 (cA K) "facts" (spFacts (cA K)) [] := ⟨_, fdM_facts, ["self"], [], CC.cls, He.meth_ok (c.fact 80 (f := .meth "Calendar" "facts") rfl), okFacts FM_facts CC, FunD.bindsN FM_facts (fun _ _ _ _ _ _ us hl => match us, hl with | [_], _ => rfl), .nil⟩
  obtain ⟨fdP_text, FP_text⟩ := (c.def_ 48 (d := wD "property" "text" "Calendar.text" (inClass (top 34) 18)) rfl)
  have P_text : PropP P w K mg base 2 (cA K) "text" (spText (cA K)) := ⟨_, _, fdP_text, E.pr_text, okText FP_text CC C_calendar_text M_facts, FunD.bindsN FP_text (fun _ _ _ _ _ _ us hl => match us, hl with | [_], _ => rfl)⟩
  obtain ⟨fdI, FI⟩ := (c.def_ 44 (d := iD "Calendar" "Calendar.__init__" (inClass (top 34) 0) [.int 7]) rfl)
  have MK : MakC P w K mg base 6 (cA K) (spInit K (cA K) (He.ga K "InvalidCalendar")) := by
    obtain ⟨its, kb⟩ := FunD.kbindsD (ps := ["self", "years", "week", "first", "rest", "holidays"]) FI 3 ["first", "rest", "holidays"] (fun us _ ws => us ++ ws) (by simp [He5.DefA.dvs, iD]) (fun r1 _ r3 => r1.append r3) (fun _ _ _ _ _ _ _ us its ws h1 h2 h3 => match us, h1, its, h2, ws, h3 with | [_, _, _], _, [_], _, [_, _, _], _ => ⟨_, rfl, rfl⟩)
    exact ⟨_, fdI, ["self", "years", "week", "first", "rest", "holidays"], He.mkr_ok (c.fact 81 (f := .mkr "Calendar") rfl), okInit FI CC T R_I C_are_years C_is_between C_are_weekdays C_are_holidays C_month_starts C_common_multiple P_period M_first_works, kb⟩
  obtain ⟨fdR, FRd⟩ := (c.def_ 50 (d := wD "classmethod" "read" "Calendar.read" (inClass (top 34) 4)) rfl)
  have okR := okRead FRd C_read_calendar MK mI E.xI H_T
  have bR := FunD.bindsN (ps := ["cls", "text"]) FRd (fun _ _ _ _ _ _ us hl => match us, hl with | [_, _], _ => rfl)
  have FR : FnR P w K mg base (L2.CX P w) 8 (He5.wf K (cA K) "classmethod" "read") (spRead K (cA K) (He.ga K "InvalidText")) := (FnOk.raw okR bR .nil).imp fun vs H Q E h => by rw [List.append_nil]; exact h
  obtain ⟨fd36, F36⟩ := (c.def_ 19 (d := gD "_law_pen" 36) rfl)
  have C_law_pen : CalN P w K mg base 1 "_law_pen" (sp36 K) := cal_of (st := top 36) (F := F36) (He.glo_ok X G (c.fact 19 (f := .glo "_law_pen") rfl)) (ok36 F36 T) (fun _ _ _ _ _ _ us hl => match us, hl with | [_], _ => rfl)
  obtain ⟨fd37, F37⟩ := (c.def_ 20 (d := gD "_law_draw" 37) rfl)
  have C_law_draw : CalN P w K mg base 1 "_law_draw" sp37 := cal_of (st := top 37) (F := F37) (He.glo_ok X G (c.fact 20 (f := .glo "_law_draw") rfl)) (ok37 F37 T) (fun _ _ _ _ _ _ us hl => match us, hl with | [_, _], _ => rfl)
  obtain ⟨fd38, F38⟩ := (c.def_ 21 (d := gD "_law_pick" 38) rfl)
  have C_law_pick : CalN P w K mg base 2 "_law_pick" (sp38 K) := cal_of (st := top 38) (F := F38) (He.glo_ok X G (c.fact 21 (f := .glo "_law_pick") rfl)) (ok38 F38 T C_law_draw) (fun _ _ _ _ _ _ us hl => match us, hl with | [_, _], _ => rfl)
  obtain ⟨fd39, F39⟩ := (c.def_ 22 (d := gD "_law_gcd" 39) rfl)
  have C_law_gcd : CalN P w K mg base 1 "_law_gcd" sp23 := cal_of (st := top 39) (F := F39) (He.glo_ok X G (c.fact 22 (f := .glo "_law_gcd") rfl)) (ok39 F39 T) (fun _ _ _ _ _ _ us hl => match us, hl with | [_, _], _ => rfl)
  obtain ⟨fd44, F44⟩ := (c.def_ 27 (d := gD "_law_facts" 44) rfl)
  have C_law_facts : CalN P w K mg base 1 "_law_facts" sp44 := cal_of (st := top 44) (F := F44) (He.glo_ok X G (c.fact 27 (f := .glo "_law_facts") rfl)) (ok44 F44 T) (fun _ _ _ _ _ _ us hl => match us, hl with | [_, _], _ => rfl)
  obtain ⟨fd45, F45⟩ := (c.def_ 28 (d := gD "_law_weekday" 45) rfl)
  have C_law_weekday : CalN P w K mg base 1 "_law_weekday" sp45 := cal_of (st := top 45) (F := F45) (He.glo_ok X G (c.fact 28 (f := .glo "_law_weekday") rfl)) (ok45 F45 T) (fun _ _ _ _ _ _ us hl => match us, hl with | [_, _], _ => rfl)
  obtain ⟨fd46, F46⟩ := (c.def_ 29 (d := gD "_law_is_work" 46) rfl)
  have C_law_is_work : CalN P w K mg base 2 "_law_is_work" sp46 := cal_of (st := top 46) (F := F46) (He.glo_ok X G (c.fact 29 (f := .glo "_law_is_work") rfl)) (ok46 F46 T C_law_facts C_law_weekday) (fun _ _ _ _ _ _ us hl => match us, hl with | [_, _], _ => rfl)
  obtain ⟨fd42, F42⟩ := (c.def_ 25 (d := gD "_law_with_days" 42) rfl)
  have C_law_with_days : CalN P w K mg base 3 "_law_with_days" (sp42 K) := cal_of (st := top 42) (F := F42) (He.glo_ok X G (c.fact 25 (f := .glo "_law_with_days") rfl)) (ok42 F42 T C_law_gcd C_law_is_work) (fun _ _ _ _ _ _ us hl => match us, hl with | [_, _, _, _, _], _ => rfl)
  obtain ⟨fd40, F40⟩ := (c.def_ 23 (d := gD "_law_any_value" 40) rfl)
  have C_law_any_value : CalN P w K mg base 3 "_law_any_value" (sp40 K) := cal_of (st := top 40) (F := F40) (He.glo_ok X G (c.fact 23 (f := .glo "_law_any_value") rfl)) (ok40 F40 T C_law_pick) (fun _ _ _ _ _ _ us hl => match us, hl with | [_], _ => rfl)
  obtain ⟨fd41, F41⟩ := (c.def_ 24 (d := gD "_law_plain" 41) rfl)
  have C_law_plain : CalN P w K mg base 4 "_law_plain" sp41 := cal_of (st := top 41) (F := F41) (He.glo_ok X G (c.fact 24 (f := .glo "_law_plain") rfl)) (ok41 F41 T C_law_draw C_law_pick C_law_with_days) (fun _ _ _ _ _ _ us hl => match us, hl with | [_], _ => rfl)
  obtain ⟨fd43, F43⟩ := (c.def_ 26 (d := gD "_law_calendar" 43) rfl)
  have C_law_calendar : CalN P w K mg base 8 "_law_calendar" (sp43 (He.ga K "Calendar")) := cal_of (st := top 43) (F := F43) (He.glo_ok X G (c.fact 26 (f := .glo "_law_calendar") rfl)) (ok43 F43 T MK mC) (fun _ _ _ _ _ _ us hl => match us, hl with | [_], _ => rfl)
  obtain ⟨fd48, F48⟩ := (c.def_ 31 (d := gD "_law_numbers" 48) rfl)
  have C_law_numbers : CalN P w K mg base 1 "_law_numbers" sp48 := cal_of (st := top 48) (F := F48) (He.glo_ok X G (c.fact 31 (f := .glo "_law_numbers") rfl)) (ok48 F48 T) (fun _ _ _ _ _ _ us hl => match us, hl with | [_, _, _], _ => rfl)
  obtain ⟨fd50, F50⟩ := (c.def_ 33 (d := gD "_law_year_fits" 50) rfl)
  have C_law_year_fits : CalN P w K mg base 1 "_law_year_fits" sp50 := cal_of (st := top 50) (F := F50) (He.glo_ok X G (c.fact 33 (f := .glo "_law_year_fits") rfl)) (ok50 F50 T) (fun _ _ _ _ _ _ us hl => match us, hl with | [_, _, _], _ => rfl)
  obtain ⟨fd49, F49⟩ := (c.def_ 32 (d := gD "_law_line_fits" 49) rfl)
  have C_law_line_fits : CalN P w K mg base 2 "_law_line_fits" sp49 := cal_of (st := top 49) (F := F49) (He.glo_ok X G (c.fact 32 (f := .glo "_law_line_fits") rfl)) (ok49 F49 T C_law_numbers C_law_year_fits) (fun _ _ _ _ _ _ us hl => match us, hl with | [_, _], _ => rfl)
  obtain ⟨fd51, F51⟩ := (c.def_ 34 (d := gD "_law_due" 51) rfl)
  have C_law_due : CalN P w K mg base 4 "_law_due" (sp51 K) := cal_of (st := top 51) (F := F51) (He.glo_ok X G (c.fact 34 (f := .glo "_law_due") rfl)) (ok51 F51 T C_law_line_fits C_law_gcd C_law_with_days) (fun _ _ _ _ _ _ us hl => match us, hl with | [_], _ => rfl)
  obtain ⟨fd52, F52⟩ := (c.def_ 35 (d := gD "_law_bent" 52) rfl)
  have C_law_bent : CalN P w K mg base 3 "_law_bent" sp52 := cal_of (st := top 52) (F := F52) (He.glo_ok X G (c.fact 35 (f := .glo "_law_bent") rfl)) (ok52 F52 T C_law_draw C_law_pick) (fun _ _ _ _ _ _ us hl => match us, hl with | [_, _], _ => rfl)
  obtain ⟨fd47, F47⟩ := (c.def_ 30 (d := gD "_law_error" 47) rfl)
  exact ok53 lk hcd TB T CC mC mI mDt mT E.ex E.cr E.cm FR P_text F47 (He.glo_ok X G (c.fact 30 (f := .glo "_law_error") rfl)) C_law_pen C_law_draw C_law_pick C_law_any_value C_law_plain C_law_calendar C_law_due C_law_bent
end K9
end
set_option Elab.async false
set_option linter.all false
set_option maxRecDepth 100000
set_option maxHeartbeats 0
namespace K9
open PySem PySem.Spec PyProof.Rows L2 Evl LamX
theorem law_at {w : World} {K : PySem.W.Frag} {h : Heap} {mg : Str → Option Value} {f : Addr} (X : K.In h) (G : h.Ns mainGlobals mg) (c : SaysY h K) (hf : mg "law" = some (.ref f)) : LawAtS LW w K L2.CX0 12 63 "_law_script" mg f h := by
  have E := hex_ok c.more
  have ca := c.a
  have e := hf.symm.trans (He.glo_ok X G (show (He.Fa.glo "law").ok K = true from (fun c : He5.SaysA hfa hfn K => (c.fact 36 (f := .glo "law") rfl)) ca))
  obtain rfl : f = He.ga K "law" := by
    injection e with e
    injection e
  obtain ⟨fd, F0⟩ := (fun c : He5.SaysA hfa hfn K => (c.def_ 36 (d := gD "law" 53) rfl)) ca
  have F : FnP K "law" s53 (He.ga K "law") fd := F0
  have hb := FunD.bindsA (ps := ["_law_script"]) F fun _ _ _ _ _ _ us hl => match us, hl with | [_], _ => rfl
  obtain ⟨oc, od, dV, kV, doc, pm, an, cdv, ct, osl, rfl, lk, hcd, _, _⟩ := F.ex
  obtain ⟨c0, rfl⟩ := He.codeIn_ref hcd
  have ec : (He.cT K lawD).1 = c0 := He.codeOf_eq (p := lawD) lk rfl
  have one : ∀ {M : Addr × Addr → Prop}, M (He.cT K lawD) → ∀ p ∈ [He.cT K lawD], M p := fun h p hp => by
    rw [List.mem_singleton.mp hp]
    exact h
  refine ⟨_, [He.cT K lawD], spLaw K (He.cT K lawD).2, one c.empty, one c.out, one (PySem.W.codeHd_of_K X c.hd), fun s u => hb s [u] rfl, fun H a ns hn hbits hT hS => ⟨a, ns, rfl, hS, hn, hT _ (List.mem_singleton.mpr rfl), fun _ => rfl⟩, fun base KB GB TBs => ?_⟩
  have TB := TBs _ (List.mem_singleton.mpr rfl)
  rw [ec] at TB
  exact ladder X G ca E lk hcd TB
end K9
open PySem PySem.W PySem.Calls PyProof.Rows
theorem PySem.Challenge.cw_dayrecipes_k09_whole_calendar_texts_refu_holds : PySem.Challenge.rw_dayrecipes_k09_whole_calendar_texts_refu.Holds := by
  w_on; o_law
  refine HandSHeadRun.head_any (r := K9.R) (q := view K9.R.prog [53]) (H := K9.hookY 7) (ob := K9.obY) (M := 20000) (loose := K9.hloose) (d := HandSHeadRun.topDef K9.R.prog 53) (kwd := []) K9.obY_eq
    (by kernel_rfl) (fun s => by kernel_rfl) K9.run (by kernel_rfl) (by kernel_rfl) (by kernel_rfl) (by rfl) (by first | assumption | decide +kernel) (by decide +kernel) ⟨rfl, rfl, rfl, rfl, rfl, by decide +kernel⟩ ?hw ?hc
  case hw => w_witness2
  case hc =>
    refine LamX.walk_ofTsE (l := K9.LW) (n := 63) (k := 12) (x := "_law_script") (CX := fun _ => L2.CX0) rfl (by decide) (by kernel_rfl) ⟨rfl, by decide, by decide⟩ ?F (fun _ _ _ _ _ z => z)
    intro w mg fa h Y G hmg0
    obtain ⟨K, KX, c⟩ := Y
    have hmg : mg ("law" : PySem.Str) = some (.ref fa) := by
      have e : (HandSHeadRun.topDef K9.R.prog 53).name = ("law" : PySem.Str) := by kernel_rfl
      rw [← e]
      exact hmg0
    exact ⟨K, KX, K9.law_at KX G c hmg⟩
