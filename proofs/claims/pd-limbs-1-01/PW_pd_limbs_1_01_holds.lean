import PyProof.Rows.All
import Wide.All
import OpenK.AllK
import Wide.FinOn
import KE.IntTextText
import PySem.Challenge.RW_pd_limbs_1_01
/-! part P1 -/
namespace Mine
open PySem.NumText

/-- a list of limbs, the least first, as a number -/
def lv : List Int → Int
  | [] => 0
  | x :: r => x + 10000 * lv r

def limbsOf (n : Nat) : List Int :=
  if h : n = 0 then [] else ((n % 10000 : Nat) : Int) :: limbsOf (n / 10000)
termination_by n
decreasing_by omega

theorem limbsOf_zero : limbsOf 0 = [] := by rw [limbsOf]; simp
theorem limbsOf_pos {n : Nat} (h : 0 < n) : limbsOf n = ((n % 10000 : Nat) : Int) :: limbsOf (n / 10000) := by
  rw [limbsOf, dif_neg (by omega)]

def InR (l : List Int) : Prop := ∀ x ∈ l, 0 ≤ x ∧ x < 10000

theorem lv_nonneg : ∀ {l : List Int}, InR l → 0 ≤ lv l
  | [], _ => Int.le_refl _
  | x :: r, h => by
    have h1 := h x (.head _)
    have h2 := lv_nonneg (l := r) fun y hy => h y (.tail _ hy)
    simp only [lv]; omega

theorem lv_append (b : List Int) : ∀ a : List Int, lv (a ++ b) = lv a + 10000 ^ a.length * lv b
  | [] => by simp [lv]
  | x :: r => by
    simp only [List.cons_append, lv, lv_append b r, List.length_cons, Int.pow_succ]
    rw [Int.mul_add, ← Int.add_assoc, ← Int.mul_assoc, Int.mul_comm 10000 (10000 ^ r.length)]

theorem lv_zeros : ∀ {l : List Int}, (∀ x ∈ l, x = 0) → lv l = 0
  | [], _ => rfl
  | x :: r, h => by
    have h1 := h x (.head _)
    have h2 := lv_zeros (l := r) fun y hy => h y (.tail _ hy)
    simp only [lv]; omega

theorem lv_pos : ∀ {l : List Int}, InR l → l ≠ [] → l.getLast? ≠ some 0 → 0 < lv l
  | [], _, h, _ => absurd rfl h
  | [x], h, _, h3 => by
    have h1 := h x (.head _)
    have : x ≠ 0 := fun e => h3 (by simp [e])
    simp only [lv]; omega
  | x :: y :: r, h, _, h3 => by
    have h1 := h x (.head _)
    have h2 := lv_pos (l := y :: r) (fun z hz => h z (.tail _ hz)) (by simp) (by simpa [List.getLast?_cons_cons] using h3)
    simp only [lv] at h2 ⊢; omega

theorem limbs_unique : ∀ {l : List Int}, InR l → l.getLast? ≠ some 0 → l = limbsOf (lv l).toNat
  | [], _, _ => by simp [lv, limbsOf_zero]
  | x :: r, h, h3 => by
    have h1 := h x (.head _)
    have hr : InR r := fun y hy => h y (.tail _ hy)
    have hp := lv_pos h (by simp) h3
    have hn := lv_nonneg hr
    rw [limbsOf_pos (by omega)]
    have h4 : r.getLast? ≠ some 0 := by
      cases r with
      | nil => simp
      | cons y q => simpa [List.getLast?_cons_cons] using h3
    have ih := limbs_unique hr h4
    have e1 : (((lv (x :: r)).toNat % 10000 : Nat) : Int) = x := by simp only [lv]; omega
    have e2 : (lv (x :: r)).toNat / 10000 = (lv r).toNat := by simp only [lv]; omega
    rw [e1, e2, ← ih]

theorem limbsOf_inR (n : Nat) : InR (limbsOf n) := by
  induction n using Nat.strongRecOn with
  | _ n ih =>
    by_cases h : n = 0
    · subst h; rw [limbsOf_zero]; intro x hx; cases hx
    · rw [limbsOf_pos (by omega)]
      intro x hx
      rcases List.mem_cons.mp hx with rfl | hx
      · omega
      · exact ih _ (by omega) x hx

theorem limbsOf_nil {n : Nat} : limbsOf n = [] ↔ n = 0 := by
  constructor
  · intro h
    by_cases e : n = 0
    · exact e
    · rw [limbsOf_pos (by omega)] at h; cases h
  · rintro rfl; exact limbsOf_zero

theorem limbsOf_last (n : Nat) : (limbsOf n).getLast? ≠ some 0 := by
  induction n using Nat.strongRecOn with
  | _ n ih =>
    by_cases h : n = 0
    · subst h; rw [limbsOf_zero]; simp
    · rw [limbsOf_pos (by omega)]
      by_cases h2 : n / 10000 = 0
      · rw [h2, limbsOf_zero]; simp; omega
      · have := ih (n / 10000) (by omega)
        rw [limbsOf_pos (n := n / 10000) (by omega)] at this ⊢
        simpa [List.getLast?_cons_cons] using this

theorem limbsOf_length {n k : Nat} (h : n < 10000 ^ k) : (limbsOf n).length ≤ k := by
  induction k generalizing n with
  | zero => simp at h; subst h; simp [limbsOf_zero]
  | succ k ih =>
    by_cases e : n = 0
    · subst e; simp [limbsOf_zero]
    · rw [limbsOf_pos (by omega), List.length_cons]
      have : n / 10000 < 10000 ^ k := by
        rw [Nat.pow_succ] at h
        exact Nat.div_lt_of_lt_mul (by rw [Nat.mul_comm]; exact h)
      have := ih this
      omega

/-! the chunks of four signs, from behind -/
theorem val_fold : ∀ (b : List Nat) (acc : Nat), b.foldl (fun acc c => acc * 10 + (c - 48)) acc = acc * 10 ^ b.length + digitsVal b
  | [], acc => by simp [digitsVal]
  | c :: b, acc => by
    have e : digitsVal (c :: b) = (c - 48) * 10 ^ b.length + digitsVal b := by
      show b.foldl _ (0 * 10 + (c - 48)) = _
      rw [val_fold b, Nat.zero_mul, Nat.zero_add]
    rw [List.foldl_cons, val_fold b, e, List.length_cons, Nat.pow_succ, Nat.add_mul, Nat.mul_assoc, Nat.mul_comm 10, Nat.add_assoc]

theorem val_append (b : List Nat) (a : List Nat) : digitsVal (a ++ b) = digitsVal a * 10 ^ b.length + digitsVal b := by
  show (a ++ b).foldl _ 0 = _
  rw [List.foldl_append]
  exact val_fold b (digitsVal a)

theorem val_lt : ∀ {a : List Nat}, AllDigits a → digitsVal a < 10 ^ a.length
  | [], _ => by simp [digitsVal]
  | c :: b, h => by
    have h1 := val_lt (a := b) fun d hd => h d (.tail _ hd)
    have h2 := h c (.head _)
    have e := val_append b [c]
    rw [List.singleton_append] at e
    have e1 : digitsVal [c] = c - 48 := by simp [digitsVal]
    rw [e, e1, List.length_cons, Nat.pow_succ]
    have : (c - 48) * 10 ^ b.length ≤ 9 * 10 ^ b.length := Nat.mul_le_mul_right _ (by omega)
    omega

def FdInv (D : List Nat) (limbs : List Int) (e : Int) : Prop :=
  e = (D.length : Int) - 4 * limbs.length ∧ InR limbs ∧ -4 < e ∧ ((digitsVal (D.take e.toNat) : Nat) : Int) * 10000 ^ limbs.length + lv limbs = (digitsVal D : Nat)

theorem fd_start (D : List Nat) : FdInv D [] (D.length : Int) := by
  refine ⟨by simp, (fun x hx => absurd hx (by simp)), by omega, ?_⟩
  simp [lv]

theorem fd_step {D : List Nat} {limbs : List Int} {e : Int} (hD : AllDigits D) (h : FdInv D limbs e) (he : 0 < e) :
    FdInv D (limbs ++ [((digitsVal ((D.take e.toNat).drop (max 0 (e - 4)).toNat) : Nat) : Int)]) (e - 4) := by
  obtain ⟨h1, h2, h3, h4⟩ := h
  have hle : e.toNat ≤ D.length := by omega
  generalize hm : (max 0 (e - 4)).toNat = m
  have hme : m ≤ e.toNat := by omega
  have hlen : ((D.take e.toNat).drop m).length = e.toNat - m := by simp; omega
  have hall : AllDigits ((D.take e.toNat).drop m) := fun c hc => hD c (List.mem_of_mem_take (List.mem_of_mem_drop hc))
  have hlt := val_lt hall
  rw [hlen] at hlt
  have hle4 : 10 ^ (e.toNat - m) ≤ 10 ^ 4 := Nat.pow_le_pow_right (by decide) (by omega)
  refine ⟨by simp; omega, ?_, by omega, ?_⟩
  · intro x hx
    rcases List.mem_append.mp hx with hx | hx
    · exact h2 x hx
    · rw [List.mem_singleton.mp hx]
      have : (10 : Nat) ^ 4 = 10000 := by decide
      omega
  · have hsplit : D.take e.toNat = D.take m ++ (D.take e.toNat).drop m := by
      have := List.take_append_drop m (D.take e.toNat)
      rw [List.take_take, Nat.min_eq_left hme] at this
      exact this.symm
    have hv := val_append ((D.take e.toNat).drop m) (D.take m)
    rw [← hsplit, hlen] at hv
    have hm2 : (e - 4).toNat = m := by omega
    rw [hm2, lv_append, List.length_append, List.length_singleton, Int.pow_succ, ← h4, hv]
    generalize digitsVal ((D.take e.toNat).drop m) = v
    have key : ((digitsVal (D.take m) : Nat) : Int) * 10000 = ((digitsVal (D.take m) * 10 ^ (e.toNat - m) : Nat) : Int) := by
      by_cases h0 : e < 4
      · have : m = 0 := by omega
        subst this
        simp [digitsVal]
      · have : e.toNat - m = 4 := by omega
        rw [this]; simp
    rw [Int.natCast_add, Int.add_mul, ← key]
    simp only [lv, Int.mul_zero, Int.add_zero]
    rw [Int.mul_comm (10000 ^ limbs.length) 10000, Int.mul_assoc, Int.mul_comm (v : Int)]
    omega

theorem fd_end {D : List Nat} {limbs : List Int} {e : Int} (h : FdInv D limbs e) (he : e ≤ 0) : InR limbs ∧ lv limbs = (digitsVal D : Nat) := by
  obtain ⟨h1, h2, h3, h4⟩ := h
  refine ⟨h2, ?_⟩
  have : e.toNat = 0 := by omega
  rw [this] at h4
  simpa [digitsVal] using h4

theorem fd_length {D : List Nat} {limbs : List Int} {e : Int} (h : FdInv D limbs e) : limbs.length ≤ D.length := by
  obtain ⟨h1, h2, h3, h4⟩ := h
  omega

/-! trimmed -/
def TrInv (ns : List Int) (n : Int) : Prop := 0 ≤ n ∧ n ≤ (ns.length : Int) ∧ ∀ x ∈ ns.drop n.toNat, x = 0

theorem tr_start (ns : List Int) : TrInv ns (ns.length : Int) := by
  refine ⟨by omega, by omega, ?_⟩
  intro x hx
  simp at hx

theorem tr_step {ns : List Int} {n : Int} (h : TrInv ns n) (h0 : 0 < n) (hz : ns[(n - 1).toNat]? = some 0) : TrInv ns (n - 1) := by
  obtain ⟨h1, h2, h3⟩ := h
  refine ⟨by omega, by omega, ?_⟩
  obtain ⟨hlt, he⟩ := List.getElem?_eq_some_iff.mp hz
  have hd : ns.drop (n - 1).toNat = ns[(n - 1).toNat] :: ns.drop n.toNat := by
    rw [List.drop_eq_getElem_cons hlt]
    congr 2; omega
  rw [hd, he]
  intro x hx
  rcases List.mem_cons.mp hx with rfl | hx
  · rfl
  · exact h3 x hx

theorem tr_end {ns : List Int} {n : Int} (h : TrInv ns n) (hl : n = 0 ∨ ns[(n - 1).toNat]? ≠ some 0) (hr : InR ns) : ns.take n.toNat = limbsOf (lv ns).toNat := by
  obtain ⟨h1, h2, h3⟩ := h
  have e : lv (ns.take n.toNat) = lv ns := by
    have := lv_append (ns.drop n.toNat) (ns.take n.toNat)
    rw [List.take_append_drop, lv_zeros h3] at this
    omega
  rw [← e]
  refine limbs_unique (fun x hx => hr x (List.mem_of_mem_take hx)) ?_
  rcases hl with rfl | hl
  · simp
  · intro h
    by_cases hn : n = 0
    · subst hn; simp at h
    · apply hl
      rw [List.getLast?_eq_getElem?, List.length_take, List.getElem?_take_of_lt (by omega)] at h
      rw [← h]
      congr 1; omega

/-! the Horner loop and the row -/
def RowInv (N : Nat) (n : Int) (row : List Int) : Prop := 0 ≤ n ∧ row ++ limbsOf n.toNat = limbsOf N
theorem row_start (N : Nat) : RowInv N (N : Int) [] := ⟨by omega, by simp⟩
theorem row_step {N : Nat} {n : Int} {row : List Int} (h : RowInv N n row) (h0 : 0 < n) : RowInv N (n / 10000) (row ++ [n % 10000]) := by
  obtain ⟨h1, h2⟩ := h
  refine ⟨by omega, ?_⟩
  have e1 : ((n.toNat % 10000 : Nat) : Int) = n % 10000 := by omega
  have e2 : n.toNat / 10000 = (n / 10000).toNat := by omega
  rw [← h2, limbsOf_pos (n := n.toNat) (by omega), List.append_assoc, List.singleton_append, e1, e2]
theorem row_end {N : Nat} {n : Int} {row : List Int} (h : RowInv N n row) (h0 : n ≤ 0) : row = limbsOf N := by
  obtain ⟨h1, h2⟩ := h
  have : n.toNat = 0 := by omega
  rw [this, limbsOf_zero] at h2
  simpa using h2

end Mine

/-! part P2 -/
namespace Mine
open PySem.NumText

def dec (n : Nat) : List Nat := (Nat.toDigits 10 n).map Char.toNat
def z4 (x : Nat) : List Nat := [48 + x / 1000 % 10, 48 + x / 100 % 10, 48 + x / 10 % 10, 48 + x % 10]

theorem digit_code : ∀ d : Nat, d < 10 → (Nat.digitChar d).toNat = 48 + d := by decide
theorem dec_small {n : Nat} (h : n < 10) : dec n = [48 + n] := by
  unfold dec
  rw [Nat.toDigits_of_lt_base h, List.map_singleton, digit_code n h]
theorem dec_step {n : Nat} (h : 10 ≤ n) : dec n = dec (n / 10) ++ [48 + n % 10] := by
  have hm : n % 10 < 10 := Nat.mod_lt n (by decide)
  have t : Nat.toDigits 10 (n / 10) ++ Nat.toDigits 10 (n % 10) = Nat.toDigits 10 (10 * (n / 10) + n % 10) := Nat.toDigits_append_toDigits (by decide) (by omega) hm
  rw [Nat.div_add_mod] at t
  unfold dec
  rw [← t, List.map_append, Nat.toDigits_of_lt_base hm, List.map_singleton, digit_code _ hm]

theorem dec_z4 {q x : Nat} (hq : 0 < q) (hx : x < 10000) : dec (10000 * q + x) = dec q ++ z4 x := by
  have e1 : (10000 * q + x) / 10 = 1000 * q + x / 10 := by omega
  have e2 : (1000 * q + x / 10) / 10 = 100 * q + x / 100 := by omega
  have e3 : (100 * q + x / 100) / 10 = 10 * q + x / 1000 := by omega
  have e4 : (10 * q + x / 1000) / 10 = q := by omega
  rw [dec_step (by omega), e1, dec_step (by omega), e2, dec_step (by omega), e3, dec_step (by omega), e4]
  have d1 : (10000 * q + x) % 10 = x % 10 := by omega
  have d2 : (1000 * q + x / 10) % 10 = x / 10 % 10 := by omega
  have d3 : (100 * q + x / 100) % 10 = x / 100 % 10 := by omega
  have d4 : (10 * q + x / 1000) % 10 = x / 1000 % 10 := by omega
  rw [d1, d2, d3, d4]
  simp [z4]

theorem dec_1 {x : Nat} (h : x < 10) : dec x = [48 + x % 10] := by rw [dec_small h]; congr 2; omega
theorem dec_2 {x : Nat} (h0 : 10 ≤ x) (h : x < 100) : dec x = [48 + x / 10 % 10, 48 + x % 10] := by
  rw [dec_step h0, dec_1 (by omega)]; rfl
theorem dec_3 {x : Nat} (h0 : 100 ≤ x) (h : x < 1000) : dec x = [48 + x / 100 % 10, 48 + x / 10 % 10, 48 + x % 10] := by
  rw [dec_step (by omega), dec_2 (by omega) (by omega)]
  have : x / 10 / 10 = x / 100 := by omega
  rw [this]; rfl
theorem dec_4 {x : Nat} (h0 : 1000 ≤ x) (h : x < 10000) : dec x = z4 x := by
  rw [dec_step (by omega), dec_3 (by omega) (by omega)]
  have e1 : x / 10 / 10 = x / 100 := by omega
  have e2 : x / 10 / 100 = x / 1000 := by omega
  rw [e1, e2]; rfl

/-- the text that to_decimal glues -/
def decL (l : List Int) : List Nat := match l.getLast? with
  | none => [48]
  | some x => dec x.toNat ++ (l.dropLast.reverse.flatMap fun y => z4 y.toNat)

theorem decL_cons {x y : Int} {r : List Int} : decL (x :: y :: r) = decL (y :: r) ++ z4 x.toNat := by
  unfold decL
  rw [List.getLast?_cons_cons]
  cases h : (y :: r).getLast? with
  | none => simp at h
  | some z =>
    simp only [List.dropLast_cons_cons, List.reverse_cons, List.flatMap_append, List.append_assoc, List.flatMap_cons, List.flatMap_nil, List.append_nil]

theorem decL_limbs (n : Nat) : decL (limbsOf n) = dec n := by
  induction n using Nat.strongRecOn with
  | _ n ih =>
    by_cases h : n = 0
    · subst h; rw [limbsOf_zero, dec_small (by decide)]; rfl
    · rw [limbsOf_pos (by omega)]
      by_cases h2 : n / 10000 = 0
      · rw [h2, limbsOf_zero]
        unfold decL
        simp only [List.getLast?_singleton, List.dropLast_singleton, List.reverse_nil, List.flatMap_nil, List.append_nil]
        congr 1; omega
      · have hp : 0 < n / 10000 := by omega
        have ih' := ih (n / 10000) (by omega)
        rw [limbsOf_pos hp] at ih' ⊢
        rw [decL_cons, ih']
        have e := dec_z4 (q := n / 10000) (x := n % 10000) hp (Nat.mod_lt _ (by decide))
        rw [Nat.div_add_mod] at e
        rw [e]; congr 2

theorem dec_all (n : Nat) : AllDigits (dec n) := by
  induction n using Nat.strongRecOn with
  | _ n ih =>
    by_cases h : n < 10
    · rw [dec_small h]
      intro c hc
      rw [List.mem_singleton.mp hc]; omega
    · rw [dec_step (by omega)]
      intro c hc
      rcases List.mem_append.mp hc with hc | hc
      · exact ih _ (by omega) c hc
      · rw [List.mem_singleton.mp hc]; omega
theorem dec_ne (n : Nat) : dec n ≠ [] := by
  by_cases h : n < 10
  · rw [dec_small h]; simp
  · rw [dec_step (by omega)]; simp
theorem dec_val (n : Nat) : digitsVal (dec n) = n := by
  induction n using Nat.strongRecOn with
  | _ n ih =>
    by_cases h : n < 10
    · rw [dec_small h]; simp [digitsVal]
    · rw [dec_step (by omega), digitsVal_snoc, ih _ (by omega)]; omega
theorem dec_length {n k : Nat} (h : n < 10 ^ (k + 1)) : (dec n).length ≤ k + 1 := by
  induction k generalizing n with
  | zero => rw [dec_small (by simpa using h)]; simp
  | succ k ih =>
    by_cases h1 : n < 10
    · rw [dec_small h1]; simp
    · rw [dec_step (by omega), List.length_append, List.length_singleton]
      have : n / 10 < 10 ^ (k + 1) := by
        rw [Nat.pow_succ] at h
        exact Nat.div_lt_of_lt_mul (by rw [Nat.mul_comm]; exact h)
      have := ih this
      omega

theorem dec_snoc_inj {a b : List Nat} : AllDigits a → AllDigits b → a.length = b.length → digitsVal a = digitsVal b → a = b := by
  intro ha hb hl hv
  induction a generalizing b with
  | nil => cases b with
    | nil => rfl
    | cons _ _ => simp at hl
  | cons c a ih =>
    cases b with
    | nil => simp at hl
    | cons d b =>
      have hl' : a.length = b.length := by simpa using hl
      have e1 := val_append a [c]
      have e2 := val_append b [d]
      rw [List.singleton_append] at e1 e2
      have f1 : digitsVal [c] = c - 48 := by simp [digitsVal]
      have f2 : digitsVal [d] = d - 48 := by simp [digitsVal]
      rw [e1, e2, f1, f2, hl'] at hv
      have l1 := val_lt (a := a) fun z hz => ha z (.tail _ hz)
      have l2 := val_lt (a := b) fun z hz => hb z (.tail _ hz)
      rw [hl'] at l1
      have hc := ha c (.head _)
      have hd := hb d (.head _)
      have q1 : ((c - 48) * 10 ^ b.length + digitsVal a) / 10 ^ b.length = c - 48 := by
        rw [Nat.mul_comm, Nat.mul_add_div (Nat.pos_of_ne_zero (by omega)), Nat.div_eq_of_lt l1, Nat.add_zero]
      have q2 : ((d - 48) * 10 ^ b.length + digitsVal b) / 10 ^ b.length = d - 48 := by
        rw [Nat.mul_comm, Nat.mul_add_div (Nat.pos_of_ne_zero (by omega)), Nat.div_eq_of_lt l2, Nat.add_zero]
      rw [hv] at q1
      have ecd : c = d := by omega
      subst ecd
      have : digitsVal a = digitsVal b := by omega
      rw [ih (fun z hz => ha z (.tail _ hz)) (fun z hz => hb z (.tail _ hz)) hl' this]

/-- signs behind the leading noughts -/
def keptOf (D : List Nat) : List Nat := D.dropWhile (· == 48)

theorem dec_lead {n : Nat} (h : 0 < n) : ∃ c r, dec n = c :: r ∧ c ≠ 48 := by
  induction n using Nat.strongRecOn with
  | _ n ih =>
    by_cases h1 : n < 10
    · exact ⟨48 + n, [], dec_small h1, by omega⟩
    · obtain ⟨c, r, e, hc⟩ := ih (n / 10) (by omega) (by omega)
      exact ⟨c, r ++ [48 + n % 10], by rw [dec_step (by omega), e]; rfl, hc⟩

theorem kept_val (D : List Nat) : digitsVal (keptOf D) = digitsVal D := by
  induction D with
  | nil => rfl
  | cons c D ih =>
    unfold keptOf
    rw [List.dropWhile_cons]
    split
    · rename_i h
      have : c = 48 := by simpa using h
      subst this
      exact ih
    · rfl

theorem lead_len {c : Nat} {r : List Nat} (h : AllDigits (c :: r)) (hc : c ≠ 48) : 10 ^ r.length ≤ digitsVal (c :: r) := by
  have e1 := val_append r [c]
  rw [List.singleton_append] at e1
  have f1 : digitsVal [c] = c - 48 := by simp [digitsVal]
  rw [e1, f1]
  have := h c (.head _)
  have : 1 * 10 ^ r.length ≤ (c - 48) * 10 ^ r.length := Nat.mul_le_mul_right _ (by omega)
  omega

theorem lead_unique {a b : List Nat} {c d : Nat} (ha : AllDigits (c :: a)) (hb : AllDigits (d :: b)) (hc : c ≠ 48) (hd : d ≠ 48) (hv : digitsVal (c :: a) = digitsVal (d :: b)) : c :: a = d :: b := by
  refine dec_snoc_inj ha hb ?_ hv
  have l1 := lead_len ha hc
  have l2 := lead_len hb hd
  have u1 := val_lt ha
  have u2 := val_lt hb
  rw [List.length_cons] at u1 u2
  have h1 : a.length < b.length + 1 := (Nat.pow_lt_pow_iff_right (a := 10) (by decide)).mp (by omega)
  have h2 : b.length < a.length + 1 := (Nat.pow_lt_pow_iff_right (a := 10) (by decide)).mp (by omega)
  simp only [List.length_cons]; omega

theorem kept_head {D : List Nat} {c : Nat} {r : List Nat} (h : keptOf D = c :: r) : c ≠ 48 := by
  induction D with
  | nil => cases h
  | cons x D ih =>
    unfold keptOf at h
    rw [List.dropWhile_cons] at h
    split at h
    · exact ih h
    · rename_i hx
      cases h
      simpa using hx

theorem kept_sub {D : List Nat} (h : AllDigits D) : AllDigits (keptOf D) := fun c hc => h c (List.dropWhile_sublist _ |>.subset hc)

theorem kept_dec {D : List Nat} (h : AllDigits D) : keptOf D = if digitsVal D = 0 then [] else dec (digitsVal D) := by
  have hs := kept_sub h
  have hv := kept_val D
  by_cases h0 : digitsVal D = 0
  · rw [if_pos h0]
    cases hk : keptOf D with
    | nil => rfl
    | cons c r =>
      rw [hk] at hs hv
      have := lead_len hs (kept_head hk)
      have : 0 < 10 ^ r.length := Nat.pow_pos (by decide)
      omega
  · rw [if_neg h0]
    obtain ⟨d, b, e, hd⟩ := dec_lead (n := digitsVal D) (by omega)
    cases hk : keptOf D with
    | nil => rw [hk] at hv; exact absurd hv.symm h0
    | cons c r =>
      rw [hk] at hs hv
      rw [e]
      have ha := dec_all (digitsVal D)
      have hw := dec_val (digitsVal D)
      rw [e] at ha hw
      exact lead_unique hs ha (kept_head hk) hd (by rw [hv, hw])

theorem kept_snoc (D : List Nat) (c : Nat) : keptOf (D ++ [c]) = if keptOf D ≠ [] ∨ c ≠ 48 then keptOf D ++ [c] else [] := by
  induction D with
  | nil =>
    by_cases h : c = 48
    · subst h; rfl
    · have : (c == 48) = false := by simpa using h
      simp [keptOf, this, h]
  | cons x D ih =>
    unfold keptOf at ih ⊢
    rw [List.cons_append, List.dropWhile_cons, List.dropWhile_cons]
    split
    · exact ih
    · simp

/-! the pair and the canonical text -/
def sgnOf (neg : Bool) (n : Nat) : Int := if n = 0 then 0 else if neg then -1 else 1
def canonOf (neg : Bool) (n : Nat) : List Nat := if n = 0 then [48] else if neg then 45 :: dec n else dec n

end Mine

/-! part S1 -/
namespace Mine
open PySem PySem.NumText PyProof PyProof.Rows PySem.Builtin PySem.Builtin.Str

/-- the signs of a text -/
abbrev cl (x : PySem.Str) : List Nat := x.cps.toList

theorem cl_len (x : PySem.Str) : (cl x).length = x.length := by simp [cl, PySem.Str.length]
theorem cl_inj {x y : PySem.Str} (h : cl x = cl y) : x = y := PySem.Str.ext' (Array.toList_inj.mp h)
theorem cl_mk (l : List Nat) : cl ⟨l.toArray⟩ = l := by simp [cl]
theorem cl_app (x y : PySem.Str) : cl (x ++ y) = cl x ++ cl y := by
  show (x ++ y).cps.toList = _
  rw [PySem.Str.cps_append, Array.toList_append]

theorem slice_from {x : PySem.Str} {i : Int} (h0 : 0 ≤ i) : cl (Txt.slice x (some i) none) = (cl x).drop i.toNat := by
  by_cases h : i ≤ (x.length : Int)
  · rw [slice_from_eq h0 h rfl, cl_mk, List.take_of_length_le]
    have := cl_len x
    rw [List.length_drop]; simp only [cl] at this; omega
  · rw [slice_from_beyond (by omega), List.drop_of_length_le (by rw [cl_len]; omega)]
theorem slice_to {x : PySem.Str} {j : Int} (h0 : 0 ≤ j) : cl (Txt.slice x none (some j)) = (cl x).take j.toNat := by
  by_cases h : j ≤ (x.length : Int)
  · rw [beq_iff_eq.mp (slice_closes_toL h0 h), cl_mk]
    simp [cl]
  · rw [slice_to_beyond (by omega), beq_iff_eq.mp (slice_closes_toL (by omega) (Int.le_refl _)), cl_mk, List.take_of_length_le (l := cl x) (by rw [cl_len]; omega)]
    rw [List.take_of_length_le (by simp [PySem.Str.length])]; simp
theorem slice_mid {x : PySem.Str} {i j : Int} (h0 : 0 ≤ i) (h1 : i ≤ j) (h2 : j ≤ (x.length : Int)) : cl (Txt.slice x (some i) (some j)) = ((cl x).take j.toNat).drop i.toNat := by
  rw [beq_iff_eq.mp (slice_closesL h0 h1 h2), cl_mk, List.drop_take]
  congr 1; omega

theorem join_cl : ∀ ys : List PySem.Str, cl (Txt.join (PySem.Str.ofString "") ys) = ys.flatMap cl := by
  intro ys
  show cl (glued _ ys) = _
  rw [StrLaws.glued_eq_join]
  have e : (PySem.Str.ofString "") = PySem.Str.empty := by decide
  rw [e]
  induction ys with
  | nil => rfl
  | cons x r ih =>
    cases r with
    | nil => simp [PySem.Str.join]
    | cons y r =>
      show cl (x ++ PySem.Str.empty ++ PySem.Str.join PySem.Str.empty (y :: r)) = _
      rw [cl_app, cl_app, ih, List.flatMap_cons (x := x)]
      have : cl PySem.Str.empty = [] := rfl
      rw [this, List.append_nil]

theorem cl_num (m : Nat) : cl (PySem.Str.ofString (toString ((m : Nat) : Int))) = dec m := by
  show (PySem.Str.ofString (toString ((m : Nat) : Int))).cps.toList = _
  rw [PySem.Str.ofString_eq_toList]
  show ((Nat.repr m).toList.map Char.toNat) = _
  rw [Nat.toList_repr]
  rfl

theorem cl_zfill {m : Nat} (h : m < 10000) : cl (Txt.zfill (PySem.Str.ofString (toString ((m : Nat) : Int))) 4) = z4 m := by
  generalize hx : PySem.Str.ofString (toString ((m : Nat) : Int)) = x
  have hc : cl x = dec m := by rw [← hx, cl_num]
  have hlen := cl_len x
  have hall := dec_all m
  have hpad : ∀ k, cl (zfilled x k) = List.replicate k 48 ++ dec m := by
    intro k
    have hp : zfilled x k = padded x k 0 48 := by
      unfold zfilled
      have h0 : ∀ c, x.cps[0]? = some c → 48 ≤ c ∧ c ≤ 57 := by
        intro c hc0
        rw [← hc] at hall
        refine hall c ?_
        rw [← Array.getElem?_toList] at hc0
        exact List.mem_of_getElem? hc0
      split
      · rename_i e; have := h0 _ e; omega
      · rename_i e; have := h0 _ e; omega
      · rfl
    rw [hp, ← hc]
    simp [padded, cl]
  unfold Txt.zfill
  by_cases h1 : m < 10
  · have e := dec_1 h1
    rw [hc, e] at hlen
    have hl : x.length = 1 := by simpa using hlen.symm
    rw [if_neg (by rw [hl]; decide), hl, hpad, e]
    have a : m / 1000 % 10 = 0 := by omega
    have b : m / 100 % 10 = 0 := by omega
    have c : m / 10 % 10 = 0 := by omega
    simp only [z4, a, b, c]; rfl
  · by_cases h2 : m < 100
    · have e := dec_2 (by omega) h2
      rw [hc, e] at hlen
      have hl : x.length = 2 := by simpa using hlen.symm
      rw [if_neg (by rw [hl]; decide), hl, hpad, e]
      have a : m / 1000 % 10 = 0 := by omega
      have b : m / 100 % 10 = 0 := by omega
      simp only [z4, a, b]; rfl
    · by_cases h3 : m < 1000
      · have e := dec_3 (by omega) h3
        rw [hc, e] at hlen
        have hl : x.length = 3 := by simpa using hlen.symm
        rw [if_neg (by rw [hl]; decide), hl, hpad, e]
        have a : m / 1000 % 10 = 0 := by omega
        simp only [z4, a]; rfl
      · have e := dec_4 (by omega) h
        rw [hc, e] at hlen
        have hl : x.length = 4 := by simpa [z4] using hlen.symm
        rw [if_pos (by rw [hl]; decide), hc, e]
end Mine

/-! part Hd -/
open PySem PySem.W PySem.Calls PyProof.Rows PySem.Spec
set_option Elab.async false
set_option maxRecDepth 100000
namespace Mine

theorem wp_less {α : Type} {M : Model} {A A' : Around} {t : Sem α} {Q : α → Shared → Prop} {E : Value → Shared → Prop} {s : Shared} (h : wpAny M A t Q E s)
    (h1 : A'.handled = A.handled) (h2 : A'.depth ≤ A.depth) (h3 : A'.frames = A.frames) (h4 : A.guards = none) (h5 : A'.units ≤ A.units) : wpAny M A' t Q E s :=
  fun Γ p hΓ => h Γ p ⟨hΓ.1.trans h1, Nat.le_trans hΓ.2.1 h2, fun l hl => hΓ.2.2.1 l (h3.trans hl), (fun _ hg => nomatch (h4.symm.trans hg)), Nat.le_trans hΓ.2.2.2.2 h5⟩

/-- surroundings by written numbers -/
abbrev At (d : Nat) (env : Env) (outer : List Env) : Around := { handled := none, depth := 400 + d, frames := some (env :: outer), guards := none, units := d }

/-- a contract of the def at f: the heap at the call is kept; what comes back; when it raises ValueError -/
def Con (prog : Program) (w : World) (K : Frag) (p : Program) (loose : List Str) (mean : ExcName → Option Value) (mg mb : Str → Option Value) (d : Nat) (f : Addr) (vs : List Value)
    (Pre : Heap → Prop) (Ret : Heap → Value → Heap → Prop) (Exc : Prop) : Prop :=
  ∀ (cn : Str) (cs : Scope) (a : Addr) (ccd : Value) (outer : List Env) (A₀ : Around) (base h₀ : Heap) (L : Addr) (m : Str → Option Value) (s : Shared) (Q E : Value → Shared → Prop),
    Below A₀ base outer h₀ → Fr h₀ L s.heap m → K.In h₀ → Top p loose mean mg mb h₀ → cs.kind = .function → Pre s.heap →
    (∀ r h' tk', (∀ b o, s.heap.get? b = some o → h'.get? b = some o) → Ret s.heap r h' → Q r { s with heap := h', toks := tk' }) →
    (∀ e h' tk', Exc → RaisedSN base s.heap (envOf cn cs L a ccd :: outer) e (.type "ValueError") [] h' → s.heap.UpToSlots h' → E (.ref e) { s with heap := h', toks := tk' }) →
    wpAny (model prog w) (At d (envOf cn cs L a ccd) outer) (call (.ref f) vs) Q E s

section
variable {prog : Program} {w : World} {K : Frag} {p : Program} {loose : List Str} {mean : ExcName → Option Value} {mg mb : Str → Option Value} {d : Nat} {f : Addr} {vs : List Value} {Pre : Heap → Prop} {Ret : Heap → Value → Heap → Prop} {Exc : Prop}
  {cn : Str} {cs : Scope} {a : Addr} {ccd : Value} {outer : List Env} {A₀ A : Around} {base h₀ : Heap} {L : Addr} {m : Str → Option Value} {s : Shared} {Q E : Value → Shared → Prop}

theorem Con.use (C : Con prog w K p loose mean mg mb d f vs Pre Ret Exc) (B : Below A₀ base outer h₀) (F : Fr h₀ L s.heap m) (X : K.In h₀) (T : Top p loose mean mg mb h₀) (hk : cs.kind = .function) (hp : Pre s.heap)
    (hA : A.frames = some (envOf cn cs L a ccd :: outer)) (hh : A.handled = none) (hd : A.depth ≤ 400 + d) (hu : A.units ≤ d)
    (ret : ∀ r h' tk', (∀ b o, s.heap.get? b = some o → h'.get? b = some o) → Ret s.heap r h' → Q r { s with heap := h', toks := tk' })
    (exc : ∀ e h' tk', Exc → RaisedSN base s.heap (envOf cn cs L a ccd :: outer) e (.type "ValueError") [] h' → s.heap.UpToSlots h' → E (.ref e) { s with heap := h', toks := tk' }) :
    wpAny (model prog w) A (call (.ref f) vs) Q E s :=
  wp_less (C cn cs a ccd outer A₀ base h₀ L m s Q E B F X T hk hp ret exc) hh hd hA rfl hu

theorem raised_drop {G : Heap} {l : List Env} {e : Addr} {cls : Value} {news : List (Addr × Obj)} {h : Heap} (R : RaisedSN base G l e cls news h) : RaisedSN base G l e cls [] h :=
  let ⟨B, a0, hB, h1, _, hfl⟩ := R
  ⟨B, a0, hB, h1, (fun _ hq => absurd hq List.not_mem_nil), hfl⟩

theorem enterM {R : Result → Shared → Prop} {name qual : Str} {params : Arguments} {body : List Stmt} {scope : Scope} {dV kV doc pm cdv ct oc : Value} {an od : Option Addr} {osl : Array (Option Value)} {args : Args} {binds : List (Str × Value)}
    (B : Below A₀ base outer h₀) (F : Fr h₀ L s.heap m) (X₀ : K.In h₀) (T : Top p loose mean mg mb h₀) (hke : cs.kind = .function)
    (ho : K.lookup f = some ⟨oc, od, .func (fnOf name qual params body scope dV kV doc pm an cdv ct), osl⟩) (hcd : codeIn K cdv qual = true) (hroom : 400 + d < recursionLimit)
    (hbind : BindsTo s (fnOf name qual params body scope dV kV doc pm an cdv ct) args binds) (hloc : ∀ y ∈ binds, scope.names.lookup y.1 = some .local)
    (h : ∀ L' h₁, Fr s.heap L' h₁ (fun y => binds.reverse.lookup y) → News s.heap L' h₁ [] → Below (At d (envOf cn cs L a ccd) outer) base (envOf cn cs L a ccd :: outer) s.heap → K.In s.heap → Top p loose mean mg mb s.heap →
      wpAny (model prog w) ((At d (envOf cn cs L a ccd) outer).deeper (envOf qual scope L' f cdv)) (execs body (envOf qual scope L' f cdv))
        (fun fl s' => R (.ok (.ret (match fl with | .ret v => v | _ => .none))) s')
        (fun e s' => wpAny (model prog w) ((At d (envOf cn cs L a ccd) outer).deeper (envOf qual scope L' f cdv)) (leaving (envOf qual scope L' f cdv) e) (fun _ s'' => R (.error e) s'') (fun e' s'' => R (.error e') s'') s')
        { s with heap := h₁, toks := s.toks + binds.length })
    (hco : scope.isCoroutine = false) (hgen : scope.isGenerator = false) (hk : scope.kind = .function)
    (hcell : ∀ x ∈ scope.names, x.2 ≠ .cell) : codeAny (model prog w) (At d (envOf cn cs L a ccd) outer) (.call (.ref f) args) R s := by
  have X := X₀.keeps F.keep
  refine codeAny_call_def (fd := fnOf name qual params body scope dV kV doc pm an cdv ct) (body := body) (binds := binds) hroom (X _ _ ho) rfl (T.nolimit.keeps F.keep) (codeRec_of X hcd) rfl hbind hcell hloc (fun h₁ hns hk₁ => ?_) hco hgen hk
  have B₁ := pushX (env := envOf cn cs L a ccd) B F rfl hke
  exact h s.heap.objs.size h₁ ⟨hns, hk₁, Nat.le_refl _⟩ News.nil ⟨rfl, B₁.stays, B₁.frames⟩ X (T.keeps F.keep)
end

open_top hd for PySem.Challenge.rw_pd_limbs_1_01
end Mine

/-! part C1 -/
open PySem PySem.W PySem.Calls PyProof.Rows PySem.Spec
set_option Elab.async false
set_option maxRecDepth 100000
namespace Mine


local macro_rules | `(tactic| walk_at "mine enter") => `(tactic| (refine wpAny_call ?_; k_dflt (refine' enterM ?k1 ?k2 ?k3 ?k5 ?kK ?k6 ?k7 ?k8 ?k9 ?kB ?_ ?c2 ?c3 ?c4 ?c5; (case k1 => assumption); (case k2 => assumption); (case k3 => assumption); (case k5 => assumption); (case kK => assumption); (case k6 => k_is); (case k7 => k_is); (case k8 => decide); (case k9 => exact BindsTo.of_eq rfl); (case c5 => decide); (case kB => exact locs rfl); (case c2 => exact rfl); (case c3 => exact rfl); (case c4 => exact rfl)); k_whole; intro L' h' F' N' B' X' T'; (try dsimp only)))

section
variable {prog : Program} {w : World} {p : Program} {loose : List Str} {mean : ExcName → Option Value} {mg mb : Str → Option Value}

theorem tr_step' {ns : List Int} {n : Int} (h : TrInv ns n) (h0 : 0 < n) (hz : ns.getD (n - 1).toNat 0 = 0) : TrInv ns (n - 1) := by
  have hh := h
  obtain ⟨h1, h2, h3⟩ := hh
  refine tr_step h h0 ?_
  have hlt : (n - 1).toNat < ns.length := by omega
  rw [List.getD_eq_getElem?_getD, List.getElem?_eq_getElem hlt] at hz
  rw [List.getElem?_eq_getElem hlt]
  simpa using hz
theorem tr_end' {ns : List Int} {n : Int} {us : List Value} (h : TrInv ns n) (hl : ¬ 0 < n ∨ ns.getD (n - 1).toNat 0 ≠ 0) (hr : InR ns) (hi : IntsAre us (ns.take n.toNat)) : IntsAre us (limbsOf (lv ns).toNat) := by
  rw [← tr_end h ?_ hr]
  · exact hi
  · obtain ⟨h1, h2, h3⟩ := h
    rcases hl with hl | hl
    · exact .inl (by omega)
    · refine .inr fun e => hl ?_
      rw [List.getD_eq_getElem?_getD, e]; rfl

set_option maxHeartbeats 8000000 in
theorem con_trimmed {l : Addr} {its : List Value} {ns : List Int} (hi : IntsAre its ns) (hr : InR ns) (hn : ns.length ≤ 64) :
    Con prog w (Mine.hd.heap_39 w.params) p loose mean mg mb 100 21 [.ref l] (fun h => h.IsList l its.toArray)
      (fun h r h' => ∃ a us c, r = .ref a ∧ h.get? a = none ∧ h'.get? a = some (listOf us.toArray c) ∧ IntsAre us (limbsOf (lv ns).toNat)) False := by
  intro cn cs a ccd outer A₀ base h₀ L m s Q E B F X T hk hpre hret hexc
  walk_at "mine enter"
  clear B F X T
  try k_fold
  k_with_none
  w_top off
  (k_with "exec While BoolOp cons nil" => k_while (fun _ n => 0 ≤ n ∧ n ≤ (ns.length : Int) ∧ TrInv ns n) (fun _ n => n.toNat) "n")
  (k_with "state" => first | exact ⟨by omega, by omega, tr_start ns⟩ | exact ⟨by omega, by omega, tr_step' (by assumption) (by omega) (by assumption)⟩)
  k_steps
  all_goals (try (dsimp only; k_unfold; (try dsimp only)))
  all_goals (first
    | exact hret _ _ _ (Fr.keep (by assumption)) ⟨_, _, _, rfl, News.fresh (by assumption) (List.Mem.head _), News.get (by assumption) (List.Mem.head _), tr_end' (by assumption) (.inl (by assumption)) hr (by assumption)⟩
    | exact hret _ _ _ (Fr.keep (by assumption)) ⟨_, _, _, rfl, News.fresh (by assumption) (List.Mem.head _), News.get (by assumption) (List.Mem.head _), tr_end' (by assumption) (.inr (by assumption)) hr (by assumption)⟩
    | trace_state)
end
end Mine

/-! part C2 -/
open PySem PySem.W PySem.Calls PyProof.Rows PySem.Spec PySem.NumText
set_option Elab.async false
set_option maxRecDepth 100000
namespace Mine
local macro_rules | `(tactic| walk_at "mine enter") => `(tactic| (refine wpAny_call ?_; k_dflt (refine' enterM ?k1 ?k2 ?k3 ?k5 ?kK ?k6 ?k7 ?k8 ?k9 ?kB ?_ ?c2 ?c3 ?c4 ?c5; (case k1 => assumption); (case k2 => assumption); (case k3 => assumption); (case k5 => assumption); (case kK => assumption); (case k6 => k_is); (case k7 => k_is); (case k8 => decide); (case k9 => exact BindsTo.of_eq rfl); (case c5 => decide); (case kB => exact locs rfl); (case c2 => exact rfl); (case c3 => exact rfl); (case c4 => exact rfl)); k_whole; intro L' h' F' N' B' X' T'; (try dsimp only)))
local macro_rules | `(tactic| walk_at "mine steps") => `(tactic| ((repeat' (first | (k_unfold; (try dsimp only)) | walk1 | (dsimp only; first | (k_unfold; (try dsimp only)) | walk1) | fail "no step")); (all_goals (try ((try dsimp only); k_unfold; (try dsimp only))))))
section
variable {prog : Program} {w : World} {p : Program} {loose : List Str} {mean : ExcName → Option Value} {mg mb : Str → Option Value}

/-- a new pair: a sign and a new list of ints -/
def RetPair (sg : Int) (ns : List Int) (h : Heap) (r : Value) (h' : Heap) : Prop :=
  ∃ a b us c d t, r = .ref a ∧ h.get? a = none ∧ h.get? b = none ∧ h'.get? a = some { cls := .type "tuple", data := .seq #[.int sg t, .ref b] d } ∧ h'.get? b = some (listOf us.toArray c) ∧ IntsAre us ns

theorem ints_nil {ns : List Int} (h : (ns.length : Int) = 0) : ns = [] := List.eq_nil_of_length_eq_zero (by omega)
theorem ints_ne {ns : List Int} (h : (ns.length : Int) ≠ 0) : ns ≠ [] := fun e => h (by rw [e]; rfl)

set_option maxHeartbeats 8000000 in
theorem con_with_sign {l : Addr} {its : List Value} {ns : List Int} {sg : Int} {t : Tok} (hi : IntsAre its ns) (hn : ns.length ≤ 64) :
    Con prog w (Mine.hd.heap_39 w.params) p loose mean mg mb 100 42 [.int sg t, .ref l] (fun h => h.IsList l its.toArray)
      (RetPair (if ns = [] then 0 else sg) ns) False := by
  intro cn cs a ccd outer A₀ base h₀ L m s Q E B F X T hk hpre hret hexc
  walk_at "mine enter"
  clear B F X T
  try k_fold
  k_with_none
  w_top off
  walk_at "mine steps"
  · have e := ints_nil (ns := ns) (by assumption)
    subst e
    exact hret _ _ _ (Fr.keep (by assumption)) ⟨_, _, [], _, _, _, rfl, News.fresh (by assumption) (List.Mem.head _), News.fresh (by assumption) (List.Mem.tail _ (List.Mem.head _)), News.get (by assumption) (List.Mem.head _), News.get (by assumption) (List.Mem.tail _ (List.Mem.head _)), IntsAre.nil⟩
  · have e := ints_ne (ns := ns) (by assumption)
    rw [if_neg e] at hret
    exact hret _ _ _ (Fr.keep (by assumption)) ⟨_, _, _, _, _, _, rfl, News.fresh (by assumption) (List.Mem.head _), News.fresh (by assumption) (List.Mem.tail _ (List.Mem.head _)), News.get (by assumption) (List.Mem.head _), News.get (by assumption) (List.Mem.tail _ (List.Mem.head _)), by assumption⟩

end
end Mine

/-! part C3 -/
open PySem PySem.W PySem.Calls PyProof.Rows PySem.Spec PySem.NumText
set_option Elab.async false
set_option maxRecDepth 100000
namespace Mine
local macro_rules | `(tactic| walk_at "mine enter") => `(tactic| (refine wpAny_call ?_; k_dflt (refine' enterM ?k1 ?k2 ?k3 ?k5 ?kK ?k6 ?k7 ?k8 ?k9 ?kB ?_ ?c2 ?c3 ?c4 ?c5; (case k1 => assumption); (case k2 => assumption); (case k3 => assumption); (case k5 => assumption); (case kK => assumption); (case k6 => k_is); (case k7 => k_is); (case k8 => decide); (case k9 => exact BindsTo.of_eq rfl); (case c5 => decide); (case kB => exact locs rfl); (case c2 => exact rfl); (case c3 => exact rfl); (case c4 => exact rfl)); k_whole; intro L' h' F' N' B' X' T'; (try dsimp only)))
local macro_rules | `(tactic| walk_at "mine steps") => `(tactic| ((repeat' (first | (k_unfold; (try dsimp only)) | walk1 | (dsimp only; first | (k_unfold; (try dsimp only)) | walk1) | fail "no step")); (all_goals (try ((try dsimp only); k_unfold; (try dsimp only))))))
section
variable {prog : Program} {w : World} {p : Program} {loose : List Str} {mean : ExcName → Option Value} {mg mb : Str → Option Value}

/-- a text of digits alone, not empty -/
def Good (x : PySem.Str) : Prop := cl x ≠ [] ∧ AllDigits (cl x)

theorem codes_cl (x : PySem.Str) : (KStt.codes x).map Int.toNat = cl x := by
  unfold KStt.codes
  rw [List.map_map]
  exact (List.map_congr_left (g := _root_.id) fun c _ => Int.toNat_natCast c).trans (List.map_id _)
theorem cl_nil {x : PySem.Str} : (x == PySem.Str.ofString "") = true ↔ cl x = [] := by
  rw [beq_iff_eq]
  constructor
  · rintro rfl; decide +kernel
  · intro e; exact cl_inj (e.trans (by decide +kernel))
theorem cl_nil' {x : PySem.Str} : (x == PySem.Str.ofString "") = false ↔ cl x ≠ [] := by
  rw [← Bool.not_eq_true, cl_nil]
theorem occ_digit {n : Nat} : (Builtin.Str.occurrences (PySem.Str.ofString "0123456789") ⟨#[n]⟩ 0 (PySem.Str.ofString "0123456789").length 1).isEmpty = !decide (48 ≤ n ∧ n ≤ 57) := by
  have h := StrLaws.found_one (PySem.Str.ofString "0123456789") n
  have e : (PySem.Str.ofString "0123456789").cps.toList = [48, 49, 50, 51, 52, 53, 54, 55, 56, 57] := by decide +kernel
  rw [e] at h
  have q : decide (n ∈ [48, 49, 50, 51, 52, 53, 54, 55, 56, 57]) = decide (48 ≤ n ∧ n ≤ 57) := by
    rw [decide_eq_decide]
    simp only [List.mem_cons, List.not_mem_nil, or_false]
    omega
  rw [q] at h
  rw [← h, Bool.not_not]
theorem due_step {pre : List Int} {n : Nat} (h : ∀ c ∈ pre, 48 ≤ c ∧ c ≤ 57) (ho : (Builtin.Str.occurrences (PySem.Str.ofString "0123456789") ⟨#[n]⟩ 0 (PySem.Str.ofString "0123456789").length 1).isEmpty = false) :
    ∀ c ∈ pre ++ [(n : Int)], 48 ≤ c ∧ c ≤ 57 := by
  rw [occ_digit, Bool.not_eq_false', decide_eq_true_eq] at ho
  intro c hc
  rcases List.mem_append.mp hc with hc | hc
  · exact h c hc
  · rw [List.mem_singleton.mp hc]; omega
theorem due_bad {x : PySem.Str} {pre post : List Int} {n : Nat} (e : KStt.codes x = pre ++ (n : Int) :: post) (ho : (Builtin.Str.occurrences (PySem.Str.ofString "0123456789") ⟨#[n]⟩ 0 (PySem.Str.ofString "0123456789").length 1).isEmpty = true) : ¬ Good x := by
  rw [occ_digit, Bool.not_eq_true', decide_eq_false_iff_not] at ho
  rintro ⟨_, h⟩
  refine ho (h n ?_)
  rw [← codes_cl, e]
  simp
theorem due_good {x : PySem.Str} (hne : (x == PySem.Str.ofString "") = false) (h : ∀ c ∈ KStt.codes x, 48 ≤ c ∧ c ≤ 57) : Good x := by
  refine ⟨cl_nil'.mp hne, fun c hc => ?_⟩
  have := h (c : Int) (by unfold KStt.codes; exact List.mem_map.mpr ⟨c, hc, rfl⟩)
  omega
theorem due_empty {x : PySem.Str} (h : (x == PySem.Str.ofString "") = true) : ¬ Good x := fun g => g.1 (cl_nil.mp h)

set_option maxHeartbeats 8000000 in
theorem con_due {x : PySem.Str} {t : Tok} (hx : x.length ≤ 64) :
    Con prog w (Mine.hd.heap_39 w.params) p loose mean mg mb 100 87 [.str x t] (fun _ => True)
      (fun _ r _ => (r = .bool true ∧ ¬ Good x) ∨ (r = .bool false ∧ Good x)) False := by
  intro cn cs a ccd outer A₀ base h₀ L m s Q E B F X T hk hpre hret hexc
  walk_at "mine enter"
  clear B F X T
  try k_fold
  k_with_none
  w_top off
  (k_with "pyIter str" => ((rename Fr _ _ _ _ => lF'); (rename News _ _ _ _ => lN'); (with_unfolding_all refine' KStt.kst_text (σ := Unit) (fun _ => []) (fun _ => []) (fun _ => True) [] (fun pre _ => ∀ c ∈ pre, 48 ≤ c ∧ c ≤ 57) () (by rfl) lF' lN' True.intro (List.forall_mem_nil _) (List.forall_mem_nil _) ?_ ?_); (all_goals (try clear lF' lN')); (all_goals first | (intro c kPre kPost kN kT kU kH kTk kOwn kEq kOff kFacts kInv kFr kNews; (try dsimp only [kstB] at kFr); (try simp only [List.nil_append] at kNews)) | (intro c kU kH kTk kFacts kInv kFr kNews; (try dsimp only [kstB] at kFr))); (all_goals (try k_fold))))
  (k_with "state" => exact due_step (by assumption) (by assumption))
  walk_at "mine steps"
  · exact hret _ _ _ (Fr.keep (by assumption)) (.inl ⟨rfl, due_empty (by assumption)⟩)
  · exact hret _ _ _ (Fr.keep (by assumption)) (.inl ⟨rfl, due_bad (by assumption) (by assumption)⟩)
  · exact hret _ _ _ (Fr.keep (by assumption)) (.inr ⟨rfl, due_good (by assumption) (by assumption)⟩)
end
end Mine

/-! part C4 -/
open PySem PySem.W PySem.Calls PyProof.Rows PySem.Spec PySem.NumText
set_option Elab.async false
set_option maxRecDepth 100000
namespace Mine
local macro_rules | `(tactic| walk_at "mine enter") => `(tactic| (refine wpAny_call ?_; k_dflt (refine' enterM ?k1 ?k2 ?k3 ?k5 ?kK ?k6 ?k7 ?k8 ?k9 ?kB ?_ ?c2 ?c3 ?c4 ?c5; (case k1 => assumption); (case k2 => assumption); (case k3 => assumption); (case k5 => assumption); (case kK => assumption); (case k6 => k_is); (case k7 => k_is); (case k8 => decide); (case k9 => exact BindsTo.of_eq rfl); (case c5 => decide); (case kB => exact locs rfl); (case c2 => exact rfl); (case c3 => exact rfl); (case c4 => exact rfl)); k_whole; intro L' h' F' N' B' X' T'; (try dsimp only)))
local macro_rules | `(tactic| walk_at "mine steps") => `(tactic| ((repeat' (first | (k_unfold; (try dsimp only)) | walk1 | (dsimp only; first | (k_unfold; (try dsimp only)) | walk1) | fail "no step")); (all_goals (try ((try dsimp only); k_unfold; (try dsimp only))))))
section
variable {prog : Program} {w : World} {p : Program} {loose : List Str} {mean : ExcName → Option Value} {mg mb : Str → Option Value}

theorem cl_empty {x : PySem.Str} : (x != PySem.Str.ofString "") = true ↔ cl x ≠ [] := by
  rw [bne_iff_ne]
  constructor
  · intro h e; exact h (cl_inj (e.trans (by decide +kernel)))
  · intro h e; subst e; exact h (by decide +kernel)
theorem cl_empty' {x : PySem.Str} : (x != PySem.Str.ofString "") = false ↔ cl x = [] := by
  rw [← Bool.not_eq_true, cl_empty, Classical.not_not]
theorem cl_zero {n : Nat} : ((⟨#[n]⟩ : PySem.Str) != PySem.Str.ofString "0") = true ↔ n ≠ 48 := by
  rw [bne_iff_ne]
  have e : PySem.Str.ofString "0" = ⟨#[48]⟩ := by decide +kernel
  rw [e]
  simp
theorem cl_zero' {n : Nat} : ((⟨#[n]⟩ : PySem.Str) != PySem.Str.ofString "0") = false ↔ n = 48 := by
  rw [← Bool.not_eq_true, cl_zero, Classical.not_not]
theorem cl_one (n : Nat) : cl ⟨#[n]⟩ = [n] := rfl

theorem canon_start : (PySem.Str.ofString "").length ≤ ([] : List Int).length ∧ cl (PySem.Str.ofString "") = keptOf (([] : List Int).map Int.toNat) := by decide +kernel
theorem canon_step {kept : PySem.Str} {pre : List Int} {n : Nat} (h1 : kept.length ≤ pre.length) (h2 : cl kept = keptOf (pre.map Int.toNat)) (h : (kept != PySem.Str.ofString "") = true ∨ ((⟨#[n]⟩ : PySem.Str) != PySem.Str.ofString "0") = true) :
    (kept ++ ⟨#[n]⟩ : PySem.Str).length ≤ (pre ++ [(n : Int)]).length ∧ cl (kept ++ ⟨#[n]⟩) = keptOf ((pre ++ [(n : Int)]).map Int.toNat) := by
  refine ⟨?_, ?_⟩
  · rw [PySem.Str.length_append, List.length_append]
    show kept.length + 1 ≤ pre.length + 1
    omega
  · rw [cl_app, cl_one, List.map_append, List.map_singleton, Int.toNat_natCast, kept_snoc, ← h2, if_pos]
    rcases h with h | h
    · exact .inl (cl_empty.mp h)
    · exact .inr (cl_zero.mp h)
theorem canon_same {kept : PySem.Str} {pre : List Int} {n : Nat} (h1 : kept.length ≤ pre.length) (h2 : cl kept = keptOf (pre.map Int.toNat)) (h : (kept != PySem.Str.ofString "") = false) (h' : ((⟨#[n]⟩ : PySem.Str) != PySem.Str.ofString "0") = false) :
    kept.length ≤ (pre ++ [(n : Int)]).length ∧ cl kept = keptOf ((pre ++ [(n : Int)]).map Int.toNat) := by
  refine ⟨?_, ?_⟩
  · rw [List.length_append]; omega
  · have e := cl_empty'.mp h
    rw [List.map_append, List.map_singleton, Int.toNat_natCast, kept_snoc, ← h2, if_neg, e]
    rintro (q | q)
    · exact q e
    · exact q (cl_zero'.mp h')

theorem canon_zero {x kept : PySem.Str} {neg : Bool} (hd : AllDigits (cl x)) (h : cl kept = keptOf ((KStt.codes x).map Int.toNat)) (h0 : (kept == PySem.Str.ofString "") = true) : cl (PySem.Str.ofString "0") = canonOf neg (digitsVal (cl x)) := by
  rw [codes_cl, kept_dec hd, cl_nil.mp h0] at h
  have : digitsVal (cl x) = 0 := by
    by_cases e : digitsVal (cl x) = 0
    · exact e
    · rw [if_neg e] at h; exact absurd h.symm (dec_ne _)
  unfold canonOf
  rw [if_pos this]; decide +kernel
theorem canon_pos {x kept : PySem.Str} (hd : AllDigits (cl x)) (h : cl kept = keptOf ((KStt.codes x).map Int.toNat)) (h0 : (kept == PySem.Str.ofString "") = false) : digitsVal (cl x) ≠ 0 ∧ cl kept = dec (digitsVal (cl x)) := by
  have h1 := cl_nil'.mp h0
  rw [codes_cl, kept_dec hd] at h
  have : digitsVal (cl x) ≠ 0 := fun e => by rw [if_pos e] at h; exact h1 h
  rw [if_neg this] at h
  exact ⟨this, h⟩
theorem canon_neg {x kept : PySem.Str} {neg : Bool} (hd : AllDigits (cl x)) (h : cl kept = keptOf ((KStt.codes x).map Int.toNat)) (h0 : (kept == PySem.Str.ofString "") = false) (hn : neg = true) : cl (PySem.Str.ofString "-" ++ kept) = canonOf neg (digitsVal (cl x)) := by
  obtain ⟨h1, h2⟩ := canon_pos hd h h0
  unfold canonOf
  rw [if_neg h1, if_pos hn, cl_app, h2]
  rfl
theorem canon_plain {x kept : PySem.Str} {neg : Bool} (hd : AllDigits (cl x)) (h : cl kept = keptOf ((KStt.codes x).map Int.toNat)) (h0 : (kept == PySem.Str.ofString "") = false) (hn : neg = false) : cl kept = canonOf neg (digitsVal (cl x)) := by
  obtain ⟨h1, h2⟩ := canon_pos hd h h0
  unfold canonOf
  rw [if_neg h1, if_neg (by rw [hn]; decide), h2]

set_option maxHeartbeats 8000000 in
theorem con_canon {x : PySem.Str} {t : Tok} {neg : Bool} (hx : x.length ≤ 64) (hd : AllDigits (cl x)) :
    Con prog w (Mine.hd.heap_39 w.params) p loose mean mg mb 100 101 [.bool neg, .str x t] (fun _ => True)
      (fun _ r _ => ∃ y u, r = .str y u ∧ cl y = canonOf neg (digitsVal (cl x))) False := by
  intro cn cs a ccd outer A₀ base h₀ L m s Q E B F X T hk hpre hret hexc
  walk_at "mine enter"
  clear B F X T
  try k_fold
  k_with_none
  w_top off
  (k_with "pyIter str" => k_state (fun pre kept => kept.length ≤ pre.length ∧ cl kept = keptOf (pre.map Int.toNat)) "kept")
  (k_with "state" => first | exact canon_start | exact canon_step (by assumption) (by assumption) (.inl (by assumption)) | exact canon_step (by assumption) (by assumption) (.inr (by assumption)) | exact canon_same (by assumption) (by assumption) (by assumption) (by assumption))
  walk_at "mine steps"
  · exact hret _ _ _ (Fr.keep (by assumption)) ⟨_, _, rfl, canon_zero hd (by assumption) (by assumption)⟩
  · exact hret _ _ _ (Fr.keep (by assumption)) ⟨_, _, rfl, canon_neg hd (by assumption) (by assumption) (by assumption)⟩
  · exact hret _ _ _ (Fr.keep (by assumption)) ⟨_, _, rfl, canon_plain hd (by assumption) (by assumption) (by assumption)⟩
end
end Mine

/-! part U1 -/
open PySem PySem.W PySem.Calls PyProof.Rows PySem.Spec PySem.NumText
set_option Elab.async false
set_option maxRecDepth 100000
namespace Mine
section
variable {prog : Program} {w : World} {K : Frag} {p : Program} {loose : List Str} {mean : ExcName → Option Value} {mg mb : Str → Option Value} {d : Nat} {f : Addr} {vs : List Value} {Pre : Heap → Prop} {Exc : Prop}
  {cn : Str} {cs : Scope} {a : Addr} {ccd : Value} {outer : List Env} {A₀ A : Around} {base h₀ : Heap} {L : Addr} {m : Str → Option Value} {s : Shared} {Q E : Value → Shared → Prop} {news : List (Addr × Obj)} {ns : List Int} {sg : Int}

theorem news_in {h h' : Heap} {b : Addr} {o : Obj} (F : Fr h₀ L h m) (N : News h₀ L h news) (hk : ∀ b o, h.get? b = some o → h'.get? b = some o) (hf : h.get? b = none) (hg : h'.get? b = some o) : News h₀ L h' ((b, o) :: news) := by
  intro q hq
  rcases List.mem_cons.mp hq with rfl | hq
  · refine ⟨hg, fun e => ?_, ?_⟩
    · obtain ⟨oL, _, _, hL, _⟩ := F.ns
      have e' : b = L := e
      rw [e', hL] at hf
      cases hf
    · cases hq : h₀.get? b with
      | none => rfl
      | some o' => rw [F.keep b o' hq] at hf; cases hf
  · exact ⟨hk _ _ (N q hq).1, (N q hq).2⟩
theorem news_ne {h : Heap} {b : Addr} (N : News h₀ L h news) (hf : h.get? b = none) : ∀ q ∈ news, q.1 ≠ b := fun q hq e => by
  have := (N q hq).1
  rw [e, hf] at this
  cases this

theorem use_val {P : Value → Prop} (C : Con prog w K p loose mean mg mb d f vs Pre (fun _ r _ => P r) False)
    (B : Below A₀ base outer h₀) (F : Fr h₀ L s.heap m) (N : News h₀ L s.heap news) (X : K.In h₀) (T : Top p loose mean mg mb h₀) (hk : cs.kind = .function) (hp : Pre s.heap)
    (hA : A.frames = some (envOf cn cs L a ccd :: outer)) (hh : A.handled = none) (hd : A.depth ≤ 400 + d) (hu : A.units ≤ d)
    (ret : ∀ r h' tk', Fr h₀ L h' m → News h₀ L h' news → P r → Q r { s with heap := h', toks := tk' }) : wpAny (model prog w) A (call (.ref f) vs) Q E s :=
  C.use B F X T hk hp hA hh hd hu (fun r h' tk' k hP => ret r h' tk' (F.after k) (N.grown k) hP) fun _ _ _ h => h.elim

theorem use_list (C : Con prog w K p loose mean mg mb d f vs Pre (fun h r h' => ∃ a us c, r = .ref a ∧ h.get? a = none ∧ h'.get? a = some (listOf us.toArray c) ∧ IntsAre us ns) False)
    (B : Below A₀ base outer h₀) (F : Fr h₀ L s.heap m) (N : News h₀ L s.heap news) (X : K.In h₀) (T : Top p loose mean mg mb h₀) (hk : cs.kind = .function) (hp : Pre s.heap)
    (hA : A.frames = some (envOf cn cs L a ccd :: outer)) (hh : A.handled = none) (hd : A.depth ≤ 400 + d) (hu : A.units ≤ d)
    (ret : ∀ b us c h' tk', Fr h₀ L h' m → News h₀ L h' ((b, listOf (List.toArray us) c) :: news) → IntsAre us ns → (∀ q ∈ news, q.1 ≠ b) → Q (.ref b) { s with heap := h', toks := tk' }) : wpAny (model prog w) A (call (.ref f) vs) Q E s :=
  C.use B F X T hk hp hA hh hd hu (fun r h' tk' k ⟨b, us, c, e, hf, hg, hi⟩ => by subst e; exact ret b us c h' tk' (F.after k) (news_in F N k hf hg) hi (news_ne N hf)) fun _ _ _ h => h.elim

theorem use_pair (C : Con prog w K p loose mean mg mb d f vs Pre (RetPair sg ns) False)
    (B : Below A₀ base outer h₀) (F : Fr h₀ L s.heap m) (N : News h₀ L s.heap news) (X : K.In h₀) (T : Top p loose mean mg mb h₀) (hk : cs.kind = .function) (hp : Pre s.heap)
    (hA : A.frames = some (envOf cn cs L a ccd :: outer)) (hh : A.handled = none) (hd : A.depth ≤ 400 + d) (hu : A.units ≤ d)
    (ret : ∀ b c us n k t h' tk', Fr h₀ L h' m → News h₀ L h' ((b, { cls := .type "tuple", data := .seq #[.int sg t, .ref c] k }) :: (c, listOf (List.toArray us) n) :: news) → IntsAre us ns → (∀ q ∈ news, q.1 ≠ c) → Q (.ref b) { s with heap := h', toks := tk' }) : wpAny (model prog w) A (call (.ref f) vs) Q E s :=
  C.use B F X T hk hp hA hh hd hu (fun r h' tk' k ⟨b, c, us, n, k', t, e, hf, hf', hg, hg', hi⟩ => by
    subst e
    refine ret b c us n k' t h' tk' (F.after k) ?_ hi (news_ne N hf')
    have N1 := news_in F N k hf' hg'
    have N2 := news_in F N k hf hg
    intro q hq
    rcases List.mem_cons.mp hq with rfl | hq
    · exact N2 _ (List.Mem.head _)
    · exact N1 q hq) fun _ _ _ h => h.elim

theorem use_listX {G : Prop} (C : Con prog w K p loose mean mg mb d f vs Pre (fun h r h' => G ∧ ∃ a us c, r = .ref a ∧ h.get? a = none ∧ h'.get? a = some (listOf us.toArray c) ∧ IntsAre us ns) Exc)
    (B : Below A₀ base outer h₀) (F : Fr h₀ L s.heap m) (N : News h₀ L s.heap news) (X : K.In h₀) (T : Top p loose mean mg mb h₀) (hk : cs.kind = .function) (hp : Pre s.heap)
    (hA : A.frames = some (envOf cn cs L a ccd :: outer)) (hh : A.handled = none) (hd : A.depth ≤ 400 + d) (hu : A.units ≤ d)
    (ret : G → ∀ b us c h' tk', Fr h₀ L h' m → News h₀ L h' ((b, listOf (List.toArray us) c) :: news) → IntsAre us ns → (∀ q ∈ news, q.1 ≠ b) → Q (.ref b) { s with heap := h', toks := tk' })
    (exc : Exc → ∀ e h' tk', RaisedSN base s.heap (envOf cn cs L a ccd :: outer) e (.type "ValueError") [] h' → s.heap.UpToSlots h' → E (.ref e) { s with heap := h', toks := tk' }) : wpAny (model prog w) A (call (.ref f) vs) Q E s :=
  C.use B F X T hk hp hA hh hd hu (fun r h' tk' k ⟨g, b, us, c, e, hf, hg, hi⟩ => by subst e; exact ret g b us c h' tk' (F.after k) (news_in F N k hf hg) hi (news_ne N hf)) fun e h' tk' hx => exc hx e h' tk'

theorem use_pairX {G : Prop} (C : Con prog w K p loose mean mg mb d f vs Pre (fun h r h' => G ∧ RetPair sg ns h r h') Exc)
    (B : Below A₀ base outer h₀) (F : Fr h₀ L s.heap m) (N : News h₀ L s.heap news) (X : K.In h₀) (T : Top p loose mean mg mb h₀) (hk : cs.kind = .function) (hp : Pre s.heap)
    (hA : A.frames = some (envOf cn cs L a ccd :: outer)) (hh : A.handled = none) (hd : A.depth ≤ 400 + d) (hu : A.units ≤ d)
    (ret : G → ∀ b c us n k t h' tk', Fr h₀ L h' m → News h₀ L h' ((b, { cls := .type "tuple", data := .seq #[.int sg t, .ref c] k }) :: (c, listOf (List.toArray us) n) :: news) → IntsAre us ns → (∀ q ∈ news, q.1 ≠ c) → Q (.ref b) { s with heap := h', toks := tk' })
    (exc : Exc → ∀ e h' tk', RaisedSN base s.heap (envOf cn cs L a ccd :: outer) e (.type "ValueError") [] h' → s.heap.UpToSlots h' → E (.ref e) { s with heap := h', toks := tk' }) : wpAny (model prog w) A (call (.ref f) vs) Q E s :=
  C.use B F X T hk hp hA hh hd hu (fun r h' tk' k ⟨g, b, c, us, n, k', t, e, hf, hf', hg, hg', hi⟩ => by
    subst e
    refine ret g b c us n k' t h' tk' (F.after k) ?_ hi (news_ne N hf')
    have N1 := news_in F N k hf' hg'
    have N2 := news_in F N k hf hg
    intro q hq
    rcases List.mem_cons.mp hq with rfl | hq
    · exact N2 _ (List.Mem.head _)
    · exact N1 q hq) fun e h' tk' hx => exc hx e h' tk'
end
end Mine

/-! part C5 -/
open PySem PySem.W PySem.Calls PyProof.Rows PySem.Spec PySem.NumText
set_option Elab.async false
set_option maxRecDepth 100000
namespace Mine
local macro_rules | `(tactic| walk_at "mine enter") => `(tactic| (refine wpAny_call ?_; k_dflt (refine' enterM ?k1 ?k2 ?k3 ?k5 ?kK ?k6 ?k7 ?k8 ?k9 ?kB ?_ ?c2 ?c3 ?c4 ?c5; (case k1 => assumption); (case k2 => assumption); (case k3 => assumption); (case k5 => assumption); (case kK => assumption); (case k6 => k_is); (case k7 => k_is); (case k8 => decide); (case k9 => exact BindsTo.of_eq rfl); (case c5 => decide); (case kB => exact locs rfl); (case c2 => exact rfl); (case c3 => exact rfl); (case c4 => exact rfl)); k_whole; intro L' h' F' N' B' X' T'; (try dsimp only)))
local macro_rules | `(tactic| walk_at "mine steps") => `(tactic| ((repeat' (first | (k_unfold; (try dsimp only)) | walk1 | (dsimp only; first | (k_unfold; (try dsimp only)) | walk1) | fail "no step")); (all_goals (repeat ((try dsimp only); k_unfold; (try dsimp only))))))
section
variable {prog : Program} {w : World} {p : Program} {loose : List Str} {mean : ExcName → Option Value} {mg mb : Str → Option Value}

theorem hor_step {x : PySem.Str} {pre post : List Int} {k : Nat} {n : Int} (hd : AllDigits (cl x)) (e : KStt.codes x = pre ++ (k : Int) :: post) (h : n = (digitsVal (pre.map Int.toNat) : Nat)) :
    n * 10 + ((k : Int) - 48) = (digitsVal ((pre ++ [(k : Int)]).map Int.toNat) : Nat) := by
  have hk := hd k (by rw [← codes_cl, e]; simp)
  rw [List.map_append, List.map_singleton, Int.toNat_natCast, digitsVal_snoc, h]
  omega
theorem row_start' {x : PySem.Str} {n : Int} (h : n = (digitsVal ((KStt.codes x).map Int.toNat) : Nat)) : 0 ≤ n ∧ ([] : List Int).length ≤ 64 ∧ RowInv (digitsVal (cl x)) n [] := by
  rw [codes_cl] at h
  subst h
  exact ⟨by omega, by simp, row_start _⟩
theorem row_len {x : PySem.Str} {n : Int} {row : List Int} (hx : x.length ≤ 64) (hd : AllDigits (cl x)) (h : RowInv (digitsVal (cl x)) n row) : row.length ≤ 64 := by
  have h1 := val_lt hd
  have h2 : (limbsOf (digitsVal (cl x))).length ≤ 64 := limbsOf_length (Nat.lt_of_lt_of_le h1 (Nat.le_trans (Nat.pow_le_pow_right (by decide) (by rw [cl_len]; exact hx)) (Nat.pow_le_pow_left (by decide) 64)))
  rw [← h.2, List.length_append] at h2
  omega
theorem row_step' {x : PySem.Str} {n : Int} {row : List Int} (hx : x.length ≤ 64) (hd : AllDigits (cl x)) (h : RowInv (digitsVal (cl x)) n row) (h0 : 0 < n) :
    0 ≤ Int.fdiv n 10000 ∧ (row ++ [Int.fmod n 10000]).length ≤ 64 ∧ RowInv (digitsVal (cl x)) (Int.fdiv n 10000) (row ++ [Int.fmod n 10000]) := by
  rw [Int.fdiv_eq_ediv_of_nonneg _ (by decide), Int.fmod_eq_emod_of_nonneg _ (by decide)]
  have r := row_step h h0
  exact ⟨by omega, row_len hx hd r, r⟩
theorem row_meas {n : Int} (h0 : 0 < n) : (Int.fdiv n 10000).toNat < n.toNat := by
  rw [Int.fdiv_eq_ediv_of_nonneg _ (by decide)]
  omega

theorem pair_end {N : Nat} {n : Int} {row : List Int} {us : List Value} (h : RowInv N n row) (hn : ¬ 0 < n) (hi : IntsAre us row) : IntsAre us (limbsOf N) := by
  rw [← row_end h (by omega)]; exact hi
theorem pair_sg0 {N : Nat} {n : Int} {row : List Int} {neg : Bool} (h : RowInv N n row) (hn : ¬ 0 < n) (he : decide (row = []) = true) : sgnOf neg N = 0 := by
  have e := of_decide_eq_true he
  rw [row_end h (by omega), limbsOf_nil] at e
  unfold sgnOf
  rw [if_pos e]
theorem pair_sg {N : Nat} {n : Int} {row : List Int} {neg : Bool} (h : RowInv N n row) (hn : ¬ 0 < n) (he : decide (row = []) = false) : sgnOf neg N = if neg then -1 else 1 := by
  have e := of_decide_eq_false he
  rw [row_end h (by omega), limbsOf_nil] at e
  unfold sgnOf
  rw [if_neg e]

set_option maxHeartbeats 2000000 in
theorem con_pair {x : PySem.Str} {t : Tok} {neg : Bool} (hx : x.length ≤ 64) (hd : AllDigits (cl x)) :
    Con prog w (Mine.hd.heap_39 w.params) p loose mean mg mb 100 94 [.bool neg, .str x t] (fun _ => True)
      (RetPair (sgnOf neg (digitsVal (cl x))) (limbsOf (digitsVal (cl x)))) False := by
  intro cn cs a ccd outer A₀ base h₀ L m s Q E B F X T hk hpre hret hexc
  walk_at "mine enter"
  clear B F X T
  have kI0 : IntsAre [] [] := IntsAre.nil
  try k_fold
  k_with_none
  w_top off
  (k_with "pyIter str" => k_state (fun pre n => n = (digitsVal (pre.map Int.toNat) : Nat)) "n")
  (k_with "exec While Compare cons nil" => k_while (fun _ n row => 0 ≤ n ∧ row.length ≤ 64 ∧ RowInv (digitsVal (cl x)) n row) (fun _ n _ => n.toNat) "n" "row")
  (k_with "state" => first | rfl | exact hor_step hd (by assumption) (by assumption) | exact row_start' (by assumption) | exact row_step' hx hd (by assumption) (by assumption))
  (k_with "measure" => exact row_meas (by assumption))
  walk_at "mine steps"
  · rw [pair_sg0 (neg := neg) (by assumption) (by assumption) (by assumption)] at hret
    exact hret _ _ _ (Fr.keep (by assumption)) ⟨_, _, _, _, _, _, rfl, News.fresh (by assumption) (List.Mem.head _), News.fresh (by assumption) (List.Mem.tail _ (List.Mem.tail _ (List.Mem.head _))), News.get (by assumption) (List.Mem.head _), News.get (by assumption) (List.Mem.tail _ (List.Mem.tail _ (List.Mem.head _))), pair_end (by assumption) (by assumption) (by assumption)⟩
  · rw [pair_sg (neg := neg) (by assumption) (by assumption) (by assumption), if_pos (by assumption)] at hret
    exact hret _ _ _ (Fr.keep (by assumption)) ⟨_, _, _, _, _, _, rfl, News.fresh (by assumption) (List.Mem.head _), News.fresh (by assumption) (List.Mem.tail _ (List.Mem.tail _ (List.Mem.head _))), News.get (by assumption) (List.Mem.head _), News.get (by assumption) (List.Mem.tail _ (List.Mem.tail _ (List.Mem.head _))), pair_end (by assumption) (by assumption) (by assumption)⟩
  · have hf : neg = false := by assumption
    rw [pair_sg (neg := neg) (by assumption) (by assumption) (by assumption), hf, if_neg (by decide)] at hret
    exact hret _ _ _ (Fr.keep (by assumption)) ⟨_, _, _, _, _, _, rfl, News.fresh (by assumption) (List.Mem.head _), News.fresh (by assumption) (List.Mem.tail _ (List.Mem.tail _ (List.Mem.head _))), News.get (by assumption) (List.Mem.head _), News.get (by assumption) (List.Mem.tail _ (List.Mem.tail _ (List.Mem.head _))), pair_end (by assumption) (by assumption) (by assumption)⟩
end
end Mine

/-! part C6 -/
open PySem PySem.W PySem.Calls PyProof.Rows PySem.Spec PySem.NumText
set_option Elab.async false
set_option maxRecDepth 100000
namespace Mine
local macro_rules | `(tactic| walk_at "mine enter") => `(tactic| (refine wpAny_call ?_; k_dflt (refine' enterM ?k1 ?k2 ?k3 ?k5 ?kK ?k6 ?k7 ?k8 ?k9 ?kB ?_ ?c2 ?c3 ?c4 ?c5; (case k1 => assumption); (case k2 => assumption); (case k3 => assumption); (case k5 => assumption); (case kK => assumption); (case k6 => k_is); (case k7 => k_is); (case k8 => decide); (case k9 => exact BindsTo.of_eq rfl); (case c5 => decide); (case kB => exact locs rfl); (case c2 => exact rfl); (case c3 => exact rfl); (case c4 => exact rfl)); k_whole; intro L' h' F' N' B' X' T'; (try dsimp only)))
local macro_rules | `(tactic| walk_at "mine steps") => `(tactic| ((repeat' (first | (k_unfold; (try dsimp only)) | walk1 | (dsimp only; first | (k_unfold; (try dsimp only)) | walk1) | fail "no step")); (all_goals (repeat ((try dsimp only); k_unfold; (try dsimp only))))))
section
variable {prog : Program} {w : World} {p : Program} {loose : List Str} {mean : ExcName → Option Value} {mg mb : Str → Option Value}

theorem getD_in {ns : List Int} (h : InR ns) (k : Nat) : 0 ≤ ns.getD k 0 ∧ ns.getD k 0 < 10000 := by
  rw [List.getD_eq_getElem?_getD]
  cases e : ns[k]? with
  | none => exact ⟨Int.le_refl _, by decide⟩
  | some v => exact h v (List.mem_of_getElem? e)
theorem big_lo {v : Int} (h : 0 ≤ v ∧ v < 10000) : -(2 ^ 1920 : Int) < v := Int.lt_of_lt_of_le (by decide) h.1
theorem big_hi {v : Int} (h : 0 ≤ v ∧ v < 10000) : v < (2 ^ 1920 : Int) := Int.lt_of_lt_of_le h.2 (by decide)

theorem cl_int {v : Int} (h : 0 ≤ v) : cl (PySem.Str.ofString (toString v)) = dec v.toNat := by
  obtain ⟨m, rfl⟩ := Int.eq_ofNat_of_zero_le h
  exact cl_num m
theorem cl_z4 {v : Int} (h : 0 ≤ v ∧ v < 10000) : cl (Txt.zfill (PySem.Str.ofString (toString v)) 4) = z4 v.toNat := by
  obtain ⟨m, rfl⟩ := Int.eq_ofNat_of_zero_le h.1
  exact cl_zfill (by omega)
def TdInv (ns pre : List Int) (pieces : List PySem.Str) : Prop := pieces.map cl = dec (ns.getD (ns.length - 1) 0).toNat :: pre.map (fun i => z4 (ns.getD i.toNat 0).toNat)
theorem td_start {ns : List Int} (hb : ∀ k, 0 ≤ ns.getD k 0 ∧ ns.getD k 0 < 10000) : [PySem.Str.ofString (toString (ns.getD ((ns.length : Int) - 1).toNat 0))].length = ([] : List Int).length + 1 ∧ TdInv ns [] [PySem.Str.ofString (toString (ns.getD ((ns.length : Int) - 1).toNat 0))] := by
  refine ⟨rfl, ?_⟩
  unfold TdInv
  rw [List.map_singleton, List.map_nil, cl_int (hb _).1]
  have : ((ns.length : Int) - 1).toNat = ns.length - 1 := by omega
  rw [this]
theorem td_step {ns pre : List Int} {pieces : List PySem.Str} {k : Int} (hb : ∀ k, 0 ≤ ns.getD k 0 ∧ ns.getD k 0 < 10000) (hl : pieces.length = pre.length + 1) (h : TdInv ns pre pieces) :
    (pieces ++ [Txt.zfill (PySem.Str.ofString (toString (ns.getD k.toNat 0))) 4]).length = (pre ++ [k]).length + 1 ∧ TdInv ns (pre ++ [k]) (pieces ++ [Txt.zfill (PySem.Str.ofString (toString (ns.getD k.toNat 0))) 4]) := by
  refine ⟨by simp; omega, ?_⟩
  unfold TdInv at h ⊢
  rw [List.map_append, h, List.map_singleton, cl_z4 (hb _), List.map_append, List.map_singleton]
  rfl

theorem down_eq {ns : List Int} (h : ns ≠ []) : (downKs ((ns.length : Int) - 2) ((ns.length : Int) - 2 - -1).toNat).map (fun i => ns.getD i.toNat 0) = ns.dropLast.reverse := by
  have hl : 0 < ns.length := List.length_pos_iff.mpr h
  apply List.ext_getElem
  · simp [downKs]; omega
  · intro i h1 h2
    have h3 : i < ns.length - 1 := by simpa using h2
    simp only [downKs, List.getElem_map, List.getElem_range, List.getElem_reverse, List.getElem_dropLast, List.length_dropLast]
    have e : ((ns.length : Int) - 2 - (i : Int)).toNat = ns.length - 1 - 1 - i := by omega
    rw [e, List.getD_eq_getElem?_getD, List.getElem?_eq_getElem (by omega)]
    rfl
theorem td_text {ns : List Int} {pieces : List PySem.Str} (h0 : (ns.length : Int) ≠ 0) (h : TdInv ns (downKs ((ns.length : Int) - 2) ((ns.length : Int) - 2 - -1).toNat) pieces) : cl (Txt.join (PySem.Str.ofString "") pieces) = decL ns := by
  have hne : ns ≠ [] := fun e => h0 (by rw [e]; rfl)
  rw [join_cl, List.flatMap_def, h, List.flatten_cons]
  unfold decL
  rw [List.getLast?_eq_getElem?]
  have hl : 0 < ns.length := List.length_pos_iff.mpr hne
  rw [List.getElem?_eq_getElem (by omega), List.getD_eq_getElem?_getD, List.getElem?_eq_getElem (by omega), ← down_eq hne, List.flatMap_def, List.map_map]
  rfl
theorem td_weight {ns pre : List Int} {pieces : List PySem.Str} (hb : ∀ k, 0 ≤ ns.getD k 0 ∧ ns.getD k 0 < 10000) (hl : pieces.length = pre.length + 1) (hp : pre.length ≤ 1000) (h : TdInv ns pre pieces) : (pieces.map (·.length)).sum + pieces.length ≤ 1048576 := by
  have e : pieces.map (·.length) = (pieces.map cl).map List.length := by
    rw [List.map_map]
    exact List.map_congr_left fun a _ => (cl_len a).symm
  rw [e, h, List.map_cons, List.sum_cons, List.map_map]
  have h1 : (dec (ns.getD (ns.length - 1) 0).toNat).length ≤ 4 := dec_length (k := 3) (by have := hb (ns.length - 1); omega)
  have h2 : (pre.map (List.length ∘ fun i => z4 (ns.getD i.toNat 0).toNat)).sum = 4 * pre.length := by
    clear hl h hp e
    induction pre with
    | nil => rfl
    | cons a r ih => rw [List.map_cons, List.sum_cons, ih, List.length_cons]; show 4 + 4 * r.length = _; omega
  omega
theorem td_zero {ns : List Int} (h0 : (ns.length : Int) = 0) : cl (PySem.Str.ofString "0") = decL ns := by
  have : ns = [] := List.eq_nil_of_length_eq_zero (by omega)
  subst this
  decide +kernel
theorem down_len (a : Int) (n : Nat) : (downKs a n).length = n := by simp [downKs]

set_option maxHeartbeats 2000000 in
theorem con_to_decimal {l : Addr} {its : List Value} {N : Nat} (hi : IntsAre its (limbsOf N)) (hn : (limbsOf N).length ≤ 32) :
    Con prog w (Mine.hd.heap_39 w.params) p loose mean mg mb 100 28 [.ref l] (fun h => h.IsList l its.toArray)
      (fun _ r _ => ∃ y u, r = .str y u ∧ cl y = dec N) False := by
  intro cn cs a ccd outer A₀ base h₀ L m s Q E B F X T hk hpre hret hexc
  have hR := limbsOf_inR N
  have hD := decL_limbs N
  generalize limbsOf N = ns at hi hn hR hD
  have hb := getD_in hR
  walk_at "mine enter"
  clear B F X T
  try k_fold
  k_with_none
  w_top off
  (k_with "call type:str" => refine P.str_of_int (shown (N := 2 ^ 1920) (big_lo (hb _)) (big_hi (hb _)) (Int.le_refl _)) ?_)
  (k_with "pyIter ref" => k_state (fun pre pieces => pieces.length = pre.length + 1 ∧ TdInv ns pre pieces) "pieces$")
  (k_with "state" => first | exact td_start hb | exact td_step hb (by assumption) (by assumption))
  (k_with "call builtin:str.join" => ((refine join_listW (News.isList (by k_asm) (List.Mem.head _)) (by assumption) (by decide) (td_weight hb (by assumption) (by rw [down_len]; omega) (by assumption)) ?_); intro _ _))
  walk_at "mine steps"
  · exact hret _ _ _ (Fr.keep (by assumption)) ⟨_, _, rfl, (td_zero (by assumption)).trans hD⟩
  · exact hret _ _ _ (Fr.keep (by assumption)) ⟨_, _, rfl, (td_text (by assumption) (by assumption)).trans hD⟩
end
end Mine

/-! part C7 -/
open PySem PySem.W PySem.Calls PyProof.Rows PySem.Spec PySem.NumText
set_option Elab.async false
set_option maxRecDepth 100000
namespace Mine
local macro_rules | `(tactic| walk_at "mine enter") => `(tactic| (refine wpAny_call ?_; k_dflt (refine' enterM ?k1 ?k2 ?k3 ?k5 ?kK ?k6 ?k7 ?k8 ?k9 ?kB ?_ ?c2 ?c3 ?c4 ?c5; (case k1 => assumption); (case k2 => assumption); (case k3 => assumption); (case k5 => assumption); (case kK => assumption); (case k6 => k_is); (case k7 => k_is); (case k8 => decide); (case k9 => exact BindsTo.of_eq rfl); (case c5 => decide); (case kB => exact locs rfl); (case c2 => exact rfl); (case c3 => exact rfl); (case c4 => exact rfl)); k_whole; intro L' h' F' N' B' X' T'; (try dsimp only)))
local macro_rules | `(tactic| walk_at "mine steps") => `(tactic| ((repeat' (first | (k_unfold; (try dsimp only)) | walk1 | (dsimp only; first | (k_unfold; (try dsimp only)) | walk1) | fail "no step")); (all_goals (repeat ((try dsimp only); k_unfold; (try dsimp only))))))
section
variable {prog : Program} {w : World} {p : Program} {loose : List Str} {mean : ExcName → Option Value} {mg mb : Str → Option Value}

theorem fd_start' {x : PySem.Str} (hx : x.length ≤ 64) : ([] : List Int).length ≤ 64 ∧ (x.length : Int) ≤ (x.length : Int) ∧ -4 < (x.length : Int) ∧ FdInv (cl x) [] (x.length : Int) := by
  have h := fd_start (cl x)
  rw [cl_len] at h
  exact ⟨by simp, Int.le_refl _, by omega, h⟩

theorem fd_read {x : PySem.Str} {e : Int} (hg : ∀ c ∈ KStt.codes x, 48 ≤ c ∧ c ≤ 57) (hx : x.length ≤ 64) (he : 0 < e) (hle : e ≤ (x.length : Int)) :
    PySem.intText? (Txt.slice x (some (if e - 4 > 0 then e - 4 else 0)) (some e)) = some ((digitsVal (((cl x).take e.toNat).drop (max 0 (e - 4)).toNat) : Nat) : Int) := by
  have hm : (if e - 4 > 0 then e - 4 else 0) = max 0 (e - 4) := by split <;> omega
  rw [hm]
  have hc := slice_mid (x := x) (i := max 0 (e - 4)) (j := e) (by omega) (by omega) hle
  have hd : AllDigits (cl x) := fun c hc => by
    have := hg (c : Int) (by unfold KStt.codes; exact List.mem_map.mpr ⟨c, hc, rfl⟩)
    omega
  have hlen := Txt.slice_le x (some (max 0 (e - 4))) (some e)
  generalize Txt.slice x (some (max 0 (e - 4))) (some e) = y at hc hlen ⊢
  rw [← hc]
  refine intText_digits ?_ ?_ (by omega)
  · intro c hcm
    have h2 : c ∈ cl y := hcm
    rw [hc] at h2
    exact hd c (List.mem_of_mem_take (List.mem_of_mem_drop h2))
  · intro h0
    have h1 : cl y = [] := h0
    rw [hc] at h1
    have h2 := congrArg List.length h1
    rw [List.length_drop, List.length_take, cl_len] at h2
    simp only [List.length_nil] at h2
    omega
theorem fd_short {x : PySem.Str} {e : Int} (hx : x.length ≤ 64) : (Txt.slice x (some (if e - 4 > 0 then e - 4 else 0)) (some e)).length ≤ 640 := Nat.le_trans (Txt.slice_le x _ _) (by omega)
theorem all_of_codes {x : PySem.Str} (hg : ∀ c ∈ KStt.codes x, 48 ≤ c ∧ c ≤ 57) : AllDigits (cl x) := fun c hc => by
  have := hg (c : Int) (by unfold KStt.codes; exact List.mem_map.mpr ⟨c, hc, rfl⟩)
  omega
theorem fd_step' {x : PySem.Str} {e : Int} {limbs : List Int} (hg : ∀ c ∈ KStt.codes x, 48 ≤ c ∧ c ≤ 57) (hx : x.length ≤ 64) (h : FdInv (cl x) limbs e) (he : 0 < e) :
    (limbs ++ [((digitsVal (((cl x).take e.toNat).drop (max 0 (e - 4)).toNat) : Nat) : Int)]).length ≤ 64 ∧ e - 4 ≤ (x.length : Int) ∧ -4 < e - 4 ∧ FdInv (cl x) (limbs ++ [((digitsVal (((cl x).take e.toNat).drop (max 0 (e - 4)).toNat) : Nat) : Int)]) (e - 4) := by
  have h' := fd_step (all_of_codes hg) h he
  have hl := fd_length h'
  rw [cl_len] at hl
  obtain ⟨e1, _, _, _⟩ := h
  rw [cl_len] at e1
  exact ⟨by omega, by omega, by omega, h'⟩
theorem fd_fin {x : PySem.Str} {e : Int} {limbs : List Int} {us : List Value} (h : FdInv (cl x) limbs e) (he : ¬ 0 < e) (hi : IntsAre us (limbsOf (lv limbs).toNat)) : IntsAre us (limbsOf (digitsVal (cl x))) := by
  obtain ⟨_, h2⟩ := fd_end h (by omega)
  rw [h2, Int.toNat_natCast] at hi
  exact hi

set_option maxHeartbeats 2000000 in
theorem con_from {x : PySem.Str} {t : Tok} (hx : x.length ≤ 64) :
    Con prog w (Mine.hd.heap_39 w.params) p loose mean mg mb 90 35 [.str x t] (fun _ => True)
      (fun h r h' => Good x ∧ ∃ a us c, r = .ref a ∧ h.get? a = none ∧ h'.get? a = some (listOf us.toArray c) ∧ IntsAre us (limbsOf (digitsVal (cl x)))) (¬ Good x) := by
  intro cn cs a ccd outer A₀ base h₀ L m s Q E B F X T hk hpre hret hexc
  walk_at "mine enter"
  clear B F X T
  have kD : KtsDicts [] s.heap := ktsDicts_nil
  have kI0 : IntsAre [] [] := IntsAre.nil
  try k_fold
  k_with_none
  w_top off
  (k_with "pyIter str" => ((rename Fr _ _ _ _ => lF'); (rename News _ _ _ _ => lN'); (with_unfolding_all refine' KStt.kst_text (σ := Unit) (fun _ => []) (fun _ => []) (fun _ => True) [] (fun pre _ => ∀ c ∈ pre, 48 ≤ c ∧ c ≤ 57) () (by rfl) lF' lN' True.intro (List.forall_mem_nil _) (List.forall_mem_nil _) ?_ ?_); (all_goals (try clear lF' lN')); (all_goals first | (intro c kPre kPost kN kT kU kH kTk kOwn kEq kOff kFacts kInv kFr kNews; (try dsimp only [kstB] at kFr); (try simp only [List.nil_append] at kNews)) | (intro c kU kH kTk kFacts kInv kFr kNews; (try dsimp only [kstB] at kFr))); (all_goals (try k_fold))))
  (k_with "exec While Compare cons nil" => k_while (fun _ e limbs => limbs.length ≤ 64 ∧ e ≤ (x.length : Int) ∧ -4 < e ∧ FdInv (cl x) limbs e) (fun _ e _ => e.toNat) "end" "limbs")
  (k_with "state" => first | exact due_step (by assumption) (by assumption) | exact fd_start' hx | exact fd_step' (by assumption) hx (by assumption) (by assumption))
  (k_with "call type:int" => refine KIN.call_text (fd_read (by assumption) hx (by assumption) (by assumption)) (fd_short hx) ?_)
  (k_with "call ref" => ((with_reducible show wpAny _ _ (PySem.call (Value.ref 21) [Value.ref _]) _ _ _); k_dflt (refine' use_list (con_trimmed ?hi ?hr ?hn) ?B ?F ?N ?X ?T ?hk ?hp ?hA ?hh ?hd ?hu ?_; (case hA => exact rfl); (case hk => exact rfl); (case hh => exact rfl); (case F => k_asm); (case N => k_asm); (case B => assumption); (case X => assumption); (case T => assumption); (case hp => exact News.isList (by k_asm) (List.Mem.head _)); (case hi => assumption); (case hr => exact (fd_end (by assumption) (by omega)).1); (case hn => assumption); (case hd => exact Nat.le_of_ble_eq_true rfl); (case hu => exact Nat.le_of_ble_eq_true rfl)); intro tb tus tc tH tTk tF tN tI tNe; (try k_fold)))
  walk_at "mine steps"
  · exact hexc _ _ _ (due_empty (by assumption)) (raised_drop (by assumption)) (by assumption)
  · exact hexc _ _ _ (due_bad (by assumption) (by assumption)) (raised_drop (by assumption)) (by assumption)
  · exact hret _ _ _ (Fr.keep (by assumption)) ⟨due_good (by assumption) (by assumption), _, _, _, rfl, News.fresh (by assumption) (List.Mem.head _), News.get (by assumption) (List.Mem.head _), fd_fin (by assumption) (by assumption) (by assumption)⟩
end
end Mine

/-! part C8 -/
open PySem PySem.W PySem.Calls PyProof.Rows PySem.Spec PySem.NumText
set_option Elab.async false
set_option maxRecDepth 100000
namespace Mine
local macro_rules | `(tactic| walk_at "mine enter") => `(tactic| (refine wpAny_call ?_; k_dflt (refine' enterM ?k1 ?k2 ?k3 ?k5 ?kK ?k6 ?k7 ?k8 ?k9 ?kB ?_ ?c2 ?c3 ?c4 ?c5; (case k1 => assumption); (case k2 => assumption); (case k3 => assumption); (case k5 => assumption); (case kK => assumption); (case k6 => k_is); (case k7 => k_is); (case k8 => decide); (case k9 => exact BindsTo.of_eq rfl); (case c5 => decide); (case kB => exact locs rfl); (case c2 => exact rfl); (case c3 => exact rfl); (case c4 => exact rfl)); k_whole; intro L' h' F' N' B' X' T'; (try dsimp only)))
local macro_rules | `(tactic| walk_at "mine steps") => `(tactic| ((repeat' (first | (k_unfold; (try dsimp only)) | walk1 | (dsimp only; first | (k_unfold; (try dsimp only)) | walk1) | fail "no step")); (all_goals (repeat ((try dsimp only); k_unfold; (try dsimp only))))))
local macro_rules | `(tactic| walk_at "mine c28") => `(tactic| ((with_reducible show wpAny _ _ (PySem.call (Value.ref 28) [Value.ref _]) _ _ _); k_dflt (refine' use_val (con_to_decimal ?hi ?hn) ?B ?F ?N ?X ?T ?hk ?hp ?hA ?hh ?hd ?hu ?_; (case hA => exact rfl); (case hk => exact rfl); (case hh => exact rfl); (case F => k_asm); (case N => k_asm); (case B => assumption); (case X => assumption); (case T => assumption); (case hi => assumption); (case hn => assumption); (case hp => exact Fr.lst (by k_asm) (by assumption)); (case hd => exact Nat.le_of_ble_eq_true rfl); (case hu => exact Nat.le_of_ble_eq_true rfl)); intro tr tH tTk tF tN tI; obtain ⟨ty, tu, te, tc⟩ := tI; subst te; (try k_fold)))
section
variable {prog : Program} {w : World} {p : Program} {loose : List Str} {mean : ExcName → Option Value} {mg mb : Str → Option Value}

theorem limbs_val {N k : Nat} (h : (limbsOf N).length ≤ k) : N < 10000 ^ k := by
  induction k generalizing N with
  | zero =>
    have : limbsOf N = [] := List.eq_nil_of_length_eq_zero (by omega)
    rw [limbsOf_nil.mp this]; decide
  | succ k ih =>
    by_cases e : N = 0
    · subst e; exact Nat.pow_pos (by decide)
    · rw [limbsOf_pos (by omega), List.length_cons] at h
      have := ih (N := N / 10000) (by omega)
      rw [Nat.pow_succ]
      have h2 : N < 10000 * (N / 10000 + 1) := by omega
      have h3 : 10000 * (N / 10000 + 1) ≤ 10000 * 10000 ^ k := Nat.mul_le_mul_left _ (by omega)
      rw [Nat.mul_comm (10000 ^ k)]
      omega
theorem dec_len32 {N : Nat} (h : (limbsOf N).length ≤ 32) : (dec N).length ≤ 128 := by
  have h1 := limbs_val h
  have e : (10000 : Nat) ^ 32 = 10 ^ (127 + 1) := by rw [show (10000 : Nat) = 10 ^ 4 from by decide, ← Nat.pow_mul]
  rw [e] at h1
  exact dec_length h1
theorem std_size {y : PySem.Str} {N : Nat} (h : cl y = dec N) (hn : (limbsOf N).length ≤ 32) : (PySem.Str.ofString "-").length + y.length ≤ sizeLine := by
  have h1 := dec_len32 hn
  rw [← h, cl_len] at h1
  have e : (PySem.Str.ofString "-").length = 1 := by decide +kernel
  rw [e, sizeLine_eq]
  omega

set_option maxHeartbeats 2000000 in
theorem con_std {a l : Addr} {its : List Value} {N : Nat} {sg : Int} {t : Tok} (hi : IntsAre its (limbsOf N)) (hn : (limbsOf N).length ≤ 32) :
    Con prog w (Mine.hd.heap_39 w.params) p loose mean mg mb 90 49 [.ref a] (fun h => IsTup h a #[.int sg t, .ref l] ∧ h.IsList l its.toArray)
      (fun _ r _ => ∃ y u, r = .str y u ∧ cl y = if sg < 0 then 45 :: dec N else dec N) False := by
  intro cn cs a ccd outer A₀ base h₀ L m s Q E B F X T hk hpre hret hexc
  obtain ⟨hT, hL⟩ := hpre
  walk_at "mine enter"
  clear B F X T
  have kI0 : IntsAre [] [] := IntsAre.nil
  try k_fold
  k_with_none
  w_top off
  (k_with "call ref" => walk_at "mine c28")
  (k_with "binaryOp Add str str" => ((refine add_str (hsz := std_size (by assumption) hn) ?_); intro _ _))
  walk_at "mine steps"
  · rw [if_pos (by assumption)] at hret
    exact hret _ _ _ (Fr.keep (by assumption)) ⟨_, _, rfl, by rw [cl_app]; exact congrArg (List.cons 45) (by assumption)⟩
  · rw [if_neg (by assumption)] at hret
    exact hret _ _ _ (Fr.keep (by assumption)) ⟨_, _, rfl, by assumption⟩
end
end Mine

/-! part C9 -/
open PySem PySem.W PySem.Calls PyProof.Rows PySem.Spec PySem.NumText
set_option Elab.async false
set_option maxRecDepth 100000
namespace Mine
local macro_rules | `(tactic| walk_at "mine enter") => `(tactic| (refine wpAny_call ?_; k_dflt (refine' enterM ?k1 ?k2 ?k3 ?k5 ?kK ?k6 ?k7 ?k8 ?k9 ?kB ?_ ?c2 ?c3 ?c4 ?c5; (case k1 => assumption); (case k2 => assumption); (case k3 => assumption); (case k5 => assumption); (case kK => assumption); (case k6 => k_is); (case k7 => k_is); (case k8 => decide); (case k9 => exact BindsTo.of_eq rfl); (case c5 => decide); (case kB => exact locs rfl); (case c2 => exact rfl); (case c3 => exact rfl); (case c4 => exact rfl)); k_whole; intro L' h' F' N' B' X' T'; (try dsimp only)))
local macro_rules | `(tactic| walk_at "mine steps") => `(tactic| ((repeat' (first | (k_unfold; (try dsimp only)) | walk1 | (dsimp only; first | (k_unfold; (try dsimp only)) | walk1) | fail "no step")); (all_goals (repeat ((try dsimp only); k_unfold; (try dsimp only))))))
local macro_rules | `(tactic| walk_at "mine c35") => `(tactic| ((with_reducible show wpAny _ _ (PySem.call (Value.ref 35) [Value.str _ _]) _ _ _); k_dflt (refine' use_listX (con_from ?hx) ?B ?F ?N ?X ?T ?hk ?hp ?hA ?hh ?hd ?hu ?r1 ?r2; (case hA => exact rfl); (case hk => exact rfl); (case hh => exact rfl); (case F => k_asm); (case N => k_asm); (case B => assumption); (case X => assumption); (case T => assumption); (case hp => exact True.intro); (case hx => assumption); (case hd => exact Nat.le_of_ble_eq_true rfl); (case hu => exact Nat.le_of_ble_eq_true rfl)); (all_goals first | (intro tG tb tus tc tH tTk tF tN tI tNe) | (intro tX te tH tTk tR tU)); (all_goals (try k_fold))))
section
variable {prog : Program} {w : World} {p : Program} {loose : List Str} {mean : ExcName → Option Value} {mg mb : Str → Option Value}

/-- the sign and the digits that a text shows -/
def negOf (x : PySem.Str) : Bool := (cl x).take 1 == [45]
def digs (x : PySem.Str) : List Nat := if negOf x then (cl x).drop 1 else cl x
def GoodL (l : List Nat) : Prop := l ≠ [] ∧ AllDigits l

theorem neg_test (x : PySem.Str) : (Txt.slice x none (some 1) == PySem.Str.ofString "-") = negOf x := by
  unfold negOf
  rw [Bool.eq_iff_iff, beq_iff_eq, beq_iff_eq]
  have h : cl (Txt.slice x none (some 1)) = (cl x).take 1 := slice_to (x := x) (j := 1) (by decide)
  rw [← h]
  constructor
  · intro e; rw [e]; decide +kernel
  · intro e; exact cl_inj (e.trans (by decide +kernel))
theorem cl_rest (x : PySem.Str) : cl (Txt.slice x (some 1) none) = (cl x).drop 1 := slice_from (x := x) (i := 1) (by decide)

theorem limbs_len {x : PySem.Str} (hx : x.length ≤ 64) (hd : Good x) : (limbsOf (digitsVal (cl x))).length ≤ 64 :=
  limbsOf_length (Nat.lt_of_lt_of_le (val_lt hd.2) (Nat.le_trans (Nat.pow_le_pow_right (by decide) (by rw [cl_len]; exact hx)) (Nat.pow_le_pow_left (by decide) 64)))
theorem sg_with {neg : Bool} {N : Nat} : (if limbsOf N = [] then 0 else if neg then -1 else 1) = sgnOf neg N := by
  unfold sgnOf
  by_cases h : N = 0
  · rw [if_pos (limbsOf_nil.mpr h), if_pos h]
  · rw [if_neg (fun e => h (limbsOf_nil.mp e)), if_neg h]
theorem sfd_neg {x : PySem.Str} (h : (Txt.slice x none (some 1) == PySem.Str.ofString "-") = true) : negOf x = true ∧ digs x = cl (Txt.slice x (some 1) none) := by
  rw [neg_test] at h
  exact ⟨h, by unfold digs; rw [if_pos h, cl_rest]⟩
theorem sfd_pos {x : PySem.Str} (h : (Txt.slice x none (some 1) == PySem.Str.ofString "-") = false) : negOf x = false ∧ digs x = cl x := by
  rw [neg_test] at h
  exact ⟨h, by unfold digs; rw [if_neg (by rw [h]; decide)]⟩

local macro_rules | `(tactic| walk_at "mine c42") => `(tactic| ((with_reducible show wpAny _ _ (PySem.call (Value.ref 42) [Value.int _ _, Value.ref _]) _ _ _); k_dflt (refine' use_pair (con_with_sign ?hi ?hn) ?B ?F ?N ?X ?T ?hk ?hp ?hA ?hh ?hd ?hu ?_; (case hA => exact rfl); (case hk => exact rfl); (case hh => exact rfl); (case F => k_asm); (case N => k_asm); (case B => assumption); (case X => assumption); (case T => assumption); (case hp => exact News.isList (by k_asm) (List.Mem.head _)); (case hi => assumption); (case hn => exact limbs_len (by assumption) (by assumption)); (case hd => exact Nat.le_of_ble_eq_true rfl); (case hu => exact Nat.le_of_ble_eq_true rfl)); intro pb pc pus pn pk pt pH pTk pF pN pI pNe; (try k_fold)))

set_option maxHeartbeats 2000000 in
theorem con_sfd {x : PySem.Str} {t : Tok} (hx : x.length ≤ 64) :
    Con prog w (Mine.hd.heap_39 w.params) p loose mean mg mb 80 56 [.str x t] (fun _ => True)
      (fun h r h' => GoodL (digs x) ∧ RetPair (sgnOf (negOf x) (digitsVal (digs x))) (limbsOf (digitsVal (digs x))) h r h') (¬ GoodL (digs x)) := by
  intro cn cs a ccd outer A₀ base h₀ L m s Q E B F X T hk hpre hret hexc
  walk_at "mine enter"
  clear B F X T
  have kD : KtsDicts [] s.heap := ktsDicts_nil
  have kI0 : IntsAre [] [] := IntsAre.nil
  have hx1 := Nat.le_trans (Txt.slice_le x (some 1) none) hx
  try k_fold
  k_with_none
  w_top off
  (k_with "call ref" => first | walk_at "mine c35" | walk_at "mine c42")
  walk_at "mine steps"
  · obtain ⟨e1, e2⟩ := sfd_neg (by assumption)
    rw [e1, e2, ← sg_with (neg := true), if_pos rfl] at hret
    exact hret _ _ _ (Fr.keep (by assumption)) ⟨by assumption, _, _, _, _, _, _, rfl, News.fresh (by assumption) (List.Mem.head _), News.fresh (by assumption) (List.Mem.tail _ (List.Mem.head _)), News.get (by assumption) (List.Mem.head _), News.get (by assumption) (List.Mem.tail _ (List.Mem.head _)), by assumption⟩
  · obtain ⟨e1, e2⟩ := sfd_neg (by assumption)
    rw [e2] at hexc
    exact hexc _ _ _ (by assumption) (by assumption) (by assumption)
  · obtain ⟨e1, e2⟩ := sfd_pos (by assumption)
    rw [e1, e2, ← sg_with (neg := false), if_neg (by decide : ¬ false = true)] at hret
    exact hret _ _ _ (Fr.keep (by assumption)) ⟨by assumption, _, _, _, _, _, _, rfl, News.fresh (by assumption) (List.Mem.head _), News.fresh (by assumption) (List.Mem.tail _ (List.Mem.head _)), News.get (by assumption) (List.Mem.head _), News.get (by assumption) (List.Mem.tail _ (List.Mem.head _)), by assumption⟩
  · obtain ⟨e1, e2⟩ := sfd_pos (by assumption)
    rw [e2] at hexc
    exact hexc _ _ _ (by assumption) (by assumption) (by assumption)
end
end Mine

/-! part C10 -/
open PySem PySem.W PySem.Calls PyProof.Rows PySem.Spec PySem.NumText
set_option Elab.async false
set_option maxRecDepth 100000
namespace Mine
local macro_rules | `(tactic| walk_at "mine enter") => `(tactic| (refine wpAny_call ?_; k_dflt (refine' enterM ?k1 ?k2 ?k3 ?k5 ?kK ?k6 ?k7 ?k8 ?k9 ?kB ?_ ?c2 ?c3 ?c4 ?c5; (case k1 => assumption); (case k2 => assumption); (case k3 => assumption); (case k5 => assumption); (case kK => assumption); (case k6 => k_is); (case k7 => k_is); (case k8 => decide); (case k9 => exact BindsTo.of_eq rfl); (case c5 => decide); (case kB => exact locs rfl); (case c2 => exact rfl); (case c3 => exact rfl); (case c4 => exact rfl)); k_whole; intro L' h' F' N' B' X' T'; (try dsimp only)))
local macro_rules | `(tactic| walk_at "mine steps") => `(tactic| ((repeat' (first | (k_unfold; (try dsimp only)) | walk1 | (dsimp only; first | (k_unfold; (try dsimp only)) | walk1) | fail "no step")); (all_goals (repeat ((try dsimp only); k_unfold; (try dsimp only))))))
section
variable {prog : Program} {w : World} {p : Program} {loose : List Str} {mean : ExcName → Option Value} {mg mb : Str → Option Value}

theorem group_lo (n : Int) : 0 ≤ 10000 + (n.fmod 120000).fdiv 12 ∧ 10000 + (n.fmod 120000).fdiv 12 < 20000 := by
  rw [Int.fdiv_eq_ediv_of_nonneg _ (by decide), Int.fmod_eq_emod_of_nonneg _ (by decide)]
  omega
theorem group_len (n : Int) : (PySem.Str.ofString (toString (10000 + (n.fmod 120000).fdiv 12))).length ≤ 5 := by
  have h := group_lo n
  generalize 10000 + (n.fmod 120000).fdiv 12 = v at h ⊢
  obtain ⟨m, rfl⟩ := Int.eq_ofNat_of_zero_le h.1
  rw [← cl_len, cl_num]
  exact dec_length (k := 4) (by omega)
theorem group_tab {k : Nat} (h : k < 1 + 1 + 1 + 1 + 1 + 1 + 1 + 1) : ([PySem.Str.ofString "0000", PySem.Str.ofString "0042", PySem.Str.ofString "9999", PySem.Str.ofString "5000", PySem.Str.ofString "0000", PySem.Str.ofString "0001", PySem.Str.ofString "1000", PySem.Str.ofString "0900"].getD k PySem.Str.empty).length ≤ 4 := by
  have : ∀ j, j < 8 → ([PySem.Str.ofString "0000", PySem.Str.ofString "0042", PySem.Str.ofString "9999", PySem.Str.ofString "5000", PySem.Str.ofString "0000", PySem.Str.ofString "0001", PySem.Str.ofString "1000", PySem.Str.ofString "0900"].getD j PySem.Str.empty).length ≤ 4 := by decide +kernel
  exact this k h

theorem group_cut {x : PySem.Str} (h : x.length ≤ 5) : (Txt.slice x (some 1) none).length ≤ 4 := by
  have e : cl (Txt.slice x (some 1) none) = (cl x).drop 1 := slice_from (x := x) (i := 1) (by decide)
  rw [← cl_len, e, List.length_drop, cl_len]
  omega

set_option maxHeartbeats 2000000 in
theorem con_group {n : Int} {t : Tok} :
    Con prog w (Mine.hd.heap_39 w.params) p loose mean mg mb 100 73 [.int n t] (fun _ => True)
      (fun _ r _ => ∃ y u, r = .str y u ∧ y.length ≤ 4) False := by
  intro cn cs a ccd outer A₀ base h₀ L m s Q E B F X T hk hpre hret hexc
  walk_at "mine enter"
  clear B F X T
  have kI0 : IntsAre [] [] := IntsAre.nil
  have gs := group_len n
  try k_fold
  k_with_none
  w_top off
  k_with "table" => skip
  (k_with "subscriptTail Name Slice str ref" => ((rename Fr _ _ _ _ => gF); (rename News _ _ _ _ => gN); (refine slice_strN_sn (hsz := Nat.le_trans gs (by rw [sizeLine_eq]; decide)) (s := ⟨_, _, _, _, _⟩) gF gN ?_); intro _ _ _ _ _))
  walk_at "mine steps"
  · exact hret _ _ _ (Fr.keep (by assumption)) ⟨_, _, rfl, group_tab (by assumption)⟩
  · exact hret _ _ _ (Fr.keep (by assumption)) ⟨_, _, rfl, group_cut gs⟩

set_option maxHeartbeats 2000000 in
theorem con_cell {l : Addr} {its : List Value} {ns : List Int} {i : Int} {t : Tok} (hi : IntsAre its ns) (hn : ns.length ≤ 63) (h0 : 0 ≤ i) :
    Con prog w (Mine.hd.heap_39 w.params) p loose mean mg mb 100 66 [.ref l, .int i t] (fun h => h.IsList l its.toArray)
      (fun _ r _ => ∃ v u, r = .int v u) False := by
  intro cn cs a ccd outer A₀ base h₀ L m s Q E B F X T hk hpre hret hexc
  walk_at "mine enter"
  clear B F X T
  try k_fold
  k_with_none
  w_top off
  walk_at "mine steps"
  all_goals exact hret _ _ _ (Fr.keep (by assumption)) ⟨_, _, rfl⟩
end
end Mine

/-! part C11 -/
open PySem PySem.W PySem.Calls PyProof.Rows PySem.Spec PySem.NumText
set_option Elab.async false
set_option maxRecDepth 100000
namespace Mine
local macro_rules | `(tactic| walk_at "mine enter") => `(tactic| (refine wpAny_call ?_; k_dflt (refine' enterM ?k1 ?k2 ?k3 ?k5 ?kK ?k6 ?k7 ?k8 ?k9 ?kB ?_ ?c2 ?c3 ?c4 ?c5; (case k1 => assumption); (case k2 => assumption); (case k3 => assumption); (case k5 => assumption); (case kK => assumption); (case k6 => k_is); (case k7 => k_is); (case k8 => decide); (case k9 => exact BindsTo.of_eq rfl); (case c5 => decide); (case kB => exact locs rfl); (case c2 => exact rfl); (case c3 => exact rfl); (case c4 => exact rfl)); k_whole; intro L' h' F' N' B' X' T'; (try dsimp only)))
local macro_rules | `(tactic| walk_at "mine steps") => `(tactic| ((repeat' (first | (k_unfold; (try dsimp only)) | walk1 | (dsimp only; first | (k_unfold; (try dsimp only)) | walk1) | fail "no step")); (all_goals (repeat ((try dsimp only); k_unfold; (try dsimp only))))))
local macro_rules | `(tactic| walk_at "mine c73") => `(tactic| ((with_reducible show wpAny _ _ (PySem.call (Value.ref 73) [Value.int _ _]) _ _ _); k_dflt (refine' use_val con_group ?B ?F ?N ?X ?T ?hk ?hp ?hA ?hh ?hd ?hu ?_; (case hA => exact rfl); (case hk => exact rfl); (case hh => exact rfl); (case F => k_asm); (case N => k_asm); (case B => assumption); (case X => assumption); (case T => assumption); (case hp => exact True.intro); (case hd => exact Nat.le_of_ble_eq_true rfl); (case hu => exact Nat.le_of_ble_eq_true rfl)); intro tr tH tTk tF tN tI; obtain ⟨ty, tu, te, tc⟩ := tI; subst te; (try k_fold)))
local macro_rules | `(tactic| walk_at "mine c66") => `(tactic| ((with_reducible show wpAny _ _ (PySem.call (Value.ref 66) [Value.ref _, Value.int _ _]) _ _ _); k_dflt (refine' use_val (con_cell ?hi ?hn ?h0) ?B ?F ?N ?X ?T ?hk ?hp ?hA ?hh ?hd ?hu ?_; (case hA => exact rfl); (case hk => exact rfl); (case hh => exact rfl); (case F => k_asm); (case N => k_asm); (case B => assumption); (case X => assumption); (case T => assumption); (case hp => exact Fr.lst (by k_asm) (by assumption)); (case hi => assumption); (case hn => assumption); (case h0 => omega); (case hd => exact Nat.le_of_ble_eq_true rfl); (case hu => exact Nat.le_of_ble_eq_true rfl)); intro tr tH tTk tF tN tI; obtain ⟨ty, tu, te⟩ := tI; subst te; (try k_fold)))
section
variable {prog : Program} {w : World} {p : Program} {loose : List Str} {mean : ExcName → Option Value} {mg mb : Str → Option Value}

theorem add_some {A : Around} {E : Value → Shared → Prop} {s : Shared} {x y : PySem.Str} {t u : Tok} {Q : Value → Shared → Prop} (N : Nat) (h : x.length + y.length ≤ N) (hN : N ≤ 1000) (k : ∀ (z : PySem.Str) t' tk, z.length ≤ N → Q (.str z t') { s with toks := tk }) :
    wpAny (model prog w) A (binaryOp .Add (.str x t) (.str y u)) Q E s :=
  add_str (fun t' tk => k _ t' tk (by rw [PySem.Str.length_append]; exact h)) (by rw [sizeLine_eq]; omega)
theorem heads_tab {k : Nat} (h : k < 1 + 1 + 1 + 1 + 1 + 1 + 1) : ([PySem.Str.ofString "", PySem.Str.ofString "-", PySem.Str.ofString "0", PySem.Str.ofString "-0", PySem.Str.ofString "-000", PySem.Str.ofString "--", PySem.Str.ofString "+"].getD k PySem.Str.empty).length ≤ 4 := by
  have : ∀ j, j < 7 → ([PySem.Str.ofString "", PySem.Str.ofString "-", PySem.Str.ofString "0", PySem.Str.ofString "-0", PySem.Str.ofString "-000", PySem.Str.ofString "--", PySem.Str.ofString "+"].getD j PySem.Str.empty).length ≤ 4 := by decide +kernel
  exact this k h
theorem bad_tab {k : Nat} (h : k < 1 + 1 + 1 + 1 + 1 + 1 + 1 + 1 + 1 + 1) : ([PySem.Str.ofString " ", PySem.Str.ofString "_", PySem.Str.ofString "+", PySem.Str.ofString "a", PySem.Str.ofString ".", PySem.Str.ofString "-", PySem.Str.ofString "٣", PySem.Str.ofString "²", PySem.Str.ofString "/", PySem.Str.ofString ":"].getD k PySem.Str.empty).length ≤ 1 := by
  have : ∀ j, j < 10 → ([PySem.Str.ofString " ", PySem.Str.ofString "_", PySem.Str.ofString "+", PySem.Str.ofString "a", PySem.Str.ofString ".", PySem.Str.ofString "-", PySem.Str.ofString "٣", PySem.Str.ofString "²", PySem.Str.ofString "/", PySem.Str.ofString ":"].getD j PySem.Str.empty).length ≤ 1 := by decide +kernel
  exact this k h
theorem text_b {b c : PySem.Str} {v : Int} (hc : c.length ≤ b.length) (h : b.length ≤ 4 * (rangeKs 0 (v.fmod 7 - 0).toNat).length) : c.length ≤ 24 := by
  rw [rangeKs_length, Int.fmod_eq_emod_of_nonneg _ (by decide)] at h
  omega
theorem text_add1 {b c d : PySem.Str} {v : Int} (hd : d.length ≤ 4) (hc : c.length ≤ b.length) (h : b.length ≤ 4 * (rangeKs 0 (v.fmod 7 - 0).toNat).length) : d.length + c.length ≤ 28 := by
  have := text_b hc h
  omega

theorem text_end {z b : PySem.Str} {i j : Option Int} {i' j' : Option Int} (hz : z.length ≤ 28) (hb : b.length ≤ 1) : (Txt.slice z i j ++ b ++ Txt.slice z i' j').length ≤ 60 := by
  have h1 := Txt.slice_le z i j
  have h2 := Txt.slice_le z i' j'
  rw [PySem.Str.length_append, PySem.Str.length_append]
  omega

set_option maxHeartbeats 2000000 in
theorem con_text {l : Addr} {its : List Value} {ns : List Int} {st : Int} {t : Tok} (hi : IntsAre its ns) (hn : ns.length ≤ 63) (h0 : 0 ≤ st) (h1 : st ≤ 12) :
    Con prog w (Mine.hd.heap_39 w.params) p loose mean mg mb 80 80 [.ref l, .int st t] (fun h => h.IsList l its.toArray)
      (fun _ r _ => ∃ y u, r = .str y u ∧ y.length ≤ 60) False := by
  intro cn cs a ccd outer A₀ base h₀ L m s Q E B F X T hk hpre hret hexc
  walk_at "mine enter"
  clear B F X T
  try k_fold
  k_with_none
  w_top off
  k_with "table" => skip
  (k_with "call ref" => first | walk_at "mine c66" | walk_at "mine c73")
  (k_with "pyIter ref" => k_state (fun pre body => body.length ≤ 4 * pre.length) "body")
  (k_with "binaryOp Add str str" => first
    | ((refine add_some 28 (text_add1 (heads_tab (by assumption)) (by assumption) (by assumption)) (by decide) ?_); intro _ _ _ _)
    | ((refine add_some 29 (Nat.add_le_add (Nat.le_trans (Txt.slice_le _ _ _) (by assumption : _ ≤ 28)) (bad_tab (by assumption))) (by decide) ?_); intro _ _ _ _)
    | ((refine add_some 57 (Nat.add_le_add (by assumption : _ ≤ 29) (Nat.le_trans (Txt.slice_le _ _ _) (by assumption : _ ≤ 28))) (by decide) ?_); intro _ _ _ _))
  walk_at "mine steps"
  · exact hret _ _ _ (Fr.keep (by assumption)) ⟨_, _, rfl, text_end (by assumption) (bad_tab (by assumption))⟩
  · exact hret _ _ _ (Fr.keep (by assumption)) ⟨_, _, rfl, Nat.le_trans (by assumption : _ ≤ 28) (by decide)⟩
end
end Mine

/-! part C12a -/
open PySem PySem.W PySem.Calls PyProof.Rows PySem.Spec PySem.NumText
set_option Elab.async false
set_option maxRecDepth 100000
namespace Mine
local macro_rules | `(tactic| walk_at "mine enter") => `(tactic| (refine wpAny_call ?_; k_dflt (refine' enterM ?k1 ?k2 ?k3 ?k5 ?kK ?k6 ?k7 ?k8 ?k9 ?kB ?_ ?c2 ?c3 ?c4 ?c5; (case k1 => assumption); (case k2 => assumption); (case k3 => assumption); (case k5 => assumption); (case kK => assumption); (case k6 => k_is); (case k7 => k_is); (case k8 => decide); (case k9 => exact BindsTo.of_eq rfl); (case c5 => decide); (case kB => exact locs rfl); (case c2 => exact rfl); (case c3 => exact rfl); (case c4 => exact rfl)); k_whole; intro L' h' F' N' B' X' T'; (try dsimp only)))
local macro_rules | `(tactic| walk_at "mine steps") => `(tactic| ((repeat' (first | (k_unfold; (try dsimp only)) | walk1 | (dsimp only; first | (k_unfold; (try dsimp only)) | walk1) | fail "no step")); (all_goals (repeat ((try dsimp only); k_unfold; (try dsimp only))))))
section
variable {prog : Program} {w : World} {p : Program} {loose : List Str} {mean : ExcName → Option Value} {mg mb : Str → Option Value}

theorem pair_b {x : PySem.Str} {t : Tok} {b neg : Bool} (hx : x.length ≤ 64) (hg : Good x) (hb : b = neg) :
    Con prog w (Mine.hd.heap_39 w.params) p loose mean mg mb 100 94 [.bool b, .str x t] (fun _ => True) (RetPair (sgnOf neg (digitsVal (cl x))) (limbsOf (digitsVal (cl x)))) False := hb ▸ con_pair hx hg.2
theorem canon_b {x : PySem.Str} {t : Tok} {b neg : Bool} (hx : x.length ≤ 64) (hg : Good x) (hb : b = neg) :
    Con prog w (Mine.hd.heap_39 w.params) p loose mean mg mb 100 101 [.bool b, .str x t] (fun _ => True) (fun _ r _ => ∃ y u, r = .str y u ∧ cl y = canonOf neg (digitsVal (cl x))) False := hb ▸ con_canon hx hg.2
theorem sfd_n {x : PySem.Str} {t : Tok} (hx : x.length ≤ 64) (hb : (Txt.slice x none (some 1) == PySem.Str.ofString "-") = true) :
    Con prog w (Mine.hd.heap_39 w.params) p loose mean mg mb 80 56 [.str x t] (fun _ => True)
      (fun h r h' => Good (Txt.slice x (some 1) none) ∧ RetPair (sgnOf true (digitsVal (cl (Txt.slice x (some 1) none)))) (limbsOf (digitsVal (cl (Txt.slice x (some 1) none)))) h r h') (¬ Good (Txt.slice x (some 1) none)) := by
  have C := con_sfd (prog := prog) (w := w) (p := p) (loose := loose) (mean := mean) (mg := mg) (mb := mb) (t := t) hx
  obtain ⟨e1, e2⟩ := sfd_neg hb
  rw [e1, e2] at C
  exact C
theorem sfd_p {x : PySem.Str} {t : Tok} (hx : x.length ≤ 64) (hb : (Txt.slice x none (some 1) == PySem.Str.ofString "-") = false) :
    Con prog w (Mine.hd.heap_39 w.params) p loose mean mg mb 80 56 [.str x t] (fun _ => True)
      (fun h r h' => Good x ∧ RetPair (sgnOf false (digitsVal (cl x))) (limbsOf (digitsVal (cl x))) h r h') (¬ Good x) := by
  have C := con_sfd (prog := prog) (w := w) (p := p) (loose := loose) (mean := mean) (mg := mg) (mb := mb) (t := t) hx
  obtain ⟨e1, e2⟩ := sfd_pos hb
  rw [e1, e2] at C
  exact C
theorem canon_facts {y : PySem.Str} {neg : Bool} {N : Nat} (h : cl y = canonOf neg N) : GoodL (digs y) ∧ digitsVal (digs y) = N ∧ sgnOf (negOf y) N = sgnOf neg N := by
  have hdn : ∀ n, negOf y = false → cl y = dec n → GoodL (digs y) ∧ digitsVal (digs y) = n := fun n hn hc => by
    have e : digs y = dec n := by unfold digs; rw [if_neg (by rw [hn]; decide), hc]
    rw [e]
    exact ⟨⟨dec_ne n, dec_all n⟩, dec_val n⟩
  have hnd : ∀ n, cl y = dec n → negOf y = false := fun n hc => by
    unfold negOf
    rw [hc]
    cases hd : dec n with
    | nil => exact absurd hd (dec_ne n)
    | cons c r =>
      have := dec_all n c (by rw [hd]; exact List.Mem.head _)
      simp only [List.take_succ_cons, List.take_zero]
      rw [beq_eq_false_iff_ne]
      intro e
      have := List.head_eq_of_cons_eq e
      omega
  unfold canonOf at h
  by_cases h0 : N = 0
  · rw [if_pos h0] at h
    have hc : cl y = dec 0 := h.trans (by rw [dec_small (by decide)])
    obtain ⟨a, b⟩ := hdn 0 (hnd 0 hc) hc
    refine ⟨a, by rw [b, h0], ?_⟩
    unfold sgnOf
    rw [if_pos h0, if_pos h0]
  · rw [if_neg h0] at h
    cases neg with
    | true =>
      rw [if_pos rfl] at h
      have hn : negOf y = true := by unfold negOf; rw [h]; rfl
      have e : digs y = dec N := by unfold digs; rw [if_pos hn, h]; rfl
      rw [e, hn]
      exact ⟨⟨dec_ne N, dec_all N⟩, dec_val N, rfl⟩
    | false =>
      rw [if_neg (by decide)] at h
      have hn := hnd N h
      obtain ⟨a, b⟩ := hdn N hn h
      exact ⟨a, b, by rw [hn]⟩
theorem sfd_c {y : PySem.Str} {t : Tok} {neg : Bool} {N : Nat} (hx : y.length ≤ 64) (h : cl y = canonOf neg N) :
    Con prog w (Mine.hd.heap_39 w.params) p loose mean mg mb 80 56 [.str y t] (fun _ => True) (RetPair (sgnOf neg N) (limbsOf N)) False := by
  have C := con_sfd (prog := prog) (w := w) (p := p) (loose := loose) (mean := mean) (mg := mg) (mb := mb) (t := t) hx
  obtain ⟨e1, e2, e3⟩ := canon_facts h
  rw [e2, e3] at C
  intro cn cs a ccd outer A₀ base h₀ L m s Q E B F X T hk hpre hret hexc
  exact C cn cs a ccd outer A₀ base h₀ L m s Q E B F X T hk hpre (fun r h' tk' k q => hret r h' tk' k q.2) fun e h' tk' q => absurd e1 q
theorem canon_len {y z : PySem.Str} {neg : Bool} (h : cl y = canonOf neg (digitsVal (cl z))) (hz : Good z) (hl : z.length ≤ 60) : y.length ≤ 64 := by
  have h1 := val_lt hz.2
  have h2 : (dec (digitsVal (cl z))).length ≤ 60 := dec_length (k := 59) (Nat.lt_of_lt_of_le h1 (Nat.pow_le_pow_right (by decide) (by rw [cl_len]; exact hl)))
  have e := congrArg List.length h
  rw [cl_len] at e
  unfold canonOf at e
  split at e
  · simp only [List.length_cons, List.length_nil] at e; omega
  · split at e
    · rw [List.length_cons] at e; omega
    · omega
theorem limbs32 {x : PySem.Str} (hx : x.length ≤ 64) (hd : Good x) : (limbsOf (digitsVal (cl x))).length ≤ 32 := by
  refine Nat.le_trans (limbsOf_length (k := 16) (Nat.lt_of_lt_of_le (val_lt hd.2) ?_)) (by decide)
  rw [show (10000 : Nat) = 10 ^ 4 from by decide, ← Nat.pow_mul]
  exact Nat.pow_le_pow_right (by decide) (by rw [cl_len]; exact hx)
theorem std_canon {y y' : PySem.Str} {neg : Bool} {N : Nat} (h : cl y = canonOf neg N) (h' : cl y' = if sgnOf neg N < 0 then 45 :: dec N else dec N) : y' = y := by
  refine cl_inj (h'.trans (Eq.trans ?_ h.symm))
  unfold sgnOf canonOf
  by_cases h0 : N = 0
  · subst h0
    simp only [if_true]
    rw [if_neg (by decide), dec_small (by decide)]
  · simp only [if_neg h0]
    cases neg with
    | true => simp
    | false => simp



theorem pair_reads {h : Heap} {b c : Addr} {us : List Value} {n k : Nat} {t : Tok} {sg : Int} {ns : List Int} (hb : h.get? b = some { cls := .type "tuple", data := .seq #[.int sg t, .ref c] k }) (hc : h.get? c = some (listOf us.toArray n)) (hi : IntsAre us ns) :
    ∃ as, Reads h (.ref b) (.tuple [.int sg, .list (ns.map PyData.int)]) as :=
  ⟨_, reads_tuple_at hb rfl rfl (ReadsAll.cons (Reads.int _ _) (ReadsAll.cons (reads_newData ⟨_, hc, rfl, n, rfl⟩ (ke_carried hi)) ReadsAll.nil))⟩
theorem pair_shaped (sg : Int) (ns : List Int) : SeqAt.shaped (.tuple [.int sg, .list (ns.map PyData.int)]) = true := by
  simp [SeqAt.shaped, PyData.canLay0, PyData.canLayAll0, PyData.depth, PyData.depthAll, ke_canLayAll0, ke_depthAll]
theorem pair_eqv (sg : Int) (ns : List Int) : PyData.eqv (.tuple [.int sg, .list (ns.map PyData.int)]) (.tuple [.int sg, .list (ns.map PyData.int)]) = true := by
  simp [PyData.eqv, PyData.eqvAll, ked_eqvAll]
theorem ne_pairs {A : Around} {E : Value → Shared → Prop} {s : Shared} {h₀ : Heap} {L : Addr} {news : List (Addr × Obj)} {Q : Value → Shared → Prop} {b c b' c' : Addr} {us us' : List Value} {n k n' k' : Nat} {t t' : Tok} {sg : Int} {ns : List Int} (N : News h₀ L s.heap news)
    (hb : (b, ({ cls := .type "tuple", data := .seq #[.int sg t, .ref c] k } : Obj)) ∈ news) (hc : (c, listOf us.toArray n) ∈ news) (hb' : (b', ({ cls := .type "tuple", data := .seq #[.int sg t', .ref c'] k' } : Obj)) ∈ news) (hc' : (c', listOf us'.toArray n') ∈ news)
    (hi : IntsAre us ns) (hi' : IntsAre us' ns) (hu : A.units + 64 < cLine) (h : Q (.bool false) s) : wpAny (model prog w) A (compareOp .NotEq (.ref b) (.ref b')) Q E s := by
  obtain ⟨as, r⟩ := pair_reads (N _ hb).1 (N _ hc).1 hi
  obtain ⟨as', r'⟩ := pair_reads (N _ hb').1 (N _ hc').1 hi'
  refine ne_dataH r r' (pair_shaped _ _) (pair_shaped _ _) hu ?_
  rw [pair_eqv]
  exact h
theorem pne {news : List (Addr × Obj)} {a c : Addr} {o : Obj} (h : ∀ q ∈ news, q.1 ≠ c) (hm : (a, o) ∈ news) (e : c = a) : False := h _ hm e.symm

theorem bne_absurd {y : PySem.Str} (h : (y != y) = true) : False := by simp at h
theorem raised_news {A₀ : Around} {base g G h : Heap} {outer : List Env} {L a e : Addr} {m : Str → Option Value} {name : Str} {scope : Scope} {cd cls : Value} {news : List (Addr × Obj)} (K : Below A₀ base outer g) (F : Fr g L G m) (N : News g L G news)
    (R : RaisedSN base G (envOf name scope L a cd :: outer) e cls [] h) (U : G.UpToSlots h) : ∃ G', Fr g L G' m ∧ RaisedSN base G' (envOf name scope L a cd :: outer) e cls news h ∧ G'.UpToSlots h := by
  have nm : ∀ b o, g.get? b = some o → b ∉ news.map (·.1) := fun b o e q => by
    obtain ⟨p, hp, rfl⟩ := List.mem_map.mp q
    rw [(N p hp).2.2] at e; cases e
  have nL : L ∉ news.map (·.1) := fun q => by
    obtain ⟨p, hp, e⟩ := List.mem_map.mp q
    exact (N p hp).2.1 e
  refine ⟨hideAll G (news.map (·.1)), ?_, ?_, fun b o q => U b o (of_hideAll _ q)⟩
  · obtain ⟨oL, es, ep, hL, hLd, hLk, hLf⟩ := F.ns
    exact ⟨⟨oL, es, ep, hideAll_get _ hL nL, hLd, hLk, hLf⟩, fun b o e => hideAll_get _ (F.keep b o e) (nm b o e), F.above⟩
  · obtain ⟨B, a0, hB, hBG, _, hfl⟩ := R
    refine ⟨B, a0, hB, fun b o q nf => hBG b o (of_hideAll _ q) nf, fun q hq => ⟨hBG _ _ (N q hq).1 (fun hm => ?_), hideAll_none _ (List.mem_map_of_mem hq), fresh_of_stays K.stays (N q hq).2.2⟩, hfl⟩
    rcases kts_mem hm with z | z
    · exact (N q hq).2.1 z
    · obtain ⟨_, o, ho, _⟩ := K.frames.mem z
      rw [(N q hq).2.2] at ho; cases ho
end
end Mine

/-! part C12 -/
open PySem PySem.W PySem.Calls PyProof.Rows PySem.Spec PySem.NumText
set_option Elab.async false
set_option maxRecDepth 100000
namespace Mine
local macro_rules | `(tactic| walk_at "mine enter") => `(tactic| (refine wpAny_call ?_; k_dflt (refine' enterM ?k1 ?k2 ?k3 ?k5 ?kK ?k6 ?k7 ?k8 ?k9 ?kB ?_ ?c2 ?c3 ?c4 ?c5; (case k1 => assumption); (case k2 => assumption); (case k3 => assumption); (case k5 => assumption); (case kK => assumption); (case k6 => k_is); (case k7 => k_is); (case k8 => decide); (case k9 => exact BindsTo.of_eq rfl); (case c5 => decide); (case kB => exact locs rfl); (case c2 => exact rfl); (case c3 => exact rfl); (case c4 => exact rfl)); k_whole; intro L' h' F' N' B' X' T'; (try dsimp only)))
local macro_rules | `(tactic| walk_at "mine steps") => `(tactic| ((repeat' (first | (k_unfold; (try dsimp only)) | walk1 | (dsimp only; first | (k_unfold; (try dsimp only)) | walk1) | fail "no step")); (all_goals (repeat ((try dsimp only); k_unfold; (try dsimp only))))))
section
variable {prog : Program} {w : World} {p : Program} {loose : List Str} {mean : ExcName → Option Value} {mg mb : Str → Option Value}
local macro_rules | `(tactic| walk_at "mine c87") => `(tactic| ((with_reducible show wpAny _ _ (PySem.call (Value.ref 87) [Value.str _ _]) _ _ _); k_dflt (refine' use_val (con_due ?hx) ?B ?F ?N ?X ?T ?hk ?hp ?hA ?hh ?hd ?hu ?_; (case hA => exact rfl); (case hk => exact rfl); (case hh => exact rfl); (case F => k_asm); (case N => k_asm); (case B => assumption); (case X => assumption); (case T => assumption); (case hp => exact True.intro); (case hx => first | assumption | exact Nat.le_trans (by assumption : _ ≤ 60) (by decide)); (case hd => exact Nat.le_of_ble_eq_true rfl); (case hu => exact Nat.le_of_ble_eq_true rfl)); intro tr tH tTk tF tN tI; rcases tI with ⟨te, tg⟩ | ⟨te, tg⟩ <;> subst te <;> (try k_fold)))
local macro_rules | `(tactic| walk_at "mine c94") => `(tactic| ((with_reducible show wpAny _ _ (PySem.call (Value.ref 94) [Value.bool _, Value.str _ _]) _ _ _); k_dflt (refine' use_pair (pair_b ?hx ?hg ?hb) ?B ?F ?N ?X ?T ?hk ?hp ?hA ?hh ?hd ?hu ?_; (case hA => exact rfl); (case hk => exact rfl); (case hh => exact rfl); (case F => k_asm); (case N => k_asm); (case B => assumption); (case X => assumption); (case T => assumption); (case hp => exact True.intro); (case hx => first | assumption | exact Nat.le_trans (by assumption : _ ≤ 60) (by decide)); (case hg => assumption); (case hb => assumption); (case hd => exact Nat.le_of_ble_eq_true rfl); (case hu => exact Nat.le_of_ble_eq_true rfl)); intro pb pc pus pn pk pt pH pTk pF pN pI pNe; (try k_fold)))
local macro_rules | `(tactic| walk_at "mine c101") => `(tactic| ((with_reducible show wpAny _ _ (PySem.call (Value.ref 101) [Value.bool _, Value.str _ _]) _ _ _); k_dflt (refine' use_val (canon_b ?hx ?hg ?hb) ?B ?F ?N ?X ?T ?hk ?hp ?hA ?hh ?hd ?hu ?_; (case hA => exact rfl); (case hk => exact rfl); (case hh => exact rfl); (case F => k_asm); (case N => k_asm); (case B => assumption); (case X => assumption); (case T => assumption); (case hp => exact True.intro); (case hx => first | assumption | exact Nat.le_trans (by assumption : _ ≤ 60) (by decide)); (case hg => assumption); (case hb => assumption); (case hd => exact Nat.le_of_ble_eq_true rfl); (case hu => exact Nat.le_of_ble_eq_true rfl)); intro tr tH tTk tF tN tI; obtain ⟨ty, tu, te, tc⟩ := tI; subst te; (have tl := canon_len tc (by assumption) (by assumption)); (try k_fold)))
local macro_rules | `(tactic| walk_at "mine c49") => `(tactic| ((with_reducible show wpAny _ _ (PySem.call (Value.ref 49) [Value.ref _]) _ _ _); k_dflt (refine' use_val (con_std ?hi ?hn) ?B ?F ?N ?X ?T ?hk ?hp ?hA ?hh ?hd ?hu ?_; (case hA => exact rfl); (case hk => exact rfl); (case hh => exact rfl); (case F => k_asm); (case N => k_asm); (case B => assumption); (case X => assumption); (case T => assumption); (case hp => exact ⟨News.isTup (by k_asm) (by k_mem), News.isList (by k_asm) (by k_mem)⟩); (case hi => assumption); (case hn => exact limbs32 (Nat.le_trans (by assumption : _ ≤ 60) (by decide)) (by assumption)); (case hd => exact Nat.le_of_ble_eq_true rfl); (case hu => exact Nat.le_of_ble_eq_true rfl)); intro tr tH tTk tF tN tI; obtain ⟨ty, tu, te, tc⟩ := tI; subst te; (have te2 := std_canon (by assumption) tc); subst te2; (try k_fold)))
local macro_rules | `(tactic| walk_at "mine c56") => `(tactic| ((with_reducible show wpAny _ _ (PySem.call (Value.ref 56) [Value.str _ _]) _ _ _); first
  | (k_dflt (refine' use_pair (sfd_c ?hx ?hc) ?B ?F ?N ?X ?T ?hk ?hp ?hA ?hh ?hd ?hu ?_; (case hA => exact rfl); (case hk => exact rfl); (case hh => exact rfl); (case F => k_asm); (case N => k_asm); (case B => assumption); (case X => assumption); (case T => assumption); (case hc => assumption); (case hp => exact True.intro); (case hx => first | assumption | exact Nat.le_trans (by assumption : _ ≤ 60) (by decide)); (case hd => exact Nat.le_of_ble_eq_true rfl); (case hu => exact Nat.le_of_ble_eq_true rfl)); intro pb pc pus pn pk pt pH pTk pF pN pI pNe; (try k_fold))
  | (k_dflt (refine' use_pairX (sfd_n ?hx ?hb) ?B ?F ?N ?X ?T ?hk ?hp ?hA ?hh ?hd ?hu ?r1 ?r2; (case hA => exact rfl); (case hk => exact rfl); (case hh => exact rfl); (case F => k_asm); (case N => k_asm); (case B => assumption); (case X => assumption); (case T => assumption); (case hb => assumption); (case hp => exact True.intro); (case hx => first | assumption | exact Nat.le_trans (by assumption : _ ≤ 60) (by decide)); (case hd => exact Nat.le_of_ble_eq_true rfl); (case hu => exact Nat.le_of_ble_eq_true rfl)); (all_goals first | (intro tG pb pc pus pn pk pt pH pTk pF pN pI pNe; first | exact absurd tG (by assumption) | skip) | (intro tX te tH tTk tR tU; first | exact absurd (by assumption) tX | (obtain ⟨tG9, tF9, tR9, tU9⟩ := raised_news (by assumption) (by k_asm) (by k_asm) tR tU; clear tR tU))); (all_goals (try k_fold)))
  | (k_dflt (refine' use_pairX (sfd_p ?hx ?hb) ?B ?F ?N ?X ?T ?hk ?hp ?hA ?hh ?hd ?hu ?r1 ?r2; (case hA => exact rfl); (case hk => exact rfl); (case hh => exact rfl); (case F => k_asm); (case N => k_asm); (case B => assumption); (case X => assumption); (case T => assumption); (case hb => assumption); (case hp => exact True.intro); (case hx => first | assumption | exact Nat.le_trans (by assumption : _ ≤ 60) (by decide)); (case hd => exact Nat.le_of_ble_eq_true rfl); (case hu => exact Nat.le_of_ble_eq_true rfl)); (all_goals first | (intro tG pb pc pus pn pk pt pH pTk pF pN pI pNe; first | exact absurd tG (by assumption) | skip) | (intro tX te tH tTk tR tU; first | exact absurd (by assumption) tX | (obtain ⟨tG9, tF9, tR9, tU9⟩ := raised_news (by assumption) (by k_asm) (by k_asm) tR tU; clear tR tU))); (all_goals (try k_fold)))))
local macro_rules | `(tactic| walk_at "mine enterS") => `(tactic| (refine wpAny_call ?_; k_dflt (refine' code_defS0 ?k1 ?k2 ?k3 ?k4 ?k5 ?kA ?k6 ?k7 ?k8 ?k9 ?kB ?_ ?cK ?c2 ?c3 ?c4 ?c5; (case kA => exact rfl); (case k2 => assumption); (case k1 => assumption); (case k3 => assumption); (case k4 => assumption); (case k5 => assumption); (case k6 => k_is); (case k7 => k_is); (case k8 => exact (by decide : (400 + 40 : Nat) < 1000)); (case k9 => exact BindsTo.of_eq rfl); (case kB => exact locs rfl); (case cK => assumption); (case c2 => exact rfl); (case c3 => exact rfl); (case c4 => exact rfl); (case c5 => decide)); k_whole; intro g' L' h' FG' F' N' B' X' T' D'; clear FG'; (try dsimp only)))
local macro_rules | `(tactic| walk_at "call ref") => `(tactic| first | walk_at "mine c87" | walk_at "mine c56" | walk_at "mine c94" | walk_at "mine c101" | walk_at "mine c49")
local macro_rules | `(tactic| walk_at "compareOp NotEq ref ref") => `(tactic| (k_dflt (refine ne_pairs (by k_asm) (by k_mem) (by k_mem) (by k_mem) (by k_mem) (by assumption) (by assumption) (Nat.le_of_ble_eq_true rfl) ?_)))
local macro_rules | `(tactic| walk_at "compareOp Is ref ref") => `(tactic| (k_dflt (refine kto_is (News.get (by k_asm) (by k_mem)) (News.get (by k_asm) (by k_mem)) (fun e => pne (by assumption) (by k_mem) e) (by kto_not) ?_)))
local macro_rules | `(tactic| walk_at "exec For Name Subscript cons nil") => `(tactic| (k_here; (rename Fr _ _ _ _ => lF'); (with_unfolding_all refine' For_invVF lF' ?k1 ?k2 ?_; (case k1 => exact rfl); (case k2 => exact rfl); k_whole)))
local macro_rules | `(tactic| walk_at "pyIter ref") => `(tactic| k_search (fun _ => True))

set_option maxHeartbeats 4000000 in
theorem holds_call {x : PySem.Str} {t : Tok} {cn : Str} {cs : Scope} {a : Addr} {ccd : Value} {A₀ : Around} {base h₀ : Heap} {L : Addr} {m : Str → Option Value} {s : Shared} {news : List (Addr × Obj)} {Q E : Value → Shared → Prop} (hx : x.length ≤ 60)
    (B : Below A₀ base [] h₀) (F : Fr h₀ L s.heap m) (X₀ : (Mine.hd.heap_39 w.params).In h₀) (N : News h₀ L s.heap news) (T : Top p loose mean mg mb h₀) (XB : (Mine.hd.heap_39 w.params).In base) (TB : Top p loose mean mg mb base) (hk : cs.kind = .function)
    (ret : ∀ h' tk', Fr h₀ L h' m → News h₀ L h' news → Q (.bool true) { s with heap := h', toks := tk' }) :
    wpAny (model prog w) (At 40 (envOf cn cs L a ccd) []) (call (.ref 108) [.str x t]) Q E s := by
  walk_at "mine enterS"
  clear B F X₀ N T
  have kI0 : IntsAre [] [] := IntsAre.nil
  have hx1 := Nat.le_trans (Txt.slice_le x (some 1) none) hx
  try k_fold
  k_with_none
  w_top off
  walk_at "mine steps"
  all_goals (try dsimp only)
  all_goals (first
    | exact (bne_absurd (by assumption)).elim
    | (refine leaveS0_ (by assumption) (by assumption) (by first | assumption | exact KtsTurn.refl) ?_; intro kF kN; exact ret _ _ kF (fun q hq => kN q (by repeat first | exact hq | apply List.Mem.tail))))
end
end Mine

/-! part M -/
open PySem PySem.W PySem.Calls PyProof.Rows PySem.Spec PySem.NumText
set_option Elab.async false
set_option maxRecDepth 100000
namespace Mine
theorem use_holds {prog : Program} {w : World} {p : Program} {loose : List Str} {mean : ExcName → Option Value} {mg mb : Str → Option Value} {x : PySem.Str} {t : Tok} {cn : Str} {cs : Scope} {a : Addr} {ccd : Value} {A₀ A : Around} {base h₀ : Heap} {L : Addr} {m : Str → Option Value} {s : Shared} {news : List (Addr × Obj)} {Q E : Value → Shared → Prop} (hx : x.length ≤ 60)
    (B : Below A₀ base [] h₀) (F : Fr h₀ L s.heap m) (X₀ : (Mine.hd.heap_39 w.params).In h₀) (N : News h₀ L s.heap news) (T : Top p loose mean mg mb h₀) (XB : (Mine.hd.heap_39 w.params).In base) (TB : Top p loose mean mg mb base) (hk : cs.kind = .function)
    (hA : A.frames = some [envOf cn cs L a ccd]) (hh : A.handled = none) (hd : A.depth ≤ 400 + 40) (hu : A.units ≤ 40)
    (ret : ∀ h' tk', Fr h₀ L h' m → News h₀ L h' news → Q (.bool true) { s with heap := h', toks := tk' }) :
    wpAny (model prog w) A (call (.ref 108) [.str x t]) Q E s := wp_less (holds_call hx B F X₀ N T XB TB hk ret) hh hd hA rfl hu
end Mine
local macro_rules | `(tactic| walk_at "mine c80") => `(tactic| ((with_reducible show wpAny _ _ (PySem.call (Value.ref 80) [Value.ref _, Value.int _ _]) _ _ _); k_dflt (refine' Mine.use_val (Mine.con_text ?hi ?hn ?h0 ?h1) ?B ?F ?N ?X ?T ?hk ?hp ?hA ?hh ?hd ?hu ?_; (case hA => exact rfl); (case hk => exact rfl); (case hh => exact rfl); (case F => k_asm); (case N => k_asm); (case B => assumption); (case X => assumption); (case T => assumption); (case hp => exact Fr.lst (by k_asm) (by assumption)); (case hi => assumption); (case hn => omega); (case h0 => decide); (case h1 => decide); (case hd => exact Nat.le_of_ble_eq_true rfl); (case hu => exact Nat.le_of_ble_eq_true rfl)); intro tr tH tTk tF tN tI; obtain ⟨ty, tu, te, tl⟩ := tI; subst te; (try k_fold)))
local macro_rules | `(tactic| walk_at "mine c108") => `(tactic| ((with_reducible show wpAny _ _ (PySem.call (Value.ref 108) [Value.str _ _]) _ _ _); k_dflt (refine' Mine.use_holds ?hx ?B ?F ?X ?N ?T ?XB ?TB ?hk ?hA ?hh ?hd ?hu ?_; (case hA => exact rfl); (case hk => exact rfl); (case hh => exact rfl); (case F => k_asm); (case N => k_asm); (case B => assumption); (case X => assumption); (case T => assumption); (case hx => assumption); (case XB => assumption); (case TB => assumption); (case hd => exact Nat.le_of_ble_eq_true rfl); (case hu => exact Nat.le_of_ble_eq_true rfl)); intro tH tTk tF tN; (try k_fold)))
local macro_rules | `(tactic| walk_at "call ref") => `(tactic| first | walk_at "mine c80" | walk_at "mine c108")
set_option maxHeartbeats 2000000 in
theorem PySem.Challenge.cw_pd_limbs_1_01_holds : PySem.Challenge.rw_pd_limbs_1_01.Holds := by
  refine Mine.hd ?_
  k_go0
  all_goals (try k_fold)
  all_goals k_with_none
  k_steps
