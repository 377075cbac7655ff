import PyProof.Rows.All
import Wide.All
import OpenK.AllK
import Wide.FinOn
import PySem.Challenge.RW_np0003_01
set_option Elab.async false

/-! H0 -/
section
open PySem PySem.W PyProof.Rows
namespace Mine
set_option maxRecDepth 100000 in
set_option maxHeartbeats 8000000 in
open_top hd for PySem.Challenge.rw_np0003_01
end Mine
end

/-! B0 -/
section
open PySem PySem.W PyProof.Rows PySem.NumText PySem.Builtin.Str
namespace Mine
/-! the plain law: texts as lists of codes -/
theorem str_ext {x y : Str} (h : x.cps.toList = y.cps.toList) : x = y := by
  cases x; cases y; simp only [Str.mk.injEq]; exact Array.ext' h
theorem beq_codes {x y : Str} : (x == y) = decide (x.cps.toList = y.cps.toList) := by
  by_cases h : x.cps.toList = y.cps.toList
  · rw [str_ext h]; simp
  · rw [decide_eq_false h]
    rw [beq_eq_false_iff_ne]
    intro e; exact h (by rw [e])
theorem item0 {x : Str} {c : Nat} {r : List Nat} (h : x.cps.toList = c :: r) : (Txt.item x 0).cps.toList = [c] := by
  have h0 : x.cps[0]? = some c := by rw [← Array.getElem?_toList, h]; rfl
  have hl : (0 : Int) < (x.length : Int) := by
    have : x.cps.toList.length = x.length := Array.length_toList
    rw [h] at this; simp at this; omega
  unfold Txt.item Txt.charAt
  rw [StrLaws.at_nonneg (Int.le_refl 0) h0]
  rfl
theorem item1 {x : Str} {b c : Nat} {r : List Nat} (h : x.cps.toList = b :: c :: r) : (Txt.item x 1).cps.toList = [c] := by
  have h0 : x.cps[(1 : Int).toNat]? = some c := by rw [← Array.getElem?_toList, h]; rfl
  unfold Txt.item Txt.charAt
  rw [StrLaws.at_nonneg (by decide) h0]
  rfl
theorem slice1 (x : Str) (h : 1 ≤ x.cps.toList.length) : (Txt.slice x (some 1) none).cps.toList = x.cps.toList.tail := by
  show (StrLaws.sliceText x (some 1) none).cps.toList = _
  rw [StrLaws.sliceText_from ⟨by decide, by omega⟩]
  show (x.cps.toList.drop 1).take _ = _
  rw [List.take_of_length_le (by rw [List.length_drop]; have : (1 : Int).toNat = 1 := rfl; omega), List.drop_one]
theorem slice01 (x : Str) (h : 1 ≤ x.cps.toList.length) : (Txt.slice x none (some 1)).cps.toList = x.cps.toList.take 1 := by
  show (StrLaws.sliceText x none (some 1)).cps.toList = _
  rw [StrLaws.sliceText_to ⟨by decide, by omega⟩]
  show (x.cps.toList.drop 0).take ((1 : Int) - 0).toNat = _
  rw [List.drop_zero]; rfl
theorem slice01e (x : Str) (h : x.cps.toList = []) : (Txt.slice x none (some 1)).cps.toList = [] := by
  have e : x = Str.ofString "" := str_ext (by rw [h]; decide +kernel)
  rw [e]; decide +kernel
theorem strSub_codes (x : Str) (a b : Nat) : (strSub x a b).cps.toList = (x.cps.toList.drop a).take (b - a) := by
  rw [StrLaws.strSub_toList]
theorem lstrip_codes (x y : Str) : (Txt.lstripChars x y).cps.toList = x.cps.toList.dropWhile (y.cps.contains ·) := by
  unfold Txt.lstripChars
  rw [PyProof.Rows.stripBy_eq, strSub_codes]
  simp only [stripLo, stripHi, if_true, Bool.false_eq_true, if_false]
  have hl : x.cps.toList.length = x.length := Array.length_toList
  have e : ∀ (p : Nat → Bool) (l : List Nat), l.drop (l.takeWhile p).length = l.dropWhile p := by
    intro p l
    induction l with
    | nil => rfl
    | cons a r ih =>
      by_cases h : p a = true
      · simp [h, ih]
      · simp [h]
  rw [List.take_of_length_le (by rw [List.length_drop]; omega)]
  exact e _ _
theorem strip_empty (x y : Str) (h : ∀ c ∈ x.cps.toList, y.cps.contains c = true) : (Txt.stripChars x y).cps.toList = [] := by
  unfold Txt.stripChars
  rw [PyProof.Rows.stripBy_eq, strSub_codes]
  simp only [stripLo, if_true]
  have e : x.cps.toList.takeWhile (y.cps.contains ·) = x.cps.toList := NumText.takeWhile_all h
  have hl : x.cps.toList.length = x.length := Array.length_toList
  rw [show x.cps.toList.takeWhile y.cps.contains = x.cps.toList from e, List.drop_length]
  simp
theorem strip_not (x y : Str) {c : Nat} (hc : c ∈ x.cps.toList) (h : y.cps.contains c = false) : (Txt.stripChars x y).cps.toList ≠ [] := by
  unfold Txt.stripChars
  obtain ⟨l1, l2, l3⟩ := lo_facts y.cps.contains x
  have hn : x.cps.toList.length = x.length := Array.length_toList
  obtain ⟨k, hk, e⟩ := List.getElem_of_mem hc
  have ek : x.cps.getD k 0 = c := by
    rw [← getD_list, List.getD_eq_getElem?_getD, List.getElem?_eq_getElem hk, e]; rfl
  have hlo : stripLo y.cps.contains true x ≤ k := by
    apply Nat.le_of_not_lt
    intro q
    have := l2 k q
    rw [ek, h] at this; cases this
  obtain ⟨h1, h2, h3, h4⟩ := hi_facts y.cps.contains x (stripLo y.cps.contains true x) l1
  have hhi : k < stripHi y.cps.contains true x (stripLo y.cps.contains true x) := by
    apply Nat.lt_of_not_le
    intro q
    have := h3 k q (by omega)
    rw [ek, h] at this; cases this
  rw [PyProof.Rows.stripBy_eq, strSub_codes]
  intro q
  have := congrArg List.length q
  rw [List.length_take, List.length_drop, List.length_nil] at this
  omega
theorem app_codes (x y : Str) : (x ++ y).cps.toList = x.cps.toList ++ y.cps.toList := by
  rw [Str.cps_append, Array.toList_append]
/-! numbers and figures -/
theorem val_zero_iff {ds : List Nat} (h : AllDigits ds) : digitsVal ds = 0 ↔ ∀ c ∈ ds, c = 48 := by
  have gen : ∀ (ds : List Nat) (a : Nat), AllDigits ds → (ds.foldl (fun acc c => acc * 10 + (c - 48)) a = 0 ↔ a = 0 ∧ ∀ c ∈ ds, c = 48) := by
    intro ds
    induction ds with
    | nil => intro a _; simp
    | cons d r ih =>
      intro a h
      rw [List.foldl_cons, ih _ h.tail]
      have := h.head
      constructor
      · rintro ⟨h1, h2⟩
        refine ⟨by omega, fun c hc => ?_⟩
        rcases List.mem_cons.mp hc with e | hc
        · omega
        · exact h2 c hc
      · rintro ⟨h1, h2⟩
        have := h2 d (List.mem_cons_self ..)
        exact ⟨by omega, fun c hc => h2 c (List.mem_cons_of_mem _ hc)⟩
  have := gen ds 0 h
  unfold digitsVal
  rw [this]; simp
theorem val_drop (ds : List Nat) : digitsVal (ds.dropWhile (fun c => (Str.ofString "0").cps.contains c)) = digitsVal ds := by
  induction ds with
  | nil => rfl
  | cons d r ih =>
    rw [List.dropWhile_cons]
    split
    · rename_i h
      rw [ih]
      have : d = 48 := by
        have e : (Str.ofString "0").cps = #[48] := by decide +kernel
        rw [e] at h; simpa using h
      subst this
      rfl
    · rfl
theorem drop_digits {ds : List Nat} (p : Nat → Bool) (h : AllDigits ds) : AllDigits (ds.dropWhile p) := fun c hc => h c (List.dropWhile_subset _ hc)
theorem minus_codes : (Str.ofString "-").cps.toList = [45] := by decide +kernel
theorem u_codes : (Str.ofString "u").cps.toList = [117] := by decide +kernel
theorem empty_codes : (Str.ofString "").cps.toList = [] := by decide +kernel
theorem mz_has (c : Nat) : (Str.ofString "-0").cps.contains c = (c == 45 || c == 48) := by
  have e : (Str.ofString "-0").cps = #[45, 48] := by decide +kernel
  rw [e]; by_cases h : c = 45 <;> by_cases h' : c = 48 <;> simp [h, h']
theorem z_has (c : Nat) : (Str.ofString "0").cps.contains c = (c == 48) := by
  have e : (Str.ofString "0").cps = #[48] := by decide +kernel
  rw [e]; by_cases h' : c = 48 <;> simp [h']
/-- the text of an int -/
abbrev num (n : Int) : Str := Str.ofString (toString n)
theorem num_nat (m : Nat) : (num (m : Int)).cps.toList = (Nat.toDigits 10 m).map Char.toNat := KIN.signs_num m
theorem num_negSucc (m : Nat) : (num (Int.negSucc m)).cps.toList = 45 :: (Nat.toDigits 10 (m + 1)).map Char.toNat := by
  unfold num
  rw [signs_ofString]
  show (("-" ++ Nat.repr (m + 1)).toList.map Char.toNat) = _
  rw [String.toList_append, List.map_append, Nat.toList_repr]
  rfl
theorem toDigits_digits (m : Nat) : AllDigits ((Nat.toDigits 10 m).map Char.toNat) := by
  intro c hc
  obtain ⟨ch, hch, e⟩ := List.mem_map.mp hc
  have r := digit_range (Nat.isDigit_of_mem_toDigits (by decide) (by decide) hch)
  rw [← e]
  exact r
theorem toDigits_ne (m : Nat) : (Nat.toDigits 10 m).map Char.toNat ≠ [] := by
  intro e
  have h := toDigits_len_ge 10 m
  rw [List.map_eq_nil_iff.mp e] at h
  exact absurd h (by decide)
theorem num_reads' (n : Int) (hl : (num n).length ≤ 4300) : PySem.intText? (num n) = some n := by
  cases n with
  | ofNat m =>
    have e : (num (Int.ofNat m)).cps.toList = (Nat.toDigits 10 m).map Char.toNat := num_nat m
    rw [intText_digits (by rw [e]; exact toDigits_digits m) (by rw [e]; exact toDigits_ne m) hl, e, KIN.val_back]
    rfl
  | negSucc m =>
    have e := num_negSucc m
    rw [intText_neg e (toDigits_digits _) (toDigits_ne _) hl, KIN.val_back]
    rfl
theorem num_small {d : Int} (h0 : 0 ≤ d) (h1 : d < 10) : (num d).cps.toList = [48 + d.toNat] := by
  obtain ⟨m, rfl⟩ := Int.eq_ofNat_of_zero_le h0
  have hm : m < 10 := by omega
  have : m = 0 ∨ m = 1 ∨ m = 2 ∨ m = 3 ∨ m = 4 ∨ m = 5 ∨ m = 6 ∨ m = 7 ∨ m = 8 ∨ m = 9 := by omega
  rcases this with rfl|rfl|rfl|rfl|rfl|rfl|rfl|rfl|rfl|rfl <;> decide +kernel
end Mine
end

/-! B1 -/
section
open PySem PySem.W PyProof.Rows PySem.NumText PySem.Builtin.Str
namespace Mine
/-- what a raw argument is -/
inductive Raw where
  | none
  | minus
  | int (n : Int)
  | many (n : Int)
def Raw.isMany : Raw → Bool
  | .many _ => true
  | _ => false
def Raw.isMinus : Raw → Bool
  | .minus => true
  | _ => false
def Raw.num : Raw → Int
  | .none => 1
  | .minus => -1
  | .int n => n
  | .many n => n
def Raw.more : Raw → Raw
  | .none => .none
  | .minus => .many (0 - 4)
  | .int n => .int n
  | .many n => .many (n * 4)
def Raw.digit (d : Int) : Raw → Raw
  | .none => .int d
  | .minus => if d = 0 then .minus else .int (0 - d)
  | .int n => if n < 0 then .int (n * 10 - d) else .int (n * 10 + d)
  | .many _ => .int d
def Raw.neg : Raw → Raw
  | .none => .minus
  | .minus => .none
  | .int n => .int (0 - n)
  | .many _ => .minus
/-- a value of the machine bears it, on the ledger -/
def Rep (news : List (Addr × Obj)) : Raw → Value → Prop
  | .none, v => v = .none
  | .minus, v => ∃ t, v = .str (Str.ofString "-") t
  | .int n, v => ∃ t, v = .int n t
  | .many n, v => ∃ x dx hs tk t, v = .ref x ∧ (x, instObj 31 dx) ∈ news ∧ (dx, dictOf [⟨hs, .str (Str.ofString "number") tk, .int n t⟩] 1) ∈ news
theorem Rep.mono {news news' : List (Addr × Obj)} (hs : ∀ p ∈ news, p ∈ news') : ∀ {r : Raw} {v : Value}, Rep news r v → Rep news' r v
  | .none, _, h => h
  | .minus, _, h => h
  | .int _, _, h => h
  | .many _, _, ⟨x, dx, a, b, c, e, h1, h2⟩ => ⟨x, dx, a, b, c, e, hs _ h1, hs _ h2⟩
/-- a power of four, with a sign -/
def pw (neg : Bool) (k : Nat) : Int := if neg then -(4 ^ k : Nat) else (4 ^ k : Nat)
/-- the text that is kept, how often C-u was typed, and what they stand for; i turns done -/
inductive Good : Nat → Str → Int → Raw → Prop where
  | e {i : Nat} {H : Str} {ty : Int} : H.cps.toList = [] → Good i H ty .none
  | u {i : Nat} {H : Str} (k : Nat) (neg : Bool) : 1 ≤ k → k ≤ i → H.cps.toList = 117 :: (num (pw neg k)).cps.toList → Good i H k (.many (pw neg k))
  | m {i : Nat} {H : Str} {ty : Int} {ds : List Nat} : H.cps.toList = 45 :: ds → AllDigits ds → digitsVal ds = 0 → ds.length < i → Good i H ty .minus
  | n {i : Nat} {H : Str} {ty : Int} {ds : List Nat} : H.cps.toList = 45 :: ds → AllDigits ds → 0 < digitsVal ds → ds.length < i → Good i H ty (.int (-((digitsVal ds : Nat) : Int)))
  | p {i : Nat} {H : Str} {ty : Int} {ds : List Nat} : H.cps.toList = ds → AllDigits ds → ds ≠ [] → ds.length ≤ i → Good i H ty (.int ((digitsVal ds : Nat) : Int))
theorem Good.up {i : Nat} {H : Str} {ty : Int} {r : Raw} (g : Good i H ty r) : Good (i + 1) H ty r := by
  cases g with
  | e h => exact .e h
  | u k neg h1 h2 h3 => exact .u k neg h1 (by omega) h3
  | m h1 h2 h3 h4 => exact .m h1 h2 h3 (by omega)
  | n h1 h2 h3 h4 => exact .n h1 h2 h3 (by omega)
  | p h1 h2 h3 h4 => exact .p h1 h2 h3 (by omega)
theorem pw_succ (neg : Bool) (k : Nat) : pw neg k * 4 = pw neg (k + 1) := by
  unfold pw
  cases neg
  · simp only [Bool.false_eq_true, if_false]; rw [Nat.pow_succ]; push_cast; rfl
  · simp only [if_true]; rw [Nat.pow_succ]; push_cast; rw [Int.neg_mul]
theorem pw_abs (neg : Bool) (k : Nat) : (pw neg k).natAbs = 4 ^ k := by
  unfold pw; cases neg <;> simp
theorem pow4_pos (k : Nat) : 0 < 4 ^ k := Nat.pow_pos (by decide)
theorem pw_neg (neg : Bool) (k : Nat) : decide (pw neg k < 0) = neg := by
  have := pow4_pos k
  unfold pw; cases neg
  · simp only [Bool.false_eq_true, if_false]; exact decide_eq_false (by omega)
  · simp only [if_true]; exact decide_eq_true (by omega)
theorem pow4_bound {k : Nat} (h : k ≤ 27) : 4 ^ k ≤ 10 ^ 17 := Nat.le_trans (Nat.pow_le_pow_right (by decide) h) (by decide)
theorem num_pw (neg : Bool) (k : Nat) : (num (pw neg k)).cps.toList = if neg then 45 :: (Nat.toDigits 10 (4 ^ k)).map Char.toNat else (Nat.toDigits 10 (4 ^ k)).map Char.toNat := by
  unfold pw; cases neg
  · simp only [Bool.false_eq_true, if_false]; exact num_nat _
  · simp only [if_true]
    have := pow4_pos k
    have e : (-((4 ^ k : Nat) : Int)) = Int.negSucc (4 ^ k - 1) := by omega
    rw [e, num_negSucc]
    congr 3; omega
theorem toDigits_len {m b : Nat} (hb : 1 ≤ b) (h : m < 10 ^ b) : (Nat.toDigits 10 m).length ≤ b := by
  have h' : ((10 ^ b : Nat) : Int) = 10 ^ b := by push_cast; rfl
  have := PyProof.Rows.toString_length_le (v := (m : Int)) (k := b) (by omega) hb (by omega)
  have e : (Str.ofString (toString (m : Int))).length = (Nat.toDigits 10 m).length := by
    have := congrArg List.length (num_nat m)
    rw [Array.length_toList, List.length_map] at this
    exact this
  omega
theorem val_bound (ds : List Nat) (h : AllDigits ds) : digitsVal ds < 10 ^ ds.length := by
  have gen : ∀ (ds : List Nat) (a : Nat), AllDigits ds → ds.foldl (fun acc c => acc * 10 + (c - 48)) a < (a + 1) * 10 ^ ds.length := by
    intro ds
    induction ds with
    | nil => intro a _; simp
    | cons d r ih =>
      intro a h
      rw [List.foldl_cons, List.length_cons]
      refine Nat.lt_of_lt_of_le (ih _ h.tail) ?_
      have := h.head
      rw [Nat.pow_succ, Nat.mul_comm (10 ^ r.length) 10, ← Nat.mul_assoc]
      exact Nat.mul_le_mul_right _ (by omega)
  have := gen ds 0 h
  unfold digitsVal
  omega
/-- the text is short, the number is small -/
theorem Good.short {i : Nat} {H : Str} {ty : Int} {r : Raw} (g : Good i H ty r) (hi : i ≤ 27) : H.length ≤ 60 := by
  have hl : H.cps.toList.length = H.length := Array.length_toList
  cases g with
  | e h => rw [h] at hl; simp at hl; omega
  | u k neg h1 h2 h3 =>
    rw [h3, num_pw] at hl
    have := toDigits_len (m := 4 ^ k) (b := 18) (by decide) (Nat.lt_of_le_of_lt (pow4_bound (by omega)) (by decide))
    cases neg <;> simp at hl <;> omega
  | m h1 h2 h3 h4 => rw [h1] at hl; simp at hl; omega
  | n h1 h2 h3 h4 => rw [h1] at hl; simp at hl; omega
  | p h1 h2 h3 h4 => rw [h1] at hl; omega
theorem Good.small {i : Nat} {H : Str} {ty : Int} {r : Raw} (g : Good i H ty r) (hi : i ≤ 27) : -(10 ^ 27 : Int) ≤ r.num ∧ r.num ≤ (10 ^ 27 : Int) := by
  cases g with
  | e h => exact ⟨by decide, by decide⟩
  | u k neg h1 h2 h3 =>
    have := pow4_bound (k := k) (by omega)
    have := pw_abs neg k
    show _ ≤ pw neg k ∧ pw neg k ≤ _
    omega
  | m h1 h2 h3 h4 => exact ⟨by decide, by decide⟩
  | n h1 h2 h3 h4 =>
    rename_i ds
    have := val_bound ds h2
    have := Nat.pow_le_pow_right (n := 10) (by decide) (show ds.length ≤ 27 by omega)
    show _ ≤ -((digitsVal ds : Nat) : Int) ∧ -((digitsVal ds : Nat) : Int) ≤ _
    omega
  | p h1 h2 h3 h4 =>
    rename_i ds
    have := val_bound ds h2
    have := Nat.pow_le_pow_right (n := 10) (by decide) (show ds.length ≤ 27 by omega)
    show _ ≤ ((digitsVal ds : Nat) : Int) ∧ ((digitsVal ds : Nat) : Int) ≤ _
    omega
end Mine
end

/-! B2 -/
section
open PySem PySem.W PyProof.Rows PySem.NumText PySem.Builtin.Str
namespace Mine
theorem len_codes (x : Str) : x.cps.toList.length = x.length := Array.length_toList
theorem not_empty {x : Str} {c : Nat} {r : List Nat} (h : x.cps.toList = c :: r) : (x == Str.ofString "") = false := by
  rw [beq_codes, empty_codes, h]; exact decide_eq_false (by simp)
theorem long0 {x : Str} {c : Nat} {r : List Nat} (h : x.cps.toList = c :: r) : (0 : Int) < (x.length : Int) := by
  have := len_codes x; rw [h, List.length_cons] at this; omega
theorem item0_u {x : Str} {c : Nat} {r : List Nat} (h : x.cps.toList = c :: r) : (Txt.item x 0 == Str.ofString "u") = decide (c = 117) := by
  rw [beq_codes, item0 h, u_codes]; simp
theorem item0_m {x : Str} {c : Nat} {r : List Nat} (h : x.cps.toList = c :: r) : (Txt.item x 0 == Str.ofString "-") = decide (c = 45) := by
  rw [beq_codes, item0 h, minus_codes]; simp
theorem slice1_codes {x : Str} {c : Nat} {r : List Nat} (h : x.cps.toList = c :: r) : (Txt.slice x (some 1) none).cps.toList = r := by
  rw [slice1 x (by rw [h]; simp), h]; rfl
theorem first_u {x : Str} {c : Nat} {r : List Nat} (h : x.cps.toList = c :: r) : (Txt.slice x none (some 1) == Str.ofString "u") = decide (c = 117) := by
  rw [beq_codes, slice01 x (by rw [h]; simp), h, u_codes]; simp
theorem first_e {x : Str} (h : x.cps.toList = []) : (Txt.slice x none (some 1) == Str.ofString "u") = false := by
  rw [beq_codes, slice01e x h, u_codes]; decide
theorem slice_le {x : Str} {c : Nat} {r : List Nat} (h : x.cps.toList = c :: r) (hs : x.length ≤ 60) : (Txt.slice x (some 1) none).length ≤ 60 := by
  have h1 := len_codes (Txt.slice x (some 1) none); rw [slice1_codes h] at h1
  have h2 := len_codes x; rw [h, List.length_cons] at h2
  omega
/-- what the program asks of a text: none -/
theorem asks_e {x : Str} (h : x.cps.toList = []) : (x == Str.ofString "") = true ∧ x.length ≤ 60 := by
  have := len_codes x; rw [h] at this
  exact ⟨by rw [beq_codes, empty_codes, h]; rfl, by simp at this; omega⟩
/-- .. C-u -/
theorem asks_u {x : Str} {k : Nat} {neg : Bool} (h : x.cps.toList = 117 :: (num (pw neg k)).cps.toList) (hs : x.length ≤ 60) :
    (x == Str.ofString "") = false ∧ (0 : Int) < (x.length : Int) ∧ (1 : Int) < (x.length : Int) ∧ (Txt.item x 0 == Str.ofString "u") = true ∧
    PySem.intText? (Txt.slice x (some 1) none) = some (pw neg k) ∧ (Txt.slice x (some 1) none).length ≤ 60 ∧ (Txt.slice x none (some 1) == Str.ofString "u") = true ∧ (Txt.item x 1 == Str.ofString "-") = neg := by
  have hne : (num (pw neg k)).cps.toList ≠ [] := by
    rw [num_pw]; split
    · simp
    · exact toDigits_ne _
  obtain ⟨c, r, e⟩ : ∃ c r, (num (pw neg k)).cps.toList = c :: r := by
    cases q : (num (pw neg k)).cps.toList with
    | nil => exact absurd q hne
    | cons c r => exact ⟨c, r, rfl⟩
  have hl := len_codes x
  have e1 : Txt.slice x (some 1) none = num (pw neg k) := str_ext (slice1_codes h)
  have h2 := slice_le h hs
  refine ⟨not_empty h, long0 h, ?_, by rw [item0_u h]; rfl, ?_, h2, by rw [first_u h]; rfl, ?_⟩
  · rw [h, e] at hl; simp at hl; omega
  · rw [e1]; rw [e1] at h2; exact num_reads' _ (by omega)
  · rw [beq_codes, item1 (h.trans (by rw [e])), minus_codes]
    rw [num_pw] at e
    cases neg with
    | true => simp at e; rw [← e.1]; rfl
    | false =>
      simp only [Bool.false_eq_true, if_false] at e
      have := toDigits_digits (4 ^ k) c (by rw [e]; exact List.mem_cons_self ..)
      exact decide_eq_false (by simp; omega)
theorem has_nonzero {ds : List Nat} (h : AllDigits ds) (h0 : 0 < digitsVal ds) : ∃ c ∈ ds, c ≠ 48 := by
  apply Classical.byContradiction
  intro q
  have : digitsVal ds = 0 := (val_zero_iff h).2 fun c hc => Classical.byContradiction fun e => q ⟨c, hc, e⟩
  omega
/-- .. a minus, with figures behind it or not -/
theorem asks_m {x : Str} {ds : List Nat} (h : x.cps.toList = 45 :: ds) (hd : AllDigits ds) (hs : x.length ≤ 60) :
    (x == Str.ofString "") = false ∧ (0 : Int) < (x.length : Int) ∧ (Txt.item x 0 == Str.ofString "u") = false ∧ (Txt.item x 0 == Str.ofString "-") = true ∧
    (Txt.slice x (some 1) none).length ≤ 60 ∧ (Txt.slice x none (some 1) == Str.ofString "u") = false ∧
    (Txt.stripChars x (Str.ofString "-0") == Str.ofString "") = decide (digitsVal ds = 0) := by
  refine ⟨not_empty h, long0 h, by rw [item0_u h]; rfl, by rw [item0_m h]; rfl, slice_le h hs, by rw [first_u h]; rfl, ?_⟩
  rw [beq_codes, empty_codes]
  by_cases h0 : digitsVal ds = 0
  · rw [decide_eq_true h0]
    refine decide_eq_true (strip_empty _ _ fun c hc => ?_)
    rw [h] at hc
    rw [mz_has]
    rcases List.mem_cons.mp hc with e | hc
    · simp [e]
    · simp [(val_zero_iff hd).1 h0 c hc]
  · rw [decide_eq_false h0]
    obtain ⟨c, hc, hne⟩ := has_nonzero hd (by omega)
    refine decide_eq_false (strip_not _ _ (c := c) (by rw [h]; exact List.mem_cons_of_mem _ hc) ?_)
    have := hd c hc
    rw [mz_has]
    simp; omega
/-- .. figures alone -/
theorem asks_p {x : Str} {ds : List Nat} (h : x.cps.toList = ds) (hd : AllDigits ds) (hne : ds ≠ []) (hs : x.length ≤ 60) :
    (x == Str.ofString "") = false ∧ (0 : Int) < (x.length : Int) ∧ (Txt.item x 0 == Str.ofString "u") = false ∧ (Txt.item x 0 == Str.ofString "-") = false ∧
    (Txt.slice x none (some 1) == Str.ofString "u") = false ∧ PySem.intText? x = some ((digitsVal ds : Nat) : Int) ∧ (Txt.stripChars x (Str.ofString "0") == Str.ofString "") = decide (digitsVal ds = 0) := by
  obtain ⟨c, r, e⟩ : ∃ c r, ds = c :: r := by
    cases ds with
    | nil => exact absurd rfl hne
    | cons c r => exact ⟨c, r, rfl⟩
  have hc := hd c (by rw [e]; exact List.mem_cons_self ..)
  have h' := h.trans e
  refine ⟨not_empty h', long0 h', by rw [item0_u h']; exact decide_eq_false (by omega), by rw [item0_m h']; exact decide_eq_false (by omega), by rw [first_u h']; exact decide_eq_false (by omega), ?_, ?_⟩
  · have := intText_digits (x := x) (by rw [h]; exact hd) (by rw [h]; exact hne) (by omega)
    rw [h] at this; exact this
  · rw [beq_codes, empty_codes]
    by_cases h0 : digitsVal ds = 0
    · rw [decide_eq_true h0]
      refine decide_eq_true (strip_empty _ _ fun c hc => ?_)
      rw [h] at hc
      rw [z_has]
      simp [(val_zero_iff hd).1 h0 c hc]
    · rw [decide_eq_false h0]
      obtain ⟨c, hc, hne⟩ := has_nonzero hd (by omega)
      refine decide_eq_false (strip_not _ _ (c := c) (by rw [h]; exact hc) ?_)
      rw [z_has]; simpa using hne
theorem reads_n {x : Str} {ds : List Nat} (h : x.cps.toList = 45 :: ds) (hd : AllDigits ds) (h0 : 0 < digitsVal ds) (hs : x.length ≤ 60) : PySem.intText? x = some (-((digitsVal ds : Nat) : Int)) :=
  intText_neg h hd (by intro e; rw [e] at h0; exact absurd h0 (by decide)) (by omega)
/-! what a deed makes of the text -/
theorem num_digits {d : Int} (h0 : 0 ≤ d) (h1 : d < 10) : AllDigits (num d).cps.toList ∧ (num d).cps.toList.length = 1 ∧ ((digitsVal (num d).cps.toList : Nat) : Int) = d := by
  rw [num_small h0 h1]
  refine ⟨fun c hc => ?_, rfl, ?_⟩
  · rw [List.mem_singleton.mp hc]; omega
  · show (((0 * 10 + (48 + d.toNat - 48)) : Nat) : Int) = d
    omega
theorem num_short {d : Int} (h0 : 0 ≤ d) (h1 : d < 10) : (num d).length ≤ 60 := by
  have := len_codes (num d)
  rw [(num_digits h0 h1).2.1] at this
  omega
theorem Good.fresh {i : Nat} {ty : Int} {d : Int} (h0 : 0 ≤ d) (h1 : d < 10) : Good (i + 1) (num d) ty (.int d) := by
  obtain ⟨a, b, c⟩ := num_digits h0 h1
  have g : Good (i + 1) (num d) ty (.int ((digitsVal (num d).cps.toList : Nat) : Int)) := .p rfl a (by intro e; rw [e] at b; simp at b) (by omega)
  rw [c] at g; exact g
theorem all_app {a b : List Nat} (ha : AllDigits a) (hb : AllDigits b) : AllDigits (a ++ b) := fun c hc => (List.mem_append.mp hc).elim (ha c) (hb c)
theorem val_app {a : List Nat} {d : Int} (h0 : 0 ≤ d) (h1 : d < 10) : digitsVal (a ++ (num d).cps.toList) = digitsVal a * 10 + d.toNat := by
  rw [num_small h0 h1, digitsVal_snoc]; omega
theorem Good.digit_m {i : Nat} {H : Str} {ty : Int} {ds : List Nat} {d : Int} (h0 : 0 ≤ d) (h1 : d < 10) (h : H.cps.toList = 45 :: ds) (hd : AllDigits ds) (hz : digitsVal ds = 0) (hl : ds.length < i) :
    Good (i + 1) (H ++ num d) ty (Raw.minus.digit d) := by
  obtain ⟨a, b, _⟩ := num_digits h0 h1
  have e : (H ++ num d).cps.toList = 45 :: (ds ++ (num d).cps.toList) := by rw [app_codes, h]; rfl
  have v := val_app (a := ds) h0 h1
  have l : (ds ++ (num d).cps.toList).length < i + 1 := by rw [List.length_append]; omega
  dsimp only [Raw.digit]
  split
  · rename_i hd0
    exact .m e (all_app hd a) (by rw [v]; omega) l
  · rename_i hd0
    have g : Good (i + 1) (H ++ num d) ty (.int (-((digitsVal (ds ++ (num d).cps.toList) : Nat) : Int))) := .n e (all_app hd a) (by rw [v]; omega) l
    rw [v] at g
    have : -((digitsVal ds * 10 + d.toNat : Nat) : Int) = 0 - d := by omega
    rw [this] at g; exact g
theorem Good.digit_n {i : Nat} {H : Str} {ty : Int} {ds : List Nat} {d : Int} (h0 : 0 ≤ d) (h1 : d < 10) (h : H.cps.toList = 45 :: ds) (hd : AllDigits ds) (hz : 0 < digitsVal ds) (hl : ds.length < i) :
    Good (i + 1) (H ++ num d) ty ((Raw.int (-((digitsVal ds : Nat) : Int))).digit d) := by
  obtain ⟨a, b, _⟩ := num_digits h0 h1
  have e : (H ++ num d).cps.toList = 45 :: (ds ++ (num d).cps.toList) := by rw [app_codes, h]; rfl
  have v := val_app (a := ds) h0 h1
  have l : (ds ++ (num d).cps.toList).length < i + 1 := by rw [List.length_append]; omega
  dsimp only [Raw.digit]
  rw [if_pos (by omega)]
  have g : Good (i + 1) (H ++ num d) ty (.int (-((digitsVal (ds ++ (num d).cps.toList) : Nat) : Int))) := .n e (all_app hd a) (by rw [v]; omega) l
  rw [v] at g
  have : -((digitsVal ds * 10 + d.toNat : Nat) : Int) = -((digitsVal ds : Nat) : Int) * 10 - d := by omega
  rw [this] at g; exact g
theorem Good.digit_p {i : Nat} {H : Str} {ty : Int} {ds : List Nat} {d : Int} (h0 : 0 ≤ d) (h1 : d < 10) (h : H.cps.toList = ds) (hd : AllDigits ds) (hne : ds ≠ []) (hl : ds.length ≤ i) :
    Good (i + 1) (H ++ num d) ty ((Raw.int ((digitsVal ds : Nat) : Int)).digit d) := by
  obtain ⟨a, b, _⟩ := num_digits h0 h1
  have e : (H ++ num d).cps.toList = ds ++ (num d).cps.toList := by rw [app_codes, h]
  have v := val_app (a := ds) h0 h1
  have l : (ds ++ (num d).cps.toList).length ≤ i + 1 := by rw [List.length_append]; omega
  dsimp only [Raw.digit]
  rw [if_neg (by omega)]
  have g : Good (i + 1) (H ++ num d) ty (.int ((digitsVal (ds ++ (num d).cps.toList) : Nat) : Int)) := .p e (all_app hd a) (by intro q; exact hne (List.append_eq_nil_iff.mp q).1) l
  rw [v] at g
  have : ((digitsVal ds * 10 + d.toNat : Nat) : Int) = ((digitsVal ds : Nat) : Int) * 10 + d := by omega
  rw [this] at g; exact g
theorem Good.minus {i : Nat} {ty : Int} : Good (i + 1) (Str.ofString "-") ty .minus := .m (ds := []) minus_codes (fun _ h => nomatch h) rfl (by simp)
theorem cut_codes {H : Str} {ds : List Nat} (h : H.cps.toList = 45 :: ds) : (Txt.lstripChars (Txt.slice H (some 1) none) (Str.ofString "0")).cps.toList = ds.dropWhile (fun c => (Str.ofString "0").cps.contains c) := by
  rw [lstrip_codes, slice1_codes h]
theorem drop_zeros {ds : List Nat} (h : ∀ c ∈ ds, c = 48) : ds.dropWhile (fun c => (Str.ofString "0").cps.contains c) = [] := by
  induction ds with
  | nil => rfl
  | cons d r ih =>
    rw [List.dropWhile_cons, if_pos (by rw [z_has, h d (List.mem_cons_self ..)]; rfl)]
    exact ih fun c hc => h c (List.mem_cons_of_mem _ hc)
theorem Good.cut_m {i : Nat} {H : Str} {ty : Int} {ds : List Nat} (h : H.cps.toList = 45 :: ds) (hd : AllDigits ds) (hz : digitsVal ds = 0) :
    Good (i + 1) (Txt.lstripChars (Txt.slice H (some 1) none) (Str.ofString "0")) ty Raw.minus.neg :=
  .e (by rw [cut_codes h, drop_zeros ((val_zero_iff hd).1 hz)])
theorem drop_len (p : Nat → Bool) : ∀ ds : List Nat, (ds.dropWhile p).length ≤ ds.length
  | [] => Nat.le_refl _
  | d :: r => by
    rw [List.dropWhile_cons]
    split
    · exact Nat.le_succ_of_le (drop_len p r)
    · exact Nat.le_refl _
theorem Good.cut_n {i : Nat} {H : Str} {ty : Int} {ds : List Nat} (h : H.cps.toList = 45 :: ds) (hd : AllDigits ds) (hz : 0 < digitsVal ds) (hl : ds.length < i) :
    Good (i + 1) (Txt.lstripChars (Txt.slice H (some 1) none) (Str.ofString "0")) ty (Raw.int (-((digitsVal ds : Nat) : Int))).neg := by
  have v := val_drop ds
  have l := drop_len (fun c => (Str.ofString "0").cps.contains c) ds
  have g : Good (i + 1) (Txt.lstripChars (Txt.slice H (some 1) none) (Str.ofString "0")) ty (.int ((digitsVal (ds.dropWhile (fun c => (Str.ofString "0").cps.contains c)) : Nat) : Int)) :=
    .p (cut_codes h) (drop_digits _ hd) (by intro e; rw [e] at v; have : digitsVal [] = 0 := rfl; omega) (by omega)
  rw [v] at g
  show Good (i + 1) _ ty (.int (0 - -((digitsVal ds : Nat) : Int)))
  have : 0 - -((digitsVal ds : Nat) : Int) = ((digitsVal ds : Nat) : Int) := by omega
  rw [this]; exact g
theorem Good.turn_0 {i : Nat} {H : Str} {ty : Int} {ds : List Nat} (h : H.cps.toList = ds) (hd : AllDigits ds) (hne : ds ≠ []) (hl : ds.length ≤ i) (hz : digitsVal ds = 0) :
    Good (i + 1) H ty (Raw.int ((digitsVal ds : Nat) : Int)).neg := by
  have g : Good (i + 1) H ty (.int ((digitsVal ds : Nat) : Int)) := .p h hd hne (by omega)
  show Good (i + 1) _ ty (.int (0 - ((digitsVal ds : Nat) : Int)))
  have : 0 - ((digitsVal ds : Nat) : Int) = ((digitsVal ds : Nat) : Int) := by omega
  rw [this]; exact g
theorem Good.turn_p {i : Nat} {H : Str} {ty : Int} {ds : List Nat} (h : H.cps.toList = ds) (hd : AllDigits ds) (hl : ds.length ≤ i) (hz : digitsVal ds ≠ 0) :
    Good (i + 1) (Str.ofString "-" ++ H) ty (Raw.int ((digitsVal ds : Nat) : Int)).neg := by
  have g : Good (i + 1) (Str.ofString "-" ++ H) ty (.int (-((digitsVal ds : Nat) : Int))) := .n (ds := ds) (by rw [app_codes, minus_codes, h]; rfl) hd (by omega) (by omega)
  show Good (i + 1) _ ty (.int (0 - ((digitsVal ds : Nat) : Int)))
  have : 0 - ((digitsVal ds : Nat) : Int) = -((digitsVal ds : Nat) : Int) := by omega
  rw [this]; exact g
theorem Good.begun {i : Nat} : Good (i + 1) (Str.ofString "u4") 1 (.many 4) := .u 1 false (by decide) (by omega) (by decide +kernel)
theorem Good.more_m {i : Nat} : Good (i + 1) (Str.ofString "u-4") 1 Raw.minus.more := .u 1 true (by decide) (by omega) (by decide +kernel)
theorem Good.more_u {i k : Nat} {neg : Bool} (h1 : 1 ≤ k) (h2 : k ≤ i) : Good (i + 1) (Str.ofString "u" ++ num (pw neg k * 4)) (k + 1 : Int) (Raw.many (pw neg k)).more := by
  show Good _ _ _ (.many (pw neg k * 4))
  rw [pw_succ]
  exact .u (k + 1) neg (by omega) (by omega) (by rw [app_codes, u_codes]; rfl)
/-- the text that is shown -/
def shown1 (k : Nat) : Str := Txt.join (Str.ofString " ") (List.replicate k (Str.ofString "C-u"))
def Raw.shown (ty : Int) : Raw → Str
  | .none => Str.ofString ""
  | .minus => Str.ofString "C-u -"
  | .int n => Str.ofString "C-u " ++ Str.ofString (toString n)
  | .many n => (if n < 0 then Str.ofString "C-u - " else Str.ofString "") ++ shown1 ty.toNat
end Mine
end

/-! B3 -/
section
open PySem PySem.W PyProof.Rows PySem.Calls
namespace Mine
theorem split_val {n : Nat} {b : Bool} (h : b = decide (n = 0)) : (n = 0 ∧ b = true) ∨ (n ≠ 0 ∧ b = false) := by
  by_cases e : n = 0
  · exact .inl ⟨e, h.trans (decide_eq_true e)⟩
  · exact .inr ⟨e, h.trans (decide_eq_false e)⟩
theorem fits60 {n : Nat} (h : n ≤ 60) : n ≤ sizeLine := by rw [sizeLine_eq]; omega
theorem fits640 {n : Nat} (h : n ≤ 60) : n ≤ 640 := by omega
theorem fits120 {a b : Nat} (h : a ≤ 60) (h' : b ≤ 60) : a + b ≤ sizeLine := by rw [sizeLine_eq]; omega
section
variable {prog : Program} {w : World} {A : Around} {E : Value → Shared → Prop} {s : Shared} {Q : Value → Shared → Prop} {x y : Str} {t u : Tok}
theorem t_item {value slice : PySem.Expr} {i : Int} (h0 : 0 ≤ i) (h1 : i < (x.length : Int)) (hz : x.length ≤ 60) (h : Q (.str (Txt.item x i) s.toks) { s with toks := s.toks + 1 })
    (hs : subscripted slice false (.str x t) (.int i u) = operate [.str x t, .int i u] (getItem (.str x t) (.int i u)) := by with_unfolding_all rfl)
    (ht : ∀ r, letTemporaryGo value (.str x t) r = pure () := by intro _; with_unfolding_all rfl) :
    wpAny (model prog w) A (subscriptTail value slice (.str x t) (.int i u)) Q E s :=
  item_str (fitsSsize_of (N := 9223372036854775808) (by omega) (by omega) (Int.le_refl _)) (by omega) h1 (fun _ => h) hs ht
theorem t_eq {b : Bool} (e : (x == y) = b) (h : Q (.bool b) s) : wpAny (model prog w) A (compareOp .Eq (.str x t) (.str y u)) Q E s := PyProof.Rows.eq_str (by rw [e]; exact h)
theorem t_ne_t (e : (x == y) = true) (h : Q (.bool false) s) : wpAny (model prog w) A (compareOp .NotEq (.str x t) (.str y u)) Q E s := PyProof.Rows.ne_str (by rw [bne, e]; exact h)
theorem t_ne_f (e : (x == y) = false) (h : Q (.bool true) s) : wpAny (model prog w) A (compareOp .NotEq (.str x t) (.str y u)) Q E s := PyProof.Rows.ne_str (by rw [bne, e]; exact h)
theorem t_add (hx : x.length ≤ 60) (hy : y.length ≤ 60) (h : ∀ t' k, Q (.str (x ++ y) t') { s with toks := k }) : wpAny (model prog w) A (binaryOp .Add (.str x t) (.str y u)) Q E s := SB.add h (fits120 hx hy)
theorem t_str {n : Int} (h0 : -(10 ^ 30 : Int) ≤ n) (h1 : n ≤ (10 ^ 30 : Int)) (h : Q (.str (num n) s.toks) { s with toks := s.toks + 1 }) : wpAny (model prog w) A (call (.type "str") [.int n t]) Q E s :=
  P.str_of_int (shown (N := 10 ^ 30 + 1) (by omega) (by omega) (by decide +kernel)) h
theorem t_int {n : Int} (hn : PySem.intText? x = some n) (hl : x.length ≤ 60) (h : Q (.int n s.toks) { s with toks := s.toks + 1 }) : wpAny (model prog w) A (call (.type "int") [.str x t]) Q E s :=
  KIN.call_text hn (fits640 hl) h
end
end Mine
end

/-! B4 -/
section
open PySem PySem.W PyProof.Rows PySem.Calls
namespace Mine
theorem news_tail {h₀ h : Heap} {L : Addr} {p : Addr × Obj} {news : List (Addr × Obj)} (N : News h₀ L h (p :: news)) : News h₀ L h news := fun q hq => N q (List.mem_cons_of_mem _ hq)
theorem abs_pw (neg : Bool) (k : Nat) : (if pw neg k < 0 then -pw neg k else pw neg k) = ((4 ^ k : Nat) : Int) := by
  have := pow4_pos k
  unfold pw; cases neg
  · simp only [Bool.false_eq_true, if_false]; rw [if_neg (by omega)]
  · simp only [if_true]; rw [if_pos (by omega)]; omega
theorem fdiv4 (R : Int) : Int.fdiv (R * 4) 4 = R := by rw [Int.fdiv_eq_ediv_of_nonneg _ (by decide)]; omega
theorem fmod4 (R : Int) : Int.fmod (R * 4) 4 = 0 := by rw [Int.fmod_eq_emod_of_nonneg _ (by decide)]; omega
def W4End (h₀ : Heap) (L : Addr) (s : Shared) (m₀ : Str → Option Value) (news : List (Addr × Obj)) (j R : Int) (f : Flow) (s₃ : Shared) : Prop :=
  f = .next ∧ ∃ h' tk' tf tr R' m', s₃ = { s with heap := h', toks := tk' } ∧ Fr h₀ L h' m' ∧ News h₀ L h' news ∧ m' (Str.ofString "rest") = some (.int R' tr) ∧ R' = R ∧ m' (Str.ofString "found") = some (.int (j + 1) tf) ∧
    ∀ z, z ≠ Str.ofString "rest" → z ≠ Str.ofString "found" → m' z = m₀ z
section
variable {prog : Program} {w : World} {A : Around} {E : Value → Shared → Prop} {Q : Flow → Shared → Prop} {s : Shared} {env : Env} {h₀ : Heap} {L : Addr}
theorem while4 {test : Expr} {body : List Stmt} {pos : Pos} {m₀ : Str → Option Value} {news : List (Addr × Obj)} {k : Nat} {R₀ : Int} {t1 t2 : Tok} (hR : R₀ = ((4 ^ k : Nat) : Int))
    (F : Fr h₀ L s.heap m₀) (N : News h₀ L s.heap news) (h1 : m₀ (Str.ofString "found") = some (.int 0 t1)) (h2 : m₀ (Str.ofString "rest") = some (.int R₀ t2))
    (go : ∀ (j R : Int) tf tr h tk, 0 ≤ j → j < (k : Int) → 1 ≤ R → R ≤ ((4 ^ k : Nat) : Int) → Int.fmod (R * 4) 4 = 0 → Fr h₀ L h (fun z => if z = Str.ofString "rest" then some (.int (R * 4) tr) else if z = Str.ofString "found" then some (.int j tf) else m₀ z) → News h₀ L h news →
      wpAny (model prog w) A (isTrue test env (eval test env)) (fun b s₂ =>
        if b = true then wpAny (model prog w) A (execs body env) (W4End h₀ L s m₀ news j R) E s₂ else False) E { s with heap := h, toks := tk })
    (stop : ∀ tf tr h tk, Fr h₀ L h (fun z => if z = Str.ofString "rest" then some (.int 1 tr) else if z = Str.ofString "found" then some (.int (k : Int) tf) else m₀ z) → News h₀ L h news →
      wpAny (model prog w) A (isTrue test env (eval test env)) (fun b s₂ => if b = true then False else Q .next s₂) E { s with heap := h, toks := tk })
    (hE : PassesOwn (model prog w) A env E := by passes_own) :
    wpAny (model prog w) A (exec (.While test body [] pos) env) Q E s := by
  refine While_inv (fun n m nx => nx = news ∧ n ≤ k ∧ ∃ tf tr, m (Str.ofString "rest") = some (.int ((4 ^ n : Nat) : Int) tr) ∧ m (Str.ofString "found") = some (.int ((k : Int) - (n : Int)) tf) ∧ ∀ z, z ≠ Str.ofString "rest" → z ≠ Str.ofString "found" → m z = m₀ z)
    (n₀ := k) F N ⟨rfl, Nat.le_refl k, t1, t2, by rw [h2, hR], by rw [h1, Int.sub_self], fun _ _ _ => rfl⟩ ?_ hE
  rintro n m₁ nx h tk F₁ N₁ ⟨rfl, hn, tf, tr, e1, e2, e3⟩
  have em : ∀ (R j : Int), m₁ (Str.ofString "rest") = some (.int R tr) → m₁ (Str.ofString "found") = some (.int j tf) →
      m₁ = fun z => if z = Str.ofString "rest" then some (.int R tr) else if z = Str.ofString "found" then some (.int j tf) else m₀ z := by
    intro R j a b
    funext z
    by_cases q1 : z = Str.ofString "rest"
    · rw [if_pos q1, q1]; exact a
    · rw [if_neg q1]
      by_cases q2 : z = Str.ofString "found"
      · rw [if_pos q2, q2]; exact b
      · rw [if_neg q2]; exact e3 z q1 q2
  cases n with
  | zero =>
    have e1' : m₁ (Str.ofString "rest") = some (.int 1 tr) := e1
    have e2' : m₁ (Str.ofString "found") = some (.int (k : Int) tf) := by rw [e2]; simp
    rw [em _ _ e1' e2'] at F₁
    refine wpAny_mono (stop tf tr h tk F₁ N₁) (fun b s₂ p => ?_) fun _ _ x => x
    cases b with
    | false => simpa using p
    | true => simp at p
  | succ n =>
    have e1' : m₁ (Str.ofString "rest") = some (.int (((4 ^ n : Nat) : Int) * 4) tr) := by rw [e1, Nat.pow_succ]; push_cast; rfl
    rw [em _ _ e1' e2] at F₁
    have hp := pow4_pos n
    have hb : 4 ^ n ≤ 4 ^ k := Nat.pow_le_pow_right (by decide) (by omega)
    refine wpAny_mono (go _ _ tf tr h tk (by omega) (by omega) (by omega) (by omega) (fmod4 _) F₁ N₁) (fun b s₂ p => ?_) fun _ _ x => x
    cases b with
    | false => simp at p
    | true =>
      simp only [if_true] at p ⊢
      refine wpAny_mono p (fun f s₃ q => ?_) fun _ _ x => x
      obtain ⟨rfl, h', tk', tf', tr', R', m', rfl, F', N', a, rfl, b, c⟩ := q
      refine ⟨rfl, h', tk', m', nx, n, rfl, F', N', Nat.lt_succ_self n, rfl, by omega, tf', tr', a, ?_, c⟩
      rw [b]
      have : (k : Int) - ((n + 1 : Nat) : Int) + 1 = (k : Int) - (n : Int) := by omega
      rw [this]
end
end Mine
end

/-! B5 -/
section
open PySem PySem.W PyProof.Rows PySem.Calls PySem.Spec
namespace Mine
theorem carried_rep (x : Str) (t : Tok) : ∀ k : Nat, CarriedAll (List.replicate k (Value.str x t)) ((List.replicate k x).map PyData.str)
  | 0 => .nil
  | k + 1 => by
    rw [List.replicate_succ, List.replicate_succ, List.map_cons]
    exact .cons (.str x t) (carried_rep x t k)
section
variable {prog : Program} {w : World} {A : Around} {E : Value → Shared → Prop} {s : Shared} {Q : Value → Shared → Prop} {h₀ : Heap} {L : Addr} {m : Str → Option Value} {news : List (Addr × Obj)}
theorem t_mul {l : Addr} {x : Str} {tx u : Tok} {n : Int} {k : Nat} (Fm : Fr h₀ L s.heap m) (N : News h₀ L s.heap news) (hm : (l, listOf #[.str x tx] k) ∈ news) (h0 : 0 ≤ n) (h1 : n ≤ 100)
    (h : ∀ D h', Fr h₀ L h' m → News h₀ L h' ((D, listOf (List.replicate n.toNat (Value.str x tx)).toArray 0) :: news) → Q (.ref D) { s with heap := h' }) :
    wpAny (model prog w) A (binaryOp .Mult (.ref l) (.int n u)) Q E s := by
  refine mul_list (k := k) Fm N (News.get N hm) (by omega) (by omega) (by show 1 * n.toNat ≤ 2 ^ 24; omega) fun h' F' N' => ?_
  have e : List.foldl (fun x1 x2 => x1 ++ x2) #[] (List.replicate (if (#[Value.str x tx] : Array Value).isEmpty = true then 0 else n.toNat) (#[Value.str x tx] : Array Value)) = (List.replicate n.toNat (Value.str x tx)).toArray := by
    show List.foldl (fun x1 x2 => x1 ++ x2) #[] (List.replicate n.toNat (#[Value.str x tx] : Array Value)) = _
    rw [listMul_foldl]
    show (List.replicate n.toNat [Value.str x tx]).flatten.toArray = _
    rw [List.flatten_replicate_singleton]
  rw [e] at N'
  exact h _ _ F' N'
theorem t_join {D : Addr} {x y : Str} {tx t : Tok} {k c : Nat} (N : News h₀ L s.heap news) (hm : (D, listOf (List.replicate k (Value.str x tx)).toArray c) ∈ news) (hx : x.length ≤ 8) (hy : y.length ≤ 8) (hk : k ≤ 100)
    (h : ∀ t' k', Q (.str (Txt.join y (List.replicate k x)) t') { s with toks := k' }) : wpAny (model prog w) A (call (.builtin "str.join") [.str y t, .ref D]) Q E s := by
  have e : (List.replicate k x).map id = List.replicate k x := by simp
  refine join_madeW (l := List.replicate k x) (g := id) 8 (News.isList N hm) (by rw [e]; exact carried_rep x tx k) (fun a ha => by rw [List.eq_of_mem_replicate ha]; exact hx) (by simp; omega) (by omega) fun t' k' => ?_
  rw [e]; exact h t' k'
end
end Mine
end

/-! B6 -/
section
open PySem PySem.W PyProof.Rows PySem.Calls PySem.Spec
namespace Mine
theorem shown1_len {k : Nat} (h : k ≤ 27) : (shown1 k).length ≤ 200 := by
  have a : ∀ k : Fin 28, (shown1 k.val).length ≤ 200 := by decide +kernel
  exact a ⟨k, by omega⟩
theorem num_len {n : Int} (h0 : -(10 ^ 27 : Int) ≤ n) (h1 : n ≤ (10 ^ 27 : Int)) : (num n).length ≤ 60 := by
  have hl := len_codes (num n)
  cases n with
  | ofNat m =>
    have e : (num (Int.ofNat m)).cps.toList = (Nat.toDigits 10 m).map Char.toNat := num_nat m
    rw [e, List.length_map] at hl
    have := toDigits_len (m := m) (b := 28) (by decide) (by have := h1; simp at this; omega)
    omega
  | negSucc m =>
    rw [num_negSucc, List.length_cons, List.length_map] at hl
    have := toDigits_len (m := m + 1) (b := 28) (by decide) (by omega)
    omega
theorem fits400 {a b : Nat} (h : a ≤ 200) (h' : b ≤ 200) : a + b ≤ sizeLine := by rw [sizeLine_eq]; omega
section
variable {prog : Program} {w : World} {A : Around} {E : Value → Shared → Prop} {s : Shared} {Q : Value → Shared → Prop} {x : Str} {t u : Tok}
theorem i_eq_f {a b : Int} (hab : a ≠ b) (h : Q (.bool false) s) : wpAny (model prog w) A (compareOp .Eq (.int a t) (.int b u)) Q E s := PyProof.Rows.eq_int (by rw [beq_eq_false_iff_ne.mpr hab]; exact h)
theorem t_add_shown {k : Nat} (hx : x.length ≤ 200) (hk : k ≤ 27) (h : ∀ t' k', Q (.str (x ++ shown1 k) t') { s with toks := k' }) : wpAny (model prog w) A (binaryOp .Add (.str x t) (.str (Txt.join (Str.ofString " ") (List.replicate k (Str.ofString "C-u"))) u)) Q E s := SB.add h (fits400 hx (shown1_len hk))
end
theorem pw_lt {k : Nat} : pw true k < 0 := by have := pw_neg true k; exact of_decide_eq_true this
theorem pw_ge {k : Nat} : ¬ pw false k < 0 := by have := pw_neg false k; exact of_decide_eq_false this
theorem shown_lt {k : Nat} : Raw.shown (k : Int) (.many (pw true k)) = Str.ofString "C-u - " ++ shown1 (k : Int).toNat := by
  dsimp only [Raw.shown]; rw [if_pos pw_lt]
theorem shown_ge {k : Nat} : Raw.shown (k : Int) (.many (pw false k)) = Str.ofString "" ++ shown1 (k : Int).toNat := by
  dsimp only [Raw.shown]; rw [if_neg pw_ge]
end Mine
end

/-! B7 -/
section
open PySem PySem.W PyProof.Rows PySem.Calls
set_option maxRecDepth 100000
namespace Mine
section
variable {prog : Program} {w : World} {A : Around} {E : Value → Shared → Prop} {s : Shared} {K : Frag} {x C : Addr} {ox : Obj} {od : Option Obj} {y : Str} {u : Tok} {Q : Value → Shared → Prop}
theorem objEq_str (hobj : Looks (model prog w) s.heap (isInstance (.ref x) (.type "object")) true) (q : Q .notImplemented s) :
    wpAny (model prog w) A (call (.builtin "object.__eq__") [.ref x, .str y u]) Q E s := by
  refine wpAny_call (codeAny_call_builtin F.cmp_object.eq.plain F.cmpEntry_eq (check_slot F.cmpKind_eq F.cmpSplit_eq hobj (F.cmpArgs_eq _ _) ?_))
  unfold Builtin.«object.__eq__»
  obtain ⟨hp, g, d, tk, os⟩ := s
  repeat wp_step
  exact q
theorem strEq_inst (hx : s.heap.get? x = some ox) (hod : ox.data = .plain) (q : Q .notImplemented s) :
    wpAny (model prog w) A (call (.builtin "str.__eq__") [.str y u, .ref x]) Q E s := by
  refine wpAny_call_entry F.slot_str_eq (typeIs_str s y u) F.entry_str_eq ?_ (F.args_str_eq_2 _ _)
  obtain ⟨hp, g, d, tk, os⟩ := s
  unfold Builtin.«str.__eq__» Builtin.Str.strCompare
  repeat wp_step
  rw [hod]
  repeat wp_step
  exact ⟨_, rfl, q⟩
theorem try_inst (hobj : Looks (model prog w) s.heap (isInstance (.ref x) (.type "object")) true) (X : K.In s.heap) (I : InstAt s.heap x ox C od)
    (hs : findIn K (.ref C) "__eq__" = some (some (.builtin "object.__eq__"))) {Q : Option Value → Shared → Prop} (q : Q none s) : wpAny (model prog w) A (tryCompare (.ref x) "__eq__" (.str y u)) Q E s := by
  unfold tryCompare
  refine wpAny_bind ?_
  simp only [callSpecialIfBound?, bindSpecialIfBound?]
  refine wpAny_holding (wpAny_bind (wpAny_bind (wpAny_bind (I.type.here ((looks_findIn X hs).here ?_)))))
  simp only [F.cmp_object.eq.bind]
  refine wpAny_bind (wpAny_askSetting (wpAny_ite ?_))
  have fin : wpAny (model prog w) A (call (.builtin "object.__eq__") ([.ref x] ++ [.str y u]) >>= fun v => pure (some v)) (fun r s' => wpAny (model prog w) A (match r with | some .notImplemented | none => pure none | some v => pure (some v)) Q E s') E s :=
    wpAny_bind (objEq_str hobj (wpAny_pure (wpAny_pure q)))
  split
  · exact wpAny_bind (wpAny_pure (by exact wpAny_pure fin))
  · exact wpAny_tryCatch (wpAny_bind (wpAny_pure (by exact wpAny_pure fin)))
theorem eq_inst_str (hu : A.units < cLine) (X : K.In s.heap) (I : InstAt s.heap x ox C od) (hod : ox.data = .plain)
    (hs : findIn K (.ref C) "__eq__" = some (some (.builtin "object.__eq__"))) (hn : subIn K (.type "str") (.ref C) = some false) (hm : subIn K (.ref C) (.type "object") = some true) (h : Q (.bool false) s) :
    wpAny (model prog w) A (compareOp .Eq (.ref x) (.str y u)) Q E s := by
  show wpAny (model prog w) A (richCompare .Eq (.ref x) (.str y u)) Q E s
  have hobj : Looks (model prog w) s.heap (isInstance (.ref x) (.type "object")) true := by
    unfold isInstance
    exact I.type.andThen (looks_subIn X hm)
  unfold richCompare
  simp only [oneThing_ref]
  refine wpAny_holding (wpAny_bind (wpAny_cRoomFor hu ?_))
  refine wpAny_bind (I.type.here (wpAny_bind (wpAny_typeOf (typeIs_str s y u) ?_)))
  refine wpAny_bind ?_
  refine (looks_subIn X hn).here ?_
  simp only [Bool.false_eq_true, if_false, Bool.not_false, if_true]
  refine wpAny_bind (try_inst hobj X I hs ?_)
  refine wpAny_bind (wpAny_tryCompare_declines (typeIs_str s y u) F.slot_str_eq_refl (strEq_inst I.at_ hod ⟨rfl, ?_⟩))
  refine wpAny_bind (wpAny_rule ?_)
  exact wpAny_bind (wpAny_pure (wpAny_pure h))
theorem look_e {x : Str} (e : (x == Str.ofString "") = true) : Spec.lookup (.str x) [(.str (Str.ofString ""), .int 1)] = some (.int 1) := by
  have : x = Str.ofString "" := by simpa using e
  subst this
  simp [Spec.lookup, Spec.same]
theorem look_n {x : Str} (e : (x == Str.ofString "") = false) : Spec.lookup (.str x) [(.str (Str.ofString ""), .int 1)] = none := by
  have : x ≠ Str.ofString "" := by simpa using e
  simp [Spec.lookup, Spec.same]
  exact fun q => this q.symm
theorem t_get_e {d : Addr} {t : Tok} {dflt : Value} {dd : PyData} {x : Str} (T : StrTab prog w s.heap d [(.str (Str.ofString ""), .int 1)]) (hx : PyProof.V.Flat dflt dd) (e : (x == Str.ofString "") = true)
    (h : ∀ t', Q (.int 1 t') { s with toks := s.toks + 1 }) : wpAny (model prog w) A (call (.builtin "dict.get") [.ref d, .str x t, dflt]) Q E s := by
  refine call_get2_strTab T hx fun v hv => ?_
  rw [look_e e] at hv
  cases hv s.heap
  exact h _
theorem t_get_n {d : Addr} {t tn : Tok} {n : Int} {x : Str} (T : StrTab prog w s.heap d [(.str (Str.ofString ""), .int 1)]) (e : (x == Str.ofString "") = false)
    (h : ∀ t', Q (.int n t') { s with toks := s.toks + 1 }) : wpAny (model prog w) A (call (.builtin "dict.get") [.ref d, .str x t, .int n tn]) Q E s := by
  refine call_get2_strTab T (PyProof.V.Flat.int n tn) fun v hv => ?_
  rw [look_n e] at hv
  cases hv s.heap
  exact h _
theorem i_ne_same {a b : Int} {t : Tok} (e : a = b) (h : Q (.bool false) s) : wpAny (model prog w) A (compareOp .NotEq (.int a t) (.int b u)) Q E s := PyProof.Rows.ne_int (by rw [e]; simpa using h)
theorem b_ne_same {a b : Bool} (e : a = b) (h : Q (.bool false) s) : wpAny (model prog w) A (compareOp .NotEq (.bool a) (.bool b)) Q E s := PyProof.Rows.ne_bool (by rw [e]; simpa using h)
end
end Mine
end

/-! B8 -/
section
open PySem PySem.W PyProof.Rows PySem.Calls
set_option maxRecDepth 100000
namespace Mine
theorem news_one {h₀ h : Heap} {L : Addr} {news : List (Addr × Obj)} (N : News h₀ L h news) {p q : Addr × Obj} (hp : p ∈ news) (hq : q ∈ news) (e : p.1 = q.1) : p.2 = q.2 := by
  have a := (N p hp).1
  have b := (N q hq).1
  rw [e, b] at a
  exact (Option.some.inj a).symm
section
variable {prog : Program} {w : World} {A : Around} {E : Value → Shared → Prop} {s : Shared} {env : Env} {h₀ : Heap} {x : Str} {body : List Stmt} {Q : Flow → Shared → Prop}
/-- a turn's end -/
def TurnEnd (h₀ : Heap) (L : Addr) (s : Shared) (J : (Str → Option Value) → List (Addr × Obj) → Prop) (own : List (Addr × Obj)) (f : Flow) (s₂ : Shared) : Prop :=
  f = .next ∧ ∃ h' tk' m' nx', s₂ = { s with heap := h', toks := tk' } ∧ Fr h₀ L h' m' ∧ News h₀ L h' (nx' ++ own) ∧ J m' nx'
theorem my_range {r : Addr} {a₀ b₀ : Int} {t₀ u₀ v₀ : Tok} {n : Nat} {m₀ : Str → Option Value} {news : List (Addr × Obj)} (J : Nat → (Str → Option Value) → List (Addr × Obj) → Prop)
    (hh : A.handled = none) (hr : IsRange s.heap r a₀ b₀ 1 t₀ u₀ v₀) (hsmall : Builtin.Range.small a₀ b₀ 1 = true) (hn : Builtin.Range.rangeSize a₀ b₀ 1 = (n : Int))
    (F : Fr h₀ env.locals s.heap m₀) (N : News h₀ env.locals s.heap news) (hj : J 0 m₀ news) (hcl : ∀ i m nx, J i m nx → ∀ p ∈ nx, p.2.cls ≠ .type "range_iterator")
    (turn : ∀ i t m₁ nx h tk own, i < n → J i m₁ nx → (∀ p ∈ own, p.2.cls = .type "range_iterator") → Fr h₀ env.locals h (fun y => if y = x then some (.int (a₀ + (i : Int) * 1) t) else m₁ y) → News h₀ env.locals h (nx ++ own) →
      wpAny (model prog w) A (execs body env) (TurnEnd h₀ env.locals s (J (i + 1)) own) E { s with heap := h, toks := tk })
    (done : ∀ m₁ nx h tk, J n m₁ nx → Fr h₀ env.locals h m₁ → News h₀ env.locals h nx → Q .next { s with heap := h, toks := tk }) :
    wpAny (model prog w) A (pyIter (.ref r)) (fun it s₂ => LoopAtV prog w A h₀ env x body Q E it s₂) E s := by
  refine wpAny_pyIter_range hr hsmall ?_
  have W : Walks prog w A s.heap.objs.size [s.heap.objs.size] [s.heap.objs.size] n (fun i v => i < n ∧ ∃ t, v = .int (a₀ + i * 1) t)
      (fun i h => IsRangeIter h s.heap.objs.size (a₀ + (i : Nat) * 1) ((n : Int) - (i : Nat)) 1) := (Walks.range hh _ a₀ 1 n).bound
  refine ⟨_, _, _, n, _, _, m₀, news, J, rfl, W, ?_, ?_, ?_, (by show IsRangeIter _ _ _ _ _; rw [hn]; simpa using Heap.get?_push_size _ rfl), F.push _, (fun p hp => ⟨Heap.get?_push_of_some _ (N p hp).1, (N p hp).2⟩), hj, ?_, ?_⟩
  · intro hm
    exact absurd F.ns.lt ((List.mem_singleton.mp hm) ▸ Nat.lt_irrefl _)
  · intro b hb
    rw [List.mem_singleton.mp hb]
    exact next_is_new F
  · intro p hp hI
    exact absurd (Heap.lt_size (N p hp).1) ((List.mem_singleton.mp hI) ▸ Nat.lt_irrefl _)
  · rintro i v m₁ nx s₁ own ⟨hh', tk', rfl⟩ hin ⟨_, t, rfl⟩ hJ hoff hsub hget hall hst F₁ N₁
    have hst' : hh'.get? s.heap.objs.size = some _ := hst
    have hown : ∀ p ∈ own, p.2.cls = .type "range_iterator" := by
      intro p hp
      have e1 := hget p hp
      rw [List.mem_singleton.mp (hsub p hp)] at e1
      have e2 := Option.some.inj (hst'.symm.trans e1)
      rw [← e2]
    have hI := hall s.heap.objs.size (List.mem_singleton.mpr rfl) (next_is_new F) _ hst'
    have N₂ : News h₀ env.locals hh' (nx ++ own) := fun p hp => N₁ p ((List.mem_append.mp hp).elim (fun h => List.mem_append.mpr (.inr h)) fun h => List.mem_append.mpr (.inl h))
    refine wpAny_mono (turn i t m₁ nx hh' tk' own hin hJ hown F₁ N₂) (fun f s₂ q => ?_) fun _ _ e => e
    obtain ⟨rfl, h', tk2, m', nx', rfl, F', N', hJ'⟩ := q
    refine .next ⟨rfl, h', tk2, m', nx', rfl, F', fun p hp => N' p ((List.mem_append.mp hp).elim (fun h => List.mem_append.mpr (.inr h)) fun h => List.mem_append.mpr (.inl h)), fun p hp hb => ?_, hJ'⟩
    have e := news_one N' (List.mem_append_left _ hp) (List.mem_append_right _ hI) (List.mem_singleton.mp hb)
    have c := hcl _ _ _ hJ' p hp
    rw [e] at c
    exact c rfl
  · rintro h' tk' m' nx F' N' _ hJ
    exact done m' nx h' tk' hJ F' N'
end
end Mine
end

/-! T0 -/
section
open PySem PySem.W PyProof.Rows
set_option maxRecDepth 100000
set_option linter.unusedVariables false
namespace Mine
def inside : Stmt → List Stmt
  | .FunctionDef _ _ body _ _ _ _ _ _ _ => body
  | .For _ _ body _ _ => body
  | _ => []
def scopeOf : Stmt → Scope
  | .FunctionDef _ _ _ _ _ _ scope _ _ _ => scope
  | _ => { kind := .function, names := [], isGenerator := false, isCoroutine := false }
def lawDef : Stmt := PySem.Challenge.pw_np0003_01.main.body.getLast?.getD default
def lawScope : Scope := scopeOf lawDef
def turnBody : List Stmt := inside ((inside lawDef).getD 2 default)
def checkBody : List Stmt := turnBody.drop 2
def thenOf : Stmt → List Stmt
  | .If _ body _ _ => body
  | _ => []
def elseOf : Stmt → List Stmt
  | .If _ _ orelse _ => orelse
  | _ => []
def moreBody : List Stmt := thenOf ((elseOf (turnBody.getD 1 default)).getD 0 default)
theorem fr_ext {h₀ h : Heap} {L : Addr} {m m' : Str → Option Value} (F : Fr h₀ L h m) (e : ∀ z, m z = m' z) : Fr h₀ L h m' := by
  have : m = m' := funext e
  rw [← this]; exact F
theorem fr_twice {h₀ h : Heap} {L : Addr} {x : Str} {a b : Option Value} {f : Str → Option Value} (F : Fr h₀ L h (fun z => if z = x then a else if z = x then b else f z)) : Fr h₀ L h (fun z => if z = x then a else f z) := by
  refine fr_ext F fun z => ?_
  by_cases q : z = x
  · simp [q]
  · simp [q]
/-- the law's frame, as far as the turn asks -/
abbrev lawM (v : Value) (H : Str) (tH : Tok) (ty : Int) (tt : Tok) (D : Addr) (m : Str → Option Value) : Str → Option Value := fun z =>
  if z = Str.ofString "raw" then some v else if z = Str.ofString "heard" then some (.str H tH) else if z = Str.ofString "typed" then some (.int ty tt) else if z = Str.ofString "deck" then some (.ref D) else m z
theorem fr_law {h₀ h : Heap} {L : Addr} {m : Str → Option Value} {v : Value} {H : Str} {tH : Tok} {ty : Int} {tt : Tok} {D : Addr} (F : Fr h₀ L h m)
    (h1 : m (Str.ofString "raw") = some v) (h2 : m (Str.ofString "heard") = some (.str H tH)) (h3 : m (Str.ofString "typed") = some (.int ty tt)) (h4 : m (Str.ofString "deck") = some (.ref D)) : Fr h₀ L h (lawM v H tH ty tt D m) := by
  refine fr_ext F fun z => ?_
  dsimp only [lawM]
  by_cases a : z = Str.ofString "raw"
  · rw [if_pos a, a]; exact h1
  · rw [if_neg a]
    by_cases b : z = Str.ofString "heard"
    · rw [if_pos b, b]; exact h2
    · rw [if_neg b]
      by_cases c : z = Str.ofString "typed"
      · rw [if_pos c, c]; exact h3
      · rw [if_neg c]
        by_cases d : z = Str.ofString "deck"
        · rw [if_pos d, d]; exact h4
        · rw [if_neg d]
theorem first_fact {i : Nat} {H : Str} {ty : Int} {r : Raw} (g : Good i H ty r) (hi : i ≤ 27) : (Txt.slice H none (some 1) == Str.ofString "u") = r.isMany := by
  have hs := g.short hi
  cases g with
  | e h => exact first_e h
  | u k neg h1 h2 h3 => obtain ⟨_, _, _, _, _, _, f7, _⟩ := asks_u h3 hs; exact f7
  | m h1 h2 h3 h4 => obtain ⟨_, _, _, _, _, f6, _⟩ := asks_m h1 h2 hs; exact f6
  | n h1 h2 h3 h4 => obtain ⟨_, _, _, _, _, f6, _⟩ := asks_m h1 h2 hs; exact f6
  | p h1 h2 h3 h4 => obtain ⟨_, _, _, _, f5, _⟩ := asks_p h1 h2 h3 hs; exact f5
end Mine
end

/-! C2 -/
section
open PySem PySem.W PyProof.Rows
set_option maxRecDepth 100000
set_option linter.unusedVariables false
namespace Mine
local macro_rules | `(tactic| k_room) => `(tactic| ktr_room)
local macro_rules | `(tactic| k_units) => `(tactic| ktr_units)
local macro_rules | `(tactic| k_all) => `(tactic| assumption)
local macro_rules | `(tactic| k_mem) => `(tactic| assumption)
local macro_rules | `(tactic| is_list) => `(tactic| exact News.isList (by k_asm) (by k_dflt k_mem))
section
variable {prog : Program} {w : World} {A : Around} {E : Value → Shared → Prop} {s : Shared} {h₀ : Heap} {L : Addr} {news : List (Addr × Obj)} {Q : Value → Shared → Prop}
theorem len_ints {l : Addr} {vs : List Value} {ns : List Int} {c : Nat} (N : News h₀ L s.heap news) (hm : (l, listOf vs.toArray c) ∈ news) (hi : IntsAre vs ns) (hl : ns.length ≤ 63)
    (h : Q (.int (ns.length : Nat) (s.toks + 1)) { s with toks := s.toks + 1 + 1 }) : wpAny (model prog w) A (call (.builtin "len") [.ref l]) Q E s :=
  KM.len_K N hm (by simp [hi.length]) (by omega) h
end
local macro_rules | `(tactic| walk_at "call builtin:len") => `(tactic| (k_here; (with_reducible show wpAny _ _ (call (Value.builtin "len") [Value.ref _]) _ _ _); k_dflt (refine' len_ints ?k1 ?k2 ?k3 ?k4 ?_; (case k1 => k_asm); (case k2 => k_mem); (case k3 => assumption); (case k4 => assumption); k_whole)))
section
variable {w : World} {p : Program} {loose : List Str} {mean : ExcName → Option Value} {mg mb : Str → Option Value} {dp un : Nat} {gd : Option (List Code)} {cn : Str} {cs : Scope} {a : Addr} {ccd : Value} {cl : List (Str × Addr)} {outer : List Env} {A₀ : Around} {base h₀ : Heap} {L : Addr} {m : Str → Option Value} {s : Shared} {Q E : Value → Shared → Prop} {news : List (Addr × Obj)}
set_option maxHeartbeats 8000000 in
theorem draw_c {many : Int} {tm : Tok} {D Cl : Addr} {n : Int} {tn : Tok} {vs : List Value} {ns : List Int} {k kk : Nat} {rest : List (Addr × Obj)} (B : Below A₀ base outer h₀) (F : Fr h₀ L s.heap m) (X : (hd.heap_39 w.params).In h₀) (N : News h₀ L s.heap ((D, listOf #[.ref Cl, .int n tn] kk) :: rest)) (T : Top p loose mean mg mb h₀) (hk : cs.kind = .function) (hd : dp < 400) (hu : un < 1000)
    (h1 : 1 ≤ many) (h2 : many ≤ 20) (hn0 : 0 ≤ n) (hn1 : n ≤ 1000) (hD : ∀ p ∈ rest, p.1 ≠ D) (hC : (Cl, listOf vs.toArray k) ∈ rest) (hi : IntsAre vs ns) (hl : ns.length ≤ 63) (hret : ∀ (r : Int) (t tn' : Tok) (h' : Heap) (tk' kk' : Nat), 0 ≤ r → r < many → Fr h₀ L h' m → News h₀ L h' ((D, listOf #[.ref Cl, .int (n + 1) tn'] kk') :: rest) → Q (.int r t) { s with heap := h', toks := tk' }) :
    wpAny (model PySem.Challenge.rw_np0003_01.row.prog w) (ktrTop dp un gd cn cs L a ccd cl outer) (call (.ref 119) [.ref D, .int many tm]) Q E s := by
  w_top off
  revert X
  k_fill
  intro X
  (refine wpAny_call ?_; (k_dflt cell_enter); k_steps; all_goals (refine hret _ _ _ _ _ _ ?_ ?_ (by k_asm) (by k_asm) <;> first | exact fmod_lo _ (by omega) | exact fmod_hi _ (by omega)))
end
end Mine
end

/-! C3 -/
section
open PySem PySem.W PyProof.Rows
set_option maxRecDepth 100000
set_option linter.unusedVariables false
namespace Mine
local macro_rules | `(tactic| k_room) => `(tactic| ktr_room)
local macro_rules | `(tactic| k_units) => `(tactic| ktr_units)
local macro_rules | `(tactic| k_all) => `(tactic| assumption)
local macro_rules | `(tactic| k_mem) => `(tactic| assumption)
theorem mem_up {l l' : List (Addr × Obj)} {x : Addr × Obj} (hs : ∀ p ∈ l, p ∈ l') (hm : x ∈ l) : x ∈ l' := hs x hm
local macro_rules | `(tactic| k_mem) => `(tactic| exact mem_up (by assumption) (by assumption))
local macro_rules | `(tactic| is_list) => `(tactic| exact News.isList (by k_asm) (by k_dflt k_mem))
section
variable {w : World} {p : Program} {loose : List Str} {mean : ExcName → Option Value} {mg mb : Str → Option Value} {dp un : Nat} {gd : Option (List Code)} {cn : Str} {cs : Scope} {a : Addr} {ccd : Value} {cl : List (Str × Addr)} {outer : List Env} {A₀ : Around} {base h₀ : Heap} {L : Addr} {m : Str → Option Value} {s : Shared} {Q E : Value → Shared → Prop} {news : List (Addr × Obj)}
set_option maxHeartbeats 8000000 in
theorem is_many_c {r : Raw} {v : Value} {b : Bool} (B : Below A₀ base outer h₀) (F : Fr h₀ L s.heap m) (X : (hd.heap_39 w.params).In h₀) (N : News h₀ L s.heap news) (T : Top p loose mean mg mb h₀) (hk : cs.kind = .function) (hd : dp < 600) (hu : un < 3000)
    (hr : Rep news r v) (hb : r.isMany = b) (hret : ∀ h' tk', Fr h₀ L h' m → News h₀ L h' news → Q (.bool b) { s with heap := h', toks := tk' }) :
    wpAny (model PySem.Challenge.rw_np0003_01.row.prog w) (ktrTop dp un gd cn cs L a ccd cl outer) (call (.ref 42) [v]) Q E s := by
  w_top off
  revert X
  k_fill
  intro X
  subst hb
  cases r
  case none => cases hr; (refine wpAny_call ?_; (k_dflt cell_enter); k_steps; all_goals exact hret _ _ (by k_asm) (by k_asm))
  case minus => obtain ⟨t, rfl⟩ := id hr; (refine wpAny_call ?_; (k_dflt cell_enter); k_steps; all_goals exact hret _ _ (by k_asm) (by k_asm))
  case int n => obtain ⟨t, rfl⟩ := id hr; (refine wpAny_call ?_; (k_dflt cell_enter); k_steps; all_goals exact hret _ _ (by k_asm) (by k_asm))
  case many n => obtain ⟨x, dx, hs, tk, t, rfl, h1, h2⟩ := id hr; (refine wpAny_call ?_; (k_dflt cell_enter); k_steps; all_goals exact hret _ _ (by k_asm) (by k_asm))
local macro_rules | `(tactic| walk_at "call ref") => `(tactic| (k_here; (with_reducible show wpAny _ _ (call (Value.ref 42) _) _ _ _); k_dflt (refine' is_many_c ?k1 ?k2 ?k3 ?k4 ?k5 ?k6 ?k7 ?k8 ?k9 ?k10 ?_; (case k1 => k_asm); (case k2 => k_asm); (case k3 => k_asm); (case k4 => k_asm); (case k5 => k_asm); (case k6 => first | exact rfl | assumption); (case k7 => ktr_room); (case k8 => ktr_units); (case k9 => assumption); (case k10 => first | exact (rfl : _ = true) | exact (rfl : _ = false)); k_whole); intro h' tk' F' N'; (try dsimp only); (try k_sweep)))
set_option maxHeartbeats 8000000 in
theorem is_minus_c {r : Raw} {v : Value} {b : Bool} (B : Below A₀ base outer h₀) (F : Fr h₀ L s.heap m) (X : (hd.heap_39 w.params).In h₀) (N : News h₀ L s.heap news) (T : Top p loose mean mg mb h₀) (hk : cs.kind = .function) (hd : dp < 600) (hu : un < 3000)
    (hr : Rep news r v) (hb : r.isMinus = b) (hret : ∀ h' tk', Fr h₀ L h' m → News h₀ L h' news → Q (.bool b) { s with heap := h', toks := tk' }) :
    wpAny (model PySem.Challenge.rw_np0003_01.row.prog w) (ktrTop dp un gd cn cs L a ccd cl outer) (call (.ref 49) [v]) Q E s := by
  revert X
  k_fill
  intro X
  subst hb
  cases r
  case none => cases hr; (refine wpAny_call ?_; (k_dflt cell_enter); k_steps; all_goals exact hret _ _ (by k_asm) (by k_asm))
  case minus => obtain ⟨t, rfl⟩ := id hr; (refine wpAny_call ?_; (k_dflt cell_enter); k_steps; all_goals exact hret _ _ (by k_asm) (by k_asm))
  case int n => obtain ⟨t, rfl⟩ := id hr; (refine wpAny_call ?_; (k_dflt cell_enter); k_steps; all_goals exact hret _ _ (by k_asm) (by k_asm))
  case many n => obtain ⟨x, dx, hs, tk, t, rfl, h1, h2⟩ := id hr; (refine wpAny_call ?_; (k_dflt cell_enter); k_steps; all_goals exact hret _ _ (by k_asm) (by k_asm))
local macro_rules | `(tactic| walk_at "call ref") => `(tactic| (k_here; (with_reducible show wpAny _ _ (call (Value.ref 49) _) _ _ _); k_dflt (refine' is_minus_c ?k1 ?k2 ?k3 ?k4 ?k5 ?k6 ?k7 ?k8 ?k9 ?k10 ?_; (case k1 => k_asm); (case k2 => k_asm); (case k3 => k_asm); (case k4 => k_asm); (case k5 => k_asm); (case k6 => first | exact rfl | assumption); (case k7 => ktr_room); (case k8 => ktr_units); (case k9 => assumption); (case k10 => first | exact (rfl : _ = true) | exact (rfl : _ = false)); k_whole); intro h' tk' F' N'; (try dsimp only); (try k_sweep)))
set_option maxHeartbeats 8000000 in
theorem numeric_c {r : Raw} {v : Value} (B : Below A₀ base outer h₀) (F : Fr h₀ L s.heap m) (X : (hd.heap_39 w.params).In h₀) (N : News h₀ L s.heap news) (T : Top p loose mean mg mb h₀) (hk : cs.kind = .function) (hd : dp < 500) (hu : un < 2000)
    (hr : Rep news r v) (hret : ∀ (t : Tok) h' tk', Fr h₀ L h' m → News h₀ L h' news → Q (.int r.num t) { s with heap := h', toks := tk' }) :
    wpAny (model PySem.Challenge.rw_np0003_01.row.prog w) (ktrTop dp un gd cn cs L a ccd cl outer) (call (.ref 56) [v]) Q E s := by
  revert X
  k_fill
  intro X
  cases r
  case none => cases hr; (refine wpAny_call ?_; (k_dflt cell_enter); k_steps; all_goals exact hret _ _ _ (by k_asm) (by k_asm))
  case minus => obtain ⟨t, rfl⟩ := id hr; (refine wpAny_call ?_; (k_dflt cell_enter); k_steps; all_goals exact hret _ _ _ (by k_asm) (by k_asm))
  case int n => obtain ⟨t, rfl⟩ := id hr; (refine wpAny_call ?_; (k_dflt cell_enter); k_steps; all_goals exact hret _ _ _ (by k_asm) (by k_asm))
  case many n => obtain ⟨x, dx, hs, tk, t, rfl, h1, h2⟩ := id hr; (refine wpAny_call ?_; (k_dflt cell_enter); k_steps; all_goals exact hret _ _ _ (by k_asm) (by k_asm))
set_option maxHeartbeats 8000000 in
theorem goes_on_c {r : Raw} {v : Value} (B : Below A₀ base outer h₀) (F : Fr h₀ L s.heap m) (X : (hd.heap_39 w.params).In h₀) (N : News h₀ L s.heap news) (T : Top p loose mean mg mb h₀) (hk : cs.kind = .function) (hd : dp < 500) (hu : un < 2000)
    (hr : Rep news r v) (hret : ∀ h' tk', Fr h₀ L h' m → News h₀ L h' news → Q (.bool r.isMany) { s with heap := h', toks := tk' }) :
    wpAny (model PySem.Challenge.rw_np0003_01.row.prog w) (ktrTop dp un gd cn cs L a ccd cl outer) (call (.ref 91) [v]) Q E s := by
  revert X
  k_fill
  intro X
  cases r
  case none => cases hr; (refine wpAny_call ?_; (k_dflt cell_enter); k_steps; all_goals exact hret _ _ (by k_asm) (by k_asm))
  case minus => obtain ⟨t, rfl⟩ := id hr; (refine wpAny_call ?_; (k_dflt cell_enter); k_steps; all_goals exact hret _ _ (by k_asm) (by k_asm))
  case int n => obtain ⟨t, rfl⟩ := id hr; (refine wpAny_call ?_; (k_dflt cell_enter); k_steps; all_goals exact hret _ _ (by k_asm) (by k_asm))
  case many n => obtain ⟨x, dx, hs, tk, t, rfl, h1, h2⟩ := id hr; (refine wpAny_call ?_; (k_dflt cell_enter); k_steps; all_goals exact hret _ _ (by k_asm) (by k_asm))
set_option maxHeartbeats 8000000 in
theorem begun_c {v : Value} (B : Below A₀ base outer h₀) (F : Fr h₀ L s.heap m) (X : (hd.heap_39 w.params).In h₀) (N : News h₀ L s.heap news) (T : Top p loose mean mg mb h₀) (hk : cs.kind = .function) (hd : dp < 500) (hu : un < 2000)
     (hret : ∀ v' news' h' tk', (∀ p ∈ news, p ∈ news') → Rep news' (.many 4) v' → Fr h₀ L h' m → News h₀ L h' news' → Q v' { s with heap := h', toks := tk' }) :
    wpAny (model PySem.Challenge.rw_np0003_01.row.prog w) (ktrTop dp un gd cn cs L a ccd cl outer) (call (.ref 63) [v]) Q E s := by
  revert X
  k_fill
  intro X
  (refine wpAny_call ?_; (k_dflt cell_enter); k_steps; all_goals (refine' hret _ _ _ _ ?ka ?kb ?kF ?kN; (case kF => k_asm); (case kN => k_asm); (case ka => first | exact fun p hp => hp | exact fun p hp => List.mem_cons_of_mem _ (List.mem_cons_of_mem _ hp)); (case kb => exact ⟨_, _, _, _, _, rfl, .head _, .tail _ (.head _)⟩)))
set_option maxHeartbeats 8000000 in
theorem more_c {r : Raw} {v : Value} (B : Below A₀ base outer h₀) (F : Fr h₀ L s.heap m) (X : (hd.heap_39 w.params).In h₀) (N : News h₀ L s.heap news) (T : Top p loose mean mg mb h₀) (hk : cs.kind = .function) (hd : dp < 500) (hu : un < 2000)
    (hr : Rep news r v) (hret : ∀ v' news' h' tk', (∀ p ∈ news, p ∈ news') → Rep news' r.more v' → Fr h₀ L h' m → News h₀ L h' news' → Q v' { s with heap := h', toks := tk' }) :
    wpAny (model PySem.Challenge.rw_np0003_01.row.prog w) (ktrTop dp un gd cn cs L a ccd cl outer) (call (.ref 70) [v]) Q E s := by
  revert X
  k_fill
  intro X
  cases r
  case none => cases hr; (refine wpAny_call ?_; (k_dflt cell_enter); k_steps; all_goals (refine' hret _ _ _ _ ?ka ?kb ?kF ?kN; (case kF => k_asm); (case kN => k_asm); (case ka => first | exact fun p hp => hp | exact fun p hp => List.mem_cons_of_mem _ (List.mem_cons_of_mem _ hp)); (case kb => first | exact hr | (exact ⟨_, rfl⟩) | exact rfl | (exact ⟨_, _, _, _, _, rfl, .head _, .tail _ (.head _)⟩))))
  case minus => obtain ⟨t, rfl⟩ := id hr; (refine wpAny_call ?_; (k_dflt cell_enter); k_steps; all_goals (refine' hret _ _ _ _ ?ka ?kb ?kF ?kN; (case kF => k_asm); (case kN => k_asm); (case ka => first | exact fun p hp => hp | exact fun p hp => List.mem_cons_of_mem _ (List.mem_cons_of_mem _ hp)); (case kb => first | exact hr | (exact ⟨_, rfl⟩) | exact rfl | (exact ⟨_, _, _, _, _, rfl, .head _, .tail _ (.head _)⟩))))
  case int n => obtain ⟨t, rfl⟩ := id hr; (refine wpAny_call ?_; (k_dflt cell_enter); k_steps; all_goals (refine' hret _ _ _ _ ?ka ?kb ?kF ?kN; (case kF => k_asm); (case kN => k_asm); (case ka => first | exact fun p hp => hp | exact fun p hp => List.mem_cons_of_mem _ (List.mem_cons_of_mem _ hp)); (case kb => first | exact hr | (exact ⟨_, rfl⟩) | exact rfl | (exact ⟨_, _, _, _, _, rfl, .head _, .tail _ (.head _)⟩))))
  case many n => obtain ⟨x, dx, hs, tk, t, rfl, h1, h2⟩ := id hr; (refine wpAny_call ?_; (k_dflt cell_enter); k_steps; all_goals (refine' hret _ _ _ _ ?ka ?kb ?kF ?kN; (case kF => k_asm); (case kN => k_asm); (case ka => first | exact fun p hp => hp | exact fun p hp => List.mem_cons_of_mem _ (List.mem_cons_of_mem _ hp)); (case kb => first | exact hr | (exact ⟨_, rfl⟩) | exact rfl | (exact ⟨_, _, _, _, _, rfl, .head _, .tail _ (.head _)⟩))))
set_option maxHeartbeats 8000000 in
theorem same_eq_c {r : Raw} {v u : Value} (B : Below A₀ base outer h₀) (F : Fr h₀ L s.heap m) (X : (hd.heap_39 w.params).In h₀) (N : News h₀ L s.heap news) (T : Top p loose mean mg mb h₀) (hk : cs.kind = .function) (hd : dp < 500) (hu : un < 2000)
    (hr : Rep news r v) (hr2 : Rep news r u) (hret : ∀ h' tk', Fr h₀ L h' m → News h₀ L h' news → Q (.bool true) { s with heap := h', toks := tk' }) :
    wpAny (model PySem.Challenge.rw_np0003_01.row.prog w) (ktrTop dp un gd cn cs L a ccd cl outer) (call (.ref 98) [v, u]) Q E s := by
  revert X
  k_fill
  intro X
  cases r
  case none => cases hr; cases hr2; (refine wpAny_call ?_; (k_dflt cell_enter); k_steps; all_goals exact (show ∀ b : Bool, b = true → Q (.bool b) _ from fun b hb => hb ▸ hret _ _ (by k_asm) (by k_asm)) _ (by simp))
  case minus => obtain ⟨t, rfl⟩ := id hr; obtain ⟨t2, rfl⟩ := id hr2; (refine wpAny_call ?_; (k_dflt cell_enter); k_steps; all_goals exact (show ∀ b : Bool, b = true → Q (.bool b) _ from fun b hb => hb ▸ hret _ _ (by k_asm) (by k_asm)) _ (by simp))
  case int n => obtain ⟨t, rfl⟩ := id hr; obtain ⟨t2, rfl⟩ := id hr2; (refine wpAny_call ?_; (k_dflt cell_enter); k_steps; all_goals exact (show ∀ b : Bool, b = true → Q (.bool b) _ from fun b hb => hb ▸ hret _ _ (by k_asm) (by k_asm)) _ (by simp))
  case many n => obtain ⟨x, dx, hs, tk, t, rfl, h1, h2⟩ := id hr; obtain ⟨x2, dx2, hs2, tk2, t2, rfl, h12, h22⟩ := id hr2; (refine wpAny_call ?_; (k_dflt cell_enter); k_steps; all_goals exact (show ∀ b : Bool, b = true → Q (.bool b) _ from fun b hb => hb ▸ hret _ _ (by k_asm) (by k_asm)) _ (by simp))
set_option maxHeartbeats 8000000 in
theorem same_ne_c {r : Raw} {v u : Value} {k : Int} (B : Below A₀ base outer h₀) (F : Fr h₀ L s.heap m) (X : (hd.heap_39 w.params).In h₀) (N : News h₀ L s.heap news) (T : Top p loose mean mg mb h₀) (hk : cs.kind = .function) (hd : dp < 500) (hu : un < 2000)
    (hr : Rep news r v) (hk2 : k = r.num + 1) (hr2 : Rep news (.many k) u) (hret : ∀ h' tk', Fr h₀ L h' m → News h₀ L h' news → Q (.bool false) { s with heap := h', toks := tk' }) :
    wpAny (model PySem.Challenge.rw_np0003_01.row.prog w) (ktrTop dp un gd cn cs L a ccd cl outer) (call (.ref 98) [v, u]) Q E s := by
  revert X
  k_fill
  intro X
  subst hk2
  cases r
  case none => cases hr; obtain ⟨x2, dx2, hs2, tk2, t2, rfl, h12, h22⟩ := id hr2; (refine wpAny_call ?_; (k_dflt cell_enter); k_steps; all_goals exact (show ∀ b : Bool, b = false → Q (.bool b) _ from fun b hb => hb ▸ hret _ _ (by k_asm) (by k_asm)) _ (by first | rfl | (simp; done) | (simp [Raw.num]; done) | (simp [Raw.num]; omega)))
  case minus => obtain ⟨t, rfl⟩ := id hr; obtain ⟨x2, dx2, hs2, tk2, t2, rfl, h12, h22⟩ := id hr2; (refine wpAny_call ?_; (k_dflt cell_enter); k_steps; all_goals exact (show ∀ b : Bool, b = false → Q (.bool b) _ from fun b hb => hb ▸ hret _ _ (by k_asm) (by k_asm)) _ (by first | rfl | (simp; done) | (simp [Raw.num]; done) | (simp [Raw.num]; omega)))
  case int n => obtain ⟨t, rfl⟩ := id hr; obtain ⟨x2, dx2, hs2, tk2, t2, rfl, h12, h22⟩ := id hr2; (refine wpAny_call ?_; (k_dflt cell_enter); k_steps; all_goals exact (show ∀ b : Bool, b = false → Q (.bool b) _ from fun b hb => hb ▸ hret _ _ (by k_asm) (by k_asm)) _ (by first | rfl | (simp; done) | (simp [Raw.num]; done) | (simp [Raw.num]; omega)))
  case many n => obtain ⟨x, dx, hs, tk, t, rfl, h1, h2⟩ := id hr; obtain ⟨x2, dx2, hs2, tk2, t2, rfl, h12, h22⟩ := id hr2; (refine wpAny_call ?_; (k_dflt cell_enter); k_steps; all_goals exact (show ∀ b : Bool, b = false → Q (.bool b) _ from fun b hb => hb ▸ hret _ _ (by k_asm) (by k_asm)) _ (by first | rfl | (simp; done) | (simp [Raw.num]; done) | (simp [Raw.num]; omega)))
end
end Mine
end

/-! C4 -/
section
open PySem PySem.W PyProof.Rows
set_option maxRecDepth 100000
set_option linter.unusedVariables false
namespace Mine
local macro_rules | `(tactic| walk_at "no such key") => `(tactic| fail)
local macro_rules | `(tactic| k_room) => `(tactic| ktr_room)
local macro_rules | `(tactic| k_units) => `(tactic| ktr_units)
local macro_rules | `(tactic| k_all) => `(tactic| assumption)
local macro_rules | `(tactic| k_mem) => `(tactic| assumption)
local macro_rules | `(tactic| k_mem) => `(tactic| exact mem_up (by assumption) (by assumption))
local macro_rules | `(tactic| is_list) => `(tactic| exact News.isList (by k_asm) (by k_dflt k_mem))
section
variable {w : World} {p : Program} {loose : List Str} {mean : ExcName → Option Value} {mg mb : Str → Option Value} {dp un : Nat} {gd : Option (List Code)} {cn : Str} {cs : Scope} {a : Addr} {ccd : Value} {cl : List (Str × Addr)} {outer : List Env} {A₀ : Around} {base h₀ : Heap} {L : Addr} {m : Str → Option Value} {s : Shared} {Q E : Value → Shared → Prop} {news : List (Addr × Obj)}
local macro_rules | `(tactic| walk_at "call ref") => `(tactic| (k_here; (with_reducible show wpAny _ _ (call (Value.ref 42) _) _ _ _); k_dflt (refine' is_many_c ?k1 ?k2 ?k3 ?k4 ?k5 ?k6 ?k7 ?k8 ?k9 ?k10 ?_; (case k1 => k_asm); (case k2 => k_asm); (case k3 => k_asm); (case k4 => k_asm); (case k5 => k_asm); (case k6 => first | exact rfl | assumption); (case k7 => ktr_room); (case k8 => ktr_units); (case k9 => assumption); (case k10 => first | exact (rfl : _ = true) | exact (rfl : _ = false)); k_whole); intro h' tk' F' N'; (try dsimp only); (try k_sweep)))
local macro_rules | `(tactic| walk_at "call ref") => `(tactic| (k_here; (with_reducible show wpAny _ _ (call (Value.ref 49) _) _ _ _); k_dflt (refine' is_minus_c ?k1 ?k2 ?k3 ?k4 ?k5 ?k6 ?k7 ?k8 ?k9 ?k10 ?_; (case k1 => k_asm); (case k2 => k_asm); (case k3 => k_asm); (case k4 => k_asm); (case k5 => k_asm); (case k6 => first | exact rfl | assumption); (case k7 => ktr_room); (case k8 => ktr_units); (case k9 => assumption); (case k10 => first | exact (rfl : _ = true) | exact (rfl : _ = false)); k_whole); intro h' tk' F' N'; (try dsimp only); (try k_sweep)))
set_option maxHeartbeats 8000000 in
theorem with_digit_c {r : Raw} {v : Value} {d : Int} {td : Tok} (B : Below A₀ base outer h₀) (F : Fr h₀ L s.heap m) (X : (hd.heap_39 w.params).In h₀) (N : News h₀ L s.heap news) (T : Top p loose mean mg mb h₀) (hk : cs.kind = .function) (hd : dp < 500) (hu : un < 2000)
    (hr : Rep news r v) (hd0 : 0 ≤ d) (hd1 : d < 10) (hn0 : -(10 ^ 27 : Int) ≤ r.num) (hn1 : r.num ≤ (10 ^ 27 : Int)) (hret : ∀ v' h' tk', Rep news (r.digit d) v' → Fr h₀ L h' m → News h₀ L h' news → Q v' { s with heap := h', toks := tk' }) :
    wpAny (model PySem.Challenge.rw_np0003_01.row.prog w) (ktrTop dp un gd cn cs L a ccd cl outer) (call (.ref 77) [v, .int d td]) Q E s := by
  w_top off
  revert X
  k_fill
  intro X
  cases r
  case none => cases hr; (simp only [Raw.num] at hn0 hn1); (refine wpAny_call ?_; (k_dflt cell_enter); k_steps; all_goals (refine' hret _ _ _ ?kb ?kF ?kN; (case kF => k_asm); (case kN => k_asm); (case kb => first | exact rfl | exact ⟨_, rfl⟩ | (dsimp only [Raw.digit]; split <;> first | exact rfl | exact ⟨_, rfl⟩ | (exfalso; simp_all; done) | (exfalso; simp_all; omega)))))
  case minus => obtain ⟨t, rfl⟩ := id hr; (simp only [Raw.num] at hn0 hn1); (refine wpAny_call ?_; (k_dflt cell_enter); k_steps; all_goals (refine' hret _ _ _ ?kb ?kF ?kN; (case kF => k_asm); (case kN => k_asm); (case kb => first | exact rfl | exact ⟨_, rfl⟩ | (dsimp only [Raw.digit]; split <;> first | exact rfl | exact ⟨_, rfl⟩ | (exfalso; simp_all; done) | (exfalso; simp_all; omega)))))
  case int n => obtain ⟨t, rfl⟩ := id hr; (simp only [Raw.num] at hn0 hn1); (refine wpAny_call ?_; (k_dflt cell_enter); k_steps; all_goals (refine' hret _ _ _ ?kb ?kF ?kN; (case kF => k_asm); (case kN => k_asm); (case kb => first | exact rfl | exact ⟨_, rfl⟩ | (dsimp only [Raw.digit]; split <;> first | exact rfl | exact ⟨_, rfl⟩ | (exfalso; simp_all; done) | (exfalso; simp_all; omega)))))
  case many n => obtain ⟨x, dx, hs, tk, t, rfl, h1, h2⟩ := id hr; (simp only [Raw.num] at hn0 hn1); (refine wpAny_call ?_; (k_dflt cell_enter); k_steps; all_goals (refine' hret _ _ _ ?kb ?kF ?kN; (case kF => k_asm); (case kN => k_asm); (case kb => first | exact rfl | exact ⟨_, rfl⟩ | (dsimp only [Raw.digit]; split <;> first | exact rfl | exact ⟨_, rfl⟩ | (exfalso; simp_all; done) | (exfalso; simp_all; omega)))))
set_option maxHeartbeats 8000000 in
theorem negated_c {r : Raw} {v : Value} (B : Below A₀ base outer h₀) (F : Fr h₀ L s.heap m) (X : (hd.heap_39 w.params).In h₀) (N : News h₀ L s.heap news) (T : Top p loose mean mg mb h₀) (hk : cs.kind = .function) (hd : dp < 500) (hu : un < 2000)
    (hr : Rep news r v) (hn0 : -(10 ^ 27 : Int) ≤ r.num) (hn1 : r.num ≤ (10 ^ 27 : Int)) (hret : ∀ v' h' tk', Rep news r.neg v' → Fr h₀ L h' m → News h₀ L h' news → Q v' { s with heap := h', toks := tk' }) :
    wpAny (model PySem.Challenge.rw_np0003_01.row.prog w) (ktrTop dp un gd cn cs L a ccd cl outer) (call (.ref 84) [v]) Q E s := by
  revert X
  k_fill
  intro X
  cases r
  case none => cases hr; (simp only [Raw.num] at hn0 hn1); (refine wpAny_call ?_; (k_dflt cell_enter); k_steps; all_goals (refine' hret _ _ _ ?kb ?kF ?kN; (case kF => k_asm); (case kN => k_asm); (case kb => first | exact rfl | exact ⟨_, rfl⟩ | (dsimp only [Raw.digit]; split <;> first | exact rfl | exact ⟨_, rfl⟩ | (exfalso; simp_all; done) | (exfalso; simp_all; omega)))))
  case minus => obtain ⟨t, rfl⟩ := id hr; (simp only [Raw.num] at hn0 hn1); (refine wpAny_call ?_; (k_dflt cell_enter); k_steps; all_goals (refine' hret _ _ _ ?kb ?kF ?kN; (case kF => k_asm); (case kN => k_asm); (case kb => first | exact rfl | exact ⟨_, rfl⟩ | (dsimp only [Raw.digit]; split <;> first | exact rfl | exact ⟨_, rfl⟩ | (exfalso; simp_all; done) | (exfalso; simp_all; omega)))))
  case int n => obtain ⟨t, rfl⟩ := id hr; (simp only [Raw.num] at hn0 hn1); (refine wpAny_call ?_; (k_dflt cell_enter); k_steps; all_goals (refine' hret _ _ _ ?kb ?kF ?kN; (case kF => k_asm); (case kN => k_asm); (case kb => first | exact rfl | exact ⟨_, rfl⟩ | (dsimp only [Raw.digit]; split <;> first | exact rfl | exact ⟨_, rfl⟩ | (exfalso; simp_all; done) | (exfalso; simp_all; omega)))))
  case many n => obtain ⟨x, dx, hs, tk, t, rfl, h1, h2⟩ := id hr; (simp only [Raw.num] at hn0 hn1); (refine wpAny_call ?_; (k_dflt cell_enter); k_steps; all_goals (refine' hret _ _ _ ?kb ?kF ?kN; (case kF => k_asm); (case kN => k_asm); (case kb => first | exact rfl | exact ⟨_, rfl⟩ | (dsimp only [Raw.digit]; split <;> first | exact rfl | exact ⟨_, rfl⟩ | (exfalso; simp_all; done) | (exfalso; simp_all; omega)))))
end
end Mine
end

/-! C5 -/
section
open PySem PySem.W PyProof.Rows
set_option maxRecDepth 100000
set_option linter.unusedVariables false
namespace Mine
local macro_rules | `(tactic| k_room) => `(tactic| ktr_room)
local macro_rules | `(tactic| k_units) => `(tactic| ktr_units)
local macro_rules | `(tactic| k_all) => `(tactic| assumption)
local macro_rules | `(tactic| k_mem) => `(tactic| assumption)
local macro_rules | `(tactic| k_mem) => `(tactic| exact mem_up (by assumption) (by assumption))
local macro_rules | `(tactic| is_list) => `(tactic| exact News.isList (by k_asm) (by k_dflt k_mem))
section
variable {w : World} {p : Program} {loose : List Str} {mean : ExcName → Option Value} {mg mb : Str → Option Value} {dp un : Nat} {gd : Option (List Code)} {cn : Str} {cs : Scope} {a : Addr} {ccd : Value} {cl : List (Str × Addr)} {outer : List Env} {A₀ : Around} {base h₀ : Heap} {L : Addr} {m : Str → Option Value} {s : Shared} {Q E : Value → Shared → Prop} {news : List (Addr × Obj)}
local macro_rules | `(tactic| walk_at "subscriptTail") => `(tactic| (k_here; (with_reducible show wpAny _ _ (subscriptTail _ _ (Value.str _ _) (Value.int _ _)) _ _ _); refine t_item (by decide) (by assumption) (by assumption) ?_))
local macro_rules | `(tactic| walk_at "subscriptTail") => `(tactic| (k_here; (with_reducible show wpAny _ _ (subscriptTail _ (Expr.Slice (some _) none none _) (Value.str _ _) (Value.ref _)) _ _ _); (with_reducible rename Fr _ _ _ _ => F'); (with_reducible rename News _ _ _ _ => N'); (refine slice_strN_sn (hsz := ?hsz) (s := ⟨_, _, _, _, _⟩) F' N' ?_); (case hsz => exact fits60 (by assumption)); intro _ _ _ _ _))
local macro_rules | `(tactic| walk_at "subscriptTail") => `(tactic| (k_here; (with_reducible show wpAny _ _ (subscriptTail _ (Expr.Slice none (some _) none _) (Value.str _ _) (Value.ref _)) _ _ _); (with_reducible rename Fr _ _ _ _ => F'); (with_reducible rename News _ _ _ _ => N'); (refine slice_strN_ns (hsz := ?hsz) (s := ⟨_, _, _, _, _⟩) F' N' ?_); (case hsz => exact fits60 (by assumption)); intro _ _ _ _ _))
local macro_rules | `(tactic| walk_at "compareOp Eq str str") => `(tactic| (k_here; refine t_eq (by with_reducible assumption) ?_))
local macro_rules | `(tactic| walk_at "compareOp NotEq str str") => `(tactic| (k_here; first | refine t_ne_f (by with_reducible assumption) ?_ | refine t_ne_t (by with_reducible assumption) ?_))
local macro_rules | `(tactic| walk_at "binaryOp Add str str") => `(tactic| (k_here; (refine t_add (by first | assumption | decide +kernel) (by first | assumption | decide +kernel) ?_); intro _ _))
local macro_rules | `(tactic| walk_at "call type:str") => `(tactic| (k_here; (with_reducible show wpAny _ _ (call (Value.type "str") [Value.int _ _]) _ _ _); refine t_str (by omega) (by omega) ?_))
local macro_rules | `(tactic| walk_at "call type:int") => `(tactic| (k_here; (with_reducible show wpAny _ _ (call (Value.type "int") [Value.str _ _]) _ _ _); refine t_int (by with_reducible assumption) (by assumption) ?_))
local macro_rules | `(tactic| walk_at "call builtin:str.strip") => `(tactic| (k_here; (with_reducible show wpAny _ _ (call (Value.builtin "str.strip") [Value.str _ _, Value.str _ _]) _ _ _); (refine SC.stripChars ?_ (fits60 (by assumption))); intro _ _))
local macro_rules | `(tactic| walk_at "call builtin:str.lstrip") => `(tactic| (k_here; (with_reducible show wpAny _ _ (call (Value.builtin "str.lstrip") [Value.str _ _, Value.str _ _]) _ _ _); (refine SC.lstripChars ?_ (fits60 (by assumption))); intro _ _))
set_option maxHeartbeats 8000000 in
theorem law_raw_c {i : Nat} {H : Str} {ty : Int} {r : Raw} {tH : Tok} (B : Below A₀ base outer h₀) (F : Fr h₀ L s.heap m) (X : (hd.heap_39 w.params).In h₀) (N : News h₀ L s.heap news) (T : Top p loose mean mg mb h₀) (hk : cs.kind = .function) (hd : dp < 400) (hu : un < 1000)
    (g : Good i H ty r) (hi : i ≤ 27) (hret : ∀ v' news' h' tk', (∀ p ∈ news, p ∈ news') → Rep news' r v' → Fr h₀ L h' m → News h₀ L h' news' → Q v' { s with heap := h', toks := tk' }) :
    wpAny (model PySem.Challenge.rw_np0003_01.row.prog w) (ktrTop dp un gd cn cs L a ccd cl outer) (call (.ref 126) [.str H tH]) Q E s := by
  w_top off
  revert X
  k_fill
  intro X
  cases g
  case e h3 => obtain ⟨f1, f2⟩ := asks_e h3; (refine wpAny_call ?_; (k_dflt cell_enter); k_steps; all_goals (refine' hret _ _ _ _ ?ka ?kb ?kF ?kN; (case kF => k_asm); (case kN => k_asm); (case ka => first | exact fun p hp => hp | exact fun p hp => List.mem_cons_of_mem _ (List.mem_cons_of_mem _ hp)); (case kb => first | exact rfl | exact ⟨_, rfl⟩ | exact ⟨_, _, _, _, _, rfl, .head _, .tail _ (.head _)⟩)))
  case u k neg h1 h2 h3 => have f0 := Good.short (.u (i := i) k neg h1 h2 h3) hi; obtain ⟨f1, f2, f3, f4, f5, f6, f7, f8⟩ := asks_u h3 f0; (refine wpAny_call ?_; (k_dflt cell_enter); k_steps; all_goals (refine' hret _ _ _ _ ?ka ?kb ?kF ?kN; (case kF => k_asm); (case kN => k_asm); (case ka => first | exact fun p hp => hp | exact fun p hp => List.mem_cons_of_mem _ (List.mem_cons_of_mem _ hp)); (case kb => first | exact rfl | exact ⟨_, rfl⟩ | exact ⟨_, _, _, _, _, rfl, .head _, .tail _ (.head _)⟩)))
  case m h3 hd3 hz3 hl3 => have f0 := Good.short (Good.m (ty := ty) h3 hd3 hz3 hl3) hi; obtain ⟨f1, f2, f3, f4, f5, f6, f7⟩ := asks_m h3 hd3 f0; replace f7 := f7.trans (decide_eq_true hz3); (refine wpAny_call ?_; (k_dflt cell_enter); k_steps; all_goals (refine' hret _ _ _ _ ?ka ?kb ?kF ?kN; (case kF => k_asm); (case kN => k_asm); (case ka => first | exact fun p hp => hp | exact fun p hp => List.mem_cons_of_mem _ (List.mem_cons_of_mem _ hp)); (case kb => first | exact rfl | exact ⟨_, rfl⟩ | exact ⟨_, _, _, _, _, rfl, .head _, .tail _ (.head _)⟩)))
  case n h3 hd3 hz3 hl3 => have f0 := Good.short (Good.n (ty := ty) h3 hd3 hz3 hl3) hi; obtain ⟨f1, f2, f3, f4, f5, f6, f7⟩ := asks_m h3 hd3 f0; replace f7 := f7.trans (decide_eq_false (by omega)); have f8 := reads_n h3 hd3 hz3 f0; (refine wpAny_call ?_; (k_dflt cell_enter); k_steps; all_goals (refine' hret _ _ _ _ ?ka ?kb ?kF ?kN; (case kF => k_asm); (case kN => k_asm); (case ka => first | exact fun p hp => hp | exact fun p hp => List.mem_cons_of_mem _ (List.mem_cons_of_mem _ hp)); (case kb => first | exact rfl | exact ⟨_, rfl⟩ | exact ⟨_, _, _, _, _, rfl, .head _, .tail _ (.head _)⟩)))
  case p h3 hd3 hz3 hl3 => have f0 := Good.short (Good.p (ty := ty) h3 hd3 hz3 hl3) hi; obtain ⟨f1, f2, f3, f4, f5, f6, f7⟩ := asks_p h3 hd3 hz3 f0; (refine wpAny_call ?_; (k_dflt cell_enter); k_steps; all_goals (refine' hret _ _ _ _ ?ka ?kb ?kF ?kN; (case kF => k_asm); (case kN => k_asm); (case ka => first | exact fun p hp => hp | exact fun p hp => List.mem_cons_of_mem _ (List.mem_cons_of_mem _ hp)); (case kb => first | exact rfl | exact ⟨_, rfl⟩ | exact ⟨_, _, _, _, _, rfl, .head _, .tail _ (.head _)⟩)))
set_option maxHeartbeats 8000000 in
theorem law_digit_c {i : Nat} {H : Str} {ty : Int} {r : Raw} {tH td : Tok} {d : Int} (B : Below A₀ base outer h₀) (F : Fr h₀ L s.heap m) (X : (hd.heap_39 w.params).In h₀) (N : News h₀ L s.heap news) (T : Top p loose mean mg mb h₀) (hk : cs.kind = .function) (hd : dp < 400) (hu : un < 1000)
    (g : Good i H ty r) (hi : i ≤ 27) (hd0 : 0 ≤ d) (hd1 : d < 10) (hret : ∀ x' t' h' tk', Good (i + 1) x' ty (r.digit d) → Fr h₀ L h' m → News h₀ L h' news → Q (.str x' t') { s with heap := h', toks := tk' }) :
    wpAny (model PySem.Challenge.rw_np0003_01.row.prog w) (ktrTop dp un gd cn cs L a ccd cl outer) (call (.ref 133) [.str H tH, .int d td]) Q E s := by
  revert X
  k_fill
  intro X
  cases g
  case e h3 => obtain ⟨f1, f2⟩ := asks_e h3; have fd := num_short hd0 hd1; (refine wpAny_call ?_; (k_dflt cell_enter); k_steps; all_goals (refine' hret _ _ _ _ ?kb ?kF ?kN; (case kF => k_asm); (case kN => k_asm); (case kb => exact Good.fresh hd0 hd1)))
  case u k neg h1 h2 h3 => have f0 := Good.short (.u (i := i) k neg h1 h2 h3) hi; obtain ⟨f1, f2, f3, f4, f5, f6, f7, f8⟩ := asks_u h3 f0; have fd := num_short hd0 hd1; (refine wpAny_call ?_; (k_dflt cell_enter); k_steps; all_goals (refine' hret _ _ _ _ ?kb ?kF ?kN; (case kF => k_asm); (case kN => k_asm); (case kb => exact Good.fresh hd0 hd1)))
  case m h3 hd3 hz3 hl3 => have f0 := Good.short (Good.m (ty := ty) h3 hd3 hz3 hl3) hi; obtain ⟨f1, f2, f3, f4, f5, f6, f7⟩ := asks_m h3 hd3 f0; replace f7 := f7.trans (decide_eq_true hz3); have fd := num_short hd0 hd1; (refine wpAny_call ?_; (k_dflt cell_enter); k_steps; all_goals (refine' hret _ _ _ _ ?kb ?kF ?kN; (case kF => k_asm); (case kN => k_asm); (case kb => exact Good.digit_m hd0 hd1 h3 hd3 hz3 hl3)))
  case n h3 hd3 hz3 hl3 => have f0 := Good.short (Good.n (ty := ty) h3 hd3 hz3 hl3) hi; obtain ⟨f1, f2, f3, f4, f5, f6, f7⟩ := asks_m h3 hd3 f0; replace f7 := f7.trans (decide_eq_false (by omega)); have f8 := reads_n h3 hd3 hz3 f0; have fd := num_short hd0 hd1; (refine wpAny_call ?_; (k_dflt cell_enter); k_steps; all_goals (refine' hret _ _ _ _ ?kb ?kF ?kN; (case kF => k_asm); (case kN => k_asm); (case kb => exact Good.digit_n hd0 hd1 h3 hd3 hz3 hl3)))
  case p h3 hd3 hz3 hl3 => have f0 := Good.short (Good.p (ty := ty) h3 hd3 hz3 hl3) hi; obtain ⟨f1, f2, f3, f4, f5, f6, f7⟩ := asks_p h3 hd3 hz3 f0; have fd := num_short hd0 hd1; (refine wpAny_call ?_; (k_dflt cell_enter); k_steps; all_goals (refine' hret _ _ _ _ ?kb ?kF ?kN; (case kF => k_asm); (case kN => k_asm); (case kb => exact Good.digit_p hd0 hd1 h3 hd3 hz3 hl3)))
set_option maxHeartbeats 8000000 in
theorem law_turned_c {i : Nat} {H : Str} {ty : Int} {r : Raw} {tH : Tok} (B : Below A₀ base outer h₀) (F : Fr h₀ L s.heap m) (X : (hd.heap_39 w.params).In h₀) (N : News h₀ L s.heap news) (T : Top p loose mean mg mb h₀) (hk : cs.kind = .function) (hd : dp < 400) (hu : un < 1000)
    (g : Good i H ty r) (hi : i ≤ 27) (hret : ∀ x' t' h' tk', Good (i + 1) x' ty r.neg → Fr h₀ L h' m → News h₀ L h' news → Q (.str x' t') { s with heap := h', toks := tk' }) :
    wpAny (model PySem.Challenge.rw_np0003_01.row.prog w) (ktrTop dp un gd cn cs L a ccd cl outer) (call (.ref 140) [.str H tH]) Q E s := by
  revert X
  k_fill
  intro X
  cases g
  case e h3 => obtain ⟨f1, f2⟩ := asks_e h3; (refine wpAny_call ?_; (k_dflt cell_enter); k_steps; all_goals (refine' hret _ _ _ _ ?kb ?kF ?kN; (case kF => k_asm); (case kN => k_asm); (case kb => exact Good.minus)))
  case u k neg h1 h2 h3 => have f0 := Good.short (.u (i := i) k neg h1 h2 h3) hi; obtain ⟨f1, f2, f3, f4, f5, f6, f7, f8⟩ := asks_u h3 f0; (refine wpAny_call ?_; (k_dflt cell_enter); k_steps; all_goals (refine' hret _ _ _ _ ?kb ?kF ?kN; (case kF => k_asm); (case kN => k_asm); (case kb => exact Good.minus)))
  case m h3 hd3 hz3 hl3 => have f0 := Good.short (Good.m (ty := ty) h3 hd3 hz3 hl3) hi; obtain ⟨f1, f2, f3, f4, f5, f6, f7⟩ := asks_m h3 hd3 f0; replace f7 := f7.trans (decide_eq_true hz3); (refine wpAny_call ?_; (k_dflt cell_enter); k_steps; all_goals (refine' hret _ _ _ _ ?kb ?kF ?kN; (case kF => k_asm); (case kN => k_asm); (case kb => exact Good.cut_m h3 hd3 hz3)))
  case n h3 hd3 hz3 hl3 => have f0 := Good.short (Good.n (ty := ty) h3 hd3 hz3 hl3) hi; obtain ⟨f1, f2, f3, f4, f5, f6, f7⟩ := asks_m h3 hd3 f0; replace f7 := f7.trans (decide_eq_false (by omega)); have f8 := reads_n h3 hd3 hz3 f0; (refine wpAny_call ?_; (k_dflt cell_enter); k_steps; all_goals (refine' hret _ _ _ _ ?kb ?kF ?kN; (case kF => k_asm); (case kN => k_asm); (case kb => exact Good.cut_n h3 hd3 hz3 hl3)))
  case p h3 hd3 hz3 hl3 => have f0 := Good.short (Good.p (ty := ty) h3 hd3 hz3 hl3) hi; obtain ⟨f1, f2, f3, f4, f5, f6, f7⟩ := asks_p h3 hd3 hz3 f0; rcases split_val f7 with ⟨hv, f8⟩ | ⟨hv, f8⟩; (· (refine wpAny_call ?_; (k_dflt cell_enter); k_steps; all_goals (refine' hret _ _ _ _ ?kb ?kF ?kN; (case kF => k_asm); (case kN => k_asm); (case kb => exact Good.turn_0 h3 hd3 hz3 hl3 hv)))); (· (refine wpAny_call ?_; (k_dflt cell_enter); k_steps; all_goals (refine' hret _ _ _ _ ?kb ?kF ?kN; (case kF => k_asm); (case kN => k_asm); (case kb => exact Good.turn_p h3 hd3 hl3 hv))))
end
end Mine
end

/-! C6 -/
section
open PySem PySem.W PyProof.Rows
set_option maxRecDepth 100000
set_option linter.unusedVariables false
namespace Mine
local macro_rules | `(tactic| k_room) => `(tactic| ktr_room)
local macro_rules | `(tactic| k_units) => `(tactic| ktr_units)
local macro_rules | `(tactic| k_all) => `(tactic| assumption)
local macro_rules | `(tactic| k_mem) => `(tactic| assumption)
local macro_rules | `(tactic| k_mem) => `(tactic| exact mem_up (by assumption) (by assumption))
local macro_rules | `(tactic| is_list) => `(tactic| exact News.isList (by k_asm) (by k_dflt k_mem))
section
variable {w : World} {p : Program} {loose : List Str} {mean : ExcName → Option Value} {mg mb : Str → Option Value} {dp un : Nat} {gd : Option (List Code)} {cn : Str} {cs : Scope} {a : Addr} {ccd : Value} {cl : List (Str × Addr)} {outer : List Env} {A₀ : Around} {base h₀ : Heap} {L : Addr} {m : Str → Option Value} {s : Shared} {Q E : Value → Shared → Prop} {news : List (Addr × Obj)}
local macro_rules | `(tactic| walk_at "exec While") => `(tactic| (k_here; (rename Fr _ _ _ _ => F'); (rename News _ _ _ _ => N'); (with_unfolding_all refine' while4 ?hR F' N' ?h1 ?h2 (fun j R tf tr h tk hj0 hj1 hR1 hR2 hm4 F1 N1 => ?_) (fun tf tr h tk F1 N1 => ?_) ?hE); (case h1 => with_unfolding_all exact rfl); (case h2 => with_unfolding_all exact rfl); (case hR => exact abs_pw _ _); (case hE => passes_own)))
set_option maxHeartbeats 8000000 in
theorem times_of_c {k : Nat} {neg : Bool} {tn : Tok} (B : Below A₀ base outer h₀) (F : Fr h₀ L s.heap m) (X : (hd.heap_39 w.params).In h₀) (N : News h₀ L s.heap news) (T : Top p loose mean mg mb h₀) (hk : cs.kind = .function) (hd : dp < 500) (hu : un < 2000)
    (hk1 : 1 ≤ k) (hk2 : k ≤ 27) (hret : ∀ (t : Tok) h' tk', Fr h₀ L h' m → News h₀ L h' news → Q (.int (k : Int) t) { s with heap := h', toks := tk' }) :
    wpAny (model PySem.Challenge.rw_np0003_01.row.prog w) (ktrTop dp un gd cn cs L a ccd cl outer) (call (.ref 105) [.int (pw neg k) tn]) Q E s := by
  w_top off
  revert X
  k_fill
  intro X
  have hb := pow4_bound hk2
  (refine wpAny_call ?_; (k_dflt cell_enter); k_steps; all_goals first | exact hret _ _ _ (by k_asm) (by first | k_asm | exact news_tail (by k_asm)) | (refine ⟨rfl, _, _, _, _, _, _, rfl, by k_asm, by k_asm, rfl, fdiv4 _, rfl, ?_⟩; intro z h1 h2; simp [h1, h2]; done))
end
end Mine
end

/-! C7 -/
section
open PySem PySem.W PyProof.Rows
set_option maxRecDepth 100000
set_option linter.unusedVariables false
namespace Mine
local macro_rules | `(tactic| k_room) => `(tactic| ktr_room)
local macro_rules | `(tactic| k_units) => `(tactic| ktr_units)
local macro_rules | `(tactic| k_all) => `(tactic| assumption)
local macro_rules | `(tactic| k_mem) => `(tactic| assumption)
local macro_rules | `(tactic| k_mem) => `(tactic| exact mem_up (by assumption) (by assumption))
local macro_rules | `(tactic| is_list) => `(tactic| exact News.isList (by k_asm) (by k_dflt k_mem))
section
variable {w : World} {p : Program} {loose : List Str} {mean : ExcName → Option Value} {mg mb : Str → Option Value} {dp un : Nat} {gd : Option (List Code)} {cn : Str} {cs : Scope} {a : Addr} {ccd : Value} {cl : List (Str × Addr)} {outer : List Env} {A₀ : Around} {base h₀ : Heap} {L : Addr} {m : Str → Option Value} {s : Shared} {Q E : Value → Shared → Prop} {news : List (Addr × Obj)}
local macro_rules | `(tactic| walk_at "subscriptTail") => `(tactic| (k_here; (with_reducible show wpAny _ _ (subscriptTail _ _ (Value.str _ _) (Value.int _ _)) _ _ _); refine t_item (by decide) (by assumption) (by assumption) ?_))
local macro_rules | `(tactic| walk_at "subscriptTail") => `(tactic| (k_here; (with_reducible show wpAny _ _ (subscriptTail _ (Expr.Slice (some _) none none _) (Value.str _ _) (Value.ref _)) _ _ _); (with_reducible rename Fr _ _ _ _ => F'); (with_reducible rename News _ _ _ _ => N'); (refine slice_strN_sn (hsz := ?hsz) (s := ⟨_, _, _, _, _⟩) F' N' ?_); (case hsz => exact fits60 (by assumption)); intro _ _ _ _ _))
local macro_rules | `(tactic| walk_at "subscriptTail") => `(tactic| (k_here; (with_reducible show wpAny _ _ (subscriptTail _ (Expr.Slice none (some _) none _) (Value.str _ _) (Value.ref _)) _ _ _); (with_reducible rename Fr _ _ _ _ => F'); (with_reducible rename News _ _ _ _ => N'); (refine slice_strN_ns (hsz := ?hsz) (s := ⟨_, _, _, _, _⟩) F' N' ?_); (case hsz => exact fits60 (by assumption)); intro _ _ _ _ _))
local macro_rules | `(tactic| walk_at "compareOp Eq str str") => `(tactic| (k_here; refine t_eq (by with_reducible assumption) ?_))
local macro_rules | `(tactic| walk_at "compareOp NotEq str str") => `(tactic| (k_here; first | refine t_ne_f (by with_reducible assumption) ?_ | refine t_ne_t (by with_reducible assumption) ?_))
local macro_rules | `(tactic| walk_at "binaryOp Add str str") => `(tactic| (k_here; (refine t_add (by first | assumption | decide +kernel) (by first | assumption | decide +kernel) ?_); intro _ _))
local macro_rules | `(tactic| walk_at "call type:str") => `(tactic| (k_here; (with_reducible show wpAny _ _ (call (Value.type "str") [Value.int _ _]) _ _ _); refine t_str (by omega) (by omega) ?_))
local macro_rules | `(tactic| walk_at "call type:int") => `(tactic| (k_here; (with_reducible show wpAny _ _ (call (Value.type "int") [Value.str _ _]) _ _ _); refine t_int (by with_reducible assumption) (by assumption) ?_))
local macro_rules | `(tactic| walk_at "call builtin:str.strip") => `(tactic| (k_here; (with_reducible show wpAny _ _ (call (Value.builtin "str.strip") [Value.str _ _, Value.str _ _]) _ _ _); (refine SC.stripChars ?_ (fits60 (by assumption))); intro _ _))
local macro_rules | `(tactic| walk_at "call builtin:str.lstrip") => `(tactic| (k_here; (with_reducible show wpAny _ _ (call (Value.builtin "str.lstrip") [Value.str _ _, Value.str _ _]) _ _ _); (refine SC.lstripChars ?_ (fits60 (by assumption))); intro _ _))
local macro_rules | `(tactic| walk_at "call ref") => `(tactic| (k_here; (with_reducible show wpAny _ _ (call (Value.ref 42) _) _ _ _); k_dflt (refine' is_many_c ?k1 ?k2 ?k3 ?k4 ?k5 ?k6 ?k7 ?k8 ?k9 ?k10 ?_; (case k1 => k_asm); (case k2 => k_asm); (case k3 => k_asm); (case k4 => k_asm); (case k5 => k_asm); (case k6 => first | exact rfl | assumption); (case k7 => ktr_room); (case k8 => ktr_units); (case k9 => assumption); (case k10 => first | exact (rfl : _ = true) | exact (rfl : _ = false)); k_whole); intro h' tk' F' N'; (try dsimp only); (try k_sweep)))
local macro_rules | `(tactic| walk_at "call ref") => `(tactic| (k_here; (with_reducible show wpAny _ _ (call (Value.ref 49) _) _ _ _); k_dflt (refine' is_minus_c ?k1 ?k2 ?k3 ?k4 ?k5 ?k6 ?k7 ?k8 ?k9 ?k10 ?_; (case k1 => k_asm); (case k2 => k_asm); (case k3 => k_asm); (case k4 => k_asm); (case k5 => k_asm); (case k6 => first | exact rfl | assumption); (case k7 => ktr_room); (case k8 => ktr_units); (case k9 => assumption); (case k10 => first | exact (rfl : _ = true) | exact (rfl : _ = false)); k_whole); intro h' tk' F' N'; (try dsimp only); (try k_sweep)))
local macro_rules | `(tactic| walk_at "call ref") => `(tactic| (k_here; (with_reducible show wpAny _ _ (call (Value.ref 105) _) _ _ _); k_dflt (refine' times_of_c ?k1 ?k2 ?k3 ?k4 ?k5 ?k6 ?k7 ?k8 ?k9 ?k10 ?_; (case k1 => k_asm); (case k2 => k_asm); (case k3 => k_asm); (case k4 => k_asm); (case k5 => k_asm); (case k6 => first | exact rfl | assumption); (case k7 => ktr_room); (case k8 => ktr_units); (case k9 => assumption); (case k10 => assumption); k_whole); intro t' h' tk' F' N'; (try dsimp only); (try k_sweep)))
local macro_rules | `(tactic| walk_at "call ref") => `(tactic| (k_here; (with_reducible show wpAny _ _ (call (Value.ref 126) _) _ _ _); k_dflt (refine' law_raw_c ?k1 ?k2 ?k3 ?k4 ?k5 ?k6 ?k7 ?k8 ?k9 ?k10 ?_; (case k1 => k_asm); (case k2 => k_asm); (case k3 => k_asm); (case k4 => k_asm); (case k5 => k_asm); (case k6 => first | exact rfl | assumption); (case k7 => ktr_room); (case k8 => ktr_units); (case k9 => assumption); (case k10 => assumption); k_whole); intro v' news' h' tk' hs' hr' F' N'; (obtain ⟨_, hv'⟩ := id hr'); (subst hv'); (try dsimp only); (try k_sweep)))
local macro_rules | `(tactic| walk_at "compareOp Eq int int") => `(tactic| (k_here; refine i_eq_f (by omega) ?_))
local macro_rules | `(tactic| walk_at "binaryOp Mult ref int") => `(tactic| (k_here; k_dflt (refine' t_mul ?k1 ?k2 ?k3 ?k4 ?k5 ?_; (case k1 => k_asm); (case k2 => k_asm); (case k3 => k_mem); (case k4 => omega); (case k5 => omega); k_whole); intro D h' F' N'; (try k_sweep)))
local macro_rules | `(tactic| walk_at "call builtin:str.join") => `(tactic| (k_here; (with_reducible show wpAny _ _ (call (Value.builtin "str.join") [Value.str _ _, Value.ref _]) _ _ _); k_dflt (refine' t_join ?k1 ?k2 ?k3 ?k4 ?k5 ?_; (case k1 => k_asm); (case k2 => k_mem); (case k3 => decide +kernel); (case k4 => decide +kernel); (case k5 => omega); k_whole); intro _ _))
local macro_rules | `(tactic| walk_at "binaryOp Add str str") => `(tactic| (k_here; (refine t_add_shown (by decide +kernel) (by omega) ?_); intro _ _))
set_option maxHeartbeats 8000000 in
theorem law_shown_c {i : Nat} {H : Str} {ty : Int} {r : Raw} {tH tt : Tok} (B : Below A₀ base outer h₀) (F : Fr h₀ L s.heap m) (X : (hd.heap_39 w.params).In h₀) (N : News h₀ L s.heap news) (T : Top p loose mean mg mb h₀) (hk : cs.kind = .function) (hd : dp < 390) (hu : un < 900)
    (g : Good i H ty r) (hi : i ≤ 27) (hret : ∀ t' h' tk' news', (∀ p ∈ news, p ∈ news') → Fr h₀ L h' m → News h₀ L h' news' → Q (.str (r.shown ty) t') { s with heap := h', toks := tk' }) :
    wpAny (model PySem.Challenge.rw_np0003_01.row.prog w) (ktrTop dp un gd cn cs L a ccd cl outer) (call (.ref 147) [.str H tH, .int ty tt]) Q E s := by
  w_top off
  revert X
  k_fill
  intro X
  cases g
  case e h3 => obtain ⟨f1, f2⟩ := asks_e h3; dsimp only [Raw.shown] at hret; (refine wpAny_call ?_; (k_dflt cell_enter); k_steps; all_goals (refine' hret _ _ _ _ ?ka ?kF ?kN; (case kF => k_asm); (case kN => k_asm); (case ka => first | exact fun p hp => hp | exact fun p hp => List.mem_cons_of_mem _ hp | exact fun p hp => List.mem_cons_of_mem _ (List.mem_cons_of_mem _ hp) | assumption)))
  case u k neg h1 h2 h3 => have f0 := Good.short (.u (i := i) k neg h1 h2 h3) hi; obtain ⟨f1, f2, f3, f4, f5, f6, f7, f8⟩ := asks_u h3 f0; cases neg; (· rw [shown_ge] at hret; (refine wpAny_call ?_; (k_dflt cell_enter); k_steps; all_goals (refine' hret _ _ _ _ ?ka ?kF ?kN; (case kF => k_asm); (case kN => k_asm); (case ka => first | exact fun p hp => hp | exact fun p hp => List.mem_cons_of_mem _ hp | exact fun p hp => List.mem_cons_of_mem _ (List.mem_cons_of_mem _ hp) | assumption)))); (· rw [shown_lt] at hret; (refine wpAny_call ?_; (k_dflt cell_enter); k_steps; all_goals (refine' hret _ _ _ _ ?ka ?kF ?kN; (case kF => k_asm); (case kN => k_asm); (case ka => first | exact fun p hp => hp | exact fun p hp => List.mem_cons_of_mem _ hp | exact fun p hp => List.mem_cons_of_mem _ (List.mem_cons_of_mem _ hp) | assumption))))
  case m h3 hd3 hz3 hl3 => have f0 := Good.short (Good.m (ty := ty) h3 hd3 hz3 hl3) hi; obtain ⟨f1, f2, f3, f4, f5, f6, f7⟩ := asks_m h3 hd3 f0; replace f7 := f7.trans (decide_eq_true hz3); have g0 := Good.m (ty := ty) h3 hd3 hz3 hl3; dsimp only [Raw.shown] at hret; (refine wpAny_call ?_; (k_dflt cell_enter); k_steps; all_goals (refine' hret _ _ _ _ ?ka ?kF ?kN; (case kF => k_asm); (case kN => k_asm); (case ka => first | exact fun p hp => hp | exact fun p hp => List.mem_cons_of_mem _ hp | exact fun p hp => List.mem_cons_of_mem _ (List.mem_cons_of_mem _ hp) | assumption)))
  case n h3 hd3 hz3 hl3 => have f0 := Good.short (Good.n (ty := ty) h3 hd3 hz3 hl3) hi; obtain ⟨f1, f2, f3, f4, f5, f6, f7⟩ := asks_m h3 hd3 f0; replace f7 := f7.trans (decide_eq_false (by omega)); have f8 := reads_n h3 hd3 hz3 f0; have g0 := Good.n (ty := ty) h3 hd3 hz3 hl3; (have q := Good.small g0 hi; simp only [Raw.num] at q; obtain ⟨q1, q2⟩ := q); have f9 := num_len q1 q2; dsimp only [Raw.shown] at hret; (refine wpAny_call ?_; (k_dflt cell_enter); k_steps; all_goals (refine' hret _ _ _ _ ?ka ?kF ?kN; (case kF => k_asm); (case kN => k_asm); (case ka => first | exact fun p hp => hp | exact fun p hp => List.mem_cons_of_mem _ hp | exact fun p hp => List.mem_cons_of_mem _ (List.mem_cons_of_mem _ hp) | assumption)))
  case p h3 hd3 hz3 hl3 => have f0 := Good.short (Good.p (ty := ty) h3 hd3 hz3 hl3) hi; obtain ⟨f1, f2, f3, f4, f5, f6, f7⟩ := asks_p h3 hd3 hz3 f0; have g0 := Good.p (ty := ty) h3 hd3 hz3 hl3; (have q := Good.small g0 hi; simp only [Raw.num] at q; obtain ⟨q1, q2⟩ := q); have f9 := num_len q1 q2; dsimp only [Raw.shown] at hret; (refine wpAny_call ?_; (k_dflt cell_enter); k_steps; all_goals (refine' hret _ _ _ _ ?ka ?kF ?kN; (case kF => k_asm); (case kN => k_asm); (case ka => first | exact fun p hp => hp | exact fun p hp => List.mem_cons_of_mem _ hp | exact fun p hp => List.mem_cons_of_mem _ (List.mem_cons_of_mem _ hp) | assumption)))
set_option maxHeartbeats 8000000 in
theorem prefix_text_c {i : Nat} {H : Str} {ty : Int} {r : Raw} {v : Value} (B : Below A₀ base outer h₀) (F : Fr h₀ L s.heap m) (X : (hd.heap_39 w.params).In h₀) (N : News h₀ L s.heap news) (T : Top p loose mean mg mb h₀) (hk : cs.kind = .function) (hd : dp < 390) (hu : un < 900)
    (g : Good i H ty r) (hi : i ≤ 27) (hr : Rep news r v) (hret : ∀ t' h' tk' news', (∀ p ∈ news, p ∈ news') → Fr h₀ L h' m → News h₀ L h' news' → Q (.str (r.shown ty) t') { s with heap := h', toks := tk' }) :
    wpAny (model PySem.Challenge.rw_np0003_01.row.prog w) (ktrTop dp un gd cn cs L a ccd cl outer) (call (.ref 112) [v]) Q E s := by
  revert X
  k_fill
  intro X
  cases g
  case e h3 => cases hr; dsimp only [Raw.shown] at hret; (refine wpAny_call ?_; (k_dflt cell_enter); k_steps; all_goals (refine' hret _ _ _ _ ?ka ?kF ?kN; (case kF => k_asm); (case kN => k_asm); (case ka => first | exact fun p hp => hp | exact fun p hp => List.mem_cons_of_mem _ hp | exact fun p hp => List.mem_cons_of_mem _ (List.mem_cons_of_mem _ hp) | assumption)))
  case u k neg h1 h2 h3 => have hk27 := Nat.le_trans h2 hi; obtain ⟨x, dx, hs, tk, t, rfl, m1, m2⟩ := id hr; cases neg; (· have hn := @pw_ge k; rw [shown_ge] at hret; (refine wpAny_call ?_; (k_dflt cell_enter); k_steps; all_goals (refine' hret _ _ _ _ ?ka ?kF ?kN; (case kF => k_asm); (case kN => k_asm); (case ka => first | exact fun p hp => hp | exact fun p hp => List.mem_cons_of_mem _ hp | exact fun p hp => List.mem_cons_of_mem _ (List.mem_cons_of_mem _ hp) | assumption)))); (· have hn := @pw_lt k; rw [shown_lt] at hret; (refine wpAny_call ?_; (k_dflt cell_enter); k_steps; all_goals (refine' hret _ _ _ _ ?ka ?kF ?kN; (case kF => k_asm); (case kN => k_asm); (case ka => first | exact fun p hp => hp | exact fun p hp => List.mem_cons_of_mem _ hp | exact fun p hp => List.mem_cons_of_mem _ (List.mem_cons_of_mem _ hp) | assumption))))
  case m h3 hd3 hz3 hl3 => obtain ⟨t, rfl⟩ := id hr; have g0 := Good.m (ty := ty) h3 hd3 hz3 hl3; dsimp only [Raw.shown] at hret; (refine wpAny_call ?_; (k_dflt cell_enter); k_steps; all_goals (refine' hret _ _ _ _ ?ka ?kF ?kN; (case kF => k_asm); (case kN => k_asm); (case ka => first | exact fun p hp => hp | exact fun p hp => List.mem_cons_of_mem _ hp | exact fun p hp => List.mem_cons_of_mem _ (List.mem_cons_of_mem _ hp) | assumption)))
  case n h3 hd3 hz3 hl3 => obtain ⟨t, rfl⟩ := id hr; have g0 := Good.n (ty := ty) h3 hd3 hz3 hl3; (have q := Good.small g0 hi; simp only [Raw.num] at q; obtain ⟨q1, q2⟩ := q); have f9 := num_len q1 q2; dsimp only [Raw.shown] at hret; (refine wpAny_call ?_; (k_dflt cell_enter); k_steps; all_goals (refine' hret _ _ _ _ ?ka ?kF ?kN; (case kF => k_asm); (case kN => k_asm); (case ka => first | exact fun p hp => hp | exact fun p hp => List.mem_cons_of_mem _ hp | exact fun p hp => List.mem_cons_of_mem _ (List.mem_cons_of_mem _ hp) | assumption)))
  case p h3 hd3 hz3 hl3 => obtain ⟨t, rfl⟩ := id hr; have g0 := Good.p (ty := ty) h3 hd3 hz3 hl3; (have q := Good.small g0 hi; simp only [Raw.num] at q; obtain ⟨q1, q2⟩ := q); have f9 := num_len q1 q2; dsimp only [Raw.shown] at hret; (refine wpAny_call ?_; (k_dflt cell_enter); k_steps; all_goals (refine' hret _ _ _ _ ?ka ?kF ?kN; (case kF => k_asm); (case kN => k_asm); (case ka => first | exact fun p hp => hp | exact fun p hp => List.mem_cons_of_mem _ hp | exact fun p hp => List.mem_cons_of_mem _ (List.mem_cons_of_mem _ hp) | assumption)))
end
end Mine
end

/-! T1 -/
section
open PySem PySem.W PyProof.Rows
set_option maxRecDepth 100000
set_option linter.unusedVariables false
namespace Mine
local macro_rules | `(tactic| k_room) => `(tactic| ktr_room)
local macro_rules | `(tactic| k_units) => `(tactic| ktr_units)
local macro_rules | `(tactic| k_all) => `(tactic| assumption)
local macro_rules | `(tactic| k_mem) => `(tactic| assumption)
local macro_rules | `(tactic| k_mem) => `(tactic| exact mem_up (by assumption) (by assumption))
local macro_rules | `(tactic| is_list) => `(tactic| exact News.isList (by k_asm) (by k_dflt k_mem))
section
variable {w : World} {p : Program} {loose : List Str} {mean : ExcName → Option Value} {mg mb : Str → Option Value} {dp un : Nat} {gd : Option (List Code)} {cn : Str} {cs : Scope} {a : Addr} {ccd : Value} {cl : List (Str × Addr)} {outer : List Env} {A₀ : Around} {base h₀ : Heap} {L : Addr} {m : Str → Option Value} {s : Shared} {Q E : Value → Shared → Prop} {news : List (Addr × Obj)}
local macro_rules | `(tactic| walk_at "subscriptTail") => `(tactic| (k_here; (with_reducible show wpAny _ _ (subscriptTail _ _ (Value.str _ _) (Value.int _ _)) _ _ _); refine t_item (by decide) (by assumption) (by assumption) ?_))
local macro_rules | `(tactic| walk_at "subscriptTail") => `(tactic| (k_here; (with_reducible show wpAny _ _ (subscriptTail _ (Expr.Slice (some _) none none _) (Value.str _ _) (Value.ref _)) _ _ _); (with_reducible rename Fr _ _ _ _ => F'); (with_reducible rename News _ _ _ _ => N'); (refine slice_strN_sn (hsz := ?hsz) (s := ⟨_, _, _, _, _⟩) F' N' ?_); (case hsz => exact fits60 (by assumption)); intro _ _ _ _ _))
local macro_rules | `(tactic| walk_at "subscriptTail") => `(tactic| (k_here; (with_reducible show wpAny _ _ (subscriptTail _ (Expr.Slice none (some _) none _) (Value.str _ _) (Value.ref _)) _ _ _); (with_reducible rename Fr _ _ _ _ => F'); (with_reducible rename News _ _ _ _ => N'); (refine slice_strN_ns (hsz := ?hsz) (s := ⟨_, _, _, _, _⟩) F' N' ?_); (case hsz => exact fits60 (by assumption)); intro _ _ _ _ _))
local macro_rules | `(tactic| walk_at "compareOp Eq str str") => `(tactic| (k_here; refine t_eq (by with_reducible assumption) ?_))
local macro_rules | `(tactic| walk_at "compareOp NotEq str str") => `(tactic| (k_here; first | refine t_ne_f (by with_reducible assumption) ?_ | refine t_ne_t (by with_reducible assumption) ?_))
local macro_rules | `(tactic| walk_at "binaryOp Add str str") => `(tactic| (k_here; (refine t_add (by first | assumption | decide +kernel) (by first | assumption | decide +kernel) ?_); intro _ _))
local macro_rules | `(tactic| walk_at "call type:str") => `(tactic| (k_here; (with_reducible show wpAny _ _ (call (Value.type "str") [Value.int _ _]) _ _ _); refine t_str (by omega) (by omega) ?_))
local macro_rules | `(tactic| walk_at "call type:int") => `(tactic| (k_here; (with_reducible show wpAny _ _ (call (Value.type "int") [Value.str _ _]) _ _ _); refine t_int (by with_reducible assumption) (by assumption) ?_))
local macro_rules | `(tactic| walk_at "call builtin:str.strip") => `(tactic| (k_here; (with_reducible show wpAny _ _ (call (Value.builtin "str.strip") [Value.str _ _, Value.str _ _]) _ _ _); (refine SC.stripChars ?_ (fits60 (by assumption))); intro _ _))
local macro_rules | `(tactic| walk_at "call builtin:str.lstrip") => `(tactic| (k_here; (with_reducible show wpAny _ _ (call (Value.builtin "str.lstrip") [Value.str _ _, Value.str _ _]) _ _ _); (refine SC.lstripChars ?_ (fits60 (by assumption))); intro _ _))
local macro_rules | `(tactic| walk_at "call builtin:dict.get") => `(tactic| (k_here; k_dflt (first
  | (refine' t_get_e ?k1 ?k2 ?k3 ?_; (case k1 => k_tabat); (case k2 => k_flat); (case k3 => assumption); k_whole)
  | (refine' t_get_n ?k1 ?k2 ?_; (case k1 => k_tabat); (case k2 => assumption); k_whole)); intro _))
local macro_rules | `(tactic| walk_at "compareOp Eq ref str") => `(tactic| (k_here; k_dflt (refine' eq_inst_str ?k1 ?k2 ?k3 ?k4 ?k5 ?k6 ?k7 ?_; (case k1 => ktr_units); (case k2 => k_in); (case k3 => k_inst); (case k4 => exact rfl); (case k5 => k_is); (case k6 => k_is); (case k7 => k_is); k_whole)))
set_option maxHeartbeats 8000000 in
theorem number_c {i : Nat} {H : Str} {ty : Int} {r : Raw} {tH tt : Tok} {v u : Value} {D : Addr} {rest : List Stmt} {Q : Flow → Shared → Prop} (g : Good i H ty r) (hi : i ≤ 27) (hr : Rep news r u) (B : Below A₀ base outer h₀) (X : (hd.heap_39 w.params).In h₀) (N : News h₀ L s.heap news) (T : Top p loose mean mg mb h₀) (hd : dp < 350) (hu : un < 500)
    (F : Fr h₀ L s.heap (fun z => if z = Str.ofString "due" then some u else lawM v H tH ty tt D m z))
    (hret : ∀ tn h' tk' news', (∀ p ∈ news, p ∈ news') → Fr h₀ L h' (fun z => if z = Str.ofString "number" then some (.int r.num tn) else if z = Str.ofString "due" then some u else lawM v H tH ty tt D m z) → News h₀ L h' news' → wpAny (model PySem.Challenge.rw_np0003_01.row.prog w) (ktrTop dp un gd cn lawScope L a ccd [] outer) (execs rest (envOf cn lawScope L a ccd)) Q E { s with heap := h', toks := tk' }) :
    wpAny (model PySem.Challenge.rw_np0003_01.row.prog w) (ktrTop dp un gd cn lawScope L a ccd [] outer) (execs (checkBody.getD 1 default :: checkBody.getD 2 default :: rest) (envOf cn lawScope L a ccd)) Q E s := by
  w_top off
  revert X
  k_fill
  intro X
  have e1 : checkBody.getD 1 default = checkBody.getD 1 default := rfl
  conv at e1 => rhs; whnf
  have e2 : checkBody.getD 2 default = checkBody.getD 2 default := rfl
  conv at e2 => rhs; whnf
  have e3 : lawScope = lawScope := rfl
  conv at e3 => rhs; whnf
  rw [e1, e2]
  rw [e3] at hret ⊢
  clear e1 e2 e3
  dsimp only [lawM] at F hret
  cases g
  case e h3 => obtain ⟨f1, f2⟩ := asks_e h3; cases hr; (k_steps; all_goals (refine' hret _ _ _ _ ?ka ?kF ?kN; (case kN => k_asm); (case ka => first | exact fun p hp => hp | exact fun p hp => List.mem_cons_of_mem _ hp | exact fun p hp => List.mem_cons_of_mem _ (List.mem_cons_of_mem _ hp)); (case kF => first | k_asm | exact fr_twice (by k_asm))))
  case u k neg h1 h2 h3 => have f0 := Good.short (.u (i := i) k neg h1 h2 h3) hi; obtain ⟨f1, f2, f3, f4, f5, f6, f7, f8⟩ := asks_u h3 f0; obtain ⟨x, dx, hs, tk, t, rfl, m1, m2⟩ := id hr; (k_steps; all_goals (refine' hret _ _ _ _ ?ka ?kF ?kN; (case kN => k_asm); (case ka => first | exact fun p hp => hp | exact fun p hp => List.mem_cons_of_mem _ hp | exact fun p hp => List.mem_cons_of_mem _ (List.mem_cons_of_mem _ hp)); (case kF => first | k_asm | exact fr_twice (by k_asm))))
  case m h3 hd3 hz3 hl3 => have f0 := Good.short (Good.m (ty := ty) h3 hd3 hz3 hl3) hi; obtain ⟨f1, f2, f3, f4, f5, f6, f7⟩ := asks_m h3 hd3 f0; replace f7 := f7.trans (decide_eq_true hz3); obtain ⟨t, rfl⟩ := id hr; (k_steps; all_goals (refine' hret _ _ _ _ ?ka ?kF ?kN; (case kN => k_asm); (case ka => first | exact fun p hp => hp | exact fun p hp => List.mem_cons_of_mem _ hp | exact fun p hp => List.mem_cons_of_mem _ (List.mem_cons_of_mem _ hp)); (case kF => first | k_asm | exact fr_twice (by k_asm))))
  case n h3 hd3 hz3 hl3 => have f0 := Good.short (Good.n (ty := ty) h3 hd3 hz3 hl3) hi; obtain ⟨f1, f2, f3, f4, f5, f6, f7⟩ := asks_m h3 hd3 f0; replace f7 := f7.trans (decide_eq_false (by omega)); have f8 := reads_n h3 hd3 hz3 f0; obtain ⟨t, rfl⟩ := id hr; (k_steps; all_goals (refine' hret _ _ _ _ ?ka ?kF ?kN; (case kN => k_asm); (case ka => first | exact fun p hp => hp | exact fun p hp => List.mem_cons_of_mem _ hp | exact fun p hp => List.mem_cons_of_mem _ (List.mem_cons_of_mem _ hp)); (case kF => first | k_asm | exact fr_twice (by k_asm))))
  case p h3 hd3 hz3 hl3 => have f0 := Good.short (Good.p (ty := ty) h3 hd3 hz3 hl3) hi; obtain ⟨f1, f2, f3, f4, f5, f6, f7⟩ := asks_p h3 hd3 hz3 f0; obtain ⟨t, rfl⟩ := id hr; (k_steps; all_goals (refine' hret _ _ _ _ ?ka ?kF ?kN; (case kN => k_asm); (case ka => first | exact fun p hp => hp | exact fun p hp => List.mem_cons_of_mem _ hp | exact fun p hp => List.mem_cons_of_mem _ (List.mem_cons_of_mem _ hp)); (case kF => first | k_asm | exact fr_twice (by k_asm))))
end
end Mine
end

/-! T3 -/
section
open PySem PySem.W PyProof.Rows
set_option maxRecDepth 100000
set_option linter.unusedVariables false
namespace Mine
local macro_rules | `(tactic| k_room) => `(tactic| ktr_room)
local macro_rules | `(tactic| k_units) => `(tactic| ktr_units)
local macro_rules | `(tactic| k_all) => `(tactic| assumption)
local macro_rules | `(tactic| k_mem) => `(tactic| assumption)
local macro_rules | `(tactic| k_mem) => `(tactic| exact mem_up (by assumption) (by assumption))
local macro_rules | `(tactic| is_list) => `(tactic| exact News.isList (by k_asm) (by k_dflt k_mem))
section
variable {w : World} {p : Program} {loose : List Str} {mean : ExcName → Option Value} {mg mb : Str → Option Value} {dp un : Nat} {gd : Option (List Code)} {cn : Str} {cs : Scope} {a : Addr} {ccd : Value} {cl : List (Str × Addr)} {outer : List Env} {A₀ : Around} {base h₀ : Heap} {L : Addr} {m : Str → Option Value} {s : Shared} {Q E : Value → Shared → Prop} {news : List (Addr × Obj)}
local macro_rules | `(tactic| walk_at "subscriptTail") => `(tactic| (k_here; (with_reducible show wpAny _ _ (subscriptTail _ _ (Value.str _ _) (Value.int _ _)) _ _ _); refine t_item (by decide) (by assumption) (by assumption) ?_))
local macro_rules | `(tactic| walk_at "subscriptTail") => `(tactic| (k_here; (with_reducible show wpAny _ _ (subscriptTail _ (Expr.Slice (some _) none none _) (Value.str _ _) (Value.ref _)) _ _ _); (with_reducible rename Fr _ _ _ _ => F'); (with_reducible rename News _ _ _ _ => N'); (refine slice_strN_sn (hsz := ?hsz) (s := ⟨_, _, _, _, _⟩) F' N' ?_); (case hsz => exact fits60 (by assumption)); intro _ _ _ _ _))
local macro_rules | `(tactic| walk_at "subscriptTail") => `(tactic| (k_here; (with_reducible show wpAny _ _ (subscriptTail _ (Expr.Slice none (some _) none _) (Value.str _ _) (Value.ref _)) _ _ _); (with_reducible rename Fr _ _ _ _ => F'); (with_reducible rename News _ _ _ _ => N'); (refine slice_strN_ns (hsz := ?hsz) (s := ⟨_, _, _, _, _⟩) F' N' ?_); (case hsz => exact fits60 (by assumption)); intro _ _ _ _ _))
local macro_rules | `(tactic| walk_at "compareOp Eq str str") => `(tactic| (k_here; refine t_eq (by with_reducible assumption) ?_))
local macro_rules | `(tactic| walk_at "compareOp NotEq str str") => `(tactic| (k_here; first | refine t_ne_f (by with_reducible assumption) ?_ | refine t_ne_t (by with_reducible assumption) ?_))
local macro_rules | `(tactic| walk_at "binaryOp Add str str") => `(tactic| (k_here; (refine t_add (by first | assumption | decide +kernel) (by first | assumption | decide +kernel) ?_); intro _ _))
local macro_rules | `(tactic| walk_at "call type:str") => `(tactic| (k_here; (with_reducible show wpAny _ _ (call (Value.type "str") [Value.int _ _]) _ _ _); refine t_str (by omega) (by omega) ?_))
local macro_rules | `(tactic| walk_at "call type:int") => `(tactic| (k_here; (with_reducible show wpAny _ _ (call (Value.type "int") [Value.str _ _]) _ _ _); refine t_int (by with_reducible assumption) (by assumption) ?_))
local macro_rules | `(tactic| walk_at "call builtin:str.strip") => `(tactic| (k_here; (with_reducible show wpAny _ _ (call (Value.builtin "str.strip") [Value.str _ _, Value.str _ _]) _ _ _); (refine SC.stripChars ?_ (fits60 (by assumption))); intro _ _))
local macro_rules | `(tactic| walk_at "call builtin:str.lstrip") => `(tactic| (k_here; (with_reducible show wpAny _ _ (call (Value.builtin "str.lstrip") [Value.str _ _, Value.str _ _]) _ _ _); (refine SC.lstripChars ?_ (fits60 (by assumption))); intro _ _))
local macro_rules | `(tactic| walk_at "call ref") => `(tactic| (k_here; (with_reducible show wpAny _ _ (call (Value.ref 70) _) _ _ _); k_dflt (refine' more_c ?k1 ?k2 ?k3 ?k4 ?k5 ?k6 ?k7 ?k8 ?k9 ?_; (case k1 => k_asm); (case k2 => k_asm); (case k3 => k_asm); (case k4 => k_asm); (case k5 => k_asm); (case k6 => first | exact rfl | assumption); (case k7 => ktr_room); (case k8 => ktr_units); (case k9 => first | assumption | exact Rep.mono (fun p hp => .tail _ hp) (by assumption) | exact Rep.mono (fun p hp => .tail _ hp) (Rep.mono (by assumption) (by assumption)) | exact Rep.mono (by assumption) (by assumption) | exact Rep.mono (by assumption) (Rep.mono (by assumption) (by assumption)) | exact Rep.mono (fun p hp => .tail _ (.tail _ hp)) (Rep.mono (by assumption) (by assumption)) | exact Rep.mono (fun p hp => .tail _ (.tail _ hp)) (Rep.mono (by assumption) (Rep.mono (by assumption) (by assumption)))); k_whole); intro v' news' h' tk' hs' hr' F' N'; (try dsimp only); (try k_sweep)))
set_option maxHeartbeats 8000000 in
theorem more_branch_c {i : Nat} {H : Str} {ty : Int} {r : Raw} {tH tt : Tok} {v : Value} {D : Addr} {Q : Flow → Shared → Prop} (g : Good i H ty r) (hi : i ≤ 26) (hr : Rep news r v) (B : Below A₀ base outer h₀) (X : (hd.heap_39 w.params).In h₀) (N : News h₀ L s.heap news) (T : Top p loose mean mg mb h₀) (hd : dp < 350) (hu : un < 500)
    (F : Fr h₀ L s.heap (lawM v H tH ty tt D m))
    (hret : ∀ h' tk' m' news' v' H' tH' ty' tt', (∀ p ∈ news, p ∈ news') → Rep news' r.more v' → Good (i + 1) H' ty' r.more → Fr h₀ L h' (lawM v' H' tH' ty' tt' D m') → News h₀ L h' news' → Q .next { s with heap := h', toks := tk' }) :
    wpAny (model PySem.Challenge.rw_np0003_01.row.prog w) (ktrTop dp un gd cn lawScope L a ccd [] outer) (execs moreBody (envOf cn lawScope L a ccd)) Q E s := by
  w_top off
  revert X
  k_fill
  intro X
  have e1 : moreBody = moreBody := rfl
  conv at e1 => rhs; whnf
  have e3 : lawScope = lawScope := rfl
  conv at e3 => rhs; whnf
  rw [e1, e3]
  clear e1 e3
  replace hi := Nat.le_succ_of_le hi
  delta lawM at F
  cases g
  case e h3 => obtain ⟨f1, f2⟩ := asks_e h3; (k_steps; all_goals (refine' hret _ _ _ _ _ _ _ _ _ ?ka ?kr ?kg ?kF ?kN; (case kN => k_asm); (case kF => (refine' fr_law ?fa ?fb ?fc ?fd ?fe; (case fa => k_asm); (case fb => with_unfolding_all exact rfl); (case fc => with_unfolding_all exact rfl); (case fd => with_unfolding_all exact rfl); (case fe => with_unfolding_all exact rfl))); (case kr => first | assumption | exact Rep.mono (fun p hp => .tail _ hp) (by assumption) | exact Rep.mono (fun p hp => .tail _ hp) (Rep.mono (by assumption) (by assumption)) | exact Rep.mono (by assumption) (by assumption) | exact Rep.mono (by assumption) (Rep.mono (by assumption) (by assumption)) | exact Rep.mono (fun p hp => .tail _ (.tail _ hp)) (Rep.mono (by assumption) (by assumption)) | exact Rep.mono (fun p hp => .tail _ (.tail _ hp)) (Rep.mono (by assumption) (Rep.mono (by assumption) (by assumption)))); (case kg => exact (Good.e (ty := ty) h3).up); (case ka => (intro p hp; repeat (first | exact hp | (refine mem_up (by assumption) ?_) | (refine List.mem_cons_of_mem _ ?_))))))
  case u k neg h1 h2 h3 => have f0 := Good.short (.u (i := i) k neg h1 h2 h3) hi; obtain ⟨f1, f2, f3, f4, f5, f6, f7, f8⟩ := asks_u h3 f0; (have nb := pow4_bound (k := k) (by omega)); (have na := pw_abs neg k); (have nl := num_len (n := pw neg k * 4) (by omega) (by omega)); (have nu : -(10 ^ 18 : Int) ≤ pw neg k ∧ pw neg k ≤ (10 ^ 18 : Int) := ⟨by omega, by omega⟩); (obtain ⟨nu1, nu2⟩ := nu); (k_steps; all_goals (refine' hret _ _ _ _ _ _ _ _ _ ?ka ?kr ?kg ?kF ?kN; (case kN => k_asm); (case kF => (refine' fr_law ?fa ?fb ?fc ?fd ?fe; (case fa => k_asm); (case fb => with_unfolding_all exact rfl); (case fc => with_unfolding_all exact rfl); (case fd => with_unfolding_all exact rfl); (case fe => with_unfolding_all exact rfl))); (case kr => first | assumption | exact Rep.mono (fun p hp => .tail _ hp) (by assumption) | exact Rep.mono (fun p hp => .tail _ hp) (Rep.mono (by assumption) (by assumption)) | exact Rep.mono (by assumption) (by assumption) | exact Rep.mono (by assumption) (Rep.mono (by assumption) (by assumption)) | exact Rep.mono (fun p hp => .tail _ (.tail _ hp)) (Rep.mono (by assumption) (by assumption)) | exact Rep.mono (fun p hp => .tail _ (.tail _ hp)) (Rep.mono (by assumption) (Rep.mono (by assumption) (by assumption)))); (case kg => exact Good.more_u h1 h2); (case ka => (intro p hp; repeat (first | exact hp | (refine mem_up (by assumption) ?_) | (refine List.mem_cons_of_mem _ ?_))))))
  case m h3 hd3 hz3 hl3 => have f0 := Good.short (Good.m (ty := ty) h3 hd3 hz3 hl3) hi; obtain ⟨f1, f2, f3, f4, f5, f6, f7⟩ := asks_m h3 hd3 f0; replace f7 := f7.trans (decide_eq_true hz3); (k_steps; all_goals (refine' hret _ _ _ _ _ _ _ _ _ ?ka ?kr ?kg ?kF ?kN; (case kN => k_asm); (case kF => (refine' fr_law ?fa ?fb ?fc ?fd ?fe; (case fa => k_asm); (case fb => with_unfolding_all exact rfl); (case fc => with_unfolding_all exact rfl); (case fd => with_unfolding_all exact rfl); (case fe => with_unfolding_all exact rfl))); (case kr => first | assumption | exact Rep.mono (fun p hp => .tail _ hp) (by assumption) | exact Rep.mono (fun p hp => .tail _ hp) (Rep.mono (by assumption) (by assumption)) | exact Rep.mono (by assumption) (by assumption) | exact Rep.mono (by assumption) (Rep.mono (by assumption) (by assumption)) | exact Rep.mono (fun p hp => .tail _ (.tail _ hp)) (Rep.mono (by assumption) (by assumption)) | exact Rep.mono (fun p hp => .tail _ (.tail _ hp)) (Rep.mono (by assumption) (Rep.mono (by assumption) (by assumption)))); (case kg => exact Good.more_m); (case ka => (intro p hp; repeat (first | exact hp | (refine mem_up (by assumption) ?_) | (refine List.mem_cons_of_mem _ ?_))))))
  case n h3 hd3 hz3 hl3 => have f0 := Good.short (Good.n (ty := ty) h3 hd3 hz3 hl3) hi; obtain ⟨f1, f2, f3, f4, f5, f6, f7⟩ := asks_m h3 hd3 f0; replace f7 := f7.trans (decide_eq_false (by omega)); have f8 := reads_n h3 hd3 hz3 f0; (k_steps; all_goals (refine' hret _ _ _ _ _ _ _ _ _ ?ka ?kr ?kg ?kF ?kN; (case kN => k_asm); (case kF => (refine' fr_law ?fa ?fb ?fc ?fd ?fe; (case fa => k_asm); (case fb => with_unfolding_all exact rfl); (case fc => with_unfolding_all exact rfl); (case fd => with_unfolding_all exact rfl); (case fe => with_unfolding_all exact rfl))); (case kr => first | assumption | exact Rep.mono (fun p hp => .tail _ hp) (by assumption) | exact Rep.mono (fun p hp => .tail _ hp) (Rep.mono (by assumption) (by assumption)) | exact Rep.mono (by assumption) (by assumption) | exact Rep.mono (by assumption) (Rep.mono (by assumption) (by assumption)) | exact Rep.mono (fun p hp => .tail _ (.tail _ hp)) (Rep.mono (by assumption) (by assumption)) | exact Rep.mono (fun p hp => .tail _ (.tail _ hp)) (Rep.mono (by assumption) (Rep.mono (by assumption) (by assumption)))); (case kg => exact (Good.n (ty := ty) h3 hd3 hz3 hl3).up); (case ka => (intro p hp; repeat (first | exact hp | (refine mem_up (by assumption) ?_) | (refine List.mem_cons_of_mem _ ?_))))))
  case p h3 hd3 hz3 hl3 => have f0 := Good.short (Good.p (ty := ty) h3 hd3 hz3 hl3) hi; obtain ⟨f1, f2, f3, f4, f5, f6, f7⟩ := asks_p h3 hd3 hz3 f0; (cases hst : (Txt.stripChars H (Str.ofString "-0") == Str.ofString "")); (· (k_steps; all_goals (refine' hret _ _ _ _ _ _ _ _ _ ?ka ?kr ?kg ?kF ?kN; (case kN => k_asm); (case kF => (refine' fr_law ?fa ?fb ?fc ?fd ?fe; (case fa => k_asm); (case fb => with_unfolding_all exact rfl); (case fc => with_unfolding_all exact rfl); (case fd => with_unfolding_all exact rfl); (case fe => with_unfolding_all exact rfl))); (case kr => first | assumption | exact Rep.mono (fun p hp => .tail _ hp) (by assumption) | exact Rep.mono (fun p hp => .tail _ hp) (Rep.mono (by assumption) (by assumption)) | exact Rep.mono (by assumption) (by assumption) | exact Rep.mono (by assumption) (Rep.mono (by assumption) (by assumption)) | exact Rep.mono (fun p hp => .tail _ (.tail _ hp)) (Rep.mono (by assumption) (by assumption)) | exact Rep.mono (fun p hp => .tail _ (.tail _ hp)) (Rep.mono (by assumption) (Rep.mono (by assumption) (by assumption)))); (case kg => exact (Good.p (ty := ty) h3 hd3 hz3 hl3).up); (case ka => (intro p hp; repeat (first | exact hp | (refine mem_up (by assumption) ?_) | (refine List.mem_cons_of_mem _ ?_))))))); (· (k_steps; all_goals (refine' hret _ _ _ _ _ _ _ _ _ ?ka ?kr ?kg ?kF ?kN; (case kN => k_asm); (case kF => (refine' fr_law ?fa ?fb ?fc ?fd ?fe; (case fa => k_asm); (case fb => with_unfolding_all exact rfl); (case fc => with_unfolding_all exact rfl); (case fd => with_unfolding_all exact rfl); (case fe => with_unfolding_all exact rfl))); (case kr => first | assumption | exact Rep.mono (fun p hp => .tail _ hp) (by assumption) | exact Rep.mono (fun p hp => .tail _ hp) (Rep.mono (by assumption) (by assumption)) | exact Rep.mono (by assumption) (by assumption) | exact Rep.mono (by assumption) (Rep.mono (by assumption) (by assumption)) | exact Rep.mono (fun p hp => .tail _ (.tail _ hp)) (Rep.mono (by assumption) (by assumption)) | exact Rep.mono (fun p hp => .tail _ (.tail _ hp)) (Rep.mono (by assumption) (Rep.mono (by assumption) (by assumption)))); (case kg => exact (Good.p (ty := ty) h3 hd3 hz3 hl3).up); (case ka => (intro p hp; repeat (first | exact hp | (refine mem_up (by assumption) ?_) | (refine List.mem_cons_of_mem _ ?_)))))))
end
end Mine
end

/-! T2 -/
section
open PySem PySem.W PyProof.Rows
set_option maxRecDepth 100000
set_option linter.unusedVariables false
namespace Mine
local macro_rules | `(tactic| k_room) => `(tactic| ktr_room)
local macro_rules | `(tactic| k_units) => `(tactic| ktr_units)
local macro_rules | `(tactic| k_all) => `(tactic| assumption)
local macro_rules | `(tactic| k_mem) => `(tactic| assumption)
local macro_rules | `(tactic| k_mem) => `(tactic| exact mem_up (by assumption) (by assumption))
local macro_rules | `(tactic| is_list) => `(tactic| exact News.isList (by k_asm) (by k_dflt k_mem))
section
variable {w : World} {p : Program} {loose : List Str} {mean : ExcName → Option Value} {mg mb : Str → Option Value} {dp un : Nat} {gd : Option (List Code)} {cn : Str} {cs : Scope} {a : Addr} {ccd : Value} {cl : List (Str × Addr)} {outer : List Env} {A₀ : Around} {base h₀ : Heap} {L : Addr} {m : Str → Option Value} {s : Shared} {Q E : Value → Shared → Prop} {news : List (Addr × Obj)}
local macro_rules | `(tactic| walk_at "subscriptTail") => `(tactic| (k_here; (with_reducible show wpAny _ _ (subscriptTail _ _ (Value.str _ _) (Value.int _ _)) _ _ _); refine t_item (by decide) (by assumption) (by assumption) ?_))
local macro_rules | `(tactic| walk_at "subscriptTail") => `(tactic| (k_here; (with_reducible show wpAny _ _ (subscriptTail _ (Expr.Slice (some _) none none _) (Value.str _ _) (Value.ref _)) _ _ _); (with_reducible rename Fr _ _ _ _ => F'); (with_reducible rename News _ _ _ _ => N'); (refine slice_strN_sn (hsz := ?hsz) (s := ⟨_, _, _, _, _⟩) F' N' ?_); (case hsz => exact fits60 (by assumption)); intro _ _ _ _ _))
local macro_rules | `(tactic| walk_at "subscriptTail") => `(tactic| (k_here; (with_reducible show wpAny _ _ (subscriptTail _ (Expr.Slice none (some _) none _) (Value.str _ _) (Value.ref _)) _ _ _); (with_reducible rename Fr _ _ _ _ => F'); (with_reducible rename News _ _ _ _ => N'); (refine slice_strN_ns (hsz := ?hsz) (s := ⟨_, _, _, _, _⟩) F' N' ?_); (case hsz => exact fits60 (by assumption)); intro _ _ _ _ _))
local macro_rules | `(tactic| walk_at "compareOp Eq str str") => `(tactic| (k_here; refine t_eq (by with_reducible assumption) ?_))
local macro_rules | `(tactic| walk_at "compareOp NotEq str str") => `(tactic| (k_here; first | refine t_ne_f (by with_reducible assumption) ?_ | refine t_ne_t (by with_reducible assumption) ?_))
local macro_rules | `(tactic| walk_at "binaryOp Add str str") => `(tactic| (k_here; (refine t_add (by first | assumption | decide +kernel) (by first | assumption | decide +kernel) ?_); intro _ _))
local macro_rules | `(tactic| walk_at "call type:str") => `(tactic| (k_here; (with_reducible show wpAny _ _ (call (Value.type "str") [Value.int _ _]) _ _ _); refine t_str (by omega) (by omega) ?_))
local macro_rules | `(tactic| walk_at "call type:int") => `(tactic| (k_here; (with_reducible show wpAny _ _ (call (Value.type "int") [Value.str _ _]) _ _ _); refine t_int (by with_reducible assumption) (by assumption) ?_))
local macro_rules | `(tactic| walk_at "call builtin:str.strip") => `(tactic| (k_here; (with_reducible show wpAny _ _ (call (Value.builtin "str.strip") [Value.str _ _, Value.str _ _]) _ _ _); (refine SC.stripChars ?_ (fits60 (by assumption))); intro _ _))
local macro_rules | `(tactic| walk_at "call builtin:str.lstrip") => `(tactic| (k_here; (with_reducible show wpAny _ _ (call (Value.builtin "str.lstrip") [Value.str _ _, Value.str _ _]) _ _ _); (refine SC.lstripChars ?_ (fits60 (by assumption))); intro _ _))
local macro_rules | `(tactic| walk_at "call ref") => `(tactic| (k_here; (with_reducible show wpAny _ _ (call (Value.ref 126) _) _ _ _); k_dflt (refine' law_raw_c ?k1 ?k2 ?k3 ?k4 ?k5 ?k6 ?k7 ?k8 ?k9 ?k10 ?_; (case k1 => k_asm); (case k2 => k_asm); (case k3 => k_asm); (case k4 => k_asm); (case k5 => k_asm); (case k6 => first | exact rfl | assumption); (case k7 => ktr_room); (case k8 => ktr_units); (case k9 => assumption); (case k10 => assumption); k_whole); intro v' news' h' tk' hs' hr' F' N'; (try dsimp only); (try k_sweep)))
local macro_rules | `(tactic| walk_at "call ref") => `(tactic| (k_here; (with_reducible show wpAny _ _ (call (Value.ref 56) _) _ _ _); k_dflt (refine' numeric_c ?k1 ?k2 ?k3 ?k4 ?k5 ?k6 ?k7 ?k8 ?k9 ?_; (case k1 => k_asm); (case k2 => k_asm); (case k3 => k_asm); (case k4 => k_asm); (case k5 => k_asm); (case k6 => first | exact rfl | assumption); (case k7 => ktr_room); (case k8 => ktr_units); (case k9 => first | assumption | exact Rep.mono (fun p hp => .tail _ hp) (by assumption) | exact Rep.mono (fun p hp => .tail _ hp) (Rep.mono (by assumption) (by assumption)) | exact Rep.mono (by assumption) (by assumption) | exact Rep.mono (by assumption) (Rep.mono (by assumption) (by assumption)) | exact Rep.mono (fun p hp => .tail _ (.tail _ hp)) (Rep.mono (by assumption) (by assumption)) | exact Rep.mono (fun p hp => .tail _ (.tail _ hp)) (Rep.mono (by assumption) (Rep.mono (by assumption) (by assumption)))); k_whole); intro t' h' tk' F' N'; (try dsimp only); (try k_sweep)))
local macro_rules | `(tactic| walk_at "call ref") => `(tactic| (k_here; (with_reducible show wpAny _ _ (call (Value.ref 91) _) _ _ _); k_dflt (refine' goes_on_c ?k1 ?k2 ?k3 ?k4 ?k5 ?k6 ?k7 ?k8 ?k9 ?_; (case k1 => k_asm); (case k2 => k_asm); (case k3 => k_asm); (case k4 => k_asm); (case k5 => k_asm); (case k6 => first | exact rfl | assumption); (case k7 => ktr_room); (case k8 => ktr_units); (case k9 => first | assumption | exact Rep.mono (fun p hp => .tail _ hp) (by assumption) | exact Rep.mono (fun p hp => .tail _ hp) (Rep.mono (by assumption) (by assumption)) | exact Rep.mono (by assumption) (by assumption) | exact Rep.mono (by assumption) (Rep.mono (by assumption) (by assumption)) | exact Rep.mono (fun p hp => .tail _ (.tail _ hp)) (Rep.mono (by assumption) (by assumption)) | exact Rep.mono (fun p hp => .tail _ (.tail _ hp)) (Rep.mono (by assumption) (Rep.mono (by assumption) (by assumption)))); k_whole); intro h' tk' F' N'; (try dsimp only); (try k_sweep)))
local macro_rules | `(tactic| walk_at "call ref") => `(tactic| (k_here; (with_reducible show wpAny _ _ (call (Value.ref 98) _) _ _ _); k_dflt (refine' same_eq_c ?k1 ?k2 ?k3 ?k4 ?k5 ?k6 ?k7 ?k8 ?k9 ?k10 ?_; (case k1 => k_asm); (case k2 => k_asm); (case k3 => k_asm); (case k4 => k_asm); (case k5 => k_asm); (case k6 => first | exact rfl | assumption); (case k7 => ktr_room); (case k8 => ktr_units); (case k9 => first | assumption | exact Rep.mono (fun p hp => .tail _ hp) (by assumption) | exact Rep.mono (fun p hp => .tail _ hp) (Rep.mono (by assumption) (by assumption)) | exact Rep.mono (by assumption) (by assumption) | exact Rep.mono (by assumption) (Rep.mono (by assumption) (by assumption)) | exact Rep.mono (fun p hp => .tail _ (.tail _ hp)) (Rep.mono (by assumption) (by assumption)) | exact Rep.mono (fun p hp => .tail _ (.tail _ hp)) (Rep.mono (by assumption) (Rep.mono (by assumption) (by assumption)))); (case k10 => first | assumption | exact Rep.mono (fun p hp => .tail _ hp) (by assumption) | exact Rep.mono (fun p hp => .tail _ hp) (Rep.mono (by assumption) (by assumption)) | exact Rep.mono (by assumption) (by assumption) | exact Rep.mono (by assumption) (Rep.mono (by assumption) (by assumption)) | exact Rep.mono (fun p hp => .tail _ (.tail _ hp)) (Rep.mono (by assumption) (by assumption)) | exact Rep.mono (fun p hp => .tail _ (.tail _ hp)) (Rep.mono (by assumption) (Rep.mono (by assumption) (by assumption)))); k_whole); intro h' tk' F' N'; (try dsimp only); (try k_sweep)))
local macro_rules | `(tactic| walk_at "call ref") => `(tactic| (k_here; (with_reducible show wpAny _ _ (call (Value.ref 98) _) _ _ _); k_dflt (refine' same_ne_c ?k1 ?k2 ?k3 ?k4 ?k5 ?k6 ?k7 ?k8 ?k9 ?k10 ?k11 ?_; (case k1 => k_asm); (case k2 => k_asm); (case k3 => k_asm); (case k4 => k_asm); (case k5 => k_asm); (case k6 => first | exact rfl | assumption); (case k7 => ktr_room); (case k8 => ktr_units); (case k9 => first | assumption | exact Rep.mono (fun p hp => .tail _ hp) (by assumption) | exact Rep.mono (fun p hp => .tail _ hp) (Rep.mono (by assumption) (by assumption)) | exact Rep.mono (by assumption) (by assumption) | exact Rep.mono (by assumption) (Rep.mono (by assumption) (by assumption)) | exact Rep.mono (fun p hp => .tail _ (.tail _ hp)) (Rep.mono (by assumption) (by assumption)) | exact Rep.mono (fun p hp => .tail _ (.tail _ hp)) (Rep.mono (by assumption) (Rep.mono (by assumption) (by assumption)))); (case k11 => exact ⟨_, _, _, _, _, rfl, .head _, .tail _ (.head _)⟩); (case k10 => exact rfl); k_whole); intro h' tk' F' N'; (try dsimp only); (try k_sweep)))
local macro_rules | `(tactic| walk_at "call ref") => `(tactic| (k_here; (with_reducible show wpAny _ _ (call (Value.ref 112) _) _ _ _); k_dflt (refine' prefix_text_c ?k1 ?k2 ?k3 ?k4 ?k5 ?k6 ?k7 ?k8 ?k9 ?k10 ?k11 ?_; (case k1 => k_asm); (case k2 => k_asm); (case k3 => k_asm); (case k4 => k_asm); (case k5 => k_asm); (case k6 => first | exact rfl | assumption); (case k7 => ktr_room); (case k8 => ktr_units); (case k9 => assumption); (case k10 => assumption); (case k11 => first | assumption | exact Rep.mono (fun p hp => .tail _ hp) (by assumption) | exact Rep.mono (fun p hp => .tail _ hp) (Rep.mono (by assumption) (by assumption)) | exact Rep.mono (by assumption) (by assumption) | exact Rep.mono (by assumption) (Rep.mono (by assumption) (by assumption)) | exact Rep.mono (fun p hp => .tail _ (.tail _ hp)) (Rep.mono (by assumption) (by assumption)) | exact Rep.mono (fun p hp => .tail _ (.tail _ hp)) (Rep.mono (by assumption) (Rep.mono (by assumption) (by assumption)))); k_whole); intro t' h' tk' news' hs' F' N'; (try dsimp only); (try k_sweep)))
local macro_rules | `(tactic| walk_at "call ref") => `(tactic| (k_here; (with_reducible show wpAny _ _ (call (Value.ref 147) _) _ _ _); k_dflt (refine' law_shown_c ?k1 ?k2 ?k3 ?k4 ?k5 ?k6 ?k7 ?k8 ?k9 ?k10 ?_; (case k1 => k_asm); (case k2 => k_asm); (case k3 => k_asm); (case k4 => k_asm); (case k5 => k_asm); (case k6 => first | exact rfl | assumption); (case k7 => ktr_room); (case k8 => ktr_units); (case k9 => assumption); (case k10 => assumption); k_whole); intro t' h' tk' news' hs' F' N'; (try dsimp only); (try k_sweep)))
local macro_rules | `(tactic| walk_at "execs cons") => `(tactic| (k_here; (with_reducible show wpAny _ _ (execs (Stmt.Assign [Expr.Name (Str.ofString "number") _] _ _ :: _ :: _) _) _ _ _); k_dflt (refine' number_c ?k1 ?k2 ?k3 ?k4 ?k5 ?k6 ?k7 ?k8 ?k9 ?k10 ?_; (case k1 => assumption); (case k2 => assumption); (case k4 => k_asm); (case k5 => k_asm); (case k6 => k_asm); (case k7 => k_asm); (case k8 => assumption); (case k9 => assumption); (case k10 => k_asm); (case k3 => assumption); k_whole); intro tn h' tk' news' hs' F' N'; (try dsimp only); (try k_sweep)))
local macro_rules | `(tactic| walk_at "compareOp NotEq int int") => `(tactic| (k_here; refine i_ne_same rfl ?_))
local macro_rules | `(tactic| walk_at "compareOp NotEq bool bool") => `(tactic| (k_here; refine b_ne_same rfl ?_))
local macro_rules | `(tactic| walk_at "compareOp NotEq str str") => `(tactic| (k_here; refine t_ne_t (beq_self_eq_true _) ?_))
set_option maxHeartbeats 8000000 in
theorem check_c {i : Nat} {H : Str} {ty : Int} {r : Raw} {tH tt : Tok} {v : Value} {D : Addr} {Q : Flow → Shared → Prop} (g : Good i H ty r) (hi : i ≤ 27) (hr : Rep news r v) (B : Below A₀ base outer h₀) (X : (hd.heap_39 w.params).In h₀) (N : News h₀ L s.heap news) (T : Top p loose mean mg mb h₀) (hd : dp < 350) (hu : un < 500)
    (F : Fr h₀ L s.heap (lawM v H tH ty tt D m))
    (hret : ∀ h' tk' m' news', (∀ p ∈ news, p ∈ news') → Fr h₀ L h' m' → News h₀ L h' news' → m' (Str.ofString "raw") = some v → m' (Str.ofString "heard") = some (.str H tH) → m' (Str.ofString "typed") = some (.int ty tt) → m' (Str.ofString "deck") = some (.ref D) → Q .next { s with heap := h', toks := tk' }) :
    wpAny (model PySem.Challenge.rw_np0003_01.row.prog w) (ktrTop dp un gd cn lawScope L a ccd [] outer) (execs checkBody (envOf cn lawScope L a ccd)) Q E s := by
  w_top off
  revert X
  k_fill
  intro X
  have e1 : checkBody = checkBody := rfl
  conv at e1 => rhs; whnf
  have e3 : lawScope = lawScope := rfl
  conv at e3 => rhs; whnf
  rw [e1, e3]
  clear e1 e3
  have hf := first_fact g hi
  have hs := g.short hi
  have hq := g.small hi
  obtain ⟨hq1, hq2⟩ := hq
  delta lawM at F
  k_steps
  all_goals (refine' hret _ _ _ _ ?ka ?kF ?kN ?k1 ?k2 ?k3 ?k4; (case kN => k_asm); (case kF => k_asm); (case k1 => exact rfl); (case k2 => exact rfl); (case k3 => exact rfl); (case k4 => exact rfl); (case ka => (intro p hp; repeat (first | exact hp | (refine mem_up (by assumption) ?_) | (refine List.mem_cons_of_mem _ ?_)))))
end
end Mine
end

/-! T4 -/
section
open PySem PySem.W PyProof.Rows
set_option maxRecDepth 100000
set_option linter.unusedVariables false
namespace Mine
local macro_rules | `(tactic| k_room) => `(tactic| ktr_room)
local macro_rules | `(tactic| k_units) => `(tactic| ktr_units)
local macro_rules | `(tactic| k_all) => `(tactic| assumption)
local macro_rules | `(tactic| k_mem) => `(tactic| assumption)
local macro_rules | `(tactic| k_mem) => `(tactic| exact mem_up (by assumption) (by assumption))
local macro_rules | `(tactic| is_list) => `(tactic| exact News.isList (by k_asm) (by k_dflt k_mem))
section
variable {w : World} {p : Program} {loose : List Str} {mean : ExcName → Option Value} {mg mb : Str → Option Value} {dp un : Nat} {gd : Option (List Code)} {cn : Str} {cs : Scope} {a : Addr} {ccd : Value} {cl : List (Str × Addr)} {outer : List Env} {A₀ : Around} {base h₀ : Heap} {L : Addr} {m : Str → Option Value} {s : Shared} {Q E : Value → Shared → Prop} {news : List (Addr × Obj)}
local macro_rules | `(tactic| walk_at "call ref") => `(tactic| (k_here; (with_reducible show wpAny _ _ (call (Value.ref 119) _) _ _ _); k_dflt (refine' draw_c ?k1 ?k2 ?k3 ?k4 ?k5 ?k6 ?k7 ?k8 ?k9 ?k10 ?k11 ?k12 ?k13 ?k14 ?k15 ?k16 ?_; (case k1 => k_asm); (case k2 => k_asm); (case k3 => k_asm); (case k4 => k_asm); (case k5 => k_asm); (case k6 => first | exact rfl | assumption); (case k7 => ktr_room); (case k8 => ktr_units); (case k9 => omega); (case k10 => omega); (case k11 => omega); (case k12 => omega); (case k13 => assumption); (case k14 => assumption); (case k15 => assumption); (case k16 => assumption); k_whole); intro r t tn' h' tk' kk' hr0 hr1 F' N'; (try dsimp only); (try k_sweep)))
local macro_rules | `(tactic| walk_at "call ref") => `(tactic| (k_here; (with_reducible show wpAny _ _ (call (Value.ref 63) _) _ _ _); k_dflt (refine' begun_c ?k1 ?k2 ?k3 ?k4 ?k5 ?k6 ?k7 ?k8 ?_; (case k1 => k_asm); (case k2 => k_asm); (case k3 => k_asm); (case k4 => k_asm); (case k5 => k_asm); (case k6 => first | exact rfl | assumption); (case k7 => ktr_room); (case k8 => ktr_units); k_whole); intro v' news' h' tk' hs' hr' F' N'; (try dsimp only); (try k_sweep)))
local macro_rules | `(tactic| walk_at "call ref") => `(tactic| (k_here; (with_reducible show wpAny _ _ (call (Value.ref 77) _) _ _ _); k_dflt (refine' with_digit_c ?k1 ?k2 ?k3 ?k4 ?k5 ?k6 ?k7 ?k8 ?k9 ?k10 ?k11 ?k12 ?k13 ?_; (case k1 => k_asm); (case k2 => k_asm); (case k3 => k_asm); (case k4 => k_asm); (case k5 => k_asm); (case k6 => first | exact rfl | assumption); (case k7 => ktr_room); (case k8 => ktr_units); (case k9 => first | assumption | exact Rep.mono (fun p hp => .tail _ hp) (by assumption) | exact Rep.mono (fun p hp => .tail _ hp) (Rep.mono (by assumption) (by assumption)) | exact Rep.mono (by assumption) (by assumption) | exact Rep.mono (by assumption) (Rep.mono (by assumption) (by assumption)) | exact Rep.mono (fun p hp => .tail _ (.tail _ hp)) (Rep.mono (by assumption) (by assumption)) | exact Rep.mono (fun p hp => .tail _ (.tail _ hp)) (Rep.mono (by assumption) (Rep.mono (by assumption) (by assumption)))); (case k10 => omega); (case k11 => omega); (case k12 => assumption); (case k13 => assumption); k_whole); intro v' h' tk' hr' F' N'; (try dsimp only); (try k_sweep)))
local macro_rules | `(tactic| walk_at "call ref") => `(tactic| (k_here; (with_reducible show wpAny _ _ (call (Value.ref 84) _) _ _ _); k_dflt (refine' negated_c ?k1 ?k2 ?k3 ?k4 ?k5 ?k6 ?k7 ?k8 ?k9 ?k10 ?k11 ?_; (case k1 => k_asm); (case k2 => k_asm); (case k3 => k_asm); (case k4 => k_asm); (case k5 => k_asm); (case k6 => first | exact rfl | assumption); (case k7 => ktr_room); (case k8 => ktr_units); (case k9 => first | assumption | exact Rep.mono (fun p hp => .tail _ hp) (by assumption) | exact Rep.mono (fun p hp => .tail _ hp) (Rep.mono (by assumption) (by assumption)) | exact Rep.mono (by assumption) (by assumption) | exact Rep.mono (by assumption) (Rep.mono (by assumption) (by assumption)) | exact Rep.mono (fun p hp => .tail _ (.tail _ hp)) (Rep.mono (by assumption) (by assumption)) | exact Rep.mono (fun p hp => .tail _ (.tail _ hp)) (Rep.mono (by assumption) (Rep.mono (by assumption) (by assumption)))); (case k10 => assumption); (case k11 => assumption); k_whole); intro v' h' tk' hr' F' N'; (try dsimp only); (try k_sweep)))
local macro_rules | `(tactic| walk_at "call ref") => `(tactic| (k_here; (with_reducible show wpAny _ _ (call (Value.ref 133) _) _ _ _); k_dflt (refine' law_digit_c ?k1 ?k2 ?k3 ?k4 ?k5 ?k6 ?k7 ?k8 ?k9 ?k10 ?k11 ?k12 ?_; (case k1 => k_asm); (case k2 => k_asm); (case k3 => k_asm); (case k4 => k_asm); (case k5 => k_asm); (case k6 => first | exact rfl | assumption); (case k7 => ktr_room); (case k8 => ktr_units); (case k9 => assumption); (case k10 => assumption); (case k11 => omega); (case k12 => omega); k_whole); intro x' t' h' tk' hg' F' N'; (try dsimp only); (try k_sweep)))
local macro_rules | `(tactic| walk_at "call ref") => `(tactic| (k_here; (with_reducible show wpAny _ _ (call (Value.ref 140) _) _ _ _); k_dflt (refine' law_turned_c ?k1 ?k2 ?k3 ?k4 ?k5 ?k6 ?k7 ?k8 ?k9 ?k10 ?_; (case k1 => k_asm); (case k2 => k_asm); (case k3 => k_asm); (case k4 => k_asm); (case k5 => k_asm); (case k6 => first | exact rfl | assumption); (case k7 => ktr_room); (case k8 => ktr_units); (case k9 => assumption); (case k10 => assumption); k_whole); intro x' t' h' tk' hg' F' N'; (try dsimp only); (try k_sweep)))
local macro_rules | `(tactic| walk_at "execs cons") => `(tactic| (k_here; (with_reducible show wpAny _ _ (execs (Stmt.Assign [Expr.Name (Str.ofString "raw") _] (Expr.Call (Expr.Name (Str.ofString "more") _) _ _ _) _ :: _) _) _ _ _); k_dflt (refine' more_branch_c ?k1 ?k2 ?k3 ?k4 ?k5 ?k6 ?k7 ?k8 ?k9 ?k10 ?_; (case k4 => k_asm); (case k5 => k_asm); (case k6 => k_asm); (case k7 => k_asm); (case k8 => ktr_room); (case k9 => ktr_units); (case k10 => (refine' fr_law ?fa ?fb ?fc ?fd ?fe; (case fa => k_asm); (case fb => with_unfolding_all exact rfl); (case fc => with_unfolding_all exact rfl); (case fd => with_unfolding_all exact rfl); (case fe => with_unfolding_all exact rfl))); (case k3 => first | assumption | exact Rep.mono (fun p hp => .tail _ hp) (by assumption) | exact Rep.mono (fun p hp => .tail _ hp) (Rep.mono (by assumption) (by assumption)) | exact Rep.mono (by assumption) (by assumption) | exact Rep.mono (by assumption) (Rep.mono (by assumption) (by assumption)) | exact Rep.mono (fun p hp => .tail _ (.tail _ hp)) (Rep.mono (by assumption) (by assumption)) | exact Rep.mono (fun p hp => .tail _ (.tail _ hp)) (Rep.mono (by assumption) (Rep.mono (by assumption) (by assumption)))); (case k1 => assumption); (case k2 => assumption); k_whole); intro h' tk' m' news' v' H' tH' ty' tt' hs' hr' hg' F' N'; (delta lawM at F'); (try dsimp only); (try k_sweep)))
local macro_rules | `(tactic| walk_at "execs cons") => `(tactic| (k_here; (with_reducible show wpAny _ _ (execs (Stmt.Assign [Expr.Name (Str.ofString "due") _] _ _ :: _) _) _ _ _); k_dflt (refine' check_c ?k1 ?k2 ?k3 ?k4 ?k5 ?k6 ?k7 ?k8 ?k9 ?k10 ?_; (case k4 => k_asm); (case k5 => k_asm); (case k6 => k_asm); (case k7 => k_asm); (case k8 => ktr_room); (case k9 => ktr_units); (case k10 => (refine' fr_law ?fa ?fb ?fc ?fd ?fe; (case fa => k_asm); (case fb => with_unfolding_all exact rfl); (case fc => with_unfolding_all exact rfl); (case fd => with_unfolding_all exact rfl); (case fe => with_unfolding_all exact rfl))); (case k3 => first | assumption | exact Rep.mono (fun p hp => .tail _ hp) (by assumption) | exact Rep.mono (fun p hp => .tail _ hp) (Rep.mono (by assumption) (by assumption)) | exact Rep.mono (by assumption) (by assumption) | exact Rep.mono (by assumption) (Rep.mono (by assumption) (by assumption)) | exact Rep.mono (fun p hp => .tail _ (.tail _ hp)) (Rep.mono (by assumption) (by assumption)) | exact Rep.mono (fun p hp => .tail _ (.tail _ hp)) (Rep.mono (by assumption) (Rep.mono (by assumption) (by assumption)))); (case k1 => assumption); (case k2 => assumption); k_whole); intro h' tk' m' news' hs' F' N' e1 e2 e3 e4; (try dsimp only); (try k_sweep)))
set_option maxHeartbeats 8000000 in
theorem turn_c {i : Nat} {H : Str} {ty : Int} {r : Raw} {tH tt : Tok} {v : Value} {D Cl : Addr} {n : Int} {tn : Tok} {vs : List Value} {ns : List Int} {k kk : Nat} {rest : List (Addr × Obj)} {Q : Flow → Shared → Prop}
    (g : Good i H ty r) (hi : i ≤ 26) (hr : Rep rest r v) (hn0 : 0 ≤ n) (hn1 : n ≤ 900) (hD : ∀ p ∈ rest, p.1 ≠ D) (hC : (Cl, listOf vs.toArray k) ∈ rest) (hI : IntsAre vs ns) (hl : ns.length ≤ 63) (B : Below A₀ base outer h₀) (X : (hd.heap_39 w.params).In h₀) (T : Top p loose mean mg mb h₀) (hd : dp < 340) (hu : un < 400)
    (N : News h₀ L s.heap ((D, listOf #[.ref Cl, .int n tn] kk) :: rest)) (F : Fr h₀ L s.heap (lawM v H tH ty tt D m))
    (hret : ∀ h' tk' m' news' n' tn' kk' r' v' H' tH' ty' tt', (∀ p ∈ rest, p ∈ news') → (D, listOf #[.ref Cl, .int n' tn'] kk') ∈ news' → 0 ≤ n' → n' ≤ n + 2 → Good (i + 1) H' ty' r' → Rep news' r' v' → Fr h₀ L h' m' → News h₀ L h' news' →
      m' (Str.ofString "raw") = some v' → m' (Str.ofString "heard") = some (.str H' tH') → m' (Str.ofString "typed") = some (.int ty' tt') → m' (Str.ofString "deck") = some (.ref D) → Q .next { s with heap := h', toks := tk' }) :
    wpAny (model PySem.Challenge.rw_np0003_01.row.prog w) (ktrTop dp un gd cn lawScope L a ccd [] outer) (execs turnBody (envOf cn lawScope L a ccd)) Q E s := by
  w_top off
  revert X
  k_fill
  intro X
  have e1 : turnBody = turnBody := rfl
  conv at e1 => rhs; whnf
  have e3 : lawScope = lawScope := rfl
  conv at e3 => rhs; whnf
  rw [e1, e3]
  clear e1 e3
  have hi7 : i ≤ 27 := by omega
  have hi1 : i + 1 ≤ 27 := by omega
  have hq := g.small hi7
  obtain ⟨hq1, hq2⟩ := hq
  have hbg : Good (i + 1) (Str.ofString "u4") 1 (.many 4) := Good.begun
  delta lawM at F
  k_steps
  all_goals (refine' hret _ _ _ _ _ _ _ _ _ _ _ _ _ ?ka ?kb ?kc ?kd ?kg ?kr ?kF ?kN ?k1 ?k2 ?k3 ?k4; (case kN => k_asm); (case kF => k_asm); (case k1 => assumption); (case k2 => assumption); (case k3 => assumption); (case k4 => assumption); (case kb => (repeat (first | exact List.Mem.head _ | (refine mem_up (by assumption) ?_) | (refine List.mem_cons_of_mem _ ?_)))); (case kc => omega); (case kd => omega); (case kr => (repeat (first | assumption | (refine Rep.mono (fun p hp => .tail _ hp) ?_) | (refine Rep.mono (by assumption) ?_)))); (case kg => assumption); (case ka => (intro p hp; repeat (first | exact hp | exact List.mem_cons_of_mem _ hp | (refine mem_up (by assumption) ?_) | (refine List.mem_cons_of_mem _ ?_)))))
end
end Mine
end

/-! T5 -/
section
open PySem PySem.W PyProof.Rows
set_option maxRecDepth 100000
set_option linter.unusedVariables false
namespace Mine
local macro_rules | `(tactic| k_room) => `(tactic| ktr_room)
local macro_rules | `(tactic| k_units) => `(tactic| ktr_units)
local macro_rules | `(tactic| k_all) => `(tactic| assumption)
local macro_rules | `(tactic| k_mem) => `(tactic| assumption)
local macro_rules | `(tactic| k_mem) => `(tactic| exact mem_up (by assumption) (by assumption))
local macro_rules | `(tactic| is_list) => `(tactic| exact News.isList (by k_asm) (by k_dflt k_mem))
section
variable {w : World} {p : Program} {loose : List Str} {mean : ExcName → Option Value} {mg mb : Str → Option Value} {dp un : Nat} {gd : Option (List Code)} {cn : Str} {cs : Scope} {a : Addr} {ccd : Value} {cl : List (Str × Addr)} {outer : List Env} {A₀ : Around} {base h₀ : Heap} {L : Addr} {m : Str → Option Value} {s : Shared} {Q E : Value → Shared → Prop} {news : List (Addr × Obj)}
local macro_rules | `(tactic| walk_at "call ref") => `(tactic| (k_here; (with_reducible show wpAny _ _ (call (Value.ref 119) _) _ _ _); k_dflt (refine' draw_c ?k1 ?k2 ?k3 ?k4 ?k5 ?k6 ?k7 ?k8 ?k9 ?k10 ?k11 ?k12 ?k13 ?k14 ?k15 ?k16 ?_; (case k1 => k_asm); (case k2 => k_asm); (case k3 => k_asm); (case k4 => k_asm); (case k5 => k_asm); (case k6 => first | exact rfl | assumption); (case k7 => ktr_room); (case k8 => ktr_units); (case k9 => omega); (case k10 => omega); (case k11 => omega); (case k12 => omega); (case k13 => assumption); (case k14 => assumption); (case k15 => assumption); (case k16 => assumption); k_whole); intro r t tn' h' tk' kk' hr0 hr1 F' N'; (try dsimp only); (try k_sweep)))
structure Stop (P : Prop) : Prop where
  out : P
local macro_rules | `(tactic| walk_at "pyIter ref") => `(tactic| (k_here; refine Stop.out ?_))
def forStmt : Stmt := (inside lawDef).getD 2 default
/-- what holds between the turns -/
def Inv (D Cl : Addr) (cells : Obj) (i : Nat) (m : Str → Option Value) (nx : List (Addr × Obj)) : Prop :=
  ∃ (n : Int) (tn : Tok) (kk : Nat) (r : Raw) (v : Value) (H : Str) (tH : Tok) (ty : Int) (tt : Tok) (robjs : List (Addr × Obj)), nx = (D, listOf #[.ref Cl, .int n tn] kk) :: (Cl, cells) :: robjs ∧ Rep robjs r v ∧ (∀ p ∈ robjs, p.2.cls = .ref 31 ∨ p.2.cls = .type "dict") ∧ Good i H ty r ∧ 0 ≤ n ∧ n ≤ 2 * (i : Int) + 1 ∧
    m (Str.ofString "raw") = some v ∧ m (Str.ofString "heard") = some (.str H tH) ∧ m (Str.ofString "typed") = some (.int ty tt) ∧ m (Str.ofString "deck") = some (.ref D)
theorem news_two {h₀ h : Heap} {L : Addr} {news : List (Addr × Obj)} {a b : Addr × Obj} (N : News h₀ L h news) (h1 : a ∈ news) (h2 : b ∈ news) : News h₀ L h [a, b] := by
  intro p hp
  rcases List.mem_cons.mp hp with rfl | hp
  · exact N _ h1
  · rw [List.mem_singleton.mp hp]; exact N _ h2
theorem rep_objs {news : List (Addr × Obj)} : ∀ {r : Raw} {v : Value}, Rep news r v → ∃ robjs : List (Addr × Obj), (∀ p ∈ robjs, p ∈ news) ∧ Rep robjs r v ∧ ∀ p ∈ robjs, p.2.cls = .ref 31 ∨ p.2.cls = .type "dict"
  | .none, _, h => ⟨[], (fun _ hp => nomatch hp), h, (fun _ hp => nomatch hp)⟩
  | .minus, _, h => ⟨[], (fun _ hp => nomatch hp), h, (fun _ hp => nomatch hp)⟩
  | .int _, _, h => ⟨[], (fun _ hp => nomatch hp), h, (fun _ hp => nomatch hp)⟩
  | .many _, _, ⟨x, dx, a, b, c, e, h1, h2⟩ => ⟨[_, _], (fun p hp => by
      rcases List.mem_cons.mp hp with rfl | hp
      · exact h1
      · rw [List.mem_singleton.mp hp]; exact h2), ⟨x, dx, a, b, c, e, .head _, .tail _ (.head _)⟩, (fun p hp => by
      rcases List.mem_cons.mp hp with rfl | hp
      · exact .inl rfl
      · rw [List.mem_singleton.mp hp]; exact .inr rfl)⟩
set_option maxHeartbeats 8000000 in
theorem loop_turn {D Cl : Addr} {vs : List Value} {ns : List Int} {k i : Nat} {t : Tok} {b : Int} {nx own : List (Addr × Obj)} {s₀ : Shared} {h : Heap} {tk : Nat} (hDC : Cl ≠ D) (hI : IntsAre vs ns) (hl : ns.length ≤ 63) (B : Below A₀ base outer h₀) (X : (hd.heap_39 w.params).In h₀) (T : Top p loose mean mg mb h₀) (hd : dp < 330) (hu : un < 300) (hi : i ≤ 26)
    (J : Inv D Cl (listOf vs.toArray k) i m nx) (hown : ∀ p ∈ own, p.2.cls = .type "range_iterator")
    (F : Fr h₀ L h (fun y => if y = Str.ofString "beat" then some (.int b t) else m y)) (N : News h₀ L h (nx ++ own)) :
    wpAny (model PySem.Challenge.rw_np0003_01.row.prog w) (ktrTop dp un gd cn lawScope L a ccd [] outer) (execs turnBody (envOf cn lawScope L a ccd)) (TurnEnd h₀ L s₀ (Inv D Cl (listOf vs.toArray k) (i + 1)) own) E { s₀ with heap := h, toks := tk } := by
  obtain ⟨n, tn, kk, r, v, H, tH, ty, tt, robjs, rfl, hr, hc, g, h0, h1, m1, m2, m3, m4⟩ := J
  have N' : News h₀ L h ((D, listOf #[.ref Cl, .int n tn] kk) :: ((Cl, listOf vs.toArray k) :: (robjs ++ own))) := N
  have hD : ∀ p ∈ (Cl, listOf vs.toArray k) :: (robjs ++ own), p.1 ≠ D := by
    intro p hp e
    rcases List.mem_cons.mp hp with rfl | hp'
    · exact hDC e
    · have q := news_one N' (List.mem_cons_of_mem _ hp) (.head _) e
      have c : p.2.cls = .type "list" := by rw [q]
      rcases List.mem_append.mp hp' with hp' | hp'
      · rcases hc p hp' with c' | c'
        · rw [c] at c'; cases c'
        · rw [c] at c'; exact absurd c' (by decide)
      · rw [hown p hp'] at c; exact absurd c (by decide)
  have ne1 : Str.ofString "raw" ≠ Str.ofString "beat" := by decide +kernel
  have ne2 : Str.ofString "heard" ≠ Str.ofString "beat" := by decide +kernel
  have ne3 : Str.ofString "typed" ≠ Str.ofString "beat" := by decide +kernel
  have ne4 : Str.ofString "deck" ≠ Str.ofString "beat" := by decide +kernel
  have F' := fr_law F ((if_neg ne1).trans m1) ((if_neg ne2).trans m2) ((if_neg ne3).trans m3) ((if_neg ne4).trans m4)
  have hr' : Rep ((Cl, listOf vs.toArray k) :: (robjs ++ own)) r v := Rep.mono (fun p hp => List.mem_cons_of_mem _ (List.mem_append_left _ hp)) hr
  refine turn_c (s := { s₀ with heap := h, toks := tk }) g hi hr' h0 (by omega) hD (.head _) hI hl B X T (by omega) (by omega) N' F' ?_
  intro h' tk' m' news' n' tn' kk' r' v' H' tH' ty' tt' hsub hDm hn0 hn1 hg hrep F2 N2 e1 e2 e3 e4
  obtain ⟨robjs', hs', hrep', hcl'⟩ := rep_objs hrep
  refine ⟨rfl, h', tk', m', (D, listOf #[.ref Cl, .int n' tn'] kk') :: (Cl, listOf vs.toArray k) :: robjs', rfl, F2, ?_, n', tn', kk', r', v', H', tH', ty', tt', robjs', rfl, hrep', hcl', hg, hn0, by push_cast; omega, e1, e2, e3, e4⟩
  intro p hp
  refine N2 p ?_
  rcases List.mem_append.mp hp with hp | hp
  · rcases List.mem_cons.mp hp with rfl | hp
    · exact hDm
    · rcases List.mem_cons.mp hp with rfl | hp
      · exact hsub _ (.head _)
      · exact hs' p hp
  · exact hsub p (List.mem_cons_of_mem _ (List.mem_append_right _ hp))
theorem inv_cls {D Cl : Addr} {vs : List Value} {k i : Nat} {m : Str → Option Value} {nx : List (Addr × Obj)} (J : Inv D Cl (listOf vs.toArray k) i m nx) : ∀ p ∈ nx, p.2.cls ≠ .type "range_iterator" := by
  obtain ⟨n, tn, kk, r, v, H, tH, ty, tt, robjs, rfl, hr, hc, _⟩ := J
  intro p hp
  rcases List.mem_cons.mp hp with rfl | hp
  · show Value.type "list" ≠ Value.type "range_iterator"; decide
  · rcases List.mem_cons.mp hp with rfl | hp
    · show Value.type "list" ≠ Value.type "range_iterator"; decide
    · rcases hc p hp with c | c
      · rw [c]; decide
      · rw [c]; decide
set_option maxHeartbeats 8000000 in
theorem for_c {D Cl : Addr} {vs : List Value} {ns : List Int} {k kk : Nat} {tn tH tt : Tok} {Q : Flow → Shared → Prop} (hDC : Cl ≠ D) (hI : IntsAre vs ns) (hl : ns.length ≤ 63) (B : Below A₀ base outer h₀) (X : (hd.heap_39 w.params).In h₀) (T : Top p loose mean mg mb h₀) (hd : dp < 330) (hu : un < 300)
    (N : News h₀ L s.heap ((D, listOf #[.ref Cl, .int 0 tn] kk) :: [(Cl, listOf vs.toArray k)])) (F : Fr h₀ L s.heap (lawM .none (Str.ofString "") tH 0 tt D m))
    (hE : PassesOwn (model PySem.Challenge.rw_np0003_01.row.prog w) (ktrTop dp un gd cn lawScope L a ccd [] outer) (envOf cn lawScope L a ccd) E)
    (hret : ∀ h' tk' m', Fr h₀ L h' m' → News h₀ L h' [] → Q .next { s with heap := h', toks := tk' }) :
    wpAny (model PySem.Challenge.rw_np0003_01.row.prog w) (ktrTop dp un gd cn lawScope L a ccd [] outer) (exec forStmt (envOf cn lawScope L a ccd)) Q E s := by
  w_top off
  revert X
  k_fill
  intro X
  have e1 : forStmt = forStmt := rfl
  conv at e1 => rhs; whnf
  have e3 : lawScope = lawScope := rfl
  conv at e3 => rhs; whnf
  have hD : ∀ p ∈ [(Cl, listOf vs.toArray k)], p.1 ≠ D := by
    intro p hp; rw [List.mem_singleton.mp hp]; exact hDC
  have hC : (Cl, listOf vs.toArray k) ∈ [(Cl, listOf vs.toArray k)] := .head _
  have hlT := @loop_turn w p loose mean mg mb dp un gd cn a ccd outer A₀ base h₀ L
  rw [e1]
  rw [e3] at hE ⊢
  delta lawM at F
  refine For_invV h₀ rfl rfl ?_ (hE := hE)
  k_steps
  refine Stop.mk ?_
  (rename Fr _ _ _ _ => lF'); (rename News _ _ _ _ => lN'); (rename IsRange _ _ _ _ _ _ _ _ => rg)
  refine my_range (Inv D Cl (listOf vs.toArray k)) rfl rg (small_one (by omega) (by omega) (by omega) (by omega)) (rangeSize_nat _ _) lF' lN' ?hj (fun i m nx J => inv_cls J) ?turn ?done
  case hj =>
    refine ⟨_, _, _, .none, .none, Str.ofString "", tH, 0, tt, [], rfl, rfl, (fun _ hp => nomatch hp), .e empty_codes, ?_, ?_, ?_, ?_, ?_, ?_⟩
    · omega
    · omega
    · with_unfolding_all exact rfl
    · with_unfolding_all exact rfl
    · with_unfolding_all exact rfl
    · with_unfolding_all exact rfl
  case turn =>
    intro i t m₁ nx h tk own hin hJ hown F₁ N₁
    exact hlT hDC hI hl B X T hd hu (by omega) hJ hown F₁ N₁
  case done =>
    intro m₁ nx h tk _ F₁ _
    exact hret _ _ _ F₁ News.nil
end
end Mine
end

/-! T6 -/
section
open PySem PySem.W PyProof.Rows
set_option maxRecDepth 100000
set_option linter.unusedVariables false
namespace Mine
local macro_rules | `(tactic| ktr_room) => `(tactic| k_dflt (first | exact Nat.lt_of_lt_of_le (by assumption) (by decide) | exact Nat.lt_of_lt_of_le (Nat.add_lt_add_right (by assumption) 1) (by decide)))
local macro_rules | `(tactic| ktr_units) => `(tactic| k_dflt (first | exact Nat.lt_of_lt_of_le (by assumption) (by decide) | exact Nat.lt_of_lt_of_le (Nat.add_lt_add_right (by assumption) 3) (by decide)))
local macro_rules | `(tactic| k_all) => `(tactic| assumption)
local macro_rules | `(tactic| is_list) => `(tactic| exact News.isList (by k_asm) (by k_dflt k_mem))
local macro_rules | `(tactic| walk_at "exec For Name Call cons nil") => `(tactic| (k_here; k_dflt (refine' for_c ?k1 ?k2 ?k3 ?k4 ?k5 ?k6 ?k7 ?k8 ?k9 ?k10 ?k11 ?_; (case k10 => (refine' fr_law ?fa ?fb ?fc ?fd ?fe; (case fa => k_asm); (case fb => with_unfolding_all exact rfl); (case fc => with_unfolding_all exact rfl); (case fd => with_unfolding_all exact rfl); (case fe => with_unfolding_all exact rfl))); (case k4 => k_asm); (case k5 => k_asm); (case k6 => k_asm); (case k9 => exact news_two (by k_asm) (by k_mem) (by k_mem)); (case k7 => k_room); (case k8 => exact Nat.le_of_ble_eq_true rfl); (case k2 => assumption); (case k3 => (simp only [List.length_map, List.length_take]; omega)); (case k1 => k_ne); (case k11 => passes_own); k_whole); intro h' tk' m' F' N'; (try dsimp only); (try k_sweep)))
set_option maxHeartbeats 8000000 in
theorem fin : PySem.Challenge.rw_np0003_01.Holds := hd (by
  w_strict (k_go0; (all_goals try k_fold); k_steps; (all_goals (try k_data)); all_goals w_report))
end Mine
end

theorem PySem.Challenge.cw_np0003_01_holds : PySem.Challenge.rw_np0003_01.Holds := by
  exact Mine.fin
