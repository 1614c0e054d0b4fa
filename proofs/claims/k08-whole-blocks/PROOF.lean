import PyProof.Rows.All
import Wide.All
import OpenK.AllK
import Wide.FinOn
import HandS.ForMost
import HandS.Codes
import PyProof.Rows.StrCut
import HandS.Defaults
import HandS.IsInst
import HandS.FStr
import HandS.Wide
import HandS.StrMore
import HandS.Flow
import HandS.Exc
import HandS.CallLocal
import HandS.Replace
import HandS.RaiseMore
import PyProof.FString2
import PySem.Challenge.RW_cellblocks_k08_whole_blocks_by_turns
set_option Elab.async false
set_option linter.all false
set_option maxRecDepth 100000
set_option maxHeartbeats 4000000
/-! Plain mathematics: letters of columns, texts of blocks, and how they are parted again. -/
namespace K8
open PySem PySem.Builtin PySem.Builtin.Str SX

/-! ### letters -/
def lets (n : Nat) : List Nat := if h : n = 0 then [] else lets ((n - 1) / 26) ++ [65 + (n - 1) % 26]
termination_by n
decreasing_by omega
theorem lets_zero : lets 0 = [] := by
  unfold lets
  rfl
theorem lets_pos {n : Nat} (h : 0 < n) : lets n = lets ((n - 1) / 26) ++ [65 + (n - 1) % 26] := by
  rw [lets, dif_neg (by omega)]
theorem lets_range (n : Nat) : ∀ c ∈ lets n, 65 ≤ c ∧ c ≤ 90 := by
  induction n using Nat.strongRecOn with
  | _ n ih =>
    by_cases h : n = 0
    · rw [h, lets_zero]
      intro c hc
      simp at hc
    · rw [lets_pos (by omega)]
      intro c hc
      rcases List.mem_append.mp hc with hc | hc
      · exact ih _ (by omega) c hc
      · have hm : (n - 1) % 26 < 26 := Nat.mod_lt _ (by decide)
        rw [List.mem_singleton.mp hc]
        omega
theorem lets_ne {n : Nat} (h : 0 < n) : lets n ≠ [] := by
  rw [lets_pos h]
  simp
def bnd : Nat → Nat
  | 0 => 0
  | k + 1 => 26 * bnd k + 26
theorem lets_len : ∀ (k n : Nat), n ≤ bnd k → (lets n).length ≤ k
  | 0, n, h => by
    have e : n = 0 := by
      have : bnd 0 = 0 := rfl
      omega
    rw [e, lets_zero]
    exact Nat.le_refl _
  | k + 1, n, h => by
    by_cases e : n = 0
    · rw [e, lets_zero]
      exact Nat.zero_le _
    · have hb : bnd (k + 1) = 26 * bnd k + 26 := rfl
      have ih := lets_len k ((n - 1) / 26) (by omega)
      rw [lets_pos (by omega), List.length_append, List.length_singleton]
      omega
theorem lets_len9 {n : Nat} (h : n < 1000000000000) : (lets n).length ≤ 9 := lets_len 9 n (by
  have e : bnd 9 = 5646683826134 := by decide
  omega)
/-- what letters are worth -/
def valL (l : List Nat) : Nat := l.foldl (fun a c => a * 26 + (c - 65) + 1) 0
theorem valL_snoc (l : List Nat) (c : Nat) : valL (l ++ [c]) = valL l * 26 + (c - 65) + 1 := by
  unfold valL
  rw [List.foldl_append]
  rfl
theorem lets_val (n : Nat) : valL (lets n) = n := by
  induction n using Nat.strongRecOn with
  | _ n ih =>
    by_cases h : n = 0
    · rw [h, lets_zero]
      rfl
    · rw [lets_pos (by omega), valL_snoc, ih _ (by omega)]
      omega
theorem take_more {l : List Nat} {i c : Nat} (h : l[i]? = some c) : l.take (i + 1) = l.take i ++ [c] := by
  obtain ⟨hi, e⟩ := List.getElem?_eq_some_iff.mp h
  rw [List.take_succ_eq_append_getElem hi, e]
theorem valL_take {l : List Nat} {i c : Nat} (h : l[i]? = some c) : valL (l.take (i + 1)) = valL (l.take i) * 26 + (c - 65) + 1 := by
  rw [take_more h, valL_snoc]

/-! ### codes of figures and letters as they stand in the text -/
abbrev sLET : Str := Str.ofString "ABCDEFGHIJKLMNOPQRSTUVWXYZ"
abbrev sFIG : Str := Str.ofString "0123456789"
abbrev sCol : Str := Str.ofString ":"
theorem let_codes : sLET.cps.toList = (List.range 26).map (65 + ·) := by decide +kernel
theorem fig_codes : sFIG.cps.toList = (List.range 10).map (48 + ·) := by decide +kernel
theorem col_S : sCol = S [58] := by decide +kernel
theorem empty_S : Str.ofString "" = S [] := by decide +kernel
theorem let_at {k : Nat} (h : k < 26) : sLET.cps[k]? = some (65 + k) := by
  have e : sLET.cps[k]? = sLET.cps.toList[k]? := by rw [Array.getElem?_toList]
  rw [e, let_codes, List.getElem?_map, List.getElem?_range h]
  rfl
theorem let_len : sLET.length = 26 := by decide +kernel
theorem let_has (c : Nat) : sLET.cps.contains c = decide (65 ≤ c ∧ c ≤ 90) := by
  have e : sLET.cps.contains c = sLET.cps.toList.contains c := by rw [← Array.contains_toList]
  rw [e, let_codes, Bool.eq_iff_iff, decide_eq_true_eq, List.contains_iff_mem, List.mem_map]
  constructor
  · rintro ⟨k, hk, rfl⟩
    have := List.mem_range.mp hk
    omega
  · intro h
    exact ⟨c - 65, List.mem_range.mpr (by omega), by omega⟩
theorem fig_has (c : Nat) : sFIG.cps.contains c = decide (48 ≤ c ∧ c ≤ 57) := by
  have e : sFIG.cps.contains c = sFIG.cps.toList.contains c := by rw [← Array.contains_toList]
  rw [e, fig_codes, Bool.eq_iff_iff, decide_eq_true_eq, List.contains_iff_mem, List.mem_map]
  constructor
  · rintro ⟨k, hk, rfl⟩
    have := List.mem_range.mp hk
    omega
  · intro h
    exact ⟨c - 48, List.mem_range.mpr (by omega), by omega⟩
theorem let_occ : ∀ k, k < 26 → occurrences sLET (S [65 + k]) 0 sLET.length 1 = [k] := by decide +kernel

/-! ### stripping -/
theorem takeWhile_app {p : Nat → Bool} : ∀ {a b : List Nat}, (∀ c ∈ a, p c = true) → (∀ c, b.head? = some c → p c = false) → (a ++ b).takeWhile p = a
  | [], b, _, hb => by
    rw [List.nil_append]
    exact tw0 b hb
  | c :: a, b, ha, hb => by
    rw [List.cons_append, List.takeWhile_cons, if_pos (ha c List.mem_cons_self), takeWhile_app (fun d hd => ha d (List.mem_cons_of_mem _ hd)) hb]
theorem lstrip_S {p : Nat → Bool} {a b : List Nat} (ha : ∀ c ∈ a, p c = true) (hb : ∀ c, b.head? = some c → p c = false) : Txt.stripBy p true false (S (a ++ b)) = S b := by
  rw [PyProof.Rows.stripBy_eq]
  have e1 : stripLo p true (S (a ++ b)) = a.length := by
    unfold stripLo
    rw [if_pos rfl]
    show ((a ++ b).takeWhile p).length = a.length
    rw [takeWhile_app ha hb]
  have e2 : stripHi p false (S (a ++ b)) a.length = (S (a ++ b)).length := by
    unfold stripHi
    rfl
  rw [e1, e2]
  refine TL.ext_tl ?_
  unfold strSub
  show ((a ++ b).toArray.extract a.length (S (a ++ b)).length).toList = b
  rw [S_len, Array.toList_extract]
  simp [List.extract]
theorem strip_S {p : Nat → Bool} {a : List Nat} (ha : ∀ c ∈ a, p c = true) : Txt.stripBy p true true (S a) = S [] := by
  rw [PyProof.Rows.stripBy_eq]
  have e0 : a.takeWhile p = a := by
    have := takeWhile_app (p := p) (b := []) ha (by simp)
    rwa [List.append_nil] at this
  have e1 : stripLo p true (S a) = a.length := by
    unfold stripLo
    rw [if_pos rfl]
    show (a.takeWhile p).length = a.length
    rw [e0]
  have e2 : stripHi p true (S a) a.length = a.length := by
    unfold stripHi
    rw [if_pos rfl]
    show (S a).length - (((a.drop a.length).reverse.takeWhile p).length) = a.length
    rw [S_len, List.drop_length]
    rfl
  rw [e1, e2]
  refine TL.ext_tl ?_
  unfold strSub
  show (a.toArray.extract a.length a.length).toList = []
  simp

/-! ### a block by its four numbers, and its text -/
structure Four where
  top : Int
  left : Int
  bottom : Option Int
  right : Option Int
  deriving DecidableEq
structure Good (f : Four) : Prop where
  t1 : 1 ≤ f.top
  t2 : f.top < 1000000000000
  l1 : 1 ≤ f.left
  l2 : f.left < 1000000000000
  b : ∀ x, f.bottom = some x → f.top ≤ x ∧ x < 1000000000000
  r : ∀ x, f.right = some x → f.left ≤ x ∧ x < 1000000000000
def letS (i : Int) : Str := S (lets i.toNat)
def numS (i : Int) : Str := S (TL.numL i.toNat)
theorem num_str {i : Int} (h : 0 ≤ i) : Str.ofString (toString i) = numS i := by
  obtain ⟨n, rfl⟩ := Int.eq_ofNat_of_zero_le h
  exact num_S n
def rowL : Option Int → List Nat
  | none => []
  | some i => TL.numL i.toNat
def colL : Option Int → List Nat
  | none => []
  | some i => lets i.toNat
def isRows (f : Four) : Bool := decide (f.left = 1) && (decide (f.right = none) && decide (f.bottom ≠ none))
def isCols (f : Four) : Bool := decide (f.top = 1) && (decide (f.bottom = none) && decide (f.right ≠ none))
def isOne (f : Four) : Bool := decide (f.bottom = some f.top ∧ f.right = some f.left)
def firstL (f : Four) : List Nat := lets f.left.toNat ++ TL.numL f.top.toNat
def textL (f : Four) : List Nat :=
  if isRows f = true then TL.numL f.top.toNat ++ [58] ++ rowL f.bottom
  else if isCols f = true then lets f.left.toNat ++ [58] ++ colL f.right
  else if isOne f = true then firstL f
  else firstL f ++ [58] ++ (colL f.right ++ rowL f.bottom)
def textS (f : Four) : Str := S (textL f)

/-! ### lengths -/
theorem num_len {i : Int} (h : i < 1000000000000) : (TL.numL i.toNat).length ≤ 12 := TL.numL_len (by decide) (by omega)
theorem rowL_len {o : Option Int} (h : ∀ x, o = some x → x < 1000000000000) : (rowL o).length ≤ 12 := by
  cases o with
  | none => exact Nat.zero_le _
  | some i => exact num_len (h i rfl)
theorem colL_len {o : Option Int} (h : ∀ x, o = some x → x < 1000000000000) : (colL o).length ≤ 9 := by
  cases o with
  | none => exact Nat.zero_le _
  | some i =>
    have := h i rfl
    exact lets_len9 (by omega)
theorem textL_len {f : Four} (g : Good f) : (textL f).length ≤ 100 := by
  have h1 := num_len g.t2
  have h2 : (lets f.left.toNat).length ≤ 9 := lets_len9 (by have := g.l2; omega)
  have h3 := rowL_len (o := f.bottom) fun x e => (g.b x e).2
  have h4 := colL_len (o := f.right) fun x e => (g.r x e).2
  unfold textL firstL
  split
  · simp only [List.length_append, List.length_singleton]; omega
  · split
    · simp only [List.length_append, List.length_singleton]; omega
    · split
      · simp only [List.length_append]; omega
      · simp only [List.length_append, List.length_singleton]; omega

/-! ### the text is parted at its colon -/
theorem lets_no {c n : Nat} (h : c < 65 ∨ 90 < c) : c ∉ lets n := fun hm => by
  have := lets_range n c hm
  omega
theorem row_no {c : Nat} {o : Option Int} (h : c < 48 ∨ 57 < c) : c ∉ rowL o := by
  cases o with
  | none => exact List.not_mem_nil
  | some i => exact TL.numL_free h
theorem col_no {c : Nat} {o : Option Int} (h : c < 65 ∨ 90 < c) : c ∉ colL o := by
  cases o with
  | none => exact List.not_mem_nil
  | some i => exact lets_no h
/-- the parts as optional numbers: what stands ahead of the colon, what behind -/
def firstOf (f : Four) : Option Int × Option Int :=
  if isRows f = true then (some f.top, none) else if isCols f = true then (none, some f.left) else (some f.top, some f.left)
def lastOf (f : Four) : Option Int × Option Int :=
  if isRows f = true then (f.bottom, none) else if isCols f = true then (none, f.right) else (f.bottom, f.right)
def wordL (p : Option Int × Option Int) : List Nat := colL p.2 ++ rowL p.1
theorem word_no {p : Option Int × Option Int} : 58 ∉ wordL p := by
  unfold wordL
  rw [List.mem_append]
  rintro (h | h)
  · exact col_no (Or.inl (by decide)) h
  · exact row_no (Or.inr (by decide)) h
theorem text_two {f : Four} (h : isRows f = true ∨ isCols f = true ∨ isOne f = false) : textL f = wordL (firstOf f) ++ [58] ++ wordL (lastOf f) := by
  unfold textL firstOf lastOf wordL firstL
  by_cases hr : isRows f = true
  · rw [if_pos hr, if_pos hr, if_pos hr]
    rfl
  · rw [if_neg hr, if_neg hr, if_neg hr]
    by_cases hc : isCols f = true
    · rw [if_pos hc, if_pos hc, if_pos hc]
      show lets f.left.toNat ++ [58] ++ colL f.right = (lets f.left.toNat ++ []) ++ [58] ++ (colL f.right ++ [])
      rw [List.append_nil, List.append_nil]
    · rw [if_neg hc, if_neg hc, if_neg hc]
      have ho : isOne f = false := by
        rcases h with h | h | h
        · exact absurd h hr
        · exact absurd h hc
        · exact h
      rw [ho, if_neg Bool.false_ne_true]
      rfl
theorem text_one {f : Four} (hr : isRows f = false) (hc : isCols f = false) (ho : isOne f = true) : textL f = wordL (firstOf f) := by
  unfold textL firstOf wordL firstL
  rw [hr, hc, ho]
  rfl
theorem part_two {f : Four} (h : isRows f = true ∨ isCols f = true ∨ isOne f = false) : Txt.partition (textS f) sCol = (S (wordL (firstOf f)), S [58], S (wordL (lastOf f))) := by
  unfold textS
  rw [text_two h, col_S]
  refine SX.partition_some (by simp) ?_
  rw [List.append_assoc]
  exact par_head (sep := []) _ word_no
theorem part_one {f : Four} (hr : isRows f = false) (hc : isCols f = false) (ho : isOne f = true) : Txt.partition (textS f) sCol = (S (wordL (firstOf f)), S [], S []) := by
  unfold textS
  rw [text_one hr hc ho, col_S]
  exact SX.partition_none (by simp) (par_head_none word_no)

/-! ### a word is parted into letters and figures -/
structure GoodW (p : Option Int × Option Int) : Prop where
  r : ∀ x, p.1 = some x → 1 ≤ x ∧ x < 1000000000000
  c : ∀ x, p.2 = some x → 1 ≤ x ∧ x < 1000000000000
theorem word_len {p : Option Int × Option Int} (g : GoodW p) : (wordL p).length ≤ 21 := by
  have h3 := rowL_len (o := p.1) fun x e => (g.r x e).2
  have h4 := colL_len (o := p.2) fun x e => (g.c x e).2
  unfold wordL
  rw [List.length_append]
  omega
theorem word_figs {p : Option Int × Option Int} : Txt.lstripChars (S (wordL p)) sLET = S (rowL p.1) := by
  unfold Txt.lstripChars wordL
  refine lstrip_S (fun c hc => ?_) (fun c hc => ?_)
  · rw [let_has, decide_eq_true_eq]
    cases e : p.2 with
    | none =>
      rw [e] at hc
      exact absurd hc List.not_mem_nil
    | some i =>
      rw [e] at hc
      exact lets_range _ c hc
  · rw [let_has, decide_eq_false_iff_not]
    cases e : p.1 with
    | none =>
      rw [e] at hc
      cases hc
    | some i =>
      rw [e] at hc
      have hm : c ∈ TL.numL i.toNat := List.mem_of_head? hc
      have := TL.numL_digits _ c hm
      omega
theorem word_lets {p : Option Int × Option Int} : Txt.slice (S (wordL p)) none (some (((S (wordL p)).length : Int) - ((S (rowL p.1)).length : Int))) = S (colL p.2) := by
  unfold wordL
  refine to_app _ _ ?_
  rw [S_len, S_len, List.length_append]
  omega
theorem figs_strip (i : Int) : Txt.stripChars (numS i) sFIG = S [] := by
  unfold Txt.stripChars numS
  refine strip_S fun c hc => ?_
  rw [fig_has, decide_eq_true_eq]
  exact TL.numL_digits _ c hc
theorem lets_strip (i : Int) : Txt.stripChars (letS i) sLET = S [] := by
  unfold Txt.stripChars letS
  refine strip_S fun c hc => ?_
  rw [let_has, decide_eq_true_eq]
  exact lets_range _ c hc
theorem num_ne (i : Int) : 1 ≤ (numS i).length := by
  unfold numS
  rw [S_len]
  exact List.length_pos_iff.mpr (TL.numL_ne _)
theorem num_len12 {i : Int} (h : i < 1000000000000) : (numS i).length ≤ 12 := by
  unfold numS
  rw [S_len]
  exact num_len h
theorem let_ne {i : Int} (h : 1 ≤ i) : 1 ≤ (letS i).length := by
  unfold letS
  rw [S_len]
  exact List.length_pos_iff.mpr (lets_ne (by omega))
theorem let_len9 {i : Int} (h : i < 1000000000000) : (letS i).length ≤ 9 := by
  unfold letS
  rw [S_len]
  exact lets_len9 (by omega)
theorem num_int {i : Int} (h0 : 0 ≤ i) (h : i < 1000000000000) : intText? (numS i) = some i := by
  obtain ⟨n, rfl⟩ := Int.eq_ofNat_of_zero_le h0
  rw [← num_str h0]
  exact TL.int_num (by
    have := num_len h
    have e : ((n : Int)).toNat = n := by omega
    rw [e] at this
    omega)

/-! ### the block is made again -/
theorem first_good {f : Four} (g : Good f) : GoodW (firstOf f) := by
  unfold firstOf
  split
  · exact ⟨fun x e => (by cases e; exact ⟨g.t1, g.t2⟩), fun x e => (by cases e)⟩
  · split
    · exact ⟨fun x e => (by cases e), fun x e => (by cases e; exact ⟨g.l1, g.l2⟩)⟩
    · exact ⟨fun x e => (by cases e; exact ⟨g.t1, g.t2⟩), fun x e => (by cases e; exact ⟨g.l1, g.l2⟩)⟩
theorem last_good {f : Four} (g : Good f) : GoodW (lastOf f) := by
  have hb : ∀ x, f.bottom = some x → 1 ≤ x ∧ x < 1000000000000 := fun x e => ⟨Int.le_trans g.t1 (g.b x e).1, (g.b x e).2⟩
  have hr : ∀ x, f.right = some x → 1 ≤ x ∧ x < 1000000000000 := fun x e => ⟨Int.le_trans g.l1 (g.r x e).1, (g.r x e).2⟩
  unfold lastOf
  split
  · exact ⟨hb, fun x e => (by cases e)⟩
  · split
    · exact ⟨fun x e => (by cases e), hr⟩
    · exact ⟨hb, hr⟩
theorem rows_left {f : Four} (h : isRows f = true) : f.left = 1 ∧ f.right = none := by
  unfold isRows at h
  simp only [Bool.and_eq_true, decide_eq_true_eq] at h
  exact ⟨h.1, h.2.1⟩
theorem cols_top {f : Four} (h : isCols f = true) : f.top = 1 ∧ f.bottom = none := by
  unfold isCols at h
  simp only [Bool.and_eq_true, decide_eq_true_eq] at h
  exact ⟨h.1, h.2.1⟩
theorem first_top (f : Four) : (firstOf f).1.getD 1 = f.top := by
  unfold firstOf
  split
  · rfl
  · split
    · rename_i h
      exact (cols_top h).1.symm
    · rfl
theorem first_left (f : Four) : (firstOf f).2.getD 1 = f.left := by
  unfold firstOf
  split
  · rename_i h
    exact (rows_left h).1.symm
  · split
    · rfl
    · rfl
theorem last_is (f : Four) : lastOf f = (f.bottom, f.right) := by
  unfold lastOf
  split
  · rename_i h
    rw [(rows_left h).2]
  · split
    · rename_i h
      rw [(cols_top h).2]
    · rfl
/-- a cell: its one word tells both ends -/
theorem one_last {f : Four} (hr : isRows f = false) (hc : isCols f = false) (ho : isOne f = true) : firstOf f = lastOf f := by
  unfold firstOf lastOf
  rw [hr, hc]
  unfold isOne at ho
  have h := of_decide_eq_true ho
  show (some f.top, some f.left) = (f.bottom, f.right)
  rw [h.1, h.2]
end K8

/-! Rules beside the layer's: str, repr and == by an own class's defs; str and fields of None. -/
namespace K8
open PySem PySem.Spec PyProof.Rows L2
section
variable {X : Cx} {CX : CXT} {k : Nat} {C f : Addr} {fd : FuncData} {ps : List Str} {sp : Sp} {E : XK}

theorem Env0.at_ {A : Around} {pins : List (Addr × Obj)} {σ : L2.St} {H : Hp} {s : Shared} (I : Inv X pins σ H s) (hf : A.frames = X.A.frames) : Env0 X.prog X.w X.K X.mg X.base A X.stack s H := by
  have e := I.env0
  exact ⟨by rw [hf]; exact e.frames, e.mod, e.bs, e.bsz, e.funs, e.frf, e.hok, e.bare⟩
/-- a def that is called from within a built-in's body -/
theorem run_in {A : Around} {pins : List (Addr × Obj)} {σ : L2.St} {H : Hp} {s : Shared} {Q : VK} {us : List Value} {vs : List V} (F : FnOk X.prog X.w X.K X.mg X.base CX k f fd ps sp) (hr : Room k A) (hf : A.frames = X.A.frames) (hb : L2.Binds X.K fd ps []) (hx : Passes CX X E)
    (I : Inv X pins σ H s) (r : Vals vs us) (h : sp vs H Q E) : wpAny (model X.prog X.w) A (call (.ref f) us) (EP X pins σ Q) X.xe s := by
  have hl : us.length = ps.length := by rw [← r.length]; exact F.len _ _ _ _ h
  refine wpAny_call (codeAny_mono (F.run A X.stack s H ⟨us, []⟩ us vs Q E hr (Env0.at_ I hf) (by
    have := hb s us I.kIn (by simpa using hl)
    simpa using this) r h) fun r s' hq => ?_)
  cases r with
  | error e => exact hx pins σ H s e s' I hq
  | ok fl =>
    cases fl with
    | ret u => exact I.after hq
    | next => exact False.elim hq
    | brk => exact False.elim hq
    | cont => exact False.elim hq

/-- str(o), o an instance of the class at C whose own __str__ is sp's def -/
def rStrO (C : Addr) (sp : Sp) (E : XK) : List V → Hp → VK → Prop := fun xs H Q => ∃ a dx fs, xs = [.ref a] ∧ H a = some (.ins C dx fs) ∧ sp [.ref a] H (fun v H' => (∃ y, v = .str y) ∧ Q v H') E
theorem call_str_own (F : FnOk X.prog X.w X.K X.mg X.base CX k f fd ps sp) (hr : Room (k + 2) X.A) (hs : PySem.W.findIn X.K (.ref C) "__str__" = some (some (.ref f))) (hf : PySem.W.isFn X.K (.ref f) = true) (hb : L2.Binds X.K fd ps []) (hx : Passes CX X E) :
    CallR X (.type "str") (rStrO C sp E) := by
  intro pins s σ H xs us Q I r h
  obtain ⟨a, dx, fs, rfl, ha, hq⟩ := h
  obtain ⟨u, rfl, ru⟩ := vals1 r
  obtain rfl : u = Value.ref a := ru
  obtain ⟨mA, O, _⟩ := ins_get I.hok ha
  obtain ⟨od, J, _⟩ := O.look
  refine PySem.W.kso_call (C := C) (ox := PySem.W.instObj C dx) (od := some od) (f := f) hr.in1.in1.units0 I.kIn J hs hf ?_
  refine wpAny_mono (run_in (A := X.A.in1.in1) (vs := [V.ref a]) F hr.in1.in1 rfl hb hx I (.cons rfl .nil) hq) (fun v s' z => ?_) fun _ _ z => z
  obtain ⟨w', H', I', rw', ⟨y, ey⟩, q⟩ := z
  subst ey
  obtain ⟨t, rfl⟩ := rw'
  exact ⟨.str y, H', I', ⟨t, rfl⟩, q⟩
/-- repr(o) likewise -/
theorem call_repr_own (F : FnOk X.prog X.w X.K X.mg X.base CX k f fd ps sp) (hr : Room (k + 1) X.A) (hs : PySem.W.findIn X.K (.ref C) "__repr__" = some (some (.ref f))) (hf : PySem.W.isFn X.K (.ref f) = true) (hb : L2.Binds X.K fd ps []) (hx : Passes CX X E) :
    CallR X (.builtin "repr") (rStrO C sp E) := by
  intro pins s σ H xs us Q I r h
  obtain ⟨a, dx, fs, rfl, ha, hq⟩ := h
  obtain ⟨u, rfl, ru⟩ := vals1 r
  obtain rfl : u = Value.ref a := ru
  obtain ⟨mA, O, _⟩ := ins_get I.hok ha
  obtain ⟨od, J, _⟩ := O.look
  obtain ⟨m, hF⟩ := I.fr
  refine PySem.W.repr_K (C := C) (ox := PySem.W.instObj C dx) (od := some od) (f := f) hr.in1.units0 hF I.ok.mod.kin J hs hf ?_
  refine wpAny_mono (run_in (A := X.A.in1) (vs := [V.ref a]) F hr.in1 rfl hb hx I (.cons rfl .nil) hq) (fun v s' z => ?_) fun _ _ z => z
  obtain ⟨w', H', I', rw', ⟨y, ey⟩, q⟩ := z
  subst ey
  obtain ⟨t, rfl⟩ := rw'
  exact ⟨.str y, H', I', ⟨t, rfl⟩, q⟩
/-- x == y, x an instance of the class at C with its own ==, y another one -/
def rEqO (C : Addr) (sp : Sp) (E : XK) : R2 := fun x y H Q => ∃ a b dx dy fs gs, x = .ref a ∧ y = .ref b ∧ H a = some (.ins C dx fs) ∧ H b = some (.ins C dy gs) ∧ sp [.ref a, .ref b] H Q E
theorem op_eq_own (F : FnOk X.prog X.w X.K X.mg X.base CX k f fd ps sp) (hr : Room k X.A) (hs : PySem.W.findIn X.K (.ref C) "__eq__" = some (some (.ref f))) (hf : PySem.W.isFn X.K (.ref f) = true) (hb : L2.Binds X.K fd ps []) (hx : Passes CX X E) :
    OpR X (compareOp .Eq) (rEqO C sp E) := by
  intro pins s σ H x y v u Q I rx ry h
  obtain ⟨a, b, dx, dy, fs, gs, rfl, rfl, ha, hb', hq⟩ := h
  obtain rfl : v = Value.ref a := rx
  obtain rfl : u = Value.ref b := ry
  show wpAny (model X.prog X.w) X.A (richCompare .Eq (.ref a) (.ref b)) (EP X pins σ Q) X.xe s
  obtain ⟨mA, J, _⟩ := ins_get I.hok ha
  obtain ⟨mB, J', _⟩ := ins_get I.hok hb'
  obtain ⟨od, J, _⟩ := J.look
  obtain ⟨od', J', _⟩ := J'.look
  obtain ⟨m, hF⟩ := I.fr
  refine PySem.W.cmp_K (op := .Eq) (tb := .ref C) hr.units0 hF I.ok.mod.kin J J'.type (by simp [PySem.W.notFirst]) hs hf ?_
  refine wpAny_mono (run_in (A := X.A) (vs := [V.ref a, V.ref b]) F hr rfl hb hx I (.cons rfl (.cons rfl .nil)) hq) (fun v s' z => ?_) fun _ _ z => z
  obtain ⟨w', H', I', rw', q⟩ := z
  have e : EP X pins σ Q v s' := ⟨w', H', I', rw', q⟩
  cases w' with
  | non => cases rw'; exact e
  | bl _ => cases rw'; exact e
  | int _ => obtain ⟨t, rfl⟩ := rw'; exact e
  | str _ => obtain ⟨t, rfl⟩ := rw'; exact e
  | byt _ => obtain ⟨t, rfl⟩ := rw'; exact e
  | flt _ => obtain ⟨t, rfl⟩ := rw'; exact e
  | ref _ => cases rw'; exact e
  | ty _ => cases rw'; exact e
end
section
variable {X : Cx}
/-- a number that may lack, as str tells it -/
def optS : Option Int → Str
  | none => Str.ofString "None"
  | some i => Str.ofString (toString i)
def optV : Option Int → V
  | none => .non
  | some i => .int i
theorem optV_non {o : Option Int} : decide (optV o = V.non) = decide (o = none) := by
  cases o with
  | none => rfl
  | some i =>
    rw [Bool.eq_iff_iff, decide_eq_true_eq, decide_eq_true_eq]
    exact ⟨fun h => (by cases h), fun h => (by cases h)⟩
def rStrOpt : List V → Hp → VK → Prop := fun xs H Q => ∃ o : Option Int, xs = [optV o] ∧ (∀ i, o = some i → i.natAbs.log2 < 1920) ∧ Q (.str (optS o)) H
theorem call_str_opt : CallR X (.type "str") rStrOpt := by
  intro pins s σ H xs us Q I r h
  obtain ⟨o, rfl, hz, q⟩ := h
  cases o with
  | none =>
    obtain ⟨u, rfl, ru⟩ := vals1 r
    obtain rfl : u = Value.none := ru
    exact PySem.P.str_of_none ⟨.str _, H, I.tok _, ⟨_, rfl⟩, q⟩
  | some i =>
    obtain ⟨u, rfl, t, rfl⟩ := vals1 r
    exact PySem.P.str_of_int (hz i rfl) ⟨.str _, H, I.tok _, ⟨_, rfl⟩, q⟩
/-- {e}, e a number or None -/
def tFmtO (te : TE) : TE := fun σ H Q => te σ H fun x H1 => ∃ o : Option Int, x = optV o ∧ (∀ i, o = some i → i.natAbs.log2 < 1920) ∧ Q (.str (optS o)) H1
theorem pe_fmtO {e : Expr} {te : TE} {pos : Pos} (he : PE X e te) : PE X (.FormattedValue e (-1) none pos) (tFmtO te) := by
  refine ⟨fun pins s σ H Q I h => ?_⟩
  refine wpAny_FormattedValue_plain (thn (he.run pins s σ H _ I h) fun v s1 hv => ?_)
  obtain ⟨x, H1, I1, r1, o, rfl, hz, q⟩ := hv
  cases o with
  | none =>
    obtain rfl : v = Value.none := r1
    exact wpAny_formatField_none ⟨.str _, H1, I1.tok _, ⟨_, rfl⟩, q⟩
  | some i =>
    obtain ⟨t, rfl⟩ := r1
    exact wpAny_formatField_int (hz i rfl) ⟨.str _, H1, I1.tok _, ⟨_, rfl⟩, q⟩
end
/-- small numbers may be written out -/
theorem small_log {i : Int} (h0 : 0 ≤ i) (h : i < 1000000000000) : i.natAbs.log2 < 1920 := by
  have h1 : i.natAbs < 2 ^ 40 := by
    have e : (2 : Nat) ^ 40 = 1099511627776 := by decide
    omega
  have := PySem.Flt.log2_lt_of (by decide : 0 < 40) h1
  omega
end K8

/-! The text by places, the promises, and what a caller needs of a def. -/
namespace K8
open PySem PySem.Spec PyProof.Rows L2 SX
def top (i : Nat) : Stmt := PySem.Challenge.pw_cellblocks_k08_whole_blocks_by_turns.main.body.getD i (.Pass ⟨0, 0, 0, 0⟩)
abbrev sWhole : Stmt := top 7
abbrev sCount : Stmt := top 8
abbrev sCell : Stmt := top 9
abbrev sChk : Stmt := top 10
abbrev sLetters : Stmt := top 14
abbrev sNumber : Stmt := top 15
abbrev sEnd : Stmt := top 19
abbrev sRows : Stmt := top 20
abbrev sCols : Stmt := top 21
abbrev sAhead : Stmt := top 22
abbrev sEnds : Stmt := top 23
abbrev sInit : Stmt := inClass (top 24) 0
abbrev sEq : Stmt := inClass (top 24) 1
abbrev sStr : Stmt := inClass (top 24) 2
abbrev sRepr : Stmt := inClass (top 24) 3
abbrev sHas : Stmt := inClass (top 24) 4
abbrev sSize : Stmt := inClass (top 24) 5
abbrev sRowT : Stmt := top 25
abbrev sColT : Stmt := top 26
abbrev sCountOf : Stmt := top 27
abbrev sParted : Stmt := top 28
abbrev sBlockOf : Stmt := top 29
abbrev sCellAt : Stmt := top 31
abbrev sWell : Stmt := top 32
abbrev sDraw : Stmt := top 33
abbrev sLLet : Stmt := top 34
abbrev sLText : Stmt := top 35
abbrev sLNum : Stmt := top 36
abbrev sLLast : Stmt := top 37
abbrev sLBlock : Stmt := top 38
abbrev sLCell : Stmt := top 39
abbrev sLHas : Stmt := top 40
abbrev sAsked : Stmt := top 41
abbrev sDue : Stmt := top 42
abbrev sLaw : Stmt := top 43

/-! ### what a caller needs of a def of the module -/
structure Def (K : PySem.W.Frag) (mg : Str → Option Value) (x : Str) (st : Stmt) : Prop where
  ex : ∃ (f : Addr) (fd : FuncData), Fun K x x st f fd ∧ mg x = some (.ref f)
structure Cal (P : Program) (w : World) (K : PySem.W.Frag) (mg : Str → Option Value) (base : Heap) (k : Nat) (x : Str) (sp : Sp) : Prop where
  ex : ∃ (f : Addr) (fd : FuncData) (ps : List Str), FnOk P w K mg base CX0 k f fd ps sp ∧ mg x = some (.ref f) ∧ PySem.W.keepIn K (.ref f) = true ∧ L2.Binds K fd ps []
section
variable {P : Program} {w : World} {K : PySem.W.Frag} {mg : Str → Option Value} {base : Heap}
theorem cal_mk {x : Str} {st : Stmt} {N ps : List Str} {k : Nat} {sp : Sp} (D : Def K mg x st) (S : FnScope N ps (defScope st))
    (hb : ∀ (kV doc pm : Value) (an : Option Addr) (cdv ct : Value) (us : List Value), us.length = ps.length → bindArgs (PySem.W.fnOf x x (defArgs st) (defBody st) (defScope st) .none kV doc pm an cdv ct) ⟨us, []⟩ = pure (ps.zip us))
    (len : ∀ vs H Q E, sp vs H Q E → vs.length = ps.length)
    (hbody : ∀ (f : Addr) (cdv : Value) (A : Around) (outer : List Env) (s : Shared) (H : Hp) (vs : List V) (Q : VK) (E : XK), Room k (A.deeper (envOfC x (defScope st) s.heap.objs.size f cdv)) → sp vs H Q E →
      ∃ t, PSs (cxOf CX0 P w K mg base N x (defScope st) f cdv A outer s H E).nox (defBody st) t ∧ t { nx := fun _ H' => Q .non H', rt := Q } (start N vs) H) : Cal P w K mg base (k + 1) x sp := by
  obtain ⟨f, fd, F, hm⟩ := D.ex
  exact ⟨f, fd, ps, F.ok S len (hbody f), hm, F.kp, F.binds hb⟩
end
section
variable {X : Cx} {k j : Nat} {x : Str} {sp : Sp} {p pos : Pos} {e : Expr} {es : List Expr} {t : TA}
theorem pe_c (c : Cal X.prog X.w X.K X.mg X.base k x sp) (hr : Room j X.A) (hk : k ≤ j) (hg : Gl X x) (ha : PA X (e :: es) t)
    (hdb : (x == ("__debug__" : Str)) = false := by decide) (he : starEach (e :: es) X.env = (false, eval e X.env) :: starEach es X.env := by rfl) (hpl : (backTo pos (starEach es X.env)).any (·.1) = false := by rfl) :
    PE X (.Call (.Name x p) (e :: es) [] pos) (tCall sp [] E0 t) := by
  obtain ⟨f, fd, ps, F, hm, kp, b⟩ := c.ex
  exact pe_call F (hr.mono hk) hg hm kp b .nil pass0 ha hdb he hpl
end

/-! ### what stands in the heap -/
def bf (f : Four) : List (Str × V) := [("top", .int f.top), ("left", .int f.left), ("bottom", optV f.bottom), ("right", optV f.right)]
def Blk (C : Addr) (H : Hp) (p : Addr) (f : Four) : Prop := ∃ dx, H p = some (.ins C dx (bf f))
def tupV (f : Four) : List V := [.int f.top, .int f.left, optV f.bottom, optV f.right]
theorem Blk.same {C : Addr} {H H' : Hp} {p : Addr} {f : Four} (b : Blk C H p f) (s : Same H H') : Blk C H' p f := by
  obtain ⟨dx, h⟩ := b
  exact ⟨dx, s _ _ h⟩
theorem lt_ : ¬ (("left" : Str) = "top") := by decide +kernel
theorem bt_ : ¬ (("bottom" : Str) = "top") := by decide +kernel
theorem bl_ : ¬ (("bottom" : Str) = "left") := by decide +kernel
theorem rt_ : ¬ (("right" : Str) = "top") := by decide +kernel
theorem rl_ : ¬ (("right" : Str) = "left") := by decide +kernel
theorem rb_ : ¬ (("right" : Str) = "bottom") := by decide +kernel
theorem look_cons (g k : Str) (v : V) (r : List (Str × V)) : List.lookup g ((k, v) :: r) = if g = k then some v else List.lookup g r := by
  by_cases h : g = k
  · have hb : (g == k) = true := beq_iff_eq.mpr h
    simp only [List.lookup, hb, if_pos h]
  · have hb : (g == k) = false := beq_eq_false_iff_ne.mpr h
    simp only [List.lookup, hb, if_neg h]
theorem bf_top (f : Four) : (bf f).lookup ("top" : Str) = some (.int f.top) := by
  unfold bf
  rw [look_cons, if_pos rfl]
theorem bf_left (f : Four) : (bf f).lookup ("left" : Str) = some (.int f.left) := by
  unfold bf
  rw [look_cons, if_neg lt_, look_cons, if_pos rfl]
theorem bf_bottom (f : Four) : (bf f).lookup ("bottom" : Str) = some (optV f.bottom) := by
  unfold bf
  rw [look_cons, if_neg bt_, look_cons, if_neg bl_, look_cons, if_pos rfl]
theorem bf_right (f : Four) : (bf f).lookup ("right" : Str) = some (optV f.right) := by
  unfold bf
  rw [look_cons, if_neg rt_, look_cons, if_neg rl_, look_cons, if_neg rb_, look_cons, if_pos rfl]
theorem bf_none (f : Four) {m : Str} (h1 : ¬ m = "top") (h2 : ¬ m = "left") (h3 : ¬ m = "bottom") (h4 : ¬ m = "right") : (bf f).lookup m = none := by
  unfold bf
  rw [look_cons, if_neg h1, look_cons, if_neg h2, look_cons, if_neg h3, look_cons, if_neg h4]
  all_goals rfl
theorem bf_put (f : Four) : putF "right" (optV f.right) (putF "bottom" (optV f.bottom) (putF "left" (.int f.left) (putF "top" (.int f.top) []))) = bf f := by
  have h1 : putF "top" (.int f.top) [] = [(("top" : Str), V.int f.top)] := rfl
  have h2 : putF "left" (.int f.left) [(("top" : Str), V.int f.top)] = [(("top" : Str), V.int f.top), (("left" : Str), V.int f.left)] := by
    show (if ("top" : Str) = "left" then _ else (("top" : Str), V.int f.top) :: putF "left" (.int f.left) []) = _
    rw [if_neg (Ne.symm lt_)]
    rfl
  have h3 : putF "bottom" (optV f.bottom) [(("top" : Str), V.int f.top), (("left" : Str), V.int f.left)] = [(("top" : Str), V.int f.top), (("left" : Str), V.int f.left), (("bottom" : Str), optV f.bottom)] := by
    show (if ("top" : Str) = "bottom" then _ else (("top" : Str), V.int f.top) :: (if ("left" : Str) = "bottom" then _ else (("left" : Str), V.int f.left) :: putF "bottom" (optV f.bottom) [])) = _
    rw [if_neg (Ne.symm bt_), if_neg (Ne.symm bl_)]
    rfl
  rw [h1, h2, h3]
  show (if ("top" : Str) = "right" then _ else (("top" : Str), V.int f.top) :: (if ("left" : Str) = "right" then _ else (("left" : Str), V.int f.left) :: (if ("bottom" : Str) = "right" then _ else (("bottom" : Str), optV f.bottom) :: putF "right" (optV f.right) []))) = _
  rw [if_neg (Ne.symm rt_), if_neg (Ne.symm rl_), if_neg (Ne.symm rb_)]
  rfl
/-- a well: three whole numbers -/
def Well (H : Hp) (a : Addr) : Prop := ∃ x y z : Int, H a = some (.lst [.int x, .int y, .int z])
/-- all but a stands -/
def But (a : Addr) (H H' : Hp) : Prop := ∀ b o, b ≠ a → H b = some o → H' b = some o
theorem But.refl (a : Addr) (H : Hp) : But a H H := fun _ _ _ h => h
theorem But.trans {a : Addr} {H H1 H2 : Hp} (x : But a H H1) (y : But a H1 H2) : But a H H2 := fun b o n h => y b o n (x b o n h)
theorem But.of {a : Addr} {H H' : Hp} (s : Same H H') : But a H H' := fun b o _ h => s b o h
theorem But.upd {a : Addr} {H : Hp} {o : HO} : But a H (upd H a o) := fun b u n h => by
  rw [upd_ne n]
  exact h
theorem Same.upd {H : Hp} {p : Addr} {o : HO} (h : H p = none) : Same H (upd H p o) := fun b u e => by
  rw [upd_ne (ne_of_none e h)]
  exact e
theorem Same.upd' {H H1 : Hp} {p : Addr} {o : HO} (s : Same H H1) (h : H1 p = none) : Same H (L2.upd H1 p o) := s.trans (Same.upd h)
/-- a new object that is written again -/
theorem Same.again {H H1 : Hp} {p : Addr} {o : HO} (s : Same H H1) (h : H p = none) : Same H (L2.upd H1 p o) := fun b u e => by
  rw [upd_ne (ne_of_none e h)]
  exact s b u e

/-! ### the plain answers -/
def endB : Option Int → Int → Bool
  | none, _ => true
  | some e, i => decide (i ≤ e)
def hasB (f : Four) (i j : Int) : Bool := decide (f.top ≤ i) && decide (f.left ≤ j) && endB f.bottom i && endB f.right j
def sizeO (f : Four) : Option Int :=
  match f.bottom, f.right with
  | some b, some r => some ((b - f.top + 1) * (r - f.left + 1))
  | _, _ => none
def reprS (f : Four) : Str := Str.ofString "Block(" ++ optS (some f.top) ++ Str.ofString ", " ++ optS (some f.left) ++ Str.ofString ", " ++ optS f.bottom ++ Str.ofString ", " ++ optS f.right ++ Str.ofString ")"
def optD : Option Int → PyData
  | none => .none
  | some i => .int i
def fourD (f : Four) : PyData := .tuple [.int f.top, .int f.left, optD f.bottom, optD f.right]
/-- what a block tells: the question's kind, the other block, the cell -/
def tell (f g : Four) (kind : Nat) (i j : Int) : PyData :=
  match kind with
  | 0 => .bool (hasB f i j)
  | 1 => optD (sizeO f)
  | 2 => .str (textS f)
  | 3 => .str (reprS f)
  | 4 => .list [.bool (decide (f = g)), .bool (decide (f = g))]
  | 5 => .list [.bool true, fourD f]
  | 6 => .str (letS f.left)
  | _ => .int f.left

/-! ### the promises -/
def spWhole : Sp := fun vs H Q _ => ∃ i : Int, vs = [.int i] ∧ Q (.bl true) H
def spCount : Sp := fun vs H Q _ => ∃ i : Int, vs = [.int i] ∧ Q (.bl (decide (1 ≤ i))) H
def spCell : Sp := fun vs H Q _ => ∃ (p : Addr) (i j : Int), vs = [.ref p] ∧ H p = some (.tup [.int i, .int j]) ∧ 1 ≤ i ∧ 1 ≤ j ∧ ∀ H', Same H H' → Q (.bl true) H'
def spChk : Sp := fun vs H Q _ => ∃ (p : Addr) (i j : Int), vs = [.ref p] ∧ H p = some (.tup [.int i, .int j]) ∧ 1 ≤ i ∧ 1 ≤ j ∧ ∀ H', Same H H' → Q .non H'
def spLetters : Sp := fun vs H Q _ => ∃ i : Int, vs = [.int i] ∧ 1 ≤ i ∧ i < 1000000000000 ∧ ∀ H', Same H H' → Q (.str (letS i)) H'
def spNumber : Sp := fun vs H Q _ => ∃ i : Int, vs = [.str (letS i)] ∧ 1 ≤ i ∧ i < 1000000000000 ∧ Q (.int i) H
def spEnd : Sp := fun vs H Q _ => ∃ (a : Int) (o : Option Int), vs = [.int a, optV o] ∧ (∀ x, o = some x → 1 ≤ x ∧ a ≤ x) ∧ Q (.bl true) H
def spRows (C : Addr) : Sp := fun vs H Q _ => ∃ (p : Addr) (f : Four), vs = [.ref p] ∧ Blk C H p f ∧ Q (.bl (isRows f)) H
def spCols (C : Addr) : Sp := fun vs H Q _ => ∃ (p : Addr) (f : Four), vs = [.ref p] ∧ Blk C H p f ∧ Q (.bl (isCols f)) H
def spAhead : Sp := fun vs H Q _ => ∃ r c : Str, vs = [.str r, .str c] ∧ c.length + r.length ≤ 1000 ∧ Q (.str (c ++ r)) H
def spEnds (K : PySem.W.Frag) (C fA : Addr) : Sp := fun vs H Q _ => ∃ (p a b : Addr) (f : Four), vs = [.ref p, .ref a, .ref b, .ref fA] ∧ Good f ∧ Blk C H p f ∧
  SqL K H a [.str (S (rowL (some f.top))), .str (S (rowL f.bottom))] ∧ SqL K H b [.str (S (colL (some f.left))), .str (S (colL f.right))] ∧ Q (.str (textS f)) H
def spInit (C : Addr) : Sp := fun vs H Q _ => ∃ (p dx : Addr) (f : Four), vs = [.ref p, .int f.top, .int f.left, optV f.bottom, optV f.right] ∧ Good f ∧ H p = some (.ins C dx []) ∧ Q .non (upd H p (.ins C dx (bf f)))
def spEq (C : Addr) : Sp := fun vs H Q _ => ∃ (a b : Addr) (f g : Four), vs = [.ref a, .ref b] ∧ Blk C H a f ∧ Blk C H b g ∧ ∀ H', Same H H' → Q (.bl (decide (f = g))) H'
def spStr (C : Addr) : Sp := fun vs H Q _ => ∃ (a : Addr) (f : Four), vs = [.ref a] ∧ Good f ∧ Blk C H a f ∧ ∀ H', Same H H' → Q (.str (textS f)) H'
def spRepr (C : Addr) : Sp := fun vs H Q _ => ∃ (a : Addr) (f : Four), vs = [.ref a] ∧ Good f ∧ Blk C H a f ∧ Q (.str (reprS f)) H
def spHas (C : Addr) : Sp := fun vs H Q _ => ∃ (a p : Addr) (f : Four) (i j : Int), vs = [.ref a, .ref p] ∧ Blk C H a f ∧ H p = some (.tup [.int i, .int j]) ∧ 1 ≤ i ∧ 1 ≤ j ∧ ∀ H', Same H H' → Q (.bl (hasB f i j)) H'
def spSize (C : Addr) : Sp := fun vs H Q _ => ∃ (a : Addr) (f : Four), vs = [.ref a] ∧ Good f ∧ Blk C H a f ∧ Q (optV (sizeO f)) H
def spRowT : Sp := fun vs H Q _ => ∃ o : Option Int, vs = [optV o] ∧ (∀ x, o = some x → 1 ≤ x ∧ x < 1000000000000) ∧ Q (.str (S (rowL o))) H
def spColT : Sp := fun vs H Q _ => ∃ o : Option Int, vs = [optV o] ∧ (∀ x, o = some x → 1 ≤ x ∧ x < 1000000000000) ∧ ∀ H', Same H H' → Q (.str (S (colL o))) H'
def spCountOf : Sp := fun vs H Q _ => ∃ i : Int, vs = [.str (numS i)] ∧ 1 ≤ i ∧ i < 1000000000000 ∧ Q (.int i) H
def spParted : Sp := fun vs H Q _ => ∃ p : Option Int × Option Int, vs = [.str (S (wordL p))] ∧ GoodW p ∧ ∀ a H', Same H H' → H' a = some (.tup [optV p.1, optV p.2]) → Q (.ref a) H'
def spBlockOf (C : Addr) : Sp := fun vs H Q _ => ∃ f : Four, vs = [.str (textS f)] ∧ Good f ∧ ∀ a H', Same H H' → Blk C H' a f → Q (.ref a) H'
def spCellAt (K : PySem.W.Frag) : Sp := fun vs H Q _ => ∃ (a : Addr) (ns : List Int) (k : Nat), vs = [.ref a, .int k] ∧ SqL K H a (ns.map V.int) ∧ ∀ i : Int, Q (.int i) H
def spWell : Sp := fun vs H Q _ => ∃ i : Int, vs = [.int i] ∧ ∀ a H', Same H H' → H a = none → Well H' a → Q (.ref a) H'
def spDraw : Sp := fun vs H Q _ => ∃ (a : Addr) (m : Int), vs = [.ref a, .int m] ∧ Well H a ∧ 0 < m ∧ m < 2 ^ 63 ∧ ∀ i H', 0 ≤ i → i < m → But a H H' → Well H' a → Q (.int i) H'
def spLLet : Sp := fun vs H Q _ => ∃ i : Int, vs = [.int i] ∧ 0 ≤ i ∧ i < 1000000000000 ∧ Q (.str (letS i)) H
def spLText : Sp := fun vs H Q _ => ∃ (q : Addr) (f : Four), vs = [.ref q] ∧ Good f ∧ H q = some (.tup (tupV f)) ∧ ∀ H', Same H H' → Q (.str (textS f)) H'
def spLNum : Sp := fun vs H Q _ => ∃ a : Addr, vs = [.ref a] ∧ Well H a ∧ ∀ i H', 1 ≤ i → i ≤ 999999999998 → But a H H' → Well H' a → Q (.int i) H'
def spLLast : Sp := fun vs H Q _ => ∃ (a : Addr) (n : Int), vs = [.ref a, .int n] ∧ Well H a ∧ n ≤ 999999999998 ∧ ∀ i H', n ≤ i → i ≤ 999999999998 → But a H H' → Well H' a → Q (.int i) H'
def spLBlock : Sp := fun vs H Q _ => ∃ a : Addr, vs = [.ref a] ∧ Well H a ∧ ∀ f p H', Good f → But a H H' → Well H' a → H' p = some (.tup (tupV f)) → Q (.ref p) H'
def spLCell : Sp := fun vs H Q _ => ∃ (a q : Addr) (f : Four), vs = [.ref a, .ref q] ∧ Good f ∧ Well H a ∧ H q = some (.tup (tupV f)) ∧ ∀ i j p H', 1 ≤ i → 1 ≤ j → But a H H' → Well H' a → H' p = some (.tup [.int i, .int j]) → Q (.ref p) H'
def spLHas : Sp := fun vs H Q _ => ∃ (q p : Addr) (f : Four) (i j : Int), vs = [.ref q, .ref p] ∧ H q = some (.tup (tupV f)) ∧ H p = some (.tup [.int i, .int j]) ∧ Q (.bl (hasB f i j)) H
/-- blocks, or fours, listed at a -/
def Blks (C : Addr) (H : Hp) (a : Addr) (fs : List Four) : Prop := ∃ ps : List Addr, H a = some (.lst (ps.map V.ref)) ∧ ps.length = fs.length ∧ ∀ (n : Nat) p f, ps[n]? = some p → fs[n]? = some f → Blk C H p f
def Fours (H : Hp) (a : Addr) (fs : List Four) : Prop := ∃ ps : List Addr, H a = some (.lst (ps.map V.ref)) ∧ ps.length = fs.length ∧ ∀ (n : Nat) p f, ps[n]? = some p → fs[n]? = some f → H p = some (.tup (tupV f))
def spAsked (K : PySem.W.Frag) (C : Addr) : Sp := fun vs H Q _ => ∃ (a p : Addr) (fs : List Four) (k o kind : Nat) (f g : Four) (i j : Int), vs = [.ref a, .int k, .int o, .int kind, .ref p] ∧ Blks C H a fs ∧ fs[k]? = some f ∧ fs[o]? = some g ∧
  Good f ∧ Good g ∧ kind < 8 ∧ H p = some (.tup [.int i, .int j]) ∧ 1 ≤ i ∧ 1 ≤ j ∧ ∀ v H', Same H H' → Dp K H' v (tell f g kind i j) → Q v H'
def spDue (K : PySem.W.Frag) : Sp := fun vs H Q _ => ∃ (a p : Addr) (fs : List Four) (k o kind : Nat) (f g : Four) (i j : Int), vs = [.ref a, .int k, .int o, .int kind, .ref p] ∧ Fours H a fs ∧ fs[k]? = some f ∧ fs[o]? = some g ∧
  Good f ∧ Good g ∧ kind < 8 ∧ H p = some (.tup [.int i, .int j]) ∧ ∀ v H', Same H H' → Dp K H' v (tell f g kind i j) → Q v H'
def spLaw (K : PySem.W.Frag) : Sp := fun vs H Q _ => ∃ (a : Addr) (ns : List Int), vs = [.ref a] ∧ SqL K H a (ns.map V.int) ∧ ns.length ≤ 63 ∧ ∀ H', Q (.bl true) H'

/-! ### what the top leaves -/
/-- the built-ins that are used are still themselves -/
structure Bare (mg : Str → Option Value) : Prop where
  isi : mg "isinstance" = none
  int : mg "int" = none
  bool : mg "bool" = none
  tuple : mg "tuple" = none
  len : mg "len" = none
  all : mg "all" = none
  divmod : mg "divmod" = none
  str : mg "str" = none
  repr : mg "repr" = none
  min : mg "min" = none
  max : mg "max" = none
  range : mg "range" = none
structure Consts (mg : Str → Option Value) : Prop where
  letters : ∃ t, mg "LETTERS" = some (.str sLET t)
  figures : ∃ t, mg "FIGURES" = some (.str sFIG t)
  mostL : ∃ t, mg "MOST_LETTERS" = some (.int 9 t)
  mostF : ∃ t, mg "MOST_FIGURES" = some (.int 12 t)
/-- the class of blocks -/
structure ClsB (K : PySem.W.Frag) (mg : Str → Option Value) (C : Addr) : Prop where
  cl : Cls K C
  nT : NoAttr K C "top"
  nL : NoAttr K C "left"
  nB : NoAttr K C "bottom"
  nR : NoAttr K C "right"
  mgC : mg "Block" = some (.ref C)
  ha : PySem.W.findIn K (.ref C) "__class__" = some (some (.builtin "object.__class__"))
  hn : PySem.W.specialIn K (.builtin "object.__class__") "__get__" = some (some (.builtin "getset_descriptor.__get__"))
  htk : PySem.W.takesIn K (.builtin "object.__class__") = some true
  hm : PySem.W.mroIn K C (.type "object") = some true
  self : PySem.W.kitOne K (.ref C) (.ref C) = some true
end K8

/-! The small defs: whole numbers, cells, letters. -/
namespace K8
open PySem PySem.Spec PyProof.Rows L2 SX
theorem iteD {c A B : Prop} [Decidable c] (hc : c) (h : A) : if decide c = true then A else B := by
  rw [decide_eq_true hc]
  exact iteT h
theorem iteDF {c A B : Prop} [Decidable c] (hc : ¬ c) (h : B) : if decide c = true then A else B := by
  rw [decide_eq_false hc]
  exact iteF h
theorem iteN {c A B : Prop} [Decidable c] (hc : ¬ c) (h : A) : if (!decide c) = true then A else B := by
  rw [decide_eq_false hc]
  exact iteT h
theorem at_ofG {α : Type} {xs : List α} {z : Int} {j : Nat} {v : α} (e : z = (j : Int)) (h : xs[j]? = some v) : atI xs z = some v := by
  rw [e]
  exact atI_nat h
theorem nat_str {n : Nat} {A : Prop} (h : n ≤ 1000000) : n ≤ sizeLine := by
  rw [sizeLine_eq]
  omega
/-- a loop over a text's signs -/
theorem for_str {x : Str} {g : TG} {tb : TS} {D : Ends} {σ : L2.St} {H : Hp} (Pv : Nat → L2.St → Hp → Prop) (h0 : Pv 0 σ H)
    (hs : ∀ (i : Nat) (c : Nat) σ H, x.cps[i]? = some c → Pv i σ H → g (.str ⟨#[c]⟩) σ H fun σ2 H2 => tb { D with nx := Pv (i + 1), ct := Pv (i + 1), bk := D.nx } σ2 H2) (hd : ∀ σ H, Pv x.cps.size σ H → D.nx σ H) :
    ∃ W : Nat → Nat → L2.St → Hp → Prop, (∃ m, W 0 m σ H) ∧ ∀ i m σ H, W i m σ H →
      ((Its x).stop i H ∧ D.nx σ H) ∨ ((Its x).go i H ∧ ∃ N : L2.St → Hp → Prop, (∀ σ' H', N σ' H' → ∃ m', m' < m ∧ W (i + 1) m' σ' H') ∧ ∀ y H', (Its x).yld i H y H' → g y σ H' fun σ2 H2 => tb { D with nx := N, ct := N, bk := D.nx } σ2 H2) := by
  refine ⟨fun i m σ H => m = x.cps.size - i ∧ i ≤ x.cps.size ∧ Pv i σ H, ⟨x.cps.size, by simp, Nat.zero_le _, h0⟩, ?_⟩
  rintro i m σ H ⟨rfl, hi, p⟩
  by_cases hlt : i < x.cps.size
  · refine .inr ⟨hlt, Pv (i + 1), fun σ' H' p' => ⟨x.cps.size - (i + 1), by omega, rfl, hlt, p'⟩, fun y H' q => ?_⟩
    obtain ⟨e, c, hc, ey⟩ := q
    subst e
    subst ey
    exact hs i c σ _ hc p
  · have e : i = x.cps.size := by omega
    subst e
    exact .inl ⟨Nat.le_refl _, hd σ H p⟩
section
variable {P : Program} {w : World} {K : PySem.W.Frag} {mg : Str → Option Value} {base : Heap}
theorem scWhole : FnScope ["thing"] ["thing"] (defScope sWhole) := ⟨rfl, rfl, rfl, by decide +kernel, rfl, by decide +kernel, by decide +kernel⟩
theorem cal_whole (D : Def K mg "is_whole" sWhole) (B : Bare mg) : Cal P w K mg base 1 "is_whole" spWhole := by
  refine cal_mk D scWhole (fun _ _ _ _ _ _ us hl => match us, hl with | [_], _ => rfl) (fun vs H Q E h => ?_) (fun f cdv A outer s H vs Q E hr h => ?_)
  · obtain ⟨i, rfl, _⟩ := h
    rfl
  · obtain ⟨i, rfl, k⟩ := h
    refine ⟨_, pss_one (ps_ret (pe_and (pe_callB call_isi (by rfl) B.isi (by decide +kernel) (pa_cons (pv 0) (pa_cons (pe_bltn (v := .ty "int") (by rfl) B.int (by decide +kernel) rfl) pa_nil)))
      (pe_one (pe_not (pe_callB call_isi (by rfl) B.isi (by decide +kernel) (pa_cons (pv 0) (pa_cons (pe_bltn (v := .ty "bool") (by rfl) B.bool (by decide +kernel) rfl) pa_nil))))))), ?_⟩
    refine ⟨_, rfl, V.int i, .ty "int", .type "int", .type "int", true, rfl, .ty "int", .base (.int i), kit_ty (by decide +kernel), true, rfl, iteT ?_⟩
    exact ⟨_, rfl, V.int i, .ty "bool", .type "int", .type "bool", false, rfl, .ty "bool", .base (.int i), kit_ty (by decide +kernel), false, rfl, k⟩
theorem scCount : FnScope ["thing"] ["thing"] (defScope sCount) := ⟨rfl, rfl, rfl, by decide +kernel, rfl, by decide +kernel, by decide +kernel⟩
theorem cal_count (D : Def K mg "is_count" sCount) (cW : Cal P w K mg base 1 "is_whole" spWhole) : Cal P w K mg base 2 "is_count" spCount := by
  refine cal_mk D scCount (fun _ _ _ _ _ _ us hl => match us, hl with | [_], _ => rfl) (fun vs H Q E h => ?_) (fun f cdv A outer s H vs Q E hr h => ?_)
  · obtain ⟨i, rfl, _⟩ := h
    rfl
  · obtain ⟨i, rfl, k⟩ := h
    refine ⟨_, pss_one (ps_ret (pe_and (pe_c cW hr (by decide) (by rfl) (pa_cons (pv 0) pa_nil)) (pe_one (pe_cmp (pc_ge (pv 0) pe_int) rfl)))), ?_⟩
    exact ⟨_, rfl, i, rfl, true, rfl, iteT ⟨_, rfl, i, 1, rfl, rfl, k⟩⟩
theorem scEnd : FnScope ["first", "last"] ["first", "last"] (defScope sEnd) := ⟨rfl, rfl, rfl, by decide +kernel, rfl, by decide +kernel, by decide +kernel⟩
theorem cal_end (D : Def K mg "is_end" sEnd) (cC : Cal P w K mg base 2 "is_count" spCount) : Cal P w K mg base 3 "is_end" spEnd := by
  refine cal_mk D scEnd (fun _ _ _ _ _ _ us hl => match us, hl with | [_, _], _ => rfl) (fun vs H Q E h => ?_) (fun f cdv A outer s H vs Q E hr h => ?_)
  · obtain ⟨a, o, rfl, _⟩ := h
    rfl
  · obtain ⟨a, o, rfl, ho, k⟩ := h
    refine ⟨_, pss_one (ps_ret (pe_or (pe_cmp (pc_isN (pv 1)) rfl) (pe_one (pe_and (pe_c cC hr (by decide) (by rfl) (pa_cons (pv 1) pa_nil)) (pe_one (pe_cmp (pc_ge (pv 1) (pv 0)) rfl)))))), ?_⟩
    cases o with
    | none => exact ⟨_, rfl, true, rfl, iteT k⟩
    | some x =>
      obtain ⟨h1, h2⟩ := ho x rfl
      refine ⟨_, rfl, false, rfl, iteF ?_⟩
      refine ⟨_, rfl, x, rfl, decide (1 ≤ x), rfl, iteD h1 ?_⟩
      refine ⟨_, rfl, _, rfl, x, a, rfl, rfl, ?_⟩
      show Q (.bl (decide (a ≤ x))) H
      rw [decide_eq_true h2]
      exact k
theorem scLetters : FnScope ["number", "found", "rest"] ["number"] (defScope sLetters) := ⟨rfl, rfl, rfl, by decide +kernel, rfl, by decide +kernel, by decide +kernel⟩
theorem cal_letters (D : Def K mg "letters_of" sLetters) (B : Bare mg) (Z : Consts mg) (cC : Cal P w K mg base 2 "is_count" spCount) : Cal P w K mg base 3 "letters_of" spLetters := by
  obtain ⟨tL, hL⟩ := Z.letters
  refine cal_mk D scLetters (fun _ _ _ _ _ _ us hl => match us, hl with | [_], _ => rfl) (fun vs H Q E h => ?_) (fun f cdv A outer s H vs Q E hr h => ?_)
  · obtain ⟨i, rfl, _⟩ := h
    rfl
  · obtain ⟨n, rfl, h1, h2, k⟩ := h
    refine ⟨_, pss_cons (ps_if (pt_not (pt_val (pe_c cC hr (by decide) (by rfl) (pa_cons (pv 0) pa_nil)))) pss_never pss_nil)
      (pss_cons (ps_set (i := 1) scLetters.nd rfl (.inl rfl) pe_str)
      (pss_cons (ps_while PassesOwn.never (pt_cmpR op_gt (pv 0) pe_int (nomark _))
        (pss_cons (ps_asg (pe_callB call_divmod (by rfl) B.divmod (by decide +kernel) (pa_cons (pe_op op_sub (pv 0) pe_int) (pa_cons pe_int pa_nil)))
            (pg_tup rfl (pgs_cons (pg_name (i := 0) scLetters.nd rfl (.inl rfl)) (pgs_cons (pg_name (i := 2) scLetters.nd rfl (.inl rfl)) pgs_nil))))
          (pss_one (ps_set (i := 1) scLetters.nd rfl (.inl rfl) (pe_op op_add_str (pe_ix ix_str (pe_glob (v := .str sLET) (by rfl) hL ⟨_, rfl⟩) (pv 2) (fun _ _ => rfl)) (pv 1))))))
      (pss_one (ps_ret (pv 1))))), ?_⟩
    refine ⟨_, rfl, n, rfl, decide (1 ≤ n), rfl, iteNS h1 ?_⟩
    have hcode : (n.toNat : Int) = n := by omega
    refine while_by (fun σ H' => ∃ (m : Nat) (l : List Nat) (r : Option V), σ = [some (.int (m : Int)), some (.str (S l)), r] ∧ lets n.toNat = lets m ++ l ∧ Same H H' ∧ m < 1000000000000)
      (fun σ _ => match σ with | some (.int m) :: _ => m.toNat | _ => 0)
      ⟨n.toNat, [], none, ?_, by rw [List.append_nil], Same.refl H, by omega⟩ ?_ (fun σ H Q Q' m ⟨v, hv, i, j, e1, e2, c, e3, q⟩ => ⟨v, hv, i, j, e1, e2, c, e3, m _ _ q⟩)
    · show [some (V.int n), some (V.str (Str.ofString "")), none] = [some (V.int (n.toNat : Int)), some (V.str (S [])), none]
      rw [hcode, empty_S]
    · rintro σ H1 ⟨m, l, r, rfl, e, s1, hm⟩
      refine ⟨_, rfl, _, _, rfl, rfl, _, rfl, ?_⟩
      by_cases hz : m = 0
      · refine iteDF (by omega) ?_
        subst hz
        rw [lets_zero, List.nil_append] at e
        refine ⟨_, rfl, ?_⟩
        have q := k H1 s1
        unfold letS at q
        rw [e] at q
        exact q
      · refine iteD (by omega) ?_
        refine ⟨_, rfl, _, _, rfl, rfl, _, _, rfl, ⟨by decide, by decide⟩, fun p hp => ?_⟩
        refine ⟨p, _, rfl, SqT.of upd_same, rfl, _, _, rfl, _, _, rfl, rfl, ?_⟩
        have em : ((m : Int) - 1) % 26 = (((m - 1) % 26 : Nat) : Int) := by omega
        have ed : ((m : Int) - 1) / 26 = (((m - 1) / 26 : Nat) : Int) := by omega
        have hr26 : (m - 1) % 26 < 26 := Nat.mod_lt _ (by decide)
        have hat : sLET.cps.toList[(m - 1) % 26]? = some (65 + (m - 1) % 26) := by
          rw [let_codes, List.getElem?_map, List.getElem?_range hr26]
          rfl
        have elen := congrArg List.length e
        rw [List.length_append] at elen
        have h9 : (lets n.toNat).length ≤ 9 := lets_len9 (by omega)
        refine ⟨_, rfl, sLET, _, 65 + (m - 1) % 26, rfl, rfl, nat_str (A := True) (by rw [let_len]; decide), at_ofG em hat, ?_⟩
        refine ⟨_, rfl, _, _, rfl, rfl, nat_str (A := True) (by
          show (S [65 + (m - 1) % 26]).length + (S l).length ≤ 1000000
          rw [S_len, S_len, List.length_singleton]
          omega), ?_⟩
        refine ⟨⟨(m - 1) / 26, [65 + (m - 1) % 26] ++ l, some (.int (((m : Int) - 1) % 26)), ?_, ?_, Same.upd' s1 hp, by omega⟩, ?_⟩
        · show [some (V.int (((m : Int) - 1) / 26)), some (V.str (S [65 + (m - 1) % 26] ++ S l)), some (V.int (((m : Int) - 1) % 26))] = _
          rw [S_cat, ed]
        · rw [e, lets_pos (n := m) (by omega), List.append_assoc]
        · show (((m : Int) - 1) / 26).toNat < ((m : Int)).toNat
          omega
theorem scNumber : FnScope ["letters", "found", "letter"] ["letters"] (defScope sNumber) := ⟨rfl, rfl, rfl, by decide +kernel, rfl, by decide +kernel, by decide +kernel⟩
theorem cal_number (D : Def K mg "number_of" sNumber) (B : Bare mg) (Z : Consts mg) : Cal P w K mg base 1 "number_of" spNumber := by
  obtain ⟨tL, hL⟩ := Z.letters
  obtain ⟨tM, hM⟩ := Z.mostL
  refine cal_mk D scNumber (fun _ _ _ _ _ _ us hl => match us, hl with | [_], _ => rfl) (fun vs H Q E h => ?_) (fun f cdv A outer s H vs Q E hr h => ?_)
  · obtain ⟨i, rfl, _⟩ := h
    rfl
  · obtain ⟨n, rfl, h1, h2, k⟩ := h
    refine ⟨_, pss_cons (ps_if (PW.pt (pw_or (pt_not (pt_val (pe_callB call_isi (by rfl) B.isi (by decide +kernel) (pa_cons (pv 0) (pa_cons (pe_bltn (v := .ty "str") (by rfl) B.str (by decide +kernel) rfl) pa_nil)))))
        (pw_or (pt_cmpR op_ne (pe_m1 PySem.F.slot_str_strip PySem.F.type_str_strip mt_stripChars (pv 0) (pe_glob (v := .str sLET) (by rfl) hL ⟨_, rfl⟩)) pe_str (nomark _))
          (pw_or1 (pt_not (pt_chain op_le op_le pe_int (pe_callB call_len_str (by rfl) B.len PySem.boot_len (pa_cons (pv 0) pa_nil)) (pe_glob (v := .int 9) (by rfl) hM ⟨_, rfl⟩))))))) pss_never pss_nil)
      (pss_cons (ps_set (i := 1) scNumber.nd rfl (.inl rfl) pe_int)
      (pss_cons (ps_for PassesOwn.never rfl (pi_str (pv 0)) (pg_name (i := 2) scNumber.nd rfl (.inl rfl))
        (pss_one (ps_set (i := 1) scNumber.nd rfl (.inl rfl) (pe_op op_add (pe_op op_add (pe_op op_mul (pv 1) pe_int) (pe_m1 PySem.F.slot_str_index PySem.F.type_str_index mt_sindex (pe_glob (v := .str sLET) (by rfl) hL ⟨_, rfl⟩) (pv 2))) pe_int))))
      (pss_one (ps_ret (pv 1))))), ?_⟩
    have hl9 := let_len9 h2
    have hl1 := let_ne h1
    refine ⟨_, rfl, .str (letS n), .ty "str", .type "str", .type "str", true, rfl, .ty "str", .base (.str _), kit_ty (by decide +kernel), true, rfl, iteF ?_⟩
    refine ⟨_, rfl, ⟨_, rfl⟩, _, _, rfl, rfl, nat_str (A := True) (by omega), rfl, _, rfl, iteNS (by rw [lets_strip, empty_S]) ?_⟩
    refine ⟨_, rfl, _, rfl, nat_str (A := True) (by omega), _, _, rfl, rfl, _, rfl, iteD (by omega) ⟨_, _, rfl, rfl, _, rfl, iteNS (by omega) ?_⟩⟩
    have hsz : (letS n).cps.size = (lets n.toNat).length := by
      show (S (lets n.toNat)).length = _
      rw [S_len]
    refine ⟨_, rfl, _, rfl, for_str (fun i σ H' => ∃ r : Option V, σ = [some (.str (letS n)), some (.int (valL ((lets n.toNat).take i) : Nat)), r] ∧ H' = H) ⟨none, rfl, rfl⟩ ?_ ?_⟩
    · rintro i c σ H' hc ⟨r, rfl, rfl⟩
      have hc' : (lets n.toNat)[i]? = some c := by
        have q := hc
        rw [← Array.getElem?_toList] at q
        exact q
      have hcr := lets_range _ c (List.mem_of_getElem? hc')
      have hocc := let_occ (c - 65) (by omega)
      have hcc : 65 + (c - 65) = c := by omega
      rw [hcc] at hocc
      have hlt : valL ((lets n.toNat).take i) < 2 ^ 64 := by
        have hbig : ∀ (l : List Nat) (a : Nat), a ≤ l.foldl (fun a c => a * 26 + (c - 65) + 1) a := fun l => by
          induction l with
          | nil => exact fun a => Nat.le_refl a
          | cons d l ih => exact fun a => Nat.le_trans (show a ≤ a * 26 + (d - 65) + 1 by omega) (ih _)
        have h3 : valL ((lets n.toNat).take i) ≤ valL (lets n.toNat) := by
          have e := List.take_append_drop i (lets n.toNat)
          have e2 : valL (lets n.toNat) = ((lets n.toNat).drop i).foldl (fun a c => a * 26 + (c - 65) + 1) (valL ((lets n.toNat).take i)) := by
            conv => lhs; rw [← e]
            unfold valL
            rw [List.foldl_append]
          rw [e2]
          exact hbig _ _
        rw [lets_val] at h3
        have : (2 : Nat) ^ 64 = 18446744073709551616 := by decide
        omega
      refine ⟨_, rfl, _, _, rfl, rfl, .inr ⟨by decide, by decide⟩, ⟨_, rfl⟩, _, rfl, sLET, _, _, [], rfl, rfl, hocc, _, _, rfl, rfl, _, _, rfl, rfl, ?_⟩
      refine ⟨some (.str ⟨#[c]⟩), ?_, rfl⟩
      show [some (V.str (letS n)), some (V.int ((valL ((lets n.toNat).take i) : Nat) * 26 + ((c - 65 : Nat) : Int) + 1)), some (V.str ⟨#[c]⟩)] = _
      rw [valL_take hc']
      have e4 : (((valL ((lets n.toNat).take i) : Nat) : Int) * 26 + ((c - 65 : Nat) : Int) + 1) = ((valL ((lets n.toNat).take i) * 26 + (c - 65) + 1 : Nat) : Int) := by omega
      rw [e4]
    · rintro σ H' ⟨r, rfl, rfl⟩
      refine ⟨_, rfl, ?_⟩
      have e5 : (((valL ((lets n.toNat).take (letS n).cps.size) : Nat)) : Int) = n := by
        rw [hsz, List.take_length, lets_val]
        omega
      rw [e5]
      exact k
theorem scCell : FnScope ["thing", "part"] ["thing"] (defScope sCell) := ⟨rfl, rfl, rfl, by decide +kernel, rfl, by decide +kernel, by decide +kernel⟩
theorem cal_cell (D : Def K mg "is_cell" sCell) (B : Bare mg) (cC : Cal P w K mg base 2 "is_count" spCount) : Cal P w K mg base 3 "is_cell" spCell := by
  refine cal_mk D scCell (fun _ _ _ _ _ _ us hl => match us, hl with | [_], _ => rfl) (fun vs H Q E h => ?_) (fun f cdv A outer s H vs Q E hr h => ?_)
  · obtain ⟨p, i, j, rfl, _⟩ := h
    rfl
  · obtain ⟨p, i, j, rfl, hp, h1, h2, k⟩ := h
    refine ⟨_, pss_one (ps_ret (pe_and (pe_callB call_isi (by rfl) B.isi (by decide +kernel) (pa_cons (pv 0) (pa_cons (pe_bltn (v := .ty "tuple") (by rfl) B.tuple (by decide +kernel) rfl) pa_nil)))
      (pe_and (pe_cmpR op_eq (pe_callB call_len_seq (by rfl) B.len PySem.boot_len (pa_cons (pv 0) pa_nil)) pe_int (nomark _))
        (pe_one (pe_callB (cr_all rfl) (by rfl) B.all (by decide +kernel) (pa_cons
          (pe_lc (own := [("part", 1)]) (g := gName 1) (tt := tYes) rfl scCell.nd (pi_tup (pv 0)) (blkOk_by (N := ["thing", "part"]) (sc := defScope sCell) (by decide +kernel))
            (fun _ _ _ _ _ => pg_name (i := 1) scCell.nd rfl (Or.inl rfl)) (fun _ _ _ _ _ => pts_nil) (fun _ _ _ _ _ => pe_c cC hr (by decide) (by rfl) (pa_cons (pv 1) pa_nil))) pa_nil)))))), ?_⟩
    refine ⟨_, rfl, V.ref p, .ty "tuple", .type "tuple", .type "tuple", true, rfl, .ty "tuple", .base (.tup hp), kit_ty (by decide +kernel), true, rfl, iteT ?_⟩
    refine ⟨_, rfl, p, _, rfl, .inr (SqT.of hp), rfl, true, rfl, iteT ?_⟩
    refine ⟨_, rfl, p, rfl, ⟨_, SqT.of hp⟩, fun D0 hD => lc_tup (K := K) (a := p) (xs := [.int i, .int j]) (fun n H' => Same H H' ∧ H' D0 = some (.lst ((List.replicate n true).map V.bl))) ⟨Same.upd hD, upd_same⟩ (fun n H' _ q => SqT.of (q.1 _ _ hp)) ?_ ?_⟩
    · rintro n x H' hx ⟨s1, hd⟩
      obtain ⟨z, rfl, hz⟩ : ∃ z : Int, x = .int z ∧ 1 ≤ z := by
        match n, hx with
        | 0, hx => exact ⟨i, (Option.some.inj hx).symm, h1⟩
        | 1, hx => exact ⟨j, (Option.some.inj hx).symm, h2⟩
        | n + 2, hx => simp at hx
      have hn : n < 2 := (List.getElem?_eq_some_iff.mp hx).1
      refine ⟨rfl, ?_⟩
      refine ⟨_, rfl, z, rfl, _, hd, ?_, Same.again s1 hD, ?_⟩
      · rw [List.length_map, List.length_replicate, sizeLine_eq]
        omega
      · rw [upd_same, decide_eq_true hz, List.replicate_succ']
        simp
    · rintro H' ⟨s1, hd⟩
      exact ⟨D0, [true, true], rfl, SqL.of hd, k H' s1⟩
theorem scChk : FnScope ["thing"] ["thing"] (defScope sChk) := ⟨rfl, rfl, rfl, by decide +kernel, rfl, by decide +kernel, by decide +kernel⟩
theorem cal_chk (D : Def K mg "checked_cell" sChk) (cC : Cal P w K mg base 3 "is_cell" spCell) : Cal P w K mg base 4 "checked_cell" spChk := by
  refine cal_mk D scChk (fun _ _ _ _ _ _ us hl => match us, hl with | [_], _ => rfl) (fun vs H Q E h => ?_) (fun f cdv A outer s H vs Q E hr h => ?_)
  · obtain ⟨p, i, j, rfl, _⟩ := h
    rfl
  · obtain ⟨p, i, j, rfl, hp, h1, h2, k⟩ := h
    refine ⟨_, pss_one (ps_if (pt_not (pt_val (pe_c cC hr (by decide) (by rfl) (pa_cons (pv 0) pa_nil)))) pss_never pss_nil), ?_⟩
    exact ⟨_, rfl, p, i, j, rfl, hp, h1, h2, fun H' s1 => ⟨true, rfl, iteF (k H' s1)⟩⟩
end
end K8

/-! What is told as data: shapes and equality. -/
namespace K8
open PySem PySem.Spec PyProof.Rows L2 SX
theorem optD_lay (o : Option Int) : (optD o).canLay0 = true := by
  cases o with
  | none => rfl
  | some i => rfl
theorem optD_depth (o : Option Int) : (optD o).depth = 0 := by
  cases o with
  | none => rfl
  | some i => rfl
theorem shaped_four (f : Four) : SeqAt.shaped (fourD f) = true := by
  unfold SeqAt.shaped fourD
  simp only [PyData.canLay0, PyData.canLayAll0, PyData.depth, PyData.depthAll, optD_lay, optD_depth]
  decide
theorem eqv_opt (a b : Option Int) : PyData.eqv (optD a) (optD b) = decide (a = b) := by
  cases a with
  | none =>
    cases b with
    | none => simp [optD, PyData.eqv]
    | some j => simp [optD, PyData.eqv]
  | some i =>
    cases b with
    | none => simp [optD, PyData.eqv]
    | some j =>
      simp only [optD, PyData.eqv]
      rw [Bool.eq_iff_iff]
      simp
theorem eqv_four (f g : Four) : PyData.eqv (fourD f) (fourD g) = decide (f = g) := by
  obtain ⟨t, l, b, r⟩ := f
  obtain ⟨t', l', b', r'⟩ := g
  unfold fourD
  simp only [PyData.eqv, PyData.eqvAll, eqv_opt]
  rw [Bool.eq_iff_iff]
  simp [and_assoc]
theorem dp_opt {K : PySem.W.Frag} {H : Hp} (o : Option Int) : Dp K H (optV o) (optD o) := by
  cases o with
  | none => exact .non
  | some i => exact .int i
theorem dp_four {K : PySem.W.Frag} {H : Hp} {p : Addr} {f : Four} (h : H p = some (.tup (tupV f))) : Dp K H (.ref p) (fourD f) :=
  .tup (SqT.of h) (.cons (.int _) (.cons (.int _) (.cons (dp_opt _) (.cons (dp_opt _) .nil))))
theorem decI {i j : Int} : decide (V.int i = V.int j) = decide (i = j) := by
  rw [Bool.eq_iff_iff]
  simp
end K8

/-! The blocks' own defs, first part. -/
namespace K8
open PySem PySem.Spec PyProof.Rows L2 SX
/-- a method of the class at C as it stands in the text -/
structure DefM (K : PySem.W.Frag) (C : Addr) (m qual : Str) (st : Stmt) : Prop where
  ex : ∃ (f : Addr) (fd : FuncData), Meth K C m f ∧ Fun K m qual st f fd
structure Met (P : Program) (w : World) (K : PySem.W.Frag) (mg : Str → Option Value) (base : Heap) (k : Nat) (C : Addr) (m : Str) (sp : Sp) : Prop where
  ex : ∃ (f : Addr) (fd : FuncData) (ps : List Str), Meth K C m f ∧ FnOk P w K mg base CX0 k f fd ps sp ∧ L2.Binds K fd ps []
structure DefAt (P : Program) (w : World) (K : PySem.W.Frag) (mg : Str → Option Value) (base : Heap) (k : Nat) (f : Addr) (sp : Sp) : Prop where
  ex : ∃ (fd : FuncData) (ps : List Str), FnOk P w K mg base CX0 k f fd ps sp ∧ PySem.W.keepIn K (.ref f) = true ∧ L2.Binds K fd ps []
structure Mak (P : Program) (w : World) (K : PySem.W.Frag) (mg : Str → Option Value) (base : Heap) (k : Nat) (C : Addr) (sp : Sp) : Prop where
  ex : ∃ (f : Addr) (fd : FuncData) (ps : List Str) (ds : List Value), Mk K C f ∧ FnOk P w K mg base CX0 k f fd ps sp ∧ L2.Binds K fd ps ds ∧ Vals [] ds
section
variable {P : Program} {w : World} {K : PySem.W.Frag} {mg : Str → Option Value} {base : Heap} {C : Addr}
theorem met_mk {m qual : Str} {st : Stmt} {N ps : List Str} {k : Nat} {sp : Sp} (D : DefM K C m qual st) (S : FnScope N ps (defScope st))
    (hb : ∀ (kV doc pm : Value) (an : Option Addr) (cdv ct : Value) (us : List Value), us.length = ps.length → bindArgs (PySem.W.fnOf m qual (defArgs st) (defBody st) (defScope st) .none kV doc pm an cdv ct) ⟨us, []⟩ = pure (ps.zip us))
    (len : ∀ vs H Q E, sp vs H Q E → vs.length = ps.length)
    (hbody : ∀ (f : Addr) (cdv : Value) (A : Around) (outer : List Env) (s : Shared) (H : Hp) (vs : List V) (Q : VK) (E : XK), Room k (A.deeper (envOfC qual (defScope st) s.heap.objs.size f cdv)) → sp vs H Q E →
      ∃ t, PSs (cxOf CX0 P w K mg base N qual (defScope st) f cdv A outer s H E).nox (defBody st) t ∧ t { nx := fun _ H' => Q .non H', rt := Q } (start N vs) H) : Met P w K mg base (k + 1) C m sp := by
  obtain ⟨f, fd, hm, F⟩ := D.ex
  exact ⟨f, fd, ps, hm, F.ok S len (hbody f), F.binds hb⟩
end
section
variable {X : Cx} {k j : Nat} {C : Addr} {m x : Str} {sp : Sp} {p pos apos : Pos} {e o : Expr} {es : List Expr} {ta : TE} {t : TA}
theorem pe_m (c : Met X.prog X.w X.K X.mg X.base k C m sp) (cl : Cls X.K C) (hr : Room j X.A) (hk : k ≤ j) (he : PE X o ta) (ha : PA X (e :: es) t) {pl : Sem Bool}
    (hst : starEach (e :: es) X.env = (false, eval e X.env) :: starEach es X.env := by rfl) (hpl : (backTo pos (starEach es X.env)).any (·.1) = false := by rfl)
    (ht : eval (.Call (.Attribute o m apos) (e :: es) [] pos) X.env = (do
      let ov ← eval o X.env
      standAt apos.atName
      let (f, first) ← holding [ov] (getMethod ov m pl)
      callWith pos f first (backTo pos (starEach (e :: es) X.env)) (backToKw pos (keywordEach [] X.env))) := by rfl) :
    PE X (.Call (.Attribute o m apos) (e :: es) [] pos) (tMeth C m sp [] E0 ta t) := by
  obtain ⟨f, fd, ps, hm, F, b⟩ := c.ex
  exact pe_meth (pl := pl) he cl hm F (hr.mono hk) b .nil pass0 ha hst hpl ht
theorem pe_m0' (c : Met X.prog X.w X.K X.mg X.base k C m sp) (cl : Cls X.K C) (hr : Room j X.A) (hk : k ≤ j) (he : PE X o ta) {pl : Sem Bool}
    (ht : eval (.Call (.Attribute o m apos) [] [] pos) X.env = (do
      let ov ← eval o X.env
      standAt apos.atName
      let (f, first) ← holding [ov] (getMethod ov m pl)
      callWith pos f first (backTo pos (starEach [] X.env)) (backToKw pos (keywordEach [] X.env))) := by rfl) :
    PE X (.Call (.Attribute o m apos) [] [] pos) (tMeth C m sp [] E0 ta tNil) := by
  obtain ⟨f, fd, ps, hm, F, b⟩ := c.ex
  exact pe_meth0 (pl := pl) he cl hm F (hr.mono hk) b .nil pass0 ht
theorem pe_mkB (c : Mak X.prog X.w X.K X.mg X.base k C sp) (hm : X.mg x = some (.ref C)) (hr : Room j X.A) (hk : k + 1 ≤ j) (hg : Gl X x) (ha : PA X (e :: es) t)
    (hdb : (x == ("__debug__" : Str)) = false := by decide) (he : starEach (e :: es) X.env = (false, eval e X.env) :: starEach es X.env := by rfl) (hpl : (backTo pos (starEach es X.env)).any (·.1) = false := by rfl) :
    PE X (.Call (.Name x p) (e :: es) [] pos) (tMake C sp [] E0 t) := by
  obtain ⟨f, fd, ps, ds, M, F, b, d⟩ := c.ex
  exact pe_make M F (hr.mono hk) hg hm b d pass0 ha hdb he hpl
/-- a local name that holds the def at f, called -/
theorem pe_cL {i : Nat} {f : Addr} (c : DefAt X.prog X.w X.K X.mg X.base k f sp) (hr : Room j X.A) (hk : k ≤ j) (hN : X.N[i]? = some x) (hv : Vis X.env.scope x) (ha : PA X (e :: es) t)
    (hdb : (x == ("__debug__" : Str)) = false := by decide) (hcd : (x == ("__classdict__" : Str)) = false := by decide)
    (he : starEach (e :: es) X.env = (false, eval e X.env) :: starEach es X.env := by rfl) (hpl : (backTo pos (starEach es X.env)).any (·.1) = false := by rfl) :
    PE X (.Call (.Name x p) (e :: es) [] pos) (tCallL i f sp [] E0 t) := by
  obtain ⟨fd, ps, F, kp, b⟩ := c.ex
  exact pe_callL F (hr.mono hk) hN hv kp b .nil pass0 ha hdb hcd he hpl
theorem str_own (c : Met X.prog X.w X.K X.mg X.base k C "__str__" sp) (hr : Room j X.A) (hk : k + 2 ≤ j) : CallR X (.type "str") (rStrO C sp E0) := by
  obtain ⟨f, fd, ps, hm, F, b⟩ := c.ex
  exact call_str_own F (hr.mono hk) hm.at_ hm.fn b pass0
theorem repr_own (c : Met X.prog X.w X.K X.mg X.base k C "__repr__" sp) (hr : Room j X.A) (hk : k + 1 ≤ j) : CallR X (.builtin "repr") (rStrO C sp E0) := by
  obtain ⟨f, fd, ps, hm, F, b⟩ := c.ex
  exact call_repr_own F (hr.mono hk) hm.at_ hm.fn b pass0
theorem eq_own (c : Met X.prog X.w X.K X.mg X.base k C "__eq__" sp) (hr : Room j X.A) (hk : k ≤ j) : OpR X (compareOp .Eq) (rEqO C sp E0) := by
  obtain ⟨f, fd, ps, hm, F, b⟩ := c.ex
  exact op_eq_own F (hr.mono hk) hm.at_ hm.fn b pass0
end
section
variable {P : Program} {w : World} {K : PySem.W.Frag} {mg : Str → Option Value} {base : Heap} {C : Addr}
theorem scRows : FnScope ["block"] ["block"] (defScope sRows) := ⟨rfl, rfl, rfl, by decide +kernel, rfl, by decide +kernel, by decide +kernel⟩
theorem cal_rows (D : Def K mg "is_rows" sRows) (T : ClsB K mg C) : Cal P w K mg base 1 "is_rows" (spRows C) := by
  refine cal_mk D scRows (fun _ _ _ _ _ _ us hl => match us, hl with | [_], _ => rfl) (fun vs H Q E h => ?_) (fun f cdv A outer s H vs Q E hr h => ?_)
  · obtain ⟨i, _, rfl, _⟩ := h
    rfl
  · obtain ⟨p, f, rfl, ⟨dx, hp⟩, k⟩ := h
    refine ⟨_, pss_one (ps_ret (pe_and (pe_cmpR op_eq (pe_fld (pv 0) rfl) pe_int (nomark _)) (pe_and (pe_cmp (pc_isN (pe_fld (pv 0) rfl)) rfl) (pe_one (pe_cmp (pc_notN (pe_fld (pv 0) rfl)) rfl))))), ?_⟩
    refine ⟨_, rfl, p, C, dx, _, _, rfl, hp, T.cl, T.nL, bf_left f, rfl, decide (f.left = 1), congrArg V.bl decI, ?_⟩
    by_cases hl : f.left = 1
    · refine iteD hl ?_
      refine ⟨_, rfl, p, C, dx, _, _, rfl, hp, T.cl, T.nR, bf_right f, decide (f.right = none), congrArg V.bl optV_non, ?_⟩
      by_cases hr2 : f.right = none
      · refine iteD hr2 ?_
        refine ⟨_, rfl, p, C, dx, _, _, rfl, hp, T.cl, T.nB, bf_bottom f, ?_⟩
        have e : isRows f = !decide (optV f.bottom = V.non) := by
          unfold isRows
          rw [optV_non]
          simp [hl, hr2]
        rw [e] at k
        exact k
      · refine iteDF hr2 ?_
        have e : isRows f = false := by
          unfold isRows
          simp [hr2]
        rw [e] at k
        exact k
    · refine iteDF hl ?_
      have e : isRows f = false := by
        unfold isRows
        simp [hl]
      rw [e] at k
      exact k
theorem scCols : FnScope ["block"] ["block"] (defScope sCols) := ⟨rfl, rfl, rfl, by decide +kernel, rfl, by decide +kernel, by decide +kernel⟩
theorem cal_cols (D : Def K mg "is_columns" sCols) (T : ClsB K mg C) : Cal P w K mg base 1 "is_columns" (spCols C) := by
  refine cal_mk D scCols (fun _ _ _ _ _ _ us hl => match us, hl with | [_], _ => rfl) (fun vs H Q E h => ?_) (fun f cdv A outer s H vs Q E hr h => ?_)
  · obtain ⟨i, _, rfl, _⟩ := h
    rfl
  · obtain ⟨p, f, rfl, ⟨dx, hp⟩, k⟩ := h
    refine ⟨_, pss_one (ps_ret (pe_and (pe_cmpR op_eq (pe_fld (pv 0) rfl) pe_int (nomark _)) (pe_and (pe_cmp (pc_isN (pe_fld (pv 0) rfl)) rfl) (pe_one (pe_cmp (pc_notN (pe_fld (pv 0) rfl)) rfl))))), ?_⟩
    refine ⟨_, rfl, p, C, dx, _, _, rfl, hp, T.cl, T.nT, bf_top f, rfl, decide (f.top = 1), congrArg V.bl decI, ?_⟩
    by_cases hl : f.top = 1
    · refine iteD hl ?_
      refine ⟨_, rfl, p, C, dx, _, _, rfl, hp, T.cl, T.nB, bf_bottom f, decide (f.bottom = none), congrArg V.bl optV_non, ?_⟩
      by_cases hr2 : f.bottom = none
      · refine iteD hr2 ?_
        refine ⟨_, rfl, p, C, dx, _, _, rfl, hp, T.cl, T.nR, bf_right f, ?_⟩
        have e : isCols f = !decide (optV f.right = V.non) := by
          unfold isCols
          rw [optV_non]
          simp [hl, hr2]
        rw [e] at k
        exact k
      · refine iteDF hr2 ?_
        have e : isCols f = false := by
          unfold isCols
          simp [hr2]
        rw [e] at k
        exact k
    · refine iteDF hl ?_
      have e : isCols f = false := by
        unfold isCols
        simp [hl]
      rw [e] at k
      exact k
theorem scAhead : FnScope ["row", "column"] ["row", "column"] (defScope sAhead) := ⟨rfl, rfl, rfl, by decide +kernel, rfl, by decide +kernel, by decide +kernel⟩
theorem cal_ahead (D : Def K mg "letters_ahead" sAhead) : ∃ fA, mg "letters_ahead" = some (.ref fA) ∧ DefAt P w K mg base 1 fA spAhead := by
  have c : Cal P w K mg base 1 "letters_ahead" spAhead := by
    refine cal_mk D scAhead (fun _ _ _ _ _ _ us hl => match us, hl with | [_, _], _ => rfl) (fun vs H Q E h => ?_) (fun f cdv A outer s H vs Q E hr h => ?_)
    · obtain ⟨i, _, rfl, _⟩ := h
      rfl
    · obtain ⟨r, c, rfl, hz, k⟩ := h
      refine ⟨_, pss_one (ps_ret (pe_op op_add_str (pv 1) (pv 0))), ?_⟩
      exact ⟨_, rfl, _, rfl, _, _, rfl, rfl, nat_str (A := True) (by omega), k⟩
  obtain ⟨f, fd, ps, F, hm, kp, b⟩ := c.ex
  exact ⟨f, hm, fd, ps, F, kp, b⟩
theorem scSize : FnScope ["self"] ["self"] (defScope sSize) := ⟨rfl, rfl, rfl, by decide +kernel, rfl, by decide +kernel, by decide +kernel⟩
theorem met_size (D : DefM K C "size" "Block.size" sSize) (T : ClsB K mg C) : Met P w K mg base 1 C "size" (spSize C) := by
  refine met_mk D scSize (fun _ _ _ _ _ _ us hl => match us, hl with | [_], _ => rfl) (fun vs H Q E h => ?_) (fun f cdv A outer s H vs Q E hr h => ?_)
  · obtain ⟨i, _, rfl, _⟩ := h
    rfl
  · obtain ⟨p, f, rfl, g, ⟨dx, hp⟩, k⟩ := h
    refine ⟨_, pss_cons (ps_if (PW.pt (pw_or (pt_cmp (pc_isN (pe_fld (pv 0) rfl)) rfl) (pw_or1 (pt_cmp (pc_isN (pe_fld (pv 0) rfl)) rfl)))) (pss_one (ps_ret pe_non)) pss_nil)
      (pss_one (ps_ret (pe_op op_mul (pe_op op_add (pe_op op_sub (pe_fld (pv 0) rfl) (pe_fld (pv 0) rfl)) pe_int) (pe_op op_add (pe_op op_sub (pe_fld (pv 0) rfl) (pe_fld (pv 0) rfl)) pe_int)))), ?_⟩
    refine ⟨_, rfl, p, C, dx, _, _, rfl, hp, T.cl, T.nB, bf_bottom f, decide (f.bottom = none), congrArg V.bl optV_non, ?_⟩
    cases hb : f.bottom with
    | none =>
      refine iteD rfl ?_
      have e : sizeO f = none := by
        unfold sizeO
        rw [hb]
      rw [e] at k
      exact k
    | some b =>
      refine iteDF (by simp) ?_
      refine ⟨_, rfl, p, C, dx, _, _, rfl, hp, T.cl, T.nR, bf_right f, decide (f.right = none), congrArg V.bl optV_non, ?_⟩
      cases hr2 : f.right with
      | none =>
        refine iteD rfl ?_
        have e : sizeO f = none := by
          unfold sizeO
          rw [hb, hr2]
        rw [e] at k
        exact k
      | some r =>
        refine iteDF (by simp) ?_
        have h1 := g.b b hb
        have h2 := g.t1
        have e : sizeO f = some ((b - f.top + 1) * (r - f.left + 1)) := by
          unfold sizeO
          rw [hb, hr2]
        rw [e] at k
        have fb := bf_bottom f
        rw [hb] at fb
        have fr := bf_right f
        rw [hr2] at fr
        refine ⟨_, rfl, p, C, dx, _, _, rfl, hp, T.cl, T.nB, fb, _, rfl, p, C, dx, _, _, rfl, hp, T.cl, T.nT, bf_top f, _, _, rfl, rfl, _, _, rfl, rfl, ?_⟩
        refine ⟨_, rfl, p, C, dx, _, _, rfl, hp, T.cl, T.nR, fr, _, rfl, p, C, dx, _, _, rfl, hp, T.cl, T.nL, bf_left f, _, _, rfl, rfl, _, _, rfl, rfl, _, _, rfl, rfl, .inl ⟨by omega, by omega⟩, k⟩
theorem scInit : FnScope ["self", "top", "left", "bottom", "right"] ["self", "top", "left", "bottom", "right"] (defScope sInit) := ⟨rfl, rfl, rfl, by decide +kernel, rfl, by decide +kernel, by decide +kernel⟩
theorem mak_init {fI : Addr} {fd : FuncData} (F : FunD K "__init__" "Block.__init__" (defArgs sInit) (defBody sInit) (defScope sInit) [.int 1, .int 1, .non, .non] [] fI fd) (M : Mk K C fI) (T : ClsB K mg C)
    (cC : Cal P w K mg base 2 "is_count" spCount) (cE : Cal P w K mg base 3 "is_end" spEnd) : Mak P w K mg base 4 C (spInit C) := by
  have G : FnOk P w K mg base CX0 4 fI fd ["self", "top", "left", "bottom", "right"] (spInit C) := by
    refine F.ok scInit (fun vs H Q E h => ?_) (fun cdv A outer s H vs Q E hr h => ?_)
    · obtain ⟨_, _, _, rfl, _⟩ := h
      rfl
    · obtain ⟨p, dx, f, rfl, g, hp, k⟩ := h
      refine ⟨_, PSs.nox (pss_cons (ps_if (PW.pt (pw_or (pt_not (pt_val (pe_c cC hr (by decide) (by rfl) (pa_cons (pv 1) pa_nil))))
          (pw_or (pt_not (pt_val (pe_c cC hr (by decide) (by rfl) (pa_cons (pv 2) pa_nil))))
          (pw_or (pt_not (pt_val (pe_c cE hr (by decide) (by rfl) (pa_cons (pv 1) (pa_cons (pv 3) pa_nil)))))
          (pw_or1 (pt_not (pt_val (pe_c cE hr (by decide) (by rfl) (pa_cons (pv 2) (pa_cons (pv 4) pa_nil)))))))))) pss_never pss_nil)
        (pss_cons (ps_fld (pv 0) (pv 1) rfl) (pss_cons (ps_fld (pv 0) (pv 2) rfl) (pss_cons (ps_fld (pv 0) (pv 3) rfl) (pss_one (ps_fld (pv 0) (pv 4) rfl)))))), ?_⟩
      refine ⟨_, rfl, f.top, rfl, decide (1 ≤ f.top), rfl, iteNS g.t1 ?_⟩
      refine ⟨_, rfl, f.left, rfl, decide (1 ≤ f.left), rfl, iteNS g.l1 ?_⟩
      refine ⟨_, rfl, _, rfl, f.top, f.bottom, rfl, fun x e => ⟨Int.le_trans g.t1 (g.b x e).1, (g.b x e).1⟩, true, rfl, iteF ?_⟩
      refine ⟨_, rfl, _, rfl, f.left, f.right, rfl, fun x e => ⟨Int.le_trans g.l1 (g.r x e).1, (g.r x e).1⟩, true, rfl, iteF ?_⟩
      refine ⟨_, rfl, _, rfl, p, C, dx, _, rfl, hp, T.cl, T.nT, (by decide), ?_⟩
      refine ⟨_, rfl, _, rfl, p, C, dx, _, rfl, upd_same, T.cl, T.nL, (Nat.lt_of_le_of_lt (length_putF _ _ _) (by decide)), ?_⟩
      refine ⟨_, rfl, _, rfl, p, C, dx, _, rfl, upd_same, T.cl, T.nB, (Nat.lt_of_le_of_lt (length_putF _ _ _) (Nat.lt_of_le_of_lt (Nat.succ_le_succ (length_putF _ _ _)) (by decide))), ?_⟩
      refine ⟨_, rfl, _, rfl, p, C, dx, _, rfl, upd_same, T.cl, T.nR, (Nat.lt_of_le_of_lt (length_putF _ _ _) (Nat.lt_of_le_of_lt (Nat.succ_le_succ (length_putF _ _ _)) (Nat.lt_of_le_of_lt (Nat.succ_le_succ (Nat.succ_le_succ (length_putF _ _ _))) (by decide)))), ?_⟩
      rw [bf_put, upd_upd, upd_upd, upd_upd]
      exact k
  obtain ⟨ds, hv, hb⟩ := F.binds1 (ps := ["self", "top", "left", "bottom", "right"]) 5 4 (by simp) rfl (fun T kV doc pm an cdv ct us its h1 h2 => match us, h1, its, h2 with | [_, _, _, _, _], _, [_, _, _, _], _ => ⟨_, rfl, rfl⟩)
  exact ⟨fI, fd, _, ds, M, G, hb, hv⟩
theorem scEq : FnScope ["self", "other", "here"] ["self", "other"] (defScope sEq) := ⟨rfl, rfl, rfl, by decide +kernel, rfl, by decide +kernel, by decide +kernel⟩
theorem met_eq (D : DefM K C "__eq__" "Block.__eq__" sEq) (T : ClsB K mg C) (B : Bare mg) : Met P w K mg base 1 C "__eq__" (spEq C) := by
  refine met_mk D scEq (fun _ _ _ _ _ _ us hl => match us, hl with | [_, _], _ => rfl) (fun vs H Q E h => ?_) (fun f cdv A outer s H vs Q E hr h => ?_)
  · obtain ⟨_, _, _, _, rfl, _⟩ := h
    rfl
  · obtain ⟨a, b, f, g, rfl, ⟨da, ha⟩, ⟨db, hb⟩, k⟩ := h
    refine ⟨_, pss_cons (ps_if (pt_not (pt_val (pe_callB call_isi (by rfl) B.isi (by decide +kernel) (pa_cons (pv 1) (pa_cons (pe_glob (v := .ref C) (by rfl) T.mgC rfl) pa_nil))))) (pss_one (ps_ret pe_bl)) pss_nil)
      (pss_cons (ps_set (i := 2) scEq.nd rfl (.inl rfl) (pe_tup (pa_cons (pe_fld (pv 0) rfl) (pa_cons (pe_fld (pv 0) rfl) (pa_cons (pe_fld (pv 0) rfl) (pa_cons (pe_fld (pv 0) rfl) pa_nil))))))
      (pss_one (ps_ret (pe_cmpR (op_eqD hr.units) (pv 2) (pe_tup (pa_cons (pe_fld (pv 1) rfl) (pa_cons (pe_fld (pv 1) rfl) (pa_cons (pe_fld (pv 1) rfl) (pa_cons (pe_fld (pv 1) rfl) pa_nil))))) (nomark _))))), ?_⟩
    refine ⟨_, rfl, .ref b, .ref C, .ref C, .ref C, true, rfl, .own C, .base (.ins hb T.cl T.ha T.hn T.htk T.hm), T.self, true, rfl, iteF ?_⟩
    refine ⟨_, rfl, a, C, da, _, _, rfl, ha, T.cl, T.nT, bf_top f, _, rfl, a, C, da, _, _, rfl, ha, T.cl, T.nL, bf_left f, _, rfl, a, C, da, _, _, rfl, ha, T.cl, T.nB, bf_bottom f, _, rfl, a, C, da, _, _, rfl, ha, T.cl, T.nR, bf_right f, nat_str (A := True) (show 4 ≤ 1000000 by decide), fun t ht => ?_⟩
    have hb1 : (upd H t (.tup (tupV f))) b = some (.ins C db (bf g)) := by
      rw [upd_ne (ne_of_none hb ht)]
      exact hb
    refine ⟨_, rfl, _, rfl, b, C, db, _, _, rfl, hb1, T.cl, T.nT, bf_top g, _, rfl, b, C, db, _, _, rfl, hb1, T.cl, T.nL, bf_left g, _, rfl, b, C, db, _, _, rfl, hb1, T.cl, T.nB, bf_bottom g, _, rfl, b, C, db, _, _, rfl, hb1, T.cl, T.nR, bf_right g, nat_str (A := True) (show 4 ≤ 1000000 by decide), fun u hu => ?_⟩
    have htu : t ≠ u := fun e => by
      rw [e, upd_same] at hu
      cases hu
    refine ⟨fourD f, fourD g, dp_four (f := f) ((upd_ne htu).trans upd_same), dp_four (f := g) upd_same, shaped_four f, shaped_four g, ?_⟩
    rw [eqv_four]
    exact k _ (Same.upd' (Same.upd ht) hu)
theorem scHas : FnScope ["self", "cell", "row", "column"] ["self", "cell"] (defScope sHas) := ⟨rfl, rfl, rfl, by decide +kernel, rfl, by decide +kernel, by decide +kernel⟩
theorem met_has (D : DefM K C "has" "Block.has" sHas) (T : ClsB K mg C) (cK : Cal P w K mg base 4 "checked_cell" spChk) : Met P w K mg base 5 C "has" (spHas C) := by
  refine met_mk D scHas (fun _ _ _ _ _ _ us hl => match us, hl with | [_, _], _ => rfl) (fun vs H Q E h => ?_) (fun f cdv A outer s H vs Q E hr h => ?_)
  · obtain ⟨_, _, _, _, _, rfl, _⟩ := h
    rfl
  · obtain ⟨a, p, f, i, j, rfl, ⟨da, ha⟩, hp, h1, h2, k⟩ := h
    refine ⟨_, pss_cons (ps_expr (pe_c cK hr (by decide) (by rfl) (pa_cons (pv 1) pa_nil)))
      (pss_cons (ps_asg (pv 1) (pg_tup rfl (pgs_cons (pg_name (i := 2) scHas.nd rfl (.inl rfl)) (pgs_cons (pg_name (i := 3) scHas.nd rfl (.inl rfl)) pgs_nil))))
      (pss_cons (ps_if (PW.pt (pw_or (pt_cmpR op_lt (pv 2) (pe_fld (pv 0) rfl) (nomark _)) (pw_or1 (pt_cmpR op_lt (pv 3) (pe_fld (pv 0) rfl) (nomark _))))) (pss_one (ps_ret pe_bl)) pss_nil)
      (pss_one (ps_ret (pe_and (pe_or (pe_cmp (pc_isN (pe_fld (pv 0) rfl)) rfl) (pe_one (pe_cmp (pc_le (pv 2) (pe_fld (pv 0) rfl)) rfl)))
        (pe_one (pe_or (pe_cmp (pc_isN (pe_fld (pv 0) rfl)) rfl) (pe_one (pe_cmp (pc_le (pv 3) (pe_fld (pv 0) rfl)) rfl))))))))), ?_⟩
    refine ⟨_, rfl, p, i, j, rfl, hp, h1, h2, fun H1 s1 => ?_⟩
    have ha1 := s1 _ _ ha
    have k1 := k H1 s1
    refine ⟨_, rfl, p, _, rfl, SqT.of (s1 _ _ hp), rfl, _, _, rfl, _, _, rfl, rfl, ?_⟩
    refine ⟨_, rfl, _, rfl, a, C, da, _, _, rfl, ha1, T.cl, T.nT, bf_top f, _, _, rfl, rfl, _, rfl, ?_⟩
    unfold hasB at k1
    by_cases c1 : i < f.top
    · refine iteD c1 (iteT ?_)
      rw [decide_eq_false (show ¬ f.top ≤ i by omega)] at k1
      exact k1
    · refine iteDF c1 ?_
      rw [decide_eq_true (show f.top ≤ i by omega)] at k1
      refine ⟨_, rfl, _, rfl, a, C, da, _, _, rfl, ha1, T.cl, T.nL, bf_left f, _, _, rfl, rfl, _, rfl, ?_⟩
      by_cases c2 : j < f.left
      · refine iteD c2 ?_
        rw [decide_eq_false (show ¬ f.left ≤ j by omega)] at k1
        exact k1
      · refine iteDF c2 ?_
        rw [decide_eq_true (show f.left ≤ j by omega)] at k1
        have step2 : ∀ c : Bool, Q (.bl (c && endB f.right j)) H1 → (if c = true then
            (tOrV (tIsN (tFld K (tVar 0) "right")) (tLe (tVar 3) (tFld K (tVar 0) "right"))) [some (V.ref a), some (V.ref p), some (V.int i), some (V.int j)] H1 Q else Q (.bl false) H1) := by
          intro c q
          cases c with
          | false => exact iteF q
          | true =>
            refine iteT ?_
            refine ⟨_, rfl, a, C, da, _, _, rfl, ha1, T.cl, T.nR, bf_right f, decide (f.right = none), congrArg V.bl optV_non, ?_⟩
            cases hr2 : f.right with
            | none =>
              rw [hr2] at q
              exact iteD rfl q
            | some r =>
              rw [hr2] at q
              have fr := bf_right f
              rw [hr2] at fr
              exact iteDF (by simp) ⟨_, rfl, _, rfl, a, C, da, _, _, rfl, ha1, T.cl, T.nR, fr, _, _, rfl, rfl, q⟩
        refine ⟨_, rfl, a, C, da, _, _, rfl, ha1, T.cl, T.nB, bf_bottom f, decide (f.bottom = none), congrArg V.bl optV_non, ?_⟩
        cases hb2 : f.bottom with
        | none =>
          rw [hb2] at k1
          exact iteD rfl ⟨true, rfl, step2 true k1⟩
        | some b =>
          rw [hb2] at k1
          have fb := bf_bottom f
          rw [hb2] at fb
          exact iteDF (by simp) ⟨_, rfl, _, rfl, a, C, da, _, _, rfl, ha1, T.cl, T.nB, fb, _, _, rfl, rfl, _, rfl, step2 _ k1⟩
end
end K8

/-! The blocks' own defs, second part: texts, and what is read of them. -/
namespace K8
open PySem PySem.Spec PyProof.Rows L2 SX
theorem mul_one_pos {x y : Int} (hx : 1 ≤ x) (hy : 1 ≤ y) (h : x * y = 1) : x = 1 ∧ y = 1 := by
  have h1 : x * 1 ≤ x * y := Int.mul_le_mul_of_nonneg_left hy (by omega)
  have h2 : 1 * y ≤ x * y := Int.mul_le_mul_of_nonneg_right hx (by omega)
  rw [h] at h1 h2
  omega
theorem one_size {f : Four} (g : Good f) : decide (optV (sizeO f) = V.int 1) = isOne f := by
  unfold isOne sizeO
  cases hb : f.bottom with
  | none => simp [optV]
  | some b =>
    cases hr : f.right with
    | none => simp [optV]
    | some r =>
      have h1 := g.b b hb
      have h2 := g.r r hr
      rw [Bool.eq_iff_iff, decide_eq_true_eq, decide_eq_true_eq]
      simp only [optV, V.int.injEq, Option.some.injEq]
      constructor
      · intro h
        have q := mul_one_pos (x := b - f.top + 1) (y := r - f.left + 1) (by omega) (by omega) h
        omega
      · rintro ⟨h3, h4⟩
        rw [h3, h4, Int.sub_self, Int.sub_self]
        decide
theorem scal_opt (o : Option Int) (i : Int) : scal (optV o) (.int i) = true := by
  cases o with
  | none => rfl
  | some j => rfl
theorem take_moreG {α : Type} {l : List α} {i : Nat} {c : α} (h : l[i]? = some c) : l.take (i + 1) = l.take i ++ [c] := by
  obtain ⟨hi, e⟩ := List.getElem?_eq_some_iff.mp h
  rw [List.take_succ_eq_append_getElem hi, e]
theorem len_app (a b : Str) : (a ++ b).length = a.length + b.length := by
  show (a.cps ++ b.cps).size = _
  rw [Array.size_append]
  rfl
theorem optS_len {o : Option Int} (h : ∀ x, o = some x → 0 ≤ x ∧ x < 1000000000000) : (optS o).length ≤ 12 := by
  cases o with
  | none => decide +kernel
  | some i =>
    have q := h i rfl
    show (Str.ofString (toString i)).length ≤ 12
    rw [num_str q.1]
    exact num_len12 q.2
section
variable {P : Program} {w : World} {K : PySem.W.Frag} {mg : Str → Option Value} {base : Heap} {C : Addr}
theorem scRowT : FnScope ["number"] ["number"] (defScope sRowT) := ⟨rfl, rfl, rfl, by decide +kernel, rfl, by decide +kernel, by decide +kernel⟩
theorem cal_rowT (D : Def K mg "row_text" sRowT) (B : Bare mg) : Cal P w K mg base 1 "row_text" spRowT := by
  refine cal_mk D scRowT (fun _ _ _ _ _ _ us hl => match us, hl with | [_], _ => rfl) (fun vs H Q E h => ?_) (fun f cdv A outer s H vs Q E hr h => ?_)
  · obtain ⟨_, rfl, _⟩ := h
    rfl
  · obtain ⟨o, rfl, ho, k⟩ := h
    refine ⟨_, pss_cons (ps_if (pt_cmp (pc_isN (pv 0)) rfl) (pss_one (ps_ret pe_str)) pss_nil) (pss_one (ps_ret (pe_callTy call_str_int (by rfl) B.str (by decide +kernel) (pa_cons (pv 0) pa_nil)))), ?_⟩
    cases o with
    | none =>
      refine ⟨_, rfl, true, rfl, iteT ?_⟩
      show Q (.str (Str.ofString "")) H
      rw [empty_S]
      exact k
    | some i =>
      have q := ho i rfl
      refine ⟨_, rfl, false, rfl, iteF ⟨_, rfl, i, rfl, small_log (by omega) q.2, ?_⟩⟩
      show Q (.str (Str.ofString (toString i))) H
      rw [num_str (by omega)]
      exact k
theorem scColT : FnScope ["number"] ["number"] (defScope sColT) := ⟨rfl, rfl, rfl, by decide +kernel, rfl, by decide +kernel, by decide +kernel⟩
theorem cal_colT (D : Def K mg "column_text" sColT) (cL : Cal P w K mg base 3 "letters_of" spLetters) : Cal P w K mg base 4 "column_text" spColT := by
  refine cal_mk D scColT (fun _ _ _ _ _ _ us hl => match us, hl with | [_], _ => rfl) (fun vs H Q E h => ?_) (fun f cdv A outer s H vs Q E hr h => ?_)
  · obtain ⟨_, rfl, _⟩ := h
    rfl
  · obtain ⟨o, rfl, ho, k⟩ := h
    refine ⟨_, pss_cons (ps_if (pt_cmp (pc_isN (pv 0)) rfl) (pss_one (ps_ret pe_str)) pss_nil) (pss_one (ps_ret (pe_c cL hr (by decide) (by rfl) (pa_cons (pv 0) pa_nil)))), ?_⟩
    cases o with
    | none =>
      refine ⟨_, rfl, true, rfl, iteT ?_⟩
      show Q (.str (Str.ofString "")) H
      rw [empty_S]
      exact k H (Same.refl H)
    | some i =>
      have q := ho i rfl
      exact ⟨_, rfl, false, rfl, iteF ⟨_, rfl, i, rfl, q.1, q.2, k⟩⟩
theorem scEnds : FnScope ["block", "rows", "columns", "together", "first"] ["block", "rows", "columns", "together"] (defScope sEnds) := ⟨rfl, rfl, rfl, by decide +kernel, rfl, by decide +kernel, by decide +kernel⟩
theorem cal_ends {fA : Addr} (D : Def K mg "by_ends" sEnds) (T : ClsB K mg C) (cA : DefAt P w K mg base 1 fA spAhead) (cR : Cal P w K mg base 1 "is_rows" (spRows C)) (cC : Cal P w K mg base 1 "is_columns" (spCols C)) (mS : Met P w K mg base 1 C "size" (spSize C)) :
    Cal P w K mg base 2 "by_ends" (spEnds K C fA) := by
  refine cal_mk D scEnds (fun _ _ _ _ _ _ us hl => match us, hl with | [_, _, _, _], _ => rfl) (fun vs H Q E h => ?_) (fun f cdv A outer s H vs Q E hr h => ?_)
  · obtain ⟨_, _, _, _, rfl, _⟩ := h
    rfl
  · obtain ⟨p, a, b, f, rfl, g, ⟨dx, hp⟩, hA, hB, k⟩ := h
    refine ⟨_, pss_cons (ps_if (pt_val (pe_c cR hr (by decide) (by rfl) (pa_cons (pv 0) pa_nil)))
        (pss_one (ps_ret (pe_op op_add_str (pe_op op_add_str (pe_ix ix_list (pv 1) pe_int (fun _ _ => rfl)) pe_str) (pe_ix ix_list (pv 1) pe_int (fun _ _ => rfl))))) pss_nil)
      (pss_cons (ps_if (pt_val (pe_c cC hr (by decide) (by rfl) (pa_cons (pv 0) pa_nil)))
        (pss_one (ps_ret (pe_op op_add_str (pe_op op_add_str (pe_ix ix_list (pv 2) pe_int (fun _ _ => rfl)) pe_str) (pe_ix ix_list (pv 2) pe_int (fun _ _ => rfl))))) pss_nil)
      (pss_cons (ps_set (i := 4) scEnds.nd rfl (.inl rfl) (pe_cL (i := 3) cA hr (by decide) rfl (.inl rfl) (pa_cons (pe_ix ix_list (pv 1) pe_int (fun _ _ => rfl)) (pa_cons (pe_ix ix_list (pv 2) pe_int (fun _ _ => rfl)) pa_nil))))
      (pss_cons (ps_if (pt_cmpR op_eq (pe_m0' mS T.cl hr (by decide) (pv 0)) pe_int (nomark _)) (pss_one (ps_ret (pv 4))) pss_nil)
      (pss_one (ps_ret (pe_op op_add_str (pe_op op_add_str (pv 4) pe_str) (pe_cL (i := 3) cA hr (by decide) rfl (.inl rfl) (pa_cons (pe_ix ix_list (pv 1) pe_int (fun _ _ => rfl)) (pa_cons (pe_ix ix_list (pv 2) pe_int (fun _ _ => rfl)) pa_nil))))))))), ?_⟩
    have l1 : (S (rowL (some f.top))).length ≤ 12 := by
      rw [S_len]
      exact num_len g.t2
    have l2 : (S (colL (some f.left))).length ≤ 9 := by
      rw [S_len]
      exact lets_len9 (by have := g.l2; omega)
    have l3 : (S (rowL f.bottom)).length ≤ 12 := by
      rw [S_len]
      exact rowL_len fun x e => (g.b x e).2
    have l4 : (S (colL f.right)).length ≤ 9 := by
      rw [S_len]
      exact colL_len fun x e => (g.r x e).2
    have l5 : sCol.length = 1 := by decide +kernel
    refine ⟨_, rfl, p, f, rfl, ⟨dx, hp⟩, isRows f, rfl, ?_⟩
    cases hR : isRows f with
    | true =>
      refine iteT ?_
      refine ⟨_, rfl, a, _, 0, _, rfl, rfl, hA, at_ofG (j := 0) rfl rfl, _, _, rfl, rfl, nat_str (A := True) (show _ + sCol.length ≤ 1000000 by omega), _, rfl, a, _, 1, _, rfl, rfl, hA, at_ofG (j := 1) rfl rfl, _, _, rfl, rfl, nat_str (A := True) (by
        rw [len_app]
        show _ + sCol.length + _ ≤ 1000000
        omega), ?_⟩
      have e : textS f = S (rowL (some f.top)) ++ sCol ++ S (rowL f.bottom) := by
        unfold textS textL
        rw [if_pos hR, col_S, S_cat, S_cat]
        rfl
      rw [e] at k
      exact k
    | false =>
      refine iteF ?_
      refine ⟨_, rfl, p, f, rfl, ⟨dx, hp⟩, isCols f, rfl, ?_⟩
      cases hC : isCols f with
      | true =>
        refine iteT ?_
        refine ⟨_, rfl, b, _, 0, _, rfl, rfl, hB, at_ofG (j := 0) rfl rfl, _, _, rfl, rfl, nat_str (A := True) (show _ + sCol.length ≤ 1000000 by omega), _, rfl, b, _, 1, _, rfl, rfl, hB, at_ofG (j := 1) rfl rfl, _, _, rfl, rfl, nat_str (A := True) (by
          rw [len_app]
          show _ + sCol.length + _ ≤ 1000000
          omega), ?_⟩
        have e : textS f = S (colL (some f.left)) ++ sCol ++ S (colL f.right) := by
          unfold textS textL
          rw [hR, if_neg Bool.false_ne_true, if_pos hC, col_S, S_cat, S_cat]
          rfl
        rw [e] at k
        exact k
      | false =>
        refine iteF ?_
        refine ⟨rfl, _, rfl, a, _, 0, _, rfl, rfl, hA, at_ofG (j := 0) rfl rfl, _, rfl, b, _, 0, _, rfl, rfl, hB, at_ofG (j := 0) rfl rfl, _, _, rfl, by omega, ?_⟩
        refine ⟨_, rfl, p, dx, _, rfl, hp, bf_none f (by decide +kernel) (by decide +kernel) (by decide +kernel) (by decide +kernel), p, f, rfl, g, ⟨dx, hp⟩, scal_opt _ _, isOne f, congrArg V.bl (one_size g), ?_⟩
        cases hO : isOne f with
        | true =>
          refine iteT ⟨_, rfl, ?_⟩
          have e : textS f = S (colL (some f.left)) ++ S (rowL (some f.top)) := by
            unfold textS textL firstL
            rw [hR, if_neg Bool.false_ne_true, hC, if_neg Bool.false_ne_true, if_pos hO, S_cat]
            rfl
          rw [e] at k
          exact k
        | false =>
          refine iteF ?_
          refine ⟨_, rfl, _, _, rfl, rfl, nat_str (A := True) (by
            rw [len_app]
            show _ + sCol.length ≤ 1000000
            omega), rfl, _, rfl, a, _, 1, _, rfl, rfl, hA, at_ofG (j := 1) rfl rfl, _, rfl, b, _, 1, _, rfl, rfl, hB, at_ofG (j := 1) rfl rfl, _, _, rfl, by omega, _, _, rfl, rfl, nat_str (A := True) (by
            rw [len_app, len_app, len_app]
            show _ + sCol.length + _ ≤ 1000000
            omega), ?_⟩
          have e : textS f = S (colL (some f.left)) ++ S (rowL (some f.top)) ++ sCol ++ (S (colL f.right) ++ S (rowL f.bottom)) := by
            unfold textS textL firstL
            rw [hR, if_neg Bool.false_ne_true, hC, if_neg Bool.false_ne_true, hO, if_neg Bool.false_ne_true, col_S, S_cat, S_cat, S_cat, S_cat]
            rfl
          rw [e] at k
          exact k
theorem scStr : FnScope ["self", "rows", "columns", "number"] ["self"] (defScope sStr) := ⟨rfl, rfl, rfl, by decide +kernel, rfl, by decide +kernel, by decide +kernel⟩
theorem met_str {fA : Addr} (D : DefM K C "__str__" "Block.__str__" sStr) (T : ClsB K mg C) (B : Bare mg) (hA : mg "letters_ahead" = some (.ref fA)) (cR : Cal P w K mg base 1 "row_text" spRowT) (cC : Cal P w K mg base 4 "column_text" spColT)
    (cE : Cal P w K mg base 2 "by_ends" (spEnds K C fA)) : Met P w K mg base 5 C "__str__" (spStr C) := by
  refine met_mk D scStr (fun _ _ _ _ _ _ us hl => match us, hl with | [_], _ => rfl) (fun vs H Q E h => ?_) (fun f cdv A outer s H vs Q E hr h => ?_)
  · obtain ⟨_, _, rfl, _⟩ := h
    rfl
  · obtain ⟨a, f, rfl, g, ⟨dx, ha⟩, k⟩ := h
    refine ⟨_, pss_cons (ps_setLc (i := 1) (own := [("number", 3)]) (g := gName 3) (tt := tYes) rfl scStr.nd rfl rfl (sw_true rfl rfl rfl (by decide +kernel)) (pi_tup (pe_tup (pa_cons (pe_fld (pv 0) rfl) (pa_cons (pe_fld (pv 0) rfl) pa_nil))))
          (blkOk_by (N := ["self", "rows", "columns", "number"]) (sc := defScope sStr) (by decide +kernel)) (fun _ _ _ _ _ => pg_name (i := 3) scStr.nd rfl (Or.inl rfl)) (fun _ _ _ _ _ => pts_nil) (fun _ _ _ _ _ => pe_c cR hr (by decide) (by rfl) (pa_cons (pv 3) pa_nil)))
      (pss_cons (ps_setLc (i := 2) (own := [("number", 3)]) (g := gName 3) (tt := tYes) rfl scStr.nd rfl rfl (sw_true rfl rfl rfl (by decide +kernel)) (pi_tup (pe_tup (pa_cons (pe_fld (pv 0) rfl) (pa_cons (pe_fld (pv 0) rfl) pa_nil))))
          (blkOk_by (N := ["self", "rows", "columns", "number"]) (sc := defScope sStr) (by decide +kernel)) (fun _ _ _ _ _ => pg_name (i := 3) scStr.nd rfl (Or.inl rfl)) (fun _ _ _ _ _ => pts_nil) (fun _ _ _ _ _ => pe_c cC hr (by decide) (by rfl) (pa_cons (pv 3) pa_nil)))
      (pss_one (ps_ret (pe_callTy SkE.call_str_str (by rfl) B.str (by decide +kernel) (pa_cons (pe_c cE hr (by decide) (by rfl) (pa_cons (pv 0) (pa_cons (pv 1) (pa_cons (pv 2) (pa_cons (pe_glob (v := .ref fA) (by rfl) hA rfl) pa_nil))))) pa_nil))))), ?_⟩
    have hb : ∀ x, f.bottom = some x → 1 ≤ x ∧ x < 1000000000000 := fun x e => ⟨Int.le_trans g.t1 (g.b x e).1, (g.b x e).2⟩
    have hr2 : ∀ x, f.right = some x → 1 ≤ x ∧ x < 1000000000000 := fun x e => ⟨Int.le_trans g.l1 (g.r x e).1, (g.r x e).2⟩
    refine ⟨_, rfl, a, C, dx, _, _, rfl, ha, T.cl, T.nT, bf_top f, _, rfl, a, C, dx, _, _, rfl, ha, T.cl, T.nB, bf_bottom f, nat_str (A := True) (show 2 ≤ 1000000 by decide), fun t ht => ?_⟩
    have s0 : Same H (upd H t (.tup [.int f.top, optV f.bottom])) := Same.upd ht
    refine ⟨t, rfl, ⟨_, SqT.of upd_same⟩, fun D0 hD => lc_tup (K := K) (a := t) (xs := [.int f.top, optV f.bottom])
      (fun n H' => Same (upd H t (.tup [.int f.top, optV f.bottom])) H' ∧ H' D0 = some (.lst ((([S (rowL (some f.top)), S (rowL f.bottom)] : List Str).take n).map V.str))) ⟨Same.upd hD, upd_same⟩ (fun n H' _ q => SqT.of (q.1 _ _ upd_same)) ?_ ?_⟩
    · rintro n x H' hx ⟨s1, hd⟩
      have hn : n < 2 := (List.getElem?_eq_some_iff.mp hx).1
      obtain ⟨o, rfl, ho, hL⟩ : ∃ o : Option Int, x = optV o ∧ (∀ x, o = some x → 1 ≤ x ∧ x < 1000000000000) ∧ ([S (rowL (some f.top)), S (rowL f.bottom)] : List Str)[n]? = some (S (rowL o)) := by
        match n, hx with
        | 0, hx => exact ⟨some f.top, (Option.some.inj hx).symm, (fun x e => by cases e; exact ⟨g.t1, g.t2⟩), rfl⟩
        | 1, hx => exact ⟨f.bottom, (Option.some.inj hx).symm, hb, rfl⟩
        | n + 2, hx => simp at hx
      refine ⟨rfl, ?_⟩
      refine ⟨_, rfl, o, rfl, ho, _, hd, ?_, Same.again s1 hD, ?_⟩
      · rw [List.length_map, sizeLine_eq]
        exact Nat.lt_of_le_of_lt (List.length_take_le _ _) (by omega)
      · rw [upd_same, take_moreG hL, List.map_append]
        rfl
    rintro H1 ⟨s1, hd1⟩
    have s01 : Same H H1 := Same.trans s0 s1
    have ha1 := s01 _ _ ha
    refine ⟨_, rfl, a, C, dx, _, _, rfl, ha1, T.cl, T.nL, bf_left f, _, rfl, a, C, dx, _, _, rfl, ha1, T.cl, T.nR, bf_right f, nat_str (A := True) (show 2 ≤ 1000000 by decide), fun u hu => ?_⟩
    have s2 : Same H1 (upd H1 u (.tup [.int f.left, optV f.right])) := Same.upd hu
    refine ⟨u, rfl, ⟨_, SqT.of upd_same⟩, fun D1 hD1 => lc_tup (K := K) (a := u) (xs := [.int f.left, optV f.right])
      (fun n H' => Same (upd H1 u (.tup [.int f.left, optV f.right])) H' ∧ H' D1 = some (.lst ((([S (colL (some f.left)), S (colL f.right)] : List Str).take n).map V.str))) ⟨Same.upd hD1, upd_same⟩ (fun n H' _ q => SqT.of (q.1 _ _ upd_same)) ?_ ?_⟩
    · rintro n x H' hx ⟨s3, hd⟩
      have hn : n < 2 := (List.getElem?_eq_some_iff.mp hx).1
      obtain ⟨o, rfl, ho, hL⟩ : ∃ o : Option Int, x = optV o ∧ (∀ x, o = some x → 1 ≤ x ∧ x < 1000000000000) ∧ ([S (colL (some f.left)), S (colL f.right)] : List Str)[n]? = some (S (colL o)) := by
        match n, hx with
        | 0, hx => exact ⟨some f.left, (Option.some.inj hx).symm, (fun x e => by cases e; exact ⟨g.l1, g.l2⟩), rfl⟩
        | 1, hx => exact ⟨f.right, (Option.some.inj hx).symm, hr2, rfl⟩
        | n + 2, hx => simp at hx
      refine ⟨rfl, ?_⟩
      refine ⟨_, rfl, o, rfl, ho, fun H4 s4 => ⟨_, s4 _ _ hd, ?_, Same.again (Same.trans s3 s4) hD1, ?_⟩⟩
      · rw [List.length_map, sizeLine_eq]
        exact Nat.lt_of_le_of_lt (List.length_take_le _ _) (by omega)
      · rw [upd_same, take_moreG hL, List.map_append]
        rfl
    rintro H2 ⟨s3, hd2⟩
    have s12 : Same H1 H2 := Same.trans s2 s3
    refine ⟨_, rfl, _, rfl, _, rfl, a, D0, D1, f, rfl, g, ⟨dx, s12 _ _ ha1⟩, SqL.of (s12 _ _ hd1), SqL.of hd2, _, rfl, k H2 (Same.trans s01 s12)⟩
theorem scRepr : FnScope ["self"] ["self"] (defScope sRepr) := ⟨rfl, rfl, rfl, by decide +kernel, rfl, by decide +kernel, by decide +kernel⟩
theorem met_repr (D : DefM K C "__repr__" "Block.__repr__" sRepr) (T : ClsB K mg C) : Met P w K mg base 1 C "__repr__" (spRepr C) := by
  refine met_mk D scRepr (fun _ _ _ _ _ _ us hl => match us, hl with | [_], _ => rfl) (fun vs H Q E h => ?_) (fun f cdv A outer s H vs Q E hr h => ?_)
  · obtain ⟨_, _, rfl, _⟩ := h
    rfl
  · obtain ⟨a, f, rfl, g, ⟨dx, ha⟩, k⟩ := h
    refine ⟨_, pss_one (ps_ret (pe_joined (PJ.cons pe_str (PJ.cons (pe_fmtO (pe_fld (pv 0) rfl)) (PJ.cons pe_str (PJ.cons (pe_fmtO (pe_fld (pv 0) rfl)) (PJ.cons pe_str (PJ.cons (pe_fmtO (pe_fld (pv 0) rfl)) (PJ.cons pe_str (PJ.cons (pe_fmtO (pe_fld (pv 0) rfl)) (PJ.cons pe_str PJ.nil))))))))))), ?_⟩
    have hb : ∀ x, f.bottom = some x → 0 ≤ x ∧ x < 1000000000000 := fun x e => ⟨Int.le_trans (by decide) (Int.le_trans g.t1 (g.b x e).1), (g.b x e).2⟩
    have hr2 : ∀ x, f.right = some x → 0 ≤ x ∧ x < 1000000000000 := fun x e => ⟨Int.le_trans (by decide) (Int.le_trans g.l1 (g.r x e).1), (g.r x e).2⟩
    have ht : ∀ x, some f.top = some x → 0 ≤ x ∧ x < 1000000000000 := fun x e => by
      have h1 := g.t1
      have h2 := g.t2
      cases e
      omega
    have hl : ∀ x, some f.left = some x → 0 ≤ x ∧ x < 1000000000000 := fun x e => by
      have h1 := g.l1
      have h2 := g.l2
      cases e
      omega
    have l1 := optS_len ht
    have l2 := optS_len hl
    have l3 := optS_len hb
    have l4 := optS_len hr2
    have c0 : Str.empty.length = 0 := by decide +kernel
    have c1 : (Str.ofString "Block(").length = 6 := by decide +kernel
    have c2 : (Str.ofString ", ").length = 2 := by decide +kernel
    have c3 : (Str.ofString ")").length = 1 := by decide +kernel
    have sl : ∀ {o : Option Int}, (∀ x, o = some x → 0 ≤ x ∧ x < 1000000000000) → ∀ i, o = some i → i.natAbs.log2 < 1920 := fun h i e => small_log (h i e).1 (h i e).2
    refine ⟨_, rfl, nat_str (A := True) (by simp only [len_app]; omega), _, rfl, a, C, dx, _, _, rfl, ha, T.cl, T.nT, bf_top f, some f.top, rfl, sl ht, _, rfl, nat_str (A := True) (by simp only [len_app]; omega), ?_⟩
    refine ⟨_, rfl, nat_str (A := True) (by simp only [len_app]; omega), _, rfl, a, C, dx, _, _, rfl, ha, T.cl, T.nL, bf_left f, some f.left, rfl, sl hl, _, rfl, nat_str (A := True) (by simp only [len_app]; omega), ?_⟩
    refine ⟨_, rfl, nat_str (A := True) (by simp only [len_app]; omega), _, rfl, a, C, dx, _, _, rfl, ha, T.cl, T.nB, bf_bottom f, f.bottom, rfl, sl hb, _, rfl, nat_str (A := True) (by simp only [len_app]; omega), ?_⟩
    refine ⟨_, rfl, nat_str (A := True) (by simp only [len_app]; omega), _, rfl, a, C, dx, _, _, rfl, ha, T.cl, T.nR, bf_right f, f.right, rfl, sl hr2, _, rfl, nat_str (A := True) (by simp only [len_app]; omega), ?_⟩
    refine ⟨_, rfl, nat_str (A := True) (by simp only [len_app]; omega), ?_⟩
    have e0 : Str.empty ++ Str.ofString "Block(" = Str.ofString "Block(" := by decide +kernel
    show Q (.str (Str.empty ++ Str.ofString "Block(" ++ optS (some f.top) ++ Str.ofString ", " ++ optS (some f.left) ++ Str.ofString ", " ++ optS f.bottom ++ Str.ofString ", " ++ optS f.right ++ Str.ofString ")")) H
    rw [e0]
    exact k
theorem scCountOf : FnScope ["figures"] ["figures"] (defScope sCountOf) := ⟨rfl, rfl, rfl, by decide +kernel, rfl, by decide +kernel, by decide +kernel⟩
theorem cal_countOf (D : Def K mg "count_of" sCountOf) (B : Bare mg) (Z : Consts mg) : Cal P w K mg base 1 "count_of" spCountOf := by
  obtain ⟨tF, hF⟩ := Z.figures
  obtain ⟨tM, hM⟩ := Z.mostF
  refine cal_mk D scCountOf (fun _ _ _ _ _ _ us hl => match us, hl with | [_], _ => rfl) (fun vs H Q E h => ?_) (fun f cdv A outer s H vs Q E hr h => ?_)
  · obtain ⟨_, rfl, _⟩ := h
    rfl
  · obtain ⟨i, rfl, h1, h2, k⟩ := h
    refine ⟨_, pss_cons (ps_if (PW.pt (pw_or (pt_cmpR op_ne (pe_m1 PySem.F.slot_str_strip PySem.F.type_str_strip mt_stripChars (pv 0) (pe_glob (v := .str sFIG) (by rfl) hF ⟨_, rfl⟩)) pe_str (nomark _))
          (pw_or1 (pt_not (pt_chain op_le op_le pe_int (pe_callB call_len_str (by rfl) B.len PySem.boot_len (pa_cons (pv 0) pa_nil)) (pe_glob (v := .int 12) (by rfl) hM ⟨_, rfl⟩)))))) pss_never pss_nil)
      (pss_one (ps_ret (pe_callTy call_int_str (by rfl) B.int (by decide +kernel) (pa_cons (pv 0) pa_nil)))), ?_⟩
    have hl12 := num_len12 h2
    have hl1 := num_ne i
    refine ⟨_, rfl, ⟨_, rfl⟩, _, _, rfl, rfl, nat_str (A := True) (by omega), rfl, _, rfl, iteNS (by rw [figs_strip, empty_S]) ?_⟩
    refine ⟨_, rfl, _, rfl, nat_str (A := True) (by omega), _, _, rfl, rfl, _, rfl, iteD (by omega) ⟨_, _, rfl, rfl, _, rfl, iteNS (by omega) ?_⟩⟩
    exact ⟨_, rfl, _, i, rfl, num_int (by omega) h2, by omega, k⟩
theorem scParted : FnScope ["word", "figures", "letters", "row", "column"] ["word"] (defScope sParted) := ⟨rfl, rfl, rfl, by decide +kernel, rfl, by decide +kernel, by decide +kernel⟩
theorem str_ne {l : List Nat} (h : 1 ≤ (S l).length) : ¬ V.str (S l) = V.str (Str.ofString "") := fun e => by
  have e2 : S l = Str.ofString "" := V.str.inj e
  rw [e2] at h
  have : (Str.ofString "").length = 0 := by decide +kernel
  omega
theorem cal_parted (D : Def K mg "parted" sParted) (B : Bare mg) (Z : Consts mg) (cC : Cal P w K mg base 1 "count_of" spCountOf) (cN : Cal P w K mg base 1 "number_of" spNumber) : Cal P w K mg base 2 "parted" spParted := by
  obtain ⟨tL, hL⟩ := Z.letters
  refine cal_mk D scParted (fun _ _ _ _ _ _ us hl => match us, hl with | [_], _ => rfl) (fun vs H Q E h => ?_) (fun f cdv A outer s H vs Q E hr h => ?_)
  · obtain ⟨_, rfl, _⟩ := h
    rfl
  · obtain ⟨p, rfl, g, k⟩ := h
    refine ⟨_, pss_cons (ps_set (i := 1) scParted.nd rfl (.inl rfl) (pe_m1 PySem.F.slot_str_lstrip PySem.F.type_str_lstrip mt_lstripChars (pv 0) (pe_glob (v := .str sLET) (by rfl) hL ⟨_, rfl⟩)))
      (pss_cons (ps_set (i := 2) scParted.nd rfl (.inl rfl) (pe_slice C8.sl_txt (pv 0) po_none (po_some (pe_op op_sub (pe_callB call_len_str (by rfl) B.len PySem.boot_len (pa_cons (pv 0) pa_nil)) (pe_callB call_len_str (by rfl) B.len PySem.boot_len (pa_cons (pv 1) pa_nil))))))
      (pss_cons (ps_set (i := 3) scParted.nd rfl (.inl rfl) pe_non)
      (pss_cons (ps_set (i := 4) scParted.nd rfl (.inl rfl) pe_non)
      (pss_cons (ps_if (pt_cmpR op_ne (pv 1) pe_str (nomark _)) (pss_one (ps_set (i := 3) scParted.nd rfl (.inl rfl) (pe_c cC hr (by decide) (by rfl) (pa_cons (pv 1) pa_nil)))) pss_nil)
      (pss_cons (ps_if (pt_cmpR op_ne (pv 2) pe_str (nomark _)) (pss_one (ps_set (i := 4) scParted.nd rfl (.inl rfl) (pe_c cN hr (by decide) (by rfl) (pa_cons (pv 2) pa_nil)))) pss_nil)
      (pss_one (ps_ret (pe_tup (pa_cons (pv 3) (pa_cons (pv 4) pa_nil)))))))))), ?_⟩
    have hw := word_len g
    have hw2 : (S (wordL p)).length ≤ 21 := by
      rw [S_len]
      exact hw
    have hf : (S (rowL p.1)).length ≤ 12 := by
      rw [S_len]
      exact rowL_len fun x e => (g.r x e).2
    refine ⟨_, rfl, ⟨_, rfl⟩, _, _, rfl, rfl, nat_str (A := True) (by omega), ?_⟩
    rw [word_figs]
    refine ⟨_, rfl, _, rfl, _, rfl, nat_str (A := True) (by omega), _, rfl, _, rfl, nat_str (A := True) (by omega), _, _, rfl, rfl, _, rfl, _, rfl, nat_str (A := True) (by omega), ?_⟩
    rw [word_lets]
    obtain ⟨r, c⟩ := p
    have hnil : V.str (S (rowL none)) = V.str (Str.ofString "") := by
      rw [empty_S]
      rfl
    have hnil2 : V.str (S (colL none)) = V.str (Str.ofString "") := by
      rw [empty_S]
      rfl
    cases r with
    | none =>
      refine ⟨_, rfl, rfl, _, rfl, iteNS hnil ?_⟩
      cases c with
      | none => exact ⟨_, rfl, rfl, _, rfl, iteNS hnil2 ⟨_, rfl, _, rfl, nat_str (A := True) (show 2 ≤ 1000000 by decide), fun t ht => k t _ (Same.upd ht) upd_same⟩⟩
      | some j =>
        have q := g.c j rfl
        exact ⟨_, rfl, rfl, _, rfl, iteN (str_ne (let_ne q.1)) ⟨_, rfl, j, rfl, q.1, q.2, _, rfl, _, rfl, nat_str (A := True) (show 2 ≤ 1000000 by decide), fun t ht => k t _ (Same.upd ht) upd_same⟩⟩
    | some i =>
      have qi := g.r i rfl
      refine ⟨_, rfl, rfl, _, rfl, iteN (str_ne (num_ne i)) ⟨_, rfl, i, rfl, qi.1, qi.2, ?_⟩⟩
      cases c with
      | none => exact ⟨_, rfl, rfl, _, rfl, iteNS hnil2 ⟨_, rfl, _, rfl, nat_str (A := True) (show 2 ≤ 1000000 by decide), fun t ht => k t _ (Same.upd ht) upd_same⟩⟩
      | some j =>
        have q := g.c j rfl
        exact ⟨_, rfl, rfl, _, rfl, iteN (str_ne (let_ne q.1)) ⟨_, rfl, j, rfl, q.1, q.2, _, rfl, _, rfl, nat_str (A := True) (show 2 ≤ 1000000 by decide), fun t ht => k t _ (Same.upd ht) upd_same⟩⟩
theorem or_one {i : Nat} {o : Option Int} {σ : L2.St} {H : Hp} {Q : V → Hp → Prop} (hi : σ[i]? = some (some (optV o))) (h : ∀ x, o = some x → 1 ≤ x) (q : Q (.int (o.getD 1)) H) : tOrT K (tVar i) (tC (.int 1)) σ H Q := by
  refine ⟨_, hi, ?_⟩
  cases o with
  | none => exact ⟨false, rfl, iteF q⟩
  | some x =>
    have hx := h x rfl
    refine ⟨true, ?_, iteT q⟩
    show true = (x != 0)
    have : x ≠ 0 := by omega
    simp [this]
theorem scBlockOf : FnScope ["text", "first", "colon", "last", "top", "left", "bottom", "right", "block"] ["text"] (defScope sBlockOf) := ⟨rfl, rfl, rfl, by decide +kernel, rfl, by decide +kernel, by decide +kernel⟩
theorem cal_blockOf (D : Def K mg "block_of" sBlockOf) (B : Bare mg) (T : ClsB K mg C) (cP : Cal P w K mg base 2 "parted" spParted) (cM : Mak P w K mg base 4 C (spInit C)) (mS : Met P w K mg base 5 C "__str__" (spStr C)) :
    Cal P w K mg base 8 "block_of" (spBlockOf C) := by
  refine cal_mk D scBlockOf (fun _ _ _ _ _ _ us hl => match us, hl with | [_], _ => rfl) (fun vs H Q E h => ?_) (fun f cdv A outer s H vs Q E hr h => ?_)
  · obtain ⟨_, rfl, _⟩ := h
    rfl
  · obtain ⟨f, rfl, g, k⟩ := h
    refine ⟨_, pss_cons (ps_if (pt_not (pt_val (pe_callB call_isi (by rfl) B.isi (by decide +kernel) (pa_cons (pv 0) (pa_cons (pe_bltn (v := .ty "str") (by rfl) B.str (by decide +kernel) rfl) pa_nil))))) pss_never pss_nil)
      (pss_cons (ps_asg (pe_partition (pv 0) pe_str) (pg_tup rfl (pgs_cons (pg_name (i := 1) scBlockOf.nd rfl (.inl rfl)) (pgs_cons (pg_name (i := 2) scBlockOf.nd rfl (.inl rfl)) (pgs_cons (pg_name (i := 3) scBlockOf.nd rfl (.inl rfl)) pgs_nil)))))
      (pss_cons (ps_if (pt_cmpR op_eq (pv 2) pe_str (nomark _)) (pss_one (ps_set (i := 3) scBlockOf.nd rfl (.inl rfl) (pv 1))) pss_nil)
      (pss_cons (ps_try_thru0 (pss_cons (ps_asg (pe_c cP hr (by decide) (by rfl) (pa_cons (pv 1) pa_nil)) (pg_tup rfl (pgs_cons (pg_name (i := 4) scBlockOf.nd rfl (.inl rfl)) (pgs_cons (pg_name (i := 5) scBlockOf.nd rfl (.inl rfl)) pgs_nil))))
        (pss_cons (ps_asg (pe_c cP hr (by decide) (by rfl) (pa_cons (pv 3) pa_nil)) (pg_tup rfl (pgs_cons (pg_name (i := 6) scBlockOf.nd rfl (.inl rfl)) (pgs_cons (pg_name (i := 7) scBlockOf.nd rfl (.inl rfl)) pgs_nil))))
        (pss_one (ps_set (i := 8) scBlockOf.nd rfl (.inl rfl) (pe_mkB cM T.mgC hr (by decide) (by rfl) (pa_cons (pe_orT (pv 4) (pe_one pe_int)) (pa_cons (pe_orT (pv 5) (pe_one pe_int)) (pa_cons (pv 6) (pa_cons (pv 7) pa_nil))))))))))
      (pss_cons (ps_if (pt_cmpR op_ne (pe_callTy (str_own mS hr (by decide)) (by rfl) B.str (by decide +kernel) (pa_cons (pv 8) pa_nil)) (pv 0) (nomark _)) pss_never pss_nil)
      (pss_one (ps_ret (pv 8))))))), ?_⟩
    have hlen : (textS f).length ≤ 100 := by
      unfold textS
      rw [S_len]
      exact textL_len g
    refine ⟨_, rfl, .str (textS f), .ty "str", .type "str", .type "str", true, rfl, .ty "str", .base (.str _), kit_ty (by decide +kernel), true, rfl, iteF ?_⟩
    refine ⟨_, rfl, ⟨_, rfl⟩, _, _, rfl, rfl, rfl, nat_str (A := True) (by omega), fun t ht => ?_⟩
    have st : Same H (upd H t (.tup [.str (Txt.partition (textS f) sCol).1, .str (Txt.partition (textS f) sCol).2.1, .str (Txt.partition (textS f) sCol).2.2])) := Same.upd ht
    refine ⟨t, _, rfl, SqT.of upd_same, rfl, _, _, rfl, _, _, rfl, _, _, rfl, rfl, ?_⟩
    have fin : ∀ (H0 : Hp) (sc : V), Same H H0 → (tSeq (tSeq (tAsg (tCall spParted [] E0 (tCons (tVar 1) tNil)) (gTup K 2 (gCons (gName 4) (gCons (gName 5) gNil))))
        (tSeq (tAsg (tCall spParted [] E0 (tCons (tVar 3) tNil)) (gTup K 2 (gCons (gName 6) (gCons (gName 7) gNil)))) (tAsg (tMake C (spInit C) [] E0 (tCons (tOrT K (tVar 4) (tC (.int 1))) (tCons (tOrT K (tVar 5) (tC (.int 1))) (tCons (tVar 6) (tCons (tVar 7) tNil))))) (gName 8))))
        (tSeq (tIfS (tTest (tOp rNe (tCB (rStrO C (spStr C) E0) (tCons (tVar 8) tNil)) (tVar 0))) tNever tNext) (tRet (tVar 8)))) { nx := fun _ H' => Q .non H', rt := Q }
        [some (.str (textS f)), some (.str (S (wordL (firstOf f)))), some sc, some (.str (S (wordL (lastOf f)))), none, none, none, none, none] H0 := by
      intro H0 sc s0
      refine ⟨_, rfl, firstOf f, rfl, first_good g, fun a1 H1 s1 h1 => ?_⟩
      refine ⟨a1, _, rfl, SqT.of h1, rfl, _, _, rfl, _, _, rfl, rfl, ?_⟩
      refine ⟨_, rfl, lastOf f, rfl, last_good g, fun a2 H2 s2 h2 => ?_⟩
      refine ⟨a2, _, rfl, SqT.of h2, rfl, _, _, rfl, _, _, rfl, rfl, ?_⟩
      refine or_one (i := 4) (o := (firstOf f).1) rfl (fun x e => ((first_good g).r x e).1) ?_
      refine or_one (i := 5) (o := (firstOf f).2) rfl (fun x e => ((first_good g).c x e).1) ?_
      refine ⟨_, rfl, _, rfl, fun x dx hx hdx hne => ?_⟩
      refine ⟨x, dx, f, ?_, g, upd_same, rfl, ?_⟩
      · show [V.ref x, V.int ((firstOf f).1.getD 1), V.int ((firstOf f).2.getD 1), optV (lastOf f).1, optV (lastOf f).2] = _
        rw [first_top, first_left, last_is]
      · have s3 : Same H2 (upd (upd (upd H2 dx (.own x)) x (.ins C dx [])) x (.ins C dx (bf f))) := fun b o e => by
          rw [upd_ne (ne_of_none e hx), upd_ne (ne_of_none e hx), upd_ne (ne_of_none e hdx)]
          exact e
        refine ⟨_, rfl, x, dx, _, rfl, upd_same, x, f, rfl, g, ⟨dx, upd_same⟩, fun H4 s4 => ⟨⟨_, rfl⟩, ?_⟩⟩
        refine ⟨_, rfl, rfl, _, rfl, iteNS rfl ?_⟩
        exact ⟨_, rfl, k x H4 (Same.trans s0 (Same.trans s1 (Same.trans s2 (Same.trans s3 s4)))) ⟨dx, s4 _ _ upd_same⟩⟩
    by_cases hcase : isRows f = true ∨ isCols f = true ∨ isOne f = false
    · rw [part_two hcase] at st ⊢
      refine ⟨_, rfl, rfl, false, (show V.bl (decide (V.str (S [58]) = V.str (Str.ofString ""))) = V.bl false by decide +kernel), iteF ?_⟩
      exact fin _ _ st
    · have h1 : isRows f = false := by
        cases e : isRows f with
        | true => exact absurd (Or.inl e) hcase
        | false => rfl
      have h2 : isCols f = false := by
        cases e : isCols f with
        | true => exact absurd (Or.inr (Or.inl e)) hcase
        | false => rfl
      have h3 : isOne f = true := by
        cases e : isOne f with
        | true => rfl
        | false => exact absurd (Or.inr (Or.inr e)) hcase
      rw [part_one h1 h2 h3] at st ⊢
      refine ⟨_, rfl, rfl, true, (show V.bl (decide (V.str (S []) = V.str (Str.ofString ""))) = V.bl true by decide +kernel), iteT ⟨_, rfl, ?_⟩⟩
      have q := fin _ (.str (S [])) st
      rw [← one_last h1 h2 h3] at q
      exact q
end
end K8

/-! The law's own helpers. -/
namespace K8
open PySem PySem.Spec PyProof.Rows L2 SX
theorem shaped2 (a b : Option Int) : SeqAt.shaped (.tuple [optD a, optD b]) = true := by
  unfold SeqAt.shaped
  simp only [PyData.canLay0, PyData.canLayAll0, PyData.depth, PyData.depthAll, optD_lay, optD_depth]
  decide
theorem eqv2 (a b c d : Option Int) : PyData.eqv (.tuple [optD a, optD b]) (.tuple [optD c, optD d]) = decide (a = c ∧ b = d) := by
  simp only [PyData.eqv, PyData.eqvAll, eqv_opt]
  rw [Bool.eq_iff_iff]
  simp
theorem dp2 {K : PySem.W.Frag} {H : Hp} {p : Addr} {a b : Option Int} (h : H p = some (.tup [optV a, optV b])) : Dp K H (.ref p) (.tuple [optD a, optD b]) := .tup (SqT.of h) (.cons (dp_opt _) (.cons (dp_opt _) .nil))
section
variable {P : Program} {w : World} {K : PySem.W.Frag} {mg : Str → Option Value} {base : Heap}
theorem scCellAt : FnScope ["_law_script", "_law_k"] ["_law_script", "_law_k"] (defScope sCellAt) := ⟨rfl, rfl, rfl, by decide +kernel, rfl, by decide +kernel, by decide +kernel⟩
theorem cal_cellAt (D : Def K mg "_law_cell_at" sCellAt) (B : Bare mg) : Cal P w K mg base 1 "_law_cell_at" (spCellAt K) := by
  refine cal_mk D scCellAt (fun _ _ _ _ _ _ us hl => match us, hl with | [_, _], _ => rfl) (fun vs H Q E h => ?_) (fun f cdv A outer s H vs Q E hr h => ?_)
  · obtain ⟨_, _, _, rfl, _⟩ := h
    rfl
  · obtain ⟨a, ns, n, rfl, hS, k⟩ := h
    refine ⟨_, pss_cons (ps_if (pt_cmpR op_lt (pv 1) (pe_callB call_len_seq (by rfl) B.len PySem.boot_len (pa_cons (pv 0) pa_nil)) (nomark _)) (pss_one (ps_ret (pe_ix ix_list (pv 0) (pv 1) (fun _ _ => rfl)))) pss_nil)
      (pss_one (ps_ret pe_int)), ?_⟩
    refine ⟨_, rfl, _, rfl, a, _, rfl, .inl hS, _, _, rfl, rfl, _, rfl, ?_⟩
    by_cases hn : (n : Int) < ((ns.map V.int).length : Int)
    · refine iteD hn ?_
      have hn2 : n < ns.length := by
        rw [List.length_map] at hn
        omega
      exact ⟨_, rfl, _, rfl, a, _, _, .int ns[n], rfl, rfl, hS, at_ofG (j := n) rfl (by rw [List.getElem?_map, List.getElem?_eq_getElem hn2]; rfl), k _⟩
    · exact iteDF hn (k 0)
theorem scWell : FnScope ["_law_cell_here"] ["_law_cell_here"] (defScope sWell) := ⟨rfl, rfl, rfl, by decide +kernel, rfl, by decide +kernel, by decide +kernel⟩
theorem cal_well (D : Def K mg "_law_well" sWell) (B : Bare mg) : Cal P w K mg base 1 "_law_well" spWell := by
  refine cal_mk D scWell (fun _ _ _ _ _ _ us hl => match us, hl with | [_], _ => rfl) (fun vs H Q E h => ?_) (fun f cdv A outer s H vs Q E hr h => ?_)
  · obtain ⟨_, rfl, _⟩ := h
    rfl
  · obtain ⟨i, rfl, k⟩ := h
    refine ⟨_, pss_one (ps_ret (pe_lst (pa_cons (pe_op op_mul (pv 0) (pe_callTy call_int1 (by rfl) B.int (by decide +kernel) (pa_cons (pe_cmp (pc_ge (pv 0) (pe_op op_pow pe_int pe_int)) rfl) pa_nil)))
      (pa_cons (pe_op op_mod (pv 0) pe_int) (pa_cons pe_int pa_nil))))), ?_⟩
    refine ⟨_, rfl, _, rfl, 10, 18, rfl, rfl, ⟨by decide, by decide, by decide⟩, _, _, rfl, rfl, .inr ⟨_, rfl, _, _, rfl, rfl, .inr ?_, ?_⟩⟩
    · split <;> exact ⟨by decide, by decide⟩
    · exact ⟨_, rfl, _, _, rfl, rfl, (show (0 : Int) < 2147483647 by decide), nat_str (A := True) (show 3 ≤ 1000000 by decide), fun p hp => k p _ (Same.upd hp) hp ⟨_, _, _, upd_same⟩⟩
theorem scDraw : FnScope ["_law_well_here", "_law_many", "_law_found", "_law_number_here"] ["_law_well_here", "_law_many"] (defScope sDraw) := ⟨rfl, rfl, rfl, by decide +kernel, rfl, by decide +kernel, by decide +kernel⟩
theorem cal_draw (D : Def K mg "_law_draw" sDraw) : Cal P w K mg base 1 "_law_draw" spDraw := by
  refine cal_mk D scDraw (fun _ _ _ _ _ _ us hl => match us, hl with | [_, _], _ => rfl) (fun vs H Q E h => ?_) (fun f cdv A outer s H vs Q E hr h => ?_)
  · obtain ⟨_, _, rfl, _⟩ := h
    rfl
  · obtain ⟨a, m, rfl, ⟨x, y, z, hw⟩, h0, h63, k⟩ := h
    refine ⟨_, pss_cons (ps_if (pt_cmpR op_gt (pe_ix ix_list (pv 0) pe_int (fun _ _ => rfl)) pe_int (nomark _))
        (pss_cons (ps_set (i := 2) scDraw.nd rfl (.inl rfl) (pe_op op_mod (pe_ix ix_list (pv 0) pe_int (fun _ _ => rfl)) (pv 1)))
        (pss_cons (ps_asg (pe_op op_fdivW (pe_ix ix_list (pv 0) pe_int (fun _ _ => rfl)) (pv 1)) (pg_sub (pv 0) pe_int set_list))
        (pss_one (ps_ret (pv 2))))) pss_nil)
      (pss_cons (ps_asg (pe_op op_add (pe_ix ix_list (pv 0) pe_int (fun _ _ => rfl)) pe_int) (pg_sub (pv 0) pe_int set_list))
      (pss_cons (ps_set (i := 3) scDraw.nd rfl (.inl rfl) (pe_op op_mod (pe_op op_mul (pe_op op_add (pe_op op_add (pe_ix ix_list (pv 0) pe_int (fun _ _ => rfl)) (pe_op op_mul pe_int (pe_ix ix_list (pv 0) pe_int (fun _ _ => rfl)))) pe_int) pe_int) pe_int))
      (pss_cons (ps_set (i := 3) scDraw.nd rfl (.inl rfl) (pe_op op_mod (pe_op op_mul (pv 3) (pe_op op_add (pe_op op_fdiv (pv 3) pe_int) pe_int)) pe_int))
      (pss_one (ps_ret (pe_op op_mod (pe_op op_fdiv (pe_op op_mod (pe_op op_mul (pv 3) (pe_op op_add (pe_op op_fdiv (pv 3) pe_int) pe_int)) pe_int) pe_int) (pv 1))))))), ?_⟩
    have hd : CDivW x m := wide_div h0 (show m.natAbs < 2 ^ 63 by
      have e1 : (2 : Nat) ^ 63 = 9223372036854775808 := by decide
      have e2 : (2 : Int) ^ 63 = 9223372036854775808 := by decide
      omega) (by decide) (by decide)
    refine ⟨_, rfl, a, _, 0, _, rfl, rfl, SqL.of hw, at_ofG (j := 0) rfl rfl, _, _, rfl, rfl, _, rfl, ?_⟩
    by_cases hx : 0 < x
    · refine iteD hx ?_
      refine ⟨_, rfl, a, _, 0, _, rfl, rfl, SqL.of hw, at_ofG (j := 0) rfl rfl, _, rfl, _, _, rfl, rfl, h0, ?_⟩
      refine ⟨_, rfl, a, _, 0, _, rfl, rfl, SqL.of hw, at_ofG (j := 0) rfl rfl, _, rfl, _, _, rfl, rfl, hd, ?_⟩
      refine ⟨_, rfl, a, _, 0, 0, rfl, rfl, hw, rfl, ?_⟩
      exact ⟨_, rfl, k _ _ (Int.emod_nonneg _ (by omega)) (Int.emod_lt_of_pos _ h0) But.upd ⟨_, _, _, upd_same⟩⟩
    · refine iteDF hx ?_
      refine ⟨_, rfl, a, _, 2, _, rfl, rfl, SqL.of hw, at_ofG (j := 2) rfl rfl, _, _, rfl, rfl, _, rfl, a, _, 2, 2, rfl, rfl, hw, rfl, ?_⟩
      have hw2 : (upd H a (.lst [.int x, .int y, .int (z + 1)])) a = some (.lst [.int x, .int y, .int (z + 1)]) := upd_same
      refine ⟨_, rfl, a, _, 1, _, rfl, rfl, SqL.of hw2, at_ofG (j := 1) rfl rfl, _, rfl, a, _, 2, _, rfl, rfl, SqL.of hw2, at_ofG (j := 2) rfl rfl, _, _, rfl, rfl, .inl ⟨by decide, by decide⟩, _, _, rfl, rfl, _, _, rfl, rfl, _, _, rfl, rfl, .inr ⟨by decide, by decide⟩, _, _, rfl, rfl, (show (0 : Int) < 2147483647 by decide), ?_⟩
      have b1 : ∀ t : Int, -(2 ^ 64) < t % 2147483647 ∧ t % 2147483647 < 2 ^ 64 := fun t => by
        have e2 : (2 : Int) ^ 64 = 18446744073709551616 := by decide
        omega
      have b2 : ∀ t : Int, -(2 ^ 64) < t % 2147483629 ∧ t % 2147483629 < 2 ^ 64 := fun t => by
        have e2 : (2 : Int) ^ 64 = 18446744073709551616 := by decide
        omega
      refine ⟨_, rfl, _, rfl, _, _, rfl, rfl, ⟨by decide, by decide⟩, _, _, rfl, rfl, _, _, rfl, rfl, .inl (b1 _), _, _, rfl, rfl, (show (0 : Int) < 2147483629 by decide), ?_⟩
      refine ⟨_, rfl, _, rfl, _, _, rfl, rfl, ⟨by decide, by decide⟩, _, _, rfl, rfl, _, _, rfl, rfl, .inl (b2 _), _, _, rfl, rfl, (show (0 : Int) < 2147483399 by decide), _, _, rfl, rfl, ⟨by decide, by decide⟩, _, rfl, _, _, rfl, rfl, h0, ?_⟩
      exact k _ _ (Int.emod_nonneg _ (by omega)) (Int.emod_lt_of_pos _ h0) But.upd ⟨_, _, _, upd_same⟩
theorem scLLet : FnScope ["_law_number_here", "_law_text_here"] ["_law_number_here"] (defScope sLLet) := ⟨rfl, rfl, rfl, by decide +kernel, rfl, by decide +kernel, by decide +kernel⟩
theorem cal_llet (D : Def K mg "_law_letters" sLLet) : Cal P w K mg base 1 "_law_letters" spLLet := by
  refine cal_mk D scLLet (fun _ _ _ _ _ _ us hl => match us, hl with | [_], _ => rfl) (fun vs H Q E h => ?_) (fun f cdv A outer s H vs Q E hr h => ?_)
  · obtain ⟨i, rfl, _⟩ := h
    rfl
  · obtain ⟨n, rfl, h1, h2, k⟩ := h
    refine ⟨_, pss_cons (ps_set (i := 1) scLLet.nd rfl (.inl rfl) pe_str)
      (pss_cons (ps_while PassesOwn.never (pt_cmpR op_gt (pv 0) pe_int (nomark _))
        (pss_cons (ps_set (i := 1) scLLet.nd rfl (.inl rfl) (pe_op op_add_str (pe_ix ix_str pe_str (pe_op op_mod (pe_op op_sub (pv 0) pe_int) pe_int) (fun _ _ => rfl)) (pv 1)))
          (pss_one (ps_set (i := 0) scLLet.nd rfl (.inl rfl) (pe_op op_fdiv (pe_op op_sub (pv 0) pe_int) pe_int)))))
      (pss_one (ps_ret (pv 1)))), ?_⟩
    have hcode : (n.toNat : Int) = n := by omega
    refine while_by (fun σ H' => ∃ (m : Nat) (l : List Nat), σ = [some (.int (m : Int)), some (.str (S l))] ∧ lets n.toNat = lets m ++ l ∧ H' = H ∧ m < 1000000000000)
      (fun σ _ => match σ with | some (.int m) :: _ => m.toNat | _ => 0)
      ⟨n.toNat, [], ?_, by rw [List.append_nil], rfl, by omega⟩ ?_ (fun σ H Q Q' m ⟨v, hv, i, j, e1, e2, c, e3, q⟩ => ⟨v, hv, i, j, e1, e2, c, e3, m _ _ q⟩)
    · show [some (V.int n), some (V.str (Str.ofString ""))] = [some (V.int (n.toNat : Int)), some (V.str (S []))]
      rw [hcode, empty_S]
    · rintro σ H1 ⟨m, l, rfl, e, rfl, hm⟩
      refine ⟨_, rfl, _, _, rfl, rfl, _, rfl, ?_⟩
      by_cases hz : m = 0
      · refine iteDF (by omega) ?_
        subst hz
        rw [lets_zero, List.nil_append] at e
        refine ⟨_, rfl, ?_⟩
        have q := k
        unfold letS at q
        rw [e] at q
        exact q
      · refine iteD (by omega) ?_
        have em : ((m : Int) - 1) % 26 = (((m - 1) % 26 : Nat) : Int) := by omega
        have ed : ((m : Int) - 1) / 26 = (((m - 1) / 26 : Nat) : Int) := by omega
        have hr26 : (m - 1) % 26 < 26 := Nat.mod_lt _ (by decide)
        have hat : sLET.cps.toList[(m - 1) % 26]? = some (65 + (m - 1) % 26) := by
          rw [let_codes, List.getElem?_map, List.getElem?_range hr26]
          rfl
        have elen := congrArg List.length e
        rw [List.length_append] at elen
        have h9 : (lets n.toNat).length ≤ 9 := lets_len9 (by omega)
        refine ⟨_, rfl, _, _, rfl, rfl, _, _, rfl, rfl, (show (0 : Int) < 26 by decide), sLET, _, 65 + (m - 1) % 26, rfl, rfl, nat_str (A := True) (by rw [let_len]; decide), at_ofG em hat, ?_⟩
        refine ⟨_, rfl, _, _, rfl, rfl, nat_str (A := True) (by
          show (S [65 + (m - 1) % 26]).length + (S l).length ≤ 1000000
          rw [S_len, S_len, List.length_singleton]
          omega), ?_⟩
        refine ⟨_, rfl, _, _, rfl, rfl, _, _, rfl, rfl, ⟨by decide, by decide⟩, ?_⟩
        refine ⟨⟨(m - 1) / 26, [65 + (m - 1) % 26] ++ l, ?_, ?_, rfl, by omega⟩, ?_⟩
        · show [some (V.int (((m : Int) - 1) / 26)), some (V.str (S [65 + (m - 1) % 26] ++ S l))] = _
          rw [S_cat, ed]
        · rw [e, lets_pos (n := m) (by omega), List.append_assoc]
        · show (((m : Int) - 1) / 26).toNat < ((m : Int)).toNat
          omega
theorem scLNum : FnScope ["_law_well_here", "_law_way", "_law_far"] ["_law_well_here"] (defScope sLNum) := ⟨rfl, rfl, rfl, by decide +kernel, rfl, by decide +kernel, by decide +kernel⟩
theorem cal_lnum (D : Def K mg "_law_number" sLNum) (cD : Cal P w K mg base 1 "_law_draw" spDraw) : Cal P w K mg base 2 "_law_number" spLNum := by
  refine cal_mk D scLNum (fun _ _ _ _ _ _ us hl => match us, hl with | [_], _ => rfl) (fun vs H Q E h => ?_) (fun f cdv A outer s H vs Q E hr h => ?_)
  · obtain ⟨_, rfl, _⟩ := h
    rfl
  · obtain ⟨a, rfl, hw, k⟩ := h
    refine ⟨_, pss_cons (ps_set (i := 1) scLNum.nd rfl (.inl rfl) (pe_c cD hr (by decide) (by rfl) (pa_cons (pv 0) (pa_cons pe_int pa_nil))))
      (pss_cons (ps_if (pt_cmpR op_lt (pv 1) pe_int (nomark _)) (pss_one (ps_ret (pe_op op_add pe_int (pe_c cD hr (by decide) (by rfl) (pa_cons (pv 0) (pa_cons pe_int pa_nil)))))) pss_nil)
      (pss_cons (ps_if (pt_cmpR op_eq (pv 1) pe_int (nomark _))
        (pss_cons (ps_set (i := 2) scLNum.nd rfl (.inl rfl) (pe_lst (pa_cons pe_int (pa_cons pe_int (pa_cons pe_int (pa_cons pe_int (pa_cons pe_int (pa_cons pe_int (pa_cons pe_int (pa_cons pe_int (pa_cons pe_int (pa_cons pe_int (pa_cons (pe_op op_sub (pe_op op_pow pe_int pe_int) pe_int) (pa_cons pe_int pa_nil))))))))))))))
        (pss_one (ps_ret (pe_ix ix_list (pv 2) (pe_c cD hr (by decide) (by rfl) (pa_cons (pv 0) (pa_cons pe_int pa_nil))) (fun _ _ => rfl))))) pss_nil)
      (pss_cons (ps_if (pt_cmpR op_eq (pv 1) pe_int (nomark _)) (pss_one (ps_ret (pe_op op_add pe_int (pe_c cD hr (by decide) (by rfl) (pa_cons (pv 0) (pa_cons (pe_op op_sub (pe_op op_pow pe_int pe_int) pe_int) pa_nil)))))) pss_nil)
      (pss_one (ps_ret (pe_op op_add pe_int (pe_c cD hr (by decide) (by rfl) (pa_cons (pv 0) (pa_cons pe_int pa_nil))))))))), ?_⟩
    refine ⟨_, rfl, a, 8, rfl, hw, by decide, by decide, fun way H1 w0 w8 b1 hw1 => ?_⟩
    refine ⟨_, rfl, _, _, rfl, rfl, _, rfl, ite2 (fun _ => ?_) (fun _ => ?_)⟩
    · exact ⟨_, rfl, a, 9, rfl, hw1, by decide, by decide, fun d H2 d0 d9 b2 hw2 => ⟨_, _, rfl, rfl, k _ _ (by omega) (by omega) (b1.trans b2) hw2⟩⟩
    refine ⟨_, rfl, rfl, _, rfl, ite2 (fun _ => ?_) (fun _ => ?_)⟩
    · refine ⟨10, 12, rfl, rfl, ⟨by decide, by decide, by decide⟩, _, _, rfl, rfl, nat_str (A := True) (show 12 ≤ 1000000 by decide), fun p hp => ?_⟩
      obtain ⟨x, y, z, hwx⟩ := hw1
      have hne : p ≠ a := fun e => by
        rw [e, hwx] at hp
        cases hp
      refine ⟨_, rfl, _, rfl, a, 12, rfl, ⟨x, y, z, (upd_ne (Ne.symm hne)).trans hwx⟩, by decide, by decide, fun d H2 d0 d12 b2 hw2 => ?_⟩
      have hz : ∀ z ∈ ([26, 27, 52, 53, 702, 703, 18278, 18279, 217180147158, 217180147159, (10 : Int) ^ (12 : Int).toNat - 2, 1] : List Int), 1 ≤ z ∧ z ≤ 999999999998 := by decide
      have hlt : d.toNat < ([26, 27, 52, 53, 702, 703, 18278, 18279, 217180147158, 217180147159, (10 : Int) ^ (12 : Int).toNat - 2, 1] : List Int).length := by
        show d.toNat < 12
        omega
      have hq := hz _ (List.getElem_mem hlt)
      refine ⟨p, _, d, V.int (([26, 27, 52, 53, 702, 703, 18278, 18279, 217180147158, 217180147159, (10 : Int) ^ (12 : Int).toNat - 2, 1] : List Int)[d.toNat]), rfl, rfl,
        SqL.of (b2 p (.lst (([26, 27, 52, 53, 702, 703, 18278, 18279, 217180147158, 217180147159, (10 : Int) ^ (12 : Int).toNat - 2, 1] : List Int).map V.int)) hne upd_same), at_ofG (j := d.toNat) (by omega) (by rw [List.getElem?_map, List.getElem?_eq_getElem hlt]; rfl), ?_⟩
      refine k _ H2 hq.1 hq.2 (b1.trans (But.trans (But.of (Same.upd hp)) b2)) hw2
    refine ⟨_, rfl, rfl, _, rfl, ite2 (fun _ => ?_) (fun _ => ?_)⟩
    · refine ⟨_, rfl, 10, 12, rfl, rfl, ⟨by decide, by decide, by decide⟩, _, _, rfl, rfl, a, (10 : Int) ^ (12 : Int).toNat - 2, rfl, hw1, by decide, by decide, fun d H2 d0 d9 b2 hw2 => ⟨_, _, rfl, rfl, k _ _ (by omega) ?_ (b1.trans b2) hw2⟩⟩
      have e : (10 : Int) ^ (12 : Int).toNat - 2 = 999999999998 := by decide
      rw [e] at d9
      omega
    · exact ⟨_, rfl, a, 800, rfl, hw1, by decide, by decide, fun d H2 d0 d9 b2 hw2 => ⟨_, _, rfl, rfl, k _ _ (by omega) (by omega) (b1.trans b2) hw2⟩⟩
theorem scLLast : FnScope ["_law_well_here", "_law_first", "_law_way"] ["_law_well_here", "_law_first"] (defScope sLLast) := ⟨rfl, rfl, rfl, by decide +kernel, rfl, by decide +kernel, by decide +kernel⟩
theorem min_ok {n d : Int} (hn : n ≤ 999999999998) (hd : 0 ≤ d) : n ≤ (if n + d < (10 : Int) ^ (12 : Int).toNat - 2 then n + d else (10 : Int) ^ (12 : Int).toNat - 2) ∧ (if n + d < (10 : Int) ^ (12 : Int).toNat - 2 then n + d else (10 : Int) ^ (12 : Int).toNat - 2) ≤ 999999999998 := by
  have e : (10 : Int) ^ (12 : Int).toNat - 2 = 999999999998 := by decide
  rw [e]
  split <;> omega
theorem cal_llast (D : Def K mg "_law_last" sLLast) (B : Bare mg) (cD : Cal P w K mg base 1 "_law_draw" spDraw) : Cal P w K mg base 2 "_law_last" spLLast := by
  refine cal_mk D scLLast (fun _ _ _ _ _ _ us hl => match us, hl with | [_, _], _ => rfl) (fun vs H Q E h => ?_) (fun f cdv A outer s H vs Q E hr h => ?_)
  · obtain ⟨_, _, rfl, _⟩ := h
    rfl
  · obtain ⟨a, n, rfl, hw, hn, k⟩ := h
    refine ⟨_, pss_cons (ps_set (i := 2) scLLast.nd rfl (.inl rfl) (pe_c cD hr (by decide) (by rfl) (pa_cons (pv 0) (pa_cons pe_int pa_nil))))
      (pss_cons (ps_if (pt_cmpR op_lt (pv 2) pe_int (nomark _)) (pss_one (ps_ret (pv 1))) pss_nil)
      (pss_cons (ps_if (pt_cmpR op_eq (pv 2) pe_int (nomark _)) (pss_one (ps_ret (pe_callB (call_min2 rfl) (by rfl) B.min (by decide +kernel) (pa_cons (pe_op op_sub (pe_op op_pow pe_int pe_int) pe_int)
          (pa_cons (pe_op op_add (pv 1) (pe_c cD hr (by decide) (by rfl) (pa_cons (pv 0) (pa_cons (pe_op op_pow pe_int pe_int) pa_nil)))) pa_nil))))) pss_nil)
      (pss_one (ps_ret (pe_callB (call_min2 rfl) (by rfl) B.min (by decide +kernel) (pa_cons (pe_op op_sub (pe_op op_pow pe_int pe_int) pe_int)
          (pa_cons (pe_op op_add (pv 1) (pe_c cD hr (by decide) (by rfl) (pa_cons (pv 0) (pa_cons pe_int pa_nil)))) pa_nil))))))), ?_⟩
    refine ⟨_, rfl, a, 6, rfl, hw, by decide, by decide, fun way H1 w0 w8 b1 hw1 => ?_⟩
    refine ⟨_, rfl, _, _, rfl, rfl, _, rfl, ite2 (fun _ => ?_) (fun _ => ?_)⟩
    · exact ⟨_, rfl, k n H1 (Int.le_refl _) hn b1 hw1⟩
    refine ⟨_, rfl, rfl, _, rfl, ite2 (fun _ => ?_) (fun _ => ?_)⟩
    · exact ⟨10, 12, rfl, rfl, ⟨by decide, by decide, by decide⟩, _, _, rfl, rfl, _, rfl, _, rfl, 10, 6, rfl, rfl, ⟨by decide, by decide, by decide⟩, a, (10 : Int) ^ (6 : Int).toNat, rfl, hw1, by decide, by decide, fun d H2 d0 d9 b2 hw2 => ⟨_, _, rfl, rfl, _, _, rfl, k _ _ (min_ok hn d0).1 (min_ok hn d0).2 (b1.trans b2) hw2⟩⟩
    · exact ⟨10, 12, rfl, rfl, ⟨by decide, by decide, by decide⟩, _, _, rfl, rfl, _, rfl, _, rfl, a, 6, rfl, hw1, by decide, by decide, fun d H2 d0 d9 b2 hw2 => ⟨_, _, rfl, rfl, _, _, rfl, k _ _ (min_ok hn d0).1 (min_ok hn d0).2 (b1.trans b2) hw2⟩⟩
end
end K8

/-! The law's own helpers, second part: fours, cells, texts. -/
namespace K8
open PySem PySem.Spec PyProof.Rows L2 SX
theorem well_upd {H : Hp} {a p : Addr} {o : HO} (hw : Well H a) (hp : H p = none) : Well (upd H p o) a := by
  obtain ⟨x, y, z, h⟩ := hw
  exact ⟨x, y, z, (upd_ne (ne_of_none h hp)).trans h⟩
theorem app_assoc (a b c : Str) : a ++ b ++ c = a ++ (b ++ c) := by
  refine TL.ext_tl ?_
  rw [TL.tl_append, TL.tl_append, TL.tl_append, TL.tl_append, List.append_assoc]
theorem repr_join (f : Four) : Str.ofString "Block(" ++ Txt.join (Str.ofString ", ") [optS (some f.top), optS (some f.left), optS f.bottom, optS f.right] ++ Str.ofString ")" = reprS f := by
  rw [TL.join_eq]
  unfold reprS
  show Str.ofString "Block(" ++ (optS (some f.top) ++ Str.ofString ", " ++ (optS (some f.left) ++ Str.ofString ", " ++ (optS f.bottom ++ Str.ofString ", " ++ optS f.right))) ++ Str.ofString ")" = _
  simp only [app_assoc]
section
variable {P : Program} {w : World} {K : PySem.W.Frag} {mg : Str → Option Value} {base : Heap}
theorem scLBlock : FnScope ["_law_well_here", "_law_kind", "_law_top", "_law_bottom", "_law_left", "_law_right"] ["_law_well_here"] (defScope sLBlock) := ⟨rfl, rfl, rfl, by decide +kernel, rfl, by decide +kernel, by decide +kernel⟩
theorem cal_lblock (D : Def K mg "_law_block" sLBlock) (cD : Cal P w K mg base 1 "_law_draw" spDraw) (cN : Cal P w K mg base 2 "_law_number" spLNum) (cL : Cal P w K mg base 2 "_law_last" spLLast) : Cal P w K mg base 3 "_law_block" spLBlock := by
  refine cal_mk D scLBlock (fun _ _ _ _ _ _ us hl => match us, hl with | [_], _ => rfl) (fun vs H Q E h => ?_) (fun f cdv A outer s H vs Q E hr h => ?_)
  · obtain ⟨_, rfl, _⟩ := h
    rfl
  · obtain ⟨a, rfl, hw, k⟩ := h
    refine ⟨_, pss_cons (ps_set (i := 1) scLBlock.nd rfl (.inl rfl) (pe_c cD hr (by decide) (by rfl) (pa_cons (pv 0) (pa_cons pe_int pa_nil))))
      (pss_cons (ps_set (i := 2) scLBlock.nd rfl (.inl rfl) (pe_c cN hr (by decide) (by rfl) (pa_cons (pv 0) pa_nil)))
      (pss_cons (ps_set (i := 3) scLBlock.nd rfl (.inl rfl) (pe_c cL hr (by decide) (by rfl) (pa_cons (pv 0) (pa_cons (pv 2) pa_nil))))
      (pss_cons (ps_set (i := 4) scLBlock.nd rfl (.inl rfl) (pe_c cN hr (by decide) (by rfl) (pa_cons (pv 0) pa_nil)))
      (pss_cons (ps_set (i := 5) scLBlock.nd rfl (.inl rfl) (pe_c cL hr (by decide) (by rfl) (pa_cons (pv 0) (pa_cons (pv 4) pa_nil))))
      (pss_cons (ps_if (pt_cmpR op_eq (pv 1) pe_int (nomark _)) (pss_one (ps_ret (pe_tup (pa_cons (pv 2) (pa_cons (pv 4) (pa_cons (pv 2) (pa_cons (pv 4) pa_nil))))))) pss_nil)
      (pss_cons (ps_if (pt_cmpR op_eq (pv 1) pe_int (nomark _)) (pss_one (ps_ret (pe_tup (pa_cons (pv 2) (pa_cons pe_int (pa_cons (pv 3) (pa_cons pe_non pa_nil))))))) pss_nil)
      (pss_cons (ps_if (pt_cmpR op_eq (pv 1) pe_int (nomark _)) (pss_one (ps_ret (pe_tup (pa_cons pe_int (pa_cons (pv 4) (pa_cons pe_non (pa_cons (pv 5) pa_nil))))))) pss_nil)
      (pss_cons (ps_if (pt_cmpR op_lt (pv 1) pe_int (nomark _)) (pss_one (ps_ret (pe_ix ix_list (pe_lst (pa_cons (pe_tup (pa_cons (pv 2) (pa_cons (pv 4) (pa_cons pe_non (pa_cons (pv 5) pa_nil)))))
          (pa_cons (pe_tup (pa_cons (pv 2) (pa_cons (pv 4) (pa_cons (pv 3) (pa_cons pe_non pa_nil))))) (pa_cons (pe_tup (pa_cons (pv 2) (pa_cons (pv 4) (pa_cons pe_non (pa_cons pe_non pa_nil))))) pa_nil)))) (pe_op op_sub (pv 1) pe_int) (fun _ _ => rfl)))) pss_nil)
      (pss_cons (ps_if (pt_cmpR op_eq (pv 1) pe_int (nomark _)) (pss_one (ps_ret (pe_tup (pa_cons pe_int (pa_cons pe_int (pa_cons pe_non (pa_cons pe_non pa_nil))))))) pss_nil)
      (pss_one (ps_ret (pe_tup (pa_cons (pv 2) (pa_cons (pv 4) (pa_cons (pv 3) (pa_cons (pv 5) pa_nil)))))))))))))))), ?_⟩
    refine ⟨_, rfl, a, 9, rfl, hw, by decide, by decide, fun kind H1 k0 k9 b1 w1 => ?_⟩
    refine ⟨_, rfl, a, rfl, w1, fun t H2 t1 t2 b2 w2 => ?_⟩
    refine ⟨_, rfl, _, rfl, a, t, rfl, w2, t2, fun bo H3 bo1 bo2 b3 w3 => ?_⟩
    refine ⟨_, rfl, a, rfl, w3, fun l H4 l1 l2 b4 w4 => ?_⟩
    refine ⟨_, rfl, _, rfl, a, l, rfl, w4, l2, fun ri H5 ri1 ri2 b5 w5 => ?_⟩
    have b : But a H H5 := But.trans b1 (But.trans b2 (But.trans b3 (But.trans b4 b5)))
    have four : (4 : Nat) ≤ sizeLine := nat_str (A := True) (by decide)
    refine ⟨_, rfl, rfl, _, rfl, ite2 (fun _ => ?_) (fun n0 => ?_)⟩
    · refine ⟨_, rfl, _, rfl, _, rfl, _, rfl, four, fun p hp => k ⟨t, l, some t, some l⟩ p _ ?_ (But.trans b (But.of (Same.upd hp))) (well_upd w5 hp) upd_same⟩
      exact ⟨t1, (show t < 1000000000000 by omega), l1, (show l < 1000000000000 by omega), fun x e => (by cases e; exact ⟨Int.le_refl _, (show t < 1000000000000 by omega)⟩), fun x e => (by cases e; exact ⟨Int.le_refl _, (show l < 1000000000000 by omega)⟩)⟩
    refine ⟨_, rfl, rfl, _, rfl, ite2 (fun _ => ?_) (fun n1 => ?_)⟩
    · refine ⟨_, rfl, _, rfl, four, fun p hp => k ⟨t, 1, some bo, none⟩ p _ ?_ (But.trans b (But.of (Same.upd hp))) (well_upd w5 hp) upd_same⟩
      exact ⟨t1, (show t < 1000000000000 by omega), Int.le_refl _, (show (1 : Int) < 1000000000000 by decide), fun x e => (by cases e; exact ⟨bo1, (show bo < 1000000000000 by omega)⟩), fun x e => (by cases e)⟩
    refine ⟨_, rfl, rfl, _, rfl, ite2 (fun _ => ?_) (fun n2 => ?_)⟩
    · refine ⟨_, rfl, _, rfl, four, fun p hp => k ⟨1, l, none, some ri⟩ p _ ?_ (But.trans b (But.of (Same.upd hp))) (well_upd w5 hp) upd_same⟩
      exact ⟨Int.le_refl _, (show (1 : Int) < 1000000000000 by decide), l1, (show l < 1000000000000 by omega), fun x e => (by cases e), fun x e => (by cases e; exact ⟨ri1, (show ri < 1000000000000 by omega)⟩)⟩
    have kn : ∀ {i : Int}, ¬ decide (V.int kind = V.int i) = true → kind ≠ i := fun h e => h (by rw [e]; exact decide_eq_true rfl)
    have e0 := kn n0
    have e1 := kn n1
    have e2 := kn n2
    refine ⟨_, rfl, _, _, rfl, rfl, _, rfl, ?_⟩
    by_cases h6 : kind < 6
    · refine iteD h6 ?_
      refine ⟨_, rfl, _, rfl, _, rfl, four, fun p1 h1 => ⟨_, rfl, _, rfl, _, rfl, four, fun p2 h2 => ⟨_, rfl, _, rfl, four, fun p3 h3 => ⟨nat_str (A := True) (show 3 ≤ 1000000 by decide), fun p4 h4 => ?_⟩⟩⟩⟩
      have s1 := Same.upd (o := .tup (tupV ⟨t, l, none, some ri⟩)) h1
      have s2 := Same.upd (o := .tup (tupV ⟨t, l, some bo, none⟩)) h2
      have s3 := Same.upd (o := .tup (tupV ⟨t, l, none, none⟩)) h3
      have s4 := Same.upd (o := .lst [.ref p1, .ref p2, .ref p3]) h4
      have sA := Same.trans s1 (Same.trans s2 (Same.trans s3 s4))
      have wA := well_upd (o := .lst [.ref p1, .ref p2, .ref p3]) (well_upd (o := .tup (tupV ⟨t, l, none, none⟩)) (well_upd (o := .tup (tupV ⟨t, l, some bo, none⟩)) (well_upd (o := .tup (tupV ⟨t, l, none, some ri⟩)) w5 h1) h2) h3) h4
      have hk : kind = 3 ∨ kind = 4 ∨ kind = 5 := by omega
      rcases hk with hk | hk | hk
      · refine ⟨_, rfl, _, _, rfl, rfl, p4, _, _, .ref p1, rfl, rfl, SqL.of upd_same, at_ofG (j := 0) (by omega) rfl, k ⟨t, l, none, some ri⟩ p1 _ ?_ (But.trans b (But.of sA)) wA (Same.trans s2 (Same.trans s3 s4) _ _ upd_same)⟩
        exact ⟨t1, (show t < 1000000000000 by omega), l1, (show l < 1000000000000 by omega), fun x e => (by cases e), fun x e => (by cases e; exact ⟨ri1, (show ri < 1000000000000 by omega)⟩)⟩
      · refine ⟨_, rfl, _, _, rfl, rfl, p4, _, _, .ref p2, rfl, rfl, SqL.of upd_same, at_ofG (j := 1) (by omega) rfl, k ⟨t, l, some bo, none⟩ p2 _ ?_ (But.trans b (But.of sA)) wA (Same.trans s3 s4 _ _ upd_same)⟩
        exact ⟨t1, (show t < 1000000000000 by omega), l1, (show l < 1000000000000 by omega), fun x e => (by cases e; exact ⟨bo1, (show bo < 1000000000000 by omega)⟩), fun x e => (by cases e)⟩
      · refine ⟨_, rfl, _, _, rfl, rfl, p4, _, _, .ref p3, rfl, rfl, SqL.of upd_same, at_ofG (j := 2) (by omega) rfl, k ⟨t, l, none, none⟩ p3 _ ?_ (But.trans b (But.of sA)) wA (s4 _ _ upd_same)⟩
        exact ⟨t1, (show t < 1000000000000 by omega), l1, (show l < 1000000000000 by omega), fun x e => (by cases e), fun x e => (by cases e)⟩
    · refine iteDF h6 ?_
      refine ⟨_, rfl, rfl, _, rfl, ite2 (fun _ => ?_) (fun n6 => ?_)⟩
      · refine ⟨four, fun p hp => k ⟨1, 1, none, none⟩ p _ ?_ (But.trans b (But.of (Same.upd hp))) (well_upd w5 hp) upd_same⟩
        exact ⟨Int.le_refl _, (show (1 : Int) < 1000000000000 by decide), Int.le_refl _, (show (1 : Int) < 1000000000000 by decide), fun x e => (by cases e), fun x e => (by cases e)⟩
      · refine ⟨_, rfl, _, rfl, _, rfl, _, rfl, four, fun p hp => k ⟨t, l, some bo, some ri⟩ p _ ?_ (But.trans b (But.of (Same.upd hp))) (well_upd w5 hp) upd_same⟩
        exact ⟨t1, (show t < 1000000000000 by omega), l1, (show l < 1000000000000 by omega), fun x e => (by cases e; exact ⟨bo1, (show bo < 1000000000000 by omega)⟩), fun x e => (by cases e; exact ⟨ri1, (show ri < 1000000000000 by omega)⟩)⟩
theorem or_int {i : Int} {o : Option Int} {H : Hp} {Q : V → Hp → Prop} (h : ∀ x, o = some x → 1 ≤ x) (q : Q (.int (o.getD i)) H) : ∃ k, TruV K (optV o) H k ∧ if k = true then Q (optV o) H else Q (.int i) H := by
  cases o with
  | none => exact ⟨false, rfl, iteF q⟩
  | some x =>
    have hx := h x rfl
    refine ⟨true, ?_, iteT q⟩
    show true = (x != 0)
    have : x ≠ 0 := by omega
    simp [this]
theorem scLCell : FnScope ["_law_well_here", "_law_four", "_law_row", "_law_column"] ["_law_well_here", "_law_four"] (defScope sLCell) := ⟨rfl, rfl, rfl, by decide +kernel, rfl, by decide +kernel, by decide +kernel⟩
theorem cal_lcell (D : Def K mg "_law_cell" sLCell) (B : Bare mg) (cD : Cal P w K mg base 1 "_law_draw" spDraw) : Cal P w K mg base 2 "_law_cell" spLCell := by
  refine cal_mk D scLCell (fun _ _ _ _ _ _ us hl => match us, hl with | [_, _], _ => rfl) (fun vs H Q E h => ?_) (fun f cdv A outer s H vs Q E hr h => ?_)
  · obtain ⟨_, _, _, rfl, _⟩ := h
    rfl
  · obtain ⟨a, q, f, rfl, g, hw, hq, k⟩ := h
    refine ⟨_, pss_cons (ps_set (i := 2) scLCell.nd rfl (.inl rfl) (pe_op op_sub (pe_op op_add (pe_ix ix_list (pe_lst (pa_cons (pe_ix ix_tup (pv 1) pe_int (fun _ _ => rfl)) (pa_cons (pe_orT (pe_ix ix_tup (pv 1) pe_int (fun _ _ => rfl)) (pe_one (pe_ix ix_tup (pv 1) pe_int (fun _ _ => rfl)))) pa_nil)))
          (pe_c cD hr (by decide) (by rfl) (pa_cons (pv 0) (pa_cons pe_int pa_nil))) (fun _ _ => rfl)) (pe_c cD hr (by decide) (by rfl) (pa_cons (pv 0) (pa_cons pe_int pa_nil)))) pe_int))
      (pss_cons (ps_set (i := 3) scLCell.nd rfl (.inl rfl) (pe_op op_sub (pe_op op_add (pe_ix ix_list (pe_lst (pa_cons (pe_ix ix_tup (pv 1) pe_int (fun _ _ => rfl)) (pa_cons (pe_orT (pe_ix ix_tup (pv 1) pe_int (fun _ _ => rfl)) (pe_one (pe_ix ix_tup (pv 1) pe_int (fun _ _ => rfl)))) pa_nil)))
          (pe_c cD hr (by decide) (by rfl) (pa_cons (pv 0) (pa_cons pe_int pa_nil))) (fun _ _ => rfl)) (pe_c cD hr (by decide) (by rfl) (pa_cons (pv 0) (pa_cons pe_int pa_nil)))) pe_int))
      (pss_one (ps_ret (pe_tup (pa_cons (pe_callB (call_max2 rfl) (by rfl) B.max (by decide +kernel) (pa_cons pe_int (pa_cons (pv 2) pa_nil)))
        (pa_cons (pe_callB (call_max2 rfl) (by rfl) B.max (by decide +kernel) (pa_cons pe_int (pa_cons (pv 3) pa_nil))) pa_nil)))))), ?_⟩
    have two : (2 : Nat) ≤ sizeLine := nat_str (A := True) (by decide)
    have hqa : ∀ {H1 : Hp}, Well H1 a → H1 q = some (.tup (tupV f)) → q ≠ a := fun hw1 h1 e => by
      obtain ⟨x, y, z, h⟩ := hw1
      rw [e, h] at h1
      cases h1
    have hwn : ∀ {H1 : Hp} {p : Addr}, Well H1 a → H1 p = none → p ≠ a := fun hw1 h1 e => by
      obtain ⟨x, y, z, h⟩ := hw1
      rw [e, h] at h1
      cases h1
    refine ⟨_, rfl, q, _, 0, _, rfl, rfl, SqT.of hq, at_ofG (j := 0) rfl rfl, _, rfl, q, _, 2, _, rfl, rfl, SqT.of hq, at_ofG (j := 2) rfl rfl, ?_⟩
    have key1 : ∀ {Q1 : V → Hp → Prop}, Q1 (.int (f.bottom.getD f.top)) H → ∃ k, TruV K (optV f.bottom) H k ∧ if k = true then Q1 (optV f.bottom) H else (tOp (rIxT K) (tVar 1) (tC (.int 0))) (L2.start ["_law_well_here", "_law_four", "_law_row", "_law_column"] [V.ref a, V.ref q]) H Q1 := by
      intro Q1 q1
      cases hb : f.bottom with
      | none =>
        rw [hb] at q1
        exact ⟨false, rfl, iteF ⟨_, rfl, q, _, 0, _, rfl, rfl, SqT.of hq, at_ofG (j := 0) rfl rfl, q1⟩⟩
      | some x =>
        rw [hb] at q1
        refine ⟨true, ?_, iteT q1⟩
        show true = (x != 0)
        have := (g.b x hb).1
        have := g.t1
        have h0 : x ≠ 0 := by omega
        simp [h0]
    refine key1 ⟨two, fun p hp => ?_⟩
    have pa := hwn hw hp
    have sp := Same.upd (o := .lst [.int f.top, .int (f.bottom.getD f.top)]) hp
    refine ⟨_, rfl, a, 2, rfl, well_upd hw hp, by decide, by decide, fun d1 H1 d10 d12 b1 w1 => ?_⟩
    have hp1 : H1 p = some (.lst [.int f.top, .int (f.bottom.getD f.top)]) := b1 p _ pa upd_same
    obtain ⟨v1, hv1⟩ : ∃ v1 : Int, ([.int f.top, .int (f.bottom.getD f.top)] : List V)[d1.toNat]? = some (.int v1) := by
      have hd : d1 = 0 ∨ d1 = 1 := by omega
      rcases hd with rfl | rfl
      · exact ⟨_, rfl⟩
      · exact ⟨_, rfl⟩
    refine ⟨p, _, d1, .int v1, rfl, rfl, SqL.of hp1, at_ofG (j := d1.toNat) (by omega) hv1, ?_⟩
    refine ⟨_, rfl, a, 3, rfl, w1, by decide, by decide, fun d2 H2 d20 d23 b2 w2 => ⟨_, _, rfl, rfl, _, _, rfl, rfl, ?_⟩⟩
    have hq2 : H2 q = some (.tup (tupV f)) := b2 q _ (hqa hw hq) (b1 q _ (hqa hw hq) (sp _ _ hq))
    have bt2 : But a H H2 := But.trans (But.of sp) (But.trans b1 b2)
    refine ⟨_, rfl, q, _, 1, _, rfl, rfl, SqT.of hq2, at_ofG (j := 1) rfl rfl, _, rfl, q, _, 3, _, rfl, rfl, SqT.of hq2, at_ofG (j := 3) rfl rfl, ?_⟩
    have key2 : ∀ {Q1 : V → Hp → Prop} {σ : L2.St}, σ[1]? = some (some (.ref q)) → Q1 (.int (f.right.getD f.left)) H2 → ∃ k, TruV K (optV f.right) H2 k ∧ if k = true then Q1 (optV f.right) H2 else (tOp (rIxT K) (tVar 1) (tC (.int 1))) σ H2 Q1 := by
      intro Q1 σ hσ q1
      cases hb : f.right with
      | none =>
        rw [hb] at q1
        exact ⟨false, rfl, iteF ⟨_, hσ, q, _, 1, _, rfl, rfl, SqT.of hq2, at_ofG (j := 1) rfl rfl, q1⟩⟩
      | some x =>
        rw [hb] at q1
        refine ⟨true, ?_, iteT q1⟩
        show true = (x != 0)
        have := (g.r x hb).1
        have := g.l1
        have h0 : x ≠ 0 := by omega
        simp [h0]
    refine key2 rfl ⟨two, fun p2 hp2 => ?_⟩
    have pa2 := hwn w2 hp2
    have sp2 := Same.upd (o := .lst [.int f.left, .int (f.right.getD f.left)]) hp2
    refine ⟨_, rfl, a, 2, rfl, well_upd w2 hp2, by decide, by decide, fun d3 H3 d30 d32 b3 w3 => ?_⟩
    have hp3 : H3 p2 = some (.lst [.int f.left, .int (f.right.getD f.left)]) := b3 p2 _ pa2 upd_same
    obtain ⟨v2, hv2⟩ : ∃ v2 : Int, ([.int f.left, .int (f.right.getD f.left)] : List V)[d3.toNat]? = some (.int v2) := by
      have hd : d3 = 0 ∨ d3 = 1 := by omega
      rcases hd with rfl | rfl
      · exact ⟨_, rfl⟩
      · exact ⟨_, rfl⟩
    refine ⟨p2, _, d3, .int v2, rfl, rfl, SqL.of hp3, at_ofG (j := d3.toNat) (by omega) hv2, ?_⟩
    refine ⟨_, rfl, a, 3, rfl, w3, by decide, by decide, fun d4 H4 d40 d43 b4 w4 => ⟨_, _, rfl, rfl, _, _, rfl, rfl, ?_⟩⟩
    have bt4 : But a H H4 := But.trans bt2 (But.trans (But.of sp2) (But.trans b3 b4))
    have mx : ∀ x : Int, 1 ≤ (if x > 1 then x else 1) := fun x => by split <;> omega
    exact ⟨_, rfl, _, _, rfl, _, rfl, _, _, rfl, two, fun p5 hp5 => k _ _ p5 _ (mx _) (mx _) (But.trans bt4 (But.of (Same.upd hp5))) (well_upd w4 hp5) upd_same⟩
theorem scLHas : FnScope ["_law_four", "_law_cell_here", "_law_rows"] ["_law_four", "_law_cell_here"] (defScope sLHas) := ⟨rfl, rfl, rfl, by decide +kernel, rfl, by decide +kernel, by decide +kernel⟩
theorem cal_lhas (D : Def K mg "_law_has" sLHas) : Cal P w K mg base 1 "_law_has" spLHas := by
  refine cal_mk D scLHas (fun _ _ _ _ _ _ us hl => match us, hl with | [_, _], _ => rfl) (fun vs H Q E h => ?_) (fun f cdv A outer s H vs Q E hr h => ?_)
  · obtain ⟨_, _, _, _, _, rfl, _⟩ := h
    rfl
  · obtain ⟨q, p, f, i, j, rfl, hq, hp, k⟩ := h
    refine ⟨_, pss_cons (ps_set (i := 2) scLHas.nd rfl (.inl rfl) (pe_and (pe_cmp (pc_le (pe_ix ix_tup (pv 0) pe_int (fun _ _ => rfl)) (pe_ix ix_tup (pv 1) pe_int (fun _ _ => rfl))) rfl)
        (pe_one (pe_or (pe_cmp (pc_isN (pe_ix ix_tup (pv 0) pe_int (fun _ _ => rfl))) rfl) (pe_one (pe_cmp (pc_le (pe_ix ix_tup (pv 1) pe_int (fun _ _ => rfl)) (pe_ix ix_tup (pv 0) pe_int (fun _ _ => rfl))) rfl))))))
      (pss_one (ps_ret (pe_and (pv 2) (pe_and (pe_cmp (pc_le (pe_ix ix_tup (pv 0) pe_int (fun _ _ => rfl)) (pe_ix ix_tup (pv 1) pe_int (fun _ _ => rfl))) rfl)
        (pe_one (pe_or (pe_cmp (pc_isN (pe_ix ix_tup (pv 0) pe_int (fun _ _ => rfl))) rfl) (pe_one (pe_cmp (pc_le (pe_ix ix_tup (pv 1) pe_int (fun _ _ => rfl)) (pe_ix ix_tup (pv 0) pe_int (fun _ _ => rfl))) rfl)))))))), ?_⟩
    -- what the last row makes of the rows' answer c
    have fin : ∀ c : Bool, c = (decide (f.top ≤ i) && endB f.bottom i) →
        (tAndV (tVar 2) (tAndV (tLe (tOp (rIxT K) (tVar 0) (tC (.int 1))) (tOp (rIxT K) (tVar 1) (tC (.int 1)))) (tOrV (tIsN (tOp (rIxT K) (tVar 0) (tC (.int 3)))) (tLe (tOp (rIxT K) (tVar 1) (tC (.int 1))) (tOp (rIxT K) (tVar 0) (tC (.int 3)))))))
          [some (.ref q), some (.ref p), some (.bl c)] H Q := by
      intro c hc
      have e : hasB f i j = (c && (decide (f.left ≤ j) && endB f.right j)) := by
        unfold hasB
        rw [hc]
        cases decide (f.top ≤ i) <;> cases endB f.bottom i <;> cases decide (f.left ≤ j) <;> rfl
      rw [e] at k
      refine ⟨_, rfl, c, rfl, ?_⟩
      cases c with
      | false => exact iteF k
      | true =>
        refine iteT ⟨_, rfl, q, _, 1, _, rfl, rfl, SqT.of hq, at_ofG (j := 1) rfl rfl, _, rfl, p, _, 1, _, rfl, rfl, SqT.of hp, at_ofG (j := 1) rfl rfl, _, _, rfl, rfl, decide (f.left ≤ j), rfl, ?_⟩
        by_cases hl : f.left ≤ j
        · refine iteD hl ⟨_, rfl, q, _, 3, _, rfl, rfl, SqT.of hq, at_ofG (j := 3) rfl rfl, decide (f.right = none), congrArg V.bl optV_non, ?_⟩
          rw [decide_eq_true hl] at k
          cases hr2 : f.right with
          | none =>
            rw [hr2] at k
            exact iteD rfl k
          | some r =>
            rw [hr2] at k
            have h3 : (tupV f)[3]? = some (.int r) := by
              show some (optV f.right) = _
              rw [hr2]
              rfl
            exact iteDF (by simp) ⟨_, rfl, p, _, 1, _, rfl, rfl, SqT.of hp, at_ofG (j := 1) rfl rfl, _, rfl, q, _, 3, _, rfl, rfl, SqT.of hq, at_ofG (j := 3) rfl h3, _, _, rfl, rfl, k⟩
        · rw [decide_eq_false hl] at k
          exact iteDF hl k
    refine ⟨_, rfl, q, _, 0, _, rfl, rfl, SqT.of hq, at_ofG (j := 0) rfl rfl, _, rfl, p, _, 0, _, rfl, rfl, SqT.of hp, at_ofG (j := 0) rfl rfl, _, _, rfl, rfl, decide (f.top ≤ i), rfl, ?_⟩
    by_cases ht : f.top ≤ i
    · refine iteD ht ⟨_, rfl, q, _, 2, _, rfl, rfl, SqT.of hq, at_ofG (j := 2) rfl rfl, decide (f.bottom = none), congrArg V.bl optV_non, ?_⟩
      cases hb : f.bottom with
      | none => exact iteD rfl (fin true (by rw [decide_eq_true ht, hb]; rfl))
      | some b =>
        have h2 : (tupV f)[2]? = some (.int b) := by
          show some (optV f.bottom) = _
          rw [hb]
          rfl
        exact iteDF (by simp) ⟨_, rfl, p, _, 0, _, rfl, rfl, SqT.of hp, at_ofG (j := 0) rfl rfl, _, rfl, q, _, 2, _, rfl, rfl, SqT.of hq, at_ofG (j := 2) rfl h2, _, _, rfl, rfl, fin _ (by rw [decide_eq_true ht, hb]; rfl)⟩
    · exact iteDF ht (fin false (by rw [decide_eq_false ht]; rfl))
theorem scLText : FnScope ["_law_four", "_law_top", "_law_left", "_law_bottom", "_law_right", "_law_text_here"] ["_law_four"] (defScope sLText) := ⟨rfl, rfl, rfl, by decide +kernel, rfl, by decide +kernel, by decide +kernel⟩
theorem cal_ltext (D : Def K mg "_law_text" sLText) (B : Bare mg) (cL : Cal P w K mg base 1 "_law_letters" spLLet) : Cal P w K mg base 2 "_law_text" spLText := by
  refine cal_mk D scLText (fun _ _ _ _ _ _ us hl => match us, hl with | [_], _ => rfl) (fun vs H Q E h => ?_) (fun f cdv A outer s H vs Q E hr h => ?_)
  · obtain ⟨_, _, rfl, _⟩ := h
    rfl
  · obtain ⟨q, f, rfl, g, hq, k⟩ := h
    refine ⟨_, pss_cons (ps_asg (pv 0) (pg_tup rfl (pgs_cons (pg_name (i := 1) scLText.nd rfl (.inl rfl)) (pgs_cons (pg_name (i := 2) scLText.nd rfl (.inl rfl)) (pgs_cons (pg_name (i := 3) scLText.nd rfl (.inl rfl)) (pgs_cons (pg_name (i := 4) scLText.nd rfl (.inl rfl)) pgs_nil))))))
      (pss_cons (ps_if (PW.pt (pw_and (pt_cmpR op_eq (pv 2) pe_int (nomark _)) (pw_and (pt_cmp (pc_isN (pv 4)) rfl) (pw_and1 (pt_cmp (pc_notN (pv 3)) rfl)))))
        (pss_one (ps_ret (pe_op op_add_str (pe_op op_add_str (pe_callTy call_str_int (by rfl) B.str (by decide +kernel) (pa_cons (pv 1) pa_nil)) pe_str) (pe_callTy call_str_int (by rfl) B.str (by decide +kernel) (pa_cons (pv 3) pa_nil))))) pss_nil)
      (pss_cons (ps_if (PW.pt (pw_and (pt_cmpR op_eq (pv 1) pe_int (nomark _)) (pw_and (pt_cmp (pc_isN (pv 3)) rfl) (pw_and1 (pt_cmp (pc_notN (pv 4)) rfl)))))
        (pss_one (ps_ret (pe_op op_add_str (pe_op op_add_str (pe_c cL hr (by decide) (by rfl) (pa_cons (pv 2) pa_nil)) pe_str) (pe_c cL hr (by decide) (by rfl) (pa_cons (pv 4) pa_nil))))) pss_nil)
      (pss_cons (ps_set (i := 5) scLText.nd rfl (.inl rfl) (pe_op op_add_str (pe_c cL hr (by decide) (by rfl) (pa_cons (pv 2) pa_nil)) (pe_callTy call_str_int (by rfl) B.str (by decide +kernel) (pa_cons (pv 1) pa_nil))))
      (pss_cons (ps_if (pt_cmpR (op_eqD hr.units) (pe_tup (pa_cons (pv 1) (pa_cons (pv 2) pa_nil))) (pe_tup (pa_cons (pv 3) (pa_cons (pv 4) pa_nil))) (nomark _)) (pss_one (ps_ret (pv 5))) pss_nil)
      (pss_cons (ps_set (i := 5) scLText.nd rfl (.inl rfl) (pe_op op_add_str (pv 5) pe_str))
      (pss_cons (ps_if (pt_cmp (pc_notN (pv 4)) rfl) (pss_one (ps_set (i := 5) scLText.nd rfl (.inl rfl) (pe_op op_add_str (pv 5) (pe_c cL hr (by decide) (by rfl) (pa_cons (pv 4) pa_nil))))) pss_nil)
      (pss_cons (ps_if (pt_cmp (pc_notN (pv 3)) rfl) (pss_one (ps_set (i := 5) scLText.nd rfl (.inl rfl) (pe_op op_add_str (pv 5) (pe_callTy call_str_int (by rfl) B.str (by decide +kernel) (pa_cons (pv 3) pa_nil))))) pss_nil)
      (pss_one (ps_ret (pv 5)))))))))), ?_⟩
    have t1 := g.t1
    have t2 := g.t2
    have l1' := g.l1
    have l2' := g.l2
    have n1 : (numS f.top).length ≤ 12 := num_len12 t2
    have n2 : (letS f.left).length ≤ 9 := let_len9 l2'
    have n5 : sCol.length = 1 := by decide +kernel
    refine ⟨_, rfl, q, _, rfl, SqT.of hq, rfl, _, _, rfl, _, _, rfl, _, _, rfl, _, _, rfl, rfl, ?_⟩
    have hrows : ∀ {Q1 : Bool → Hp → Prop}, Q1 (isRows f) H → (tAnd (tTest (tOp rEq (tVar 2) (tC (.int 1)))) (tAnd (tB (tIsN (tVar 4))) (tB (tNotN (tVar 3)))))
        [some (.ref q), some (.int f.top), some (.int f.left), some (optV f.bottom), some (optV f.right), none] H Q1 := by
      intro Q1 q1
      refine ⟨_, rfl, rfl, decide (f.left = 1), congrArg V.bl decI, ?_⟩
      by_cases hl : f.left = 1
      · refine iteD hl ⟨_, rfl, decide (f.right = none), congrArg V.bl optV_non, ?_⟩
        by_cases hr2 : f.right = none
        · refine iteD hr2 ⟨_, rfl, _, rfl, ?_⟩
          have e : isRows f = !decide (optV f.bottom = V.non) := by
            unfold isRows
            rw [optV_non]
            simp [hl, hr2]
          rw [e] at q1
          exact q1
        · refine iteDF hr2 ?_
          have e : isRows f = false := by
            unfold isRows
            simp [hr2]
          rw [e] at q1
          exact q1
      · refine iteDF hl ?_
        have e : isRows f = false := by
          unfold isRows
          simp [hl]
        rw [e] at q1
        exact q1
    have hcols : ∀ {Q1 : Bool → Hp → Prop}, Q1 (isCols f) H → (tAnd (tTest (tOp rEq (tVar 1) (tC (.int 1)))) (tAnd (tB (tIsN (tVar 3))) (tB (tNotN (tVar 4)))))
        [some (.ref q), some (.int f.top), some (.int f.left), some (optV f.bottom), some (optV f.right), none] H Q1 := by
      intro Q1 q1
      refine ⟨_, rfl, rfl, decide (f.top = 1), congrArg V.bl decI, ?_⟩
      by_cases hl : f.top = 1
      · refine iteD hl ⟨_, rfl, decide (f.bottom = none), congrArg V.bl optV_non, ?_⟩
        by_cases hr2 : f.bottom = none
        · refine iteD hr2 ⟨_, rfl, _, rfl, ?_⟩
          have e : isCols f = !decide (optV f.right = V.non) := by
            unfold isCols
            rw [optV_non]
            simp [hl, hr2]
          rw [e] at q1
          exact q1
        · refine iteDF hr2 ?_
          have e : isCols f = false := by
            unfold isCols
            simp [hr2]
          rw [e] at q1
          exact q1
      · refine iteDF hl ?_
        have e : isCols f = false := by
          unfold isCols
          simp [hl]
        rw [e] at q1
        exact q1
    have snum : ∀ i : Int, 1 ≤ i → Str.ofString (toString i) = numS i := fun i h => num_str (by omega)
    refine hrows ?_
    cases hR : isRows f with
    | true =>
      refine iteT ?_
      obtain ⟨b, hb⟩ : ∃ b, f.bottom = some b := by
        cases e : f.bottom with
        | none =>
          unfold isRows at hR
          rw [e] at hR
          simp at hR
        | some b => exact ⟨b, rfl⟩
      have hbb := g.b b hb
      have n3 : (numS b).length ≤ 12 := num_len12 hbb.2
      rw [hb]
      refine ⟨_, rfl, _, rfl, small_log (by omega) t2, ?_⟩
      rw [snum _ t1]
      refine ⟨_, _, rfl, rfl, nat_str (A := True) (show _ + sCol.length ≤ 1000000 by omega), _, rfl, b, rfl, small_log (by omega) hbb.2, ?_⟩
      rw [snum b (by omega)]
      refine ⟨_, _, rfl, rfl, nat_str (A := True) (by
        rw [len_app]
        show _ + sCol.length + _ ≤ 1000000
        omega), ?_⟩
      have e : textS f = numS f.top ++ sCol ++ numS b := by
        unfold textS textL numS
        rw [if_pos hR, hb, col_S, S_cat, S_cat]
        rfl
      have k1 := k H (Same.refl H)
      rw [e] at k1
      exact k1
    | false =>
      refine iteF ?_
      refine hcols ?_
      cases hC : isCols f with
      | true =>
        refine iteT ?_
        obtain ⟨r, hr2⟩ : ∃ r, f.right = some r := by
          cases e : f.right with
          | none =>
            unfold isCols at hC
            rw [e] at hC
            simp at hC
          | some b => exact ⟨b, rfl⟩
        have hrr := g.r r hr2
        have n3 : (letS r).length ≤ 9 := let_len9 hrr.2
        rw [hr2]
        refine ⟨_, rfl, f.left, rfl, by omega, l2', _, _, rfl, rfl, nat_str (A := True) (show _ + sCol.length ≤ 1000000 by omega), _, rfl, r, rfl, by omega, hrr.2, _, _, rfl, rfl, nat_str (A := True) (by
          rw [len_app]
          show _ + sCol.length + _ ≤ 1000000
          omega), ?_⟩
        have e : textS f = letS f.left ++ sCol ++ letS r := by
          unfold textS textL letS
          rw [hR, if_neg Bool.false_ne_true, if_pos hC, hr2, col_S, S_cat, S_cat]
          rfl
        have k1 := k H (Same.refl H)
        rw [e] at k1
        exact k1
      | false =>
        refine iteF ?_
        refine ⟨_, rfl, f.left, rfl, by omega, l2', _, rfl, _, rfl, small_log (by omega) t2, ?_⟩
        rw [snum _ t1]
        refine ⟨_, _, rfl, rfl, nat_str (A := True) (by omega), ?_⟩
        refine ⟨_, rfl, _, rfl, nat_str (A := True) (show 2 ≤ 1000000 by decide), fun p1 h1 => ⟨_, rfl, _, rfl, nat_str (A := True) (show 2 ≤ 1000000 by decide), fun p2 h2 => ?_⟩⟩
        have h12 : p1 ≠ p2 := fun e => by
          rw [e, upd_same] at h2
          cases h2
        refine ⟨.tuple [optD (some f.top), optD (some f.left)], .tuple [optD f.bottom, optD f.right], dp2 (a := some f.top) (b := some f.left) ((upd_ne h12).trans upd_same), dp2 upd_same, shaped2 _ _, shaped2 _ _, isOne f, ?_, ?_⟩
        · rw [eqv2]
          refine congrArg V.bl ?_
          unfold isOne
          rw [Bool.eq_iff_iff, decide_eq_true_eq, decide_eq_true_eq]
          exact ⟨fun ⟨x, y⟩ => ⟨x.symm, y.symm⟩, fun ⟨x, y⟩ => ⟨x.symm, y.symm⟩⟩
        have k1 := k _ (Same.upd' (o := .tup [optV f.bottom, optV f.right]) (Same.upd h1) h2)
        cases hO : isOne f with
        | true =>
          refine iteT ⟨_, rfl, ?_⟩
          have e : textS f = letS f.left ++ numS f.top := by
            unfold textS textL firstL letS numS
            rw [hR, if_neg Bool.false_ne_true, hC, if_neg Bool.false_ne_true, if_pos hO, S_cat]
          rw [e] at k1
          exact k1
        | false =>
          refine iteF ?_
          have e : textS f = letS f.left ++ numS f.top ++ sCol ++ S (colL f.right) ++ S (rowL f.bottom) := by
            unfold textS textL firstL letS numS
            rw [hR, if_neg Bool.false_ne_true, hC, if_neg Bool.false_ne_true, hO, if_neg Bool.false_ne_true, col_S, S_cat, S_cat, S_cat, S_cat]
            simp only [List.append_assoc]
          rw [e] at k1
          have nb : ∀ x, f.bottom = some x → 1 ≤ x ∧ x < 1000000000000 := fun x e => ⟨Int.le_trans g.t1 (g.b x e).1, (g.b x e).2⟩
          have nr : ∀ x, f.right = some x → 1 ≤ x ∧ x < 1000000000000 := fun x e => ⟨Int.le_trans g.l1 (g.r x e).1, (g.r x e).2⟩
          have nil_ : ∀ x : Str, x ++ S [] = x := fun x => by
            refine TL.ext_tl ?_
            rw [TL.tl_append]
            show TL.tl x ++ [] = TL.tl x
            rw [List.append_nil]
          refine ⟨_, rfl, _, _, rfl, rfl, nat_str (A := True) (by
            rw [len_app]
            show _ + sCol.length ≤ 1000000
            omega), ?_⟩
          cases hr2 : f.right with
          | none =>
            rw [hr2] at k1
            have k2 : Q (.str (letS f.left ++ numS f.top ++ sCol ++ S (rowL f.bottom))) (upd (upd H p1 (.tup [V.int f.top, V.int f.left])) p2 (.tup [optV f.bottom, optV none])) := by
              have e3 : S (colL none) = S [] := rfl
              rw [e3, nil_] at k1
              exact k1
            refine ⟨_, rfl, false, rfl, iteF ?_⟩
            cases hb : f.bottom with
            | none =>
              rw [hb] at k2
              have e3 : S (rowL none) = S [] := rfl
              rw [e3, nil_] at k2
              exact ⟨_, rfl, false, rfl, iteF ⟨_, rfl, k2⟩⟩
            | some b =>
              rw [hb] at k2
              have hbb := nb b hb
              have n3 : (numS b).length ≤ 12 := num_len12 hbb.2
              refine ⟨_, rfl, true, rfl, iteT ⟨_, rfl, _, rfl, b, rfl, small_log (by omega) hbb.2, ?_⟩⟩
              rw [snum b hbb.1]
              exact ⟨_, _, rfl, rfl, nat_str (A := True) (by
                rw [len_app, len_app]
                show _ + sCol.length + _ ≤ 1000000
                omega), _, rfl, k2⟩
          | some r =>
            rw [hr2] at k1
            have hrr := nr r hr2
            have n4 : (letS r).length ≤ 9 := let_len9 hrr.2
            refine ⟨_, rfl, true, rfl, iteT ⟨_, rfl, _, rfl, r, rfl, by omega, hrr.2, _, _, rfl, rfl, nat_str (A := True) (by
                rw [len_app, len_app]
                show _ + sCol.length + _ ≤ 1000000
                omega), ?_⟩⟩
            cases hb : f.bottom with
            | none =>
              rw [hb] at k1
              have e3 : S (rowL none) = S [] := rfl
              rw [e3, nil_] at k1
              exact ⟨_, rfl, false, rfl, iteF ⟨_, rfl, k1⟩⟩
            | some b =>
              rw [hb] at k1
              have hbb := nb b hb
              have n3 : (numS b).length ≤ 12 := num_len12 hbb.2
              refine ⟨_, rfl, true, rfl, iteT ⟨_, rfl, _, rfl, b, rfl, small_log (by omega) hbb.2, ?_⟩⟩
              rw [snum b hbb.1]
              exact ⟨_, _, rfl, rfl, nat_str (A := True) (by
                rw [len_app, len_app, len_app]
                show _ + sCol.length + _ + _ ≤ 1000000
                omega), _, rfl, k1⟩
end
end K8

/-! What is asked and what is due. -/
namespace K8
open PySem PySem.Spec PyProof.Rows L2 SX
theorem seqT_same {K : PySem.W.Frag} {H H' : Hp} {a : Addr} {xs : List V} (e : Same H H') (h : SqT K H a xs) : SqT K H' a xs := by
  rcases h with (h | ⟨o, h⟩) | h
  · exact .inl (.inl (e _ _ h))
  · exact .inl (.inr ⟨o, e _ _ h⟩)
  · exact .inr h
mutual
theorem dp_same {K : PySem.W.Frag} {H H' : Hp} (s : Same H H') : ∀ (d : PyData) (v : V), Dp K H v d → Dp K H' v d
  | .none, _, h => by
    cases h
    exact .non
  | .bool b, _, h => by
    cases h
    exact .bl b
  | .int i, _, h => by
    cases h
    exact .int i
  | .str x, _, h => by
    cases h
    exact .str x
  | .list ds, _, h => by
    cases h with
    | lst hs ha => exact .lst (s.seq hs) (dpAll_same s ds _ ha)
  | .tuple ds, _, h => by
    cases h with
    | tup hs ha => exact .tup (seqT_same s hs) (dpAll_same s ds _ ha)
  | .dict _, _, h => by cases h
theorem dpAll_same {K : PySem.W.Frag} {H H' : Hp} (s : Same H H') : ∀ (ds : List PyData) (vs : List V), DpAll K H vs ds → DpAll K H' vs ds
  | [], _, h => by
    cases h
    exact .nil
  | d :: ds, _, h => by
    cases h with
    | cons h1 h2 => exact .cons (dp_same s d _ h1) (dpAll_same s ds _ h2)
end
theorem Blks.get {C : Addr} {H : Hp} {a : Addr} {fs : List Four} {n : Nat} {f : Four} (b : Blks C H a fs) (h : fs[n]? = some f) : ∃ (xs : List V) (q : Addr), H a = some (.lst xs) ∧ xs[n]? = some (.ref q) ∧ Blk C H q f := by
  obtain ⟨ps, ha, hl, hb⟩ := b
  have hn : n < ps.length := by
    rw [hl]
    exact (List.getElem?_eq_some_iff.mp h).1
  exact ⟨_, ps[n], ha, by rw [List.getElem?_map, List.getElem?_eq_getElem hn]; rfl, hb n _ f (List.getElem?_eq_getElem hn) h⟩
theorem Fours.get {H : Hp} {a : Addr} {fs : List Four} {n : Nat} {f : Four} (b : Fours H a fs) (h : fs[n]? = some f) : ∃ (xs : List V) (q : Addr), H a = some (.lst xs) ∧ xs[n]? = some (.ref q) ∧ H q = some (.tup (tupV f)) := by
  obtain ⟨ps, ha, hl, hb⟩ := b
  have hn : n < ps.length := by
    rw [hl]
    exact (List.getElem?_eq_some_iff.mp h).1
  exact ⟨_, ps[n], ha, by rw [List.getElem?_map, List.getElem?_eq_getElem hn]; rfl, hb n _ f (List.getElem?_eq_getElem hn) h⟩
theorem str_ok {l : List Nat} (h : ∀ c ∈ l, c < 0x110000) : PyData.strOk (S l) = true := by
  unfold PyData.strOk
  show l.toArray.all (fun c => decide (c < 0x110000)) = true
  rw [← Array.all_toList]
  exact List.all_eq_true.mpr fun c hc => decide_eq_true (h c hc)
theorem num_small {i : Int} : ∀ c ∈ TL.numL i.toNat, c < 0x110000 := fun c hc => by
  have := TL.numL_digits _ c hc
  omega
theorem lets_small {n : Nat} : ∀ c ∈ lets n, c < 0x110000 := fun c hc => by
  have := lets_range _ c hc
  omega
theorem row_small {o : Option Int} : ∀ c ∈ rowL o, c < 0x110000 := fun c hc => by
  cases o with
  | none => exact absurd hc List.not_mem_nil
  | some i => exact num_small c hc
theorem col_small {o : Option Int} : ∀ c ∈ colL o, c < 0x110000 := fun c hc => by
  cases o with
  | none => exact absurd hc List.not_mem_nil
  | some i => exact lets_small c hc
theorem text_ok (f : Four) : PyData.strOk (textS f) = true := by
  refine str_ok fun c hc => ?_
  unfold textL firstL at hc
  split at hc
  · simp only [List.mem_append, List.mem_singleton] at hc
    rcases hc with (hc | hc) | hc
    · exact num_small c hc
    · omega
    · exact row_small c hc
  · split at hc
    · simp only [List.mem_append, List.mem_singleton] at hc
      rcases hc with (hc | hc) | hc
      · exact lets_small c hc
      · omega
      · exact col_small c hc
    · split at hc
      · simp only [List.mem_append] at hc
        rcases hc with hc | hc
        · exact lets_small c hc
        · exact num_small c hc
      · simp only [List.mem_append, List.mem_singleton] at hc
        rcases hc with ((hc | hc) | hc) | (hc | hc)
        · exact lets_small c hc
        · exact num_small c hc
        · omega
        · exact col_small c hc
        · exact row_small c hc
theorem ok_app {a b : Str} (ha : PyData.strOk a = true) (hb : PyData.strOk b = true) : PyData.strOk (a ++ b) = true := by
  unfold PyData.strOk at *
  show (a.cps ++ b.cps).all (fun c => decide (c < 0x110000)) = true
  rw [Array.all_append, ha, hb]
  rfl
theorem optS_ok {o : Option Int} (h : ∀ x, o = some x → 0 ≤ x) : PyData.strOk (optS o) = true := by
  cases o with
  | none => decide +kernel
  | some i =>
    show PyData.strOk (Str.ofString (toString i)) = true
    rw [num_str (h i rfl)]
    exact str_ok num_small
theorem repr_ok {f : Four} (g : Good f) : PyData.strOk (reprS f) = true := by
  have c1 : PyData.strOk (Str.ofString "Block(") = true := by decide +kernel
  have c2 : PyData.strOk (Str.ofString ", ") = true := by decide +kernel
  have c3 : PyData.strOk (Str.ofString ")") = true := by decide +kernel
  have h1 := optS_ok (o := some f.top) fun x e => by
    have := g.t1
    cases e
    omega
  have h2 := optS_ok (o := some f.left) fun x e => by
    have := g.l1
    cases e
    omega
  have h3 := optS_ok (o := f.bottom) fun x e => by
    have := g.t1
    have := (g.b x e).1
    omega
  have h4 := optS_ok (o := f.right) fun x e => by
    have := g.l1
    have := (g.r x e).1
    omega
  unfold reprS
  exact ok_app (ok_app (ok_app (ok_app (ok_app (ok_app (ok_app (ok_app c1 h1) c2) h2) c2) h3) c2) h4) c3
theorem shaped_tell {f g : Four} (gf : Good f) {kind : Nat} {i j : Int} : SeqAt.shaped (tell f g kind i j) = true := by
  unfold SeqAt.shaped tell
  split
  · rfl
  · rw [optD_lay, optD_depth]
    rfl
  · show (PyData.strOk (textS f) && decide (0 ≤ 64)) = true
    rw [text_ok]
    rfl
  · show (PyData.strOk (reprS f) && decide (0 ≤ 64)) = true
    rw [repr_ok gf]
    rfl
  · simp only [PyData.canLay0, PyData.canLayAll0, PyData.depth, PyData.depthAll]
    rfl
  · unfold fourD
    simp only [PyData.canLay0, PyData.canLayAll0, PyData.depth, PyData.depthAll, optD_lay, optD_depth]
    decide
  · show (PyData.strOk (letS f.left) && decide (0 ≤ 64)) = true
    unfold letS
    rw [str_ok lets_small]
    rfl
  · rfl
section
variable {P : Program} {w : World} {K : PySem.W.Frag} {mg : Str → Option Value} {base : Heap} {C : Addr}
theorem scAsked : FnScope ["_law_blocks", "_law_k", "_law_other", "_law_kind", "_law_cell_here", "_law_block_here", "_law_found"] ["_law_blocks", "_law_k", "_law_other", "_law_kind", "_law_cell_here"] (defScope sAsked) := ⟨rfl, rfl, rfl, by decide +kernel, rfl, by decide +kernel, by decide +kernel⟩
theorem cal_asked (D : Def K mg "_law_asked" sAsked) (B : Bare mg) (T : ClsB K mg C) (mH : Met P w K mg base 5 C "has" (spHas C)) (mZ : Met P w K mg base 1 C "size" (spSize C)) (mS : Met P w K mg base 5 C "__str__" (spStr C))
    (mR : Met P w K mg base 1 C "__repr__" (spRepr C)) (mE : Met P w K mg base 1 C "__eq__" (spEq C)) (cB : Cal P w K mg base 8 "block_of" (spBlockOf C)) (cL : Cal P w K mg base 3 "letters_of" spLetters) (cN : Cal P w K mg base 1 "number_of" spNumber) :
    Cal P w K mg base 9 "_law_asked" (spAsked K C) := by
  refine cal_mk D scAsked (fun _ _ _ _ _ _ us hl => match us, hl with | [_, _, _, _, _], _ => rfl) (fun vs H Q E h => ?_) (fun f cdv A outer s H vs Q E hr h => ?_)
  · obtain ⟨_, _, _, _, _, _, _, _, _, _, rfl, _⟩ := h
    rfl
  · obtain ⟨a, p, fs, k, o, kind, f, g, i, j, rfl, hB, hk, ho, gf, gg, h8, hp, h1, h2, kk⟩ := h
    refine ⟨_, pss_cons (ps_set (i := 5) scAsked.nd rfl (.inl rfl) (pe_ix ix_list (pv 0) (pv 1) (fun _ _ => rfl)))
      (pss_cons (ps_if (pt_cmpR op_eq (pv 3) pe_int (nomark _)) (pss_one (ps_ret (pe_m mH T.cl hr (by decide) (pv 5) (pa_cons (pv 4) pa_nil)))) pss_nil)
      (pss_cons (ps_if (pt_cmpR op_eq (pv 3) pe_int (nomark _)) (pss_one (ps_ret (pe_m0' mZ T.cl hr (by decide) (pv 5)))) pss_nil)
      (pss_cons (ps_if (pt_cmpR op_eq (pv 3) pe_int (nomark _)) (pss_one (ps_ret (pe_callTy (str_own mS hr (by decide)) (by rfl) B.str (by decide +kernel) (pa_cons (pv 5) pa_nil)))) pss_nil)
      (pss_cons (ps_if (pt_cmpR op_eq (pv 3) pe_int (nomark _)) (pss_one (ps_ret (pe_callB (repr_own mR hr (by decide)) (by rfl) B.repr (by decide +kernel) (pa_cons (pv 5) pa_nil)))) pss_nil)
      (pss_cons (ps_if (pt_cmpR op_eq (pv 3) pe_int (nomark _)) (pss_one (ps_ret (pe_lst (pa_cons (pe_cmpR (eq_own mE hr (by decide)) (pv 5) (pe_ix ix_list (pv 0) (pv 2) (fun _ _ => rfl)) (nomark _))
          (pa_cons (pe_cmpR (eq_own mE hr (by decide)) (pe_ix ix_list (pv 0) (pv 2) (fun _ _ => rfl)) (pv 5) (nomark _)) pa_nil))))) pss_nil)
      (pss_cons (ps_if (pt_cmpR op_eq (pv 3) pe_int (nomark _)) (pss_cons (ps_set (i := 6) scAsked.nd rfl (.inl rfl) (pe_c cB hr (by decide) (by rfl) (pa_cons (pe_callTy (str_own mS hr (by decide)) (by rfl) B.str (by decide +kernel) (pa_cons (pv 5) pa_nil)) pa_nil)))
          (pss_one (ps_ret (pe_lst (pa_cons (pe_cmpR (eq_own mE hr (by decide)) (pv 6) (pv 5) (nomark _)) (pa_cons (pe_tup (pa_cons (pe_fld (pv 6) rfl) (pa_cons (pe_fld (pv 6) rfl) (pa_cons (pe_fld (pv 6) rfl) (pa_cons (pe_fld (pv 6) rfl) pa_nil))))) pa_nil)))))) pss_nil)
      (pss_cons (ps_if (pt_cmpR op_eq (pv 3) pe_int (nomark _)) (pss_one (ps_ret (pe_c cL hr (by decide) (by rfl) (pa_cons (pe_fld (pv 5) rfl) pa_nil)))) pss_nil)
      (pss_one (ps_ret (pe_c cN hr (by decide) (by rfl) (pa_cons (pe_c cL hr (by decide) (by rfl) (pa_cons (pe_fld (pv 5) rfl) pa_nil)) pa_nil))))))))))), ?_⟩
    obtain ⟨xs, q, ha, hxk, ⟨dx, hq⟩⟩ := hB.get hk
    obtain ⟨xs2, q2, ha2, hxo, ⟨dx2, hq2⟩⟩ := hB.get ho
    have exs : xs2 = xs := by
      rw [ha] at ha2
      cases ha2
      rfl
    rw [exs] at hxo
    have two : (2 : Nat) ≤ sizeLine := nat_str (A := True) (by decide)
    have four : (4 : Nat) ≤ sizeLine := nat_str (A := True) (by decide)
    refine ⟨_, rfl, _, rfl, a, xs, _, .ref q, rfl, rfl, SqL.of ha, at_ofG (j := k) rfl hxk, ?_⟩
    have hc : kind = 0 ∨ kind = 1 ∨ kind = 2 ∨ kind = 3 ∨ kind = 4 ∨ kind = 5 ∨ kind = 6 ∨ kind = 7 := by omega
    rcases hc with rfl | rfl | rfl | rfl | rfl | rfl | rfl | rfl
    · refine ⟨_, rfl, rfl, true, (by decide), iteT ?_⟩
      exact ⟨_, rfl, q, dx, _, rfl, hq, bf_none f (by decide +kernel) (by decide +kernel) (by decide +kernel) (by decide +kernel), _, rfl, q, p, f, i, j, rfl, ⟨dx, hq⟩, hp, h1, h2, fun H' s1 => kk _ H' s1 (.bl _)⟩
    · refine ⟨_, rfl, rfl, false, (by decide), iteF ⟨_, rfl, rfl, true, (by decide), iteT ?_⟩⟩
      exact ⟨_, rfl, q, dx, _, rfl, hq, bf_none f (by decide +kernel) (by decide +kernel) (by decide +kernel) (by decide +kernel), q, f, rfl, gf, ⟨dx, hq⟩, kk _ H (Same.refl H) (dp_opt _)⟩
    · refine ⟨_, rfl, rfl, false, (by decide), iteF ⟨_, rfl, rfl, false, (by decide), iteF ⟨_, rfl, rfl, true, (by decide), iteT ?_⟩⟩⟩
      exact ⟨_, rfl, q, dx, _, rfl, hq, q, f, rfl, gf, ⟨dx, hq⟩, fun H' s1 => ⟨⟨_, rfl⟩, kk _ H' s1 (.str _)⟩⟩
    · refine ⟨_, rfl, rfl, false, (by decide), iteF ⟨_, rfl, rfl, false, (by decide), iteF ⟨_, rfl, rfl, false, (by decide), iteF ⟨_, rfl, rfl, true, (by decide), iteT ?_⟩⟩⟩⟩
      exact ⟨_, rfl, q, dx, _, rfl, hq, q, f, rfl, gf, ⟨dx, hq⟩, ⟨_, rfl⟩, kk _ H (Same.refl H) (.str _)⟩
    · refine ⟨_, rfl, rfl, false, (by decide), iteF ⟨_, rfl, rfl, false, (by decide), iteF ⟨_, rfl, rfl, false, (by decide), iteF ⟨_, rfl, rfl, false, (by decide), iteF ⟨_, rfl, rfl, true, (by decide), iteT ?_⟩⟩⟩⟩⟩
      refine ⟨_, rfl, _, rfl, _, rfl, a, xs, _, .ref q2, rfl, rfl, SqL.of ha, at_ofG (j := o) rfl hxo, q, q2, dx, dx2, _, _, rfl, rfl, hq, hq2, q, q2, f, g, rfl, ⟨dx, hq⟩, ⟨dx2, hq2⟩, fun H1 s1 => ?_⟩
      refine ⟨_, rfl, _, rfl, a, xs, _, .ref q2, rfl, rfl, SqL.of (s1 _ _ ha), at_ofG (j := o) rfl hxo, _, rfl, q2, q, dx2, dx, _, _, rfl, rfl, s1 _ _ hq2, s1 _ _ hq, q2, q, g, f, rfl, ⟨dx2, s1 _ _ hq2⟩, ⟨dx, s1 _ _ hq⟩, fun H2 s2 => ⟨two, fun t ht => ?_⟩⟩
      have e : decide (g = f) = decide (f = g) := by
        rw [Bool.eq_iff_iff, decide_eq_true_eq, decide_eq_true_eq]
        exact ⟨Eq.symm, Eq.symm⟩
      rw [e]
      exact kk _ _ (Same.upd' (Same.trans s1 s2) ht) (.lst (SqL.of upd_same) (.cons (.bl _) (.cons (.bl _) .nil)))
    · refine ⟨_, rfl, rfl, false, (by decide), iteF ⟨_, rfl, rfl, false, (by decide), iteF ⟨_, rfl, rfl, false, (by decide), iteF ⟨_, rfl, rfl, false, (by decide), iteF ⟨_, rfl, rfl, false, (by decide), iteF ⟨_, rfl, rfl, true, (by decide), iteT ?_⟩⟩⟩⟩⟩⟩
      refine ⟨_, rfl, q, dx, _, rfl, hq, q, f, rfl, gf, ⟨dx, hq⟩, fun H1 s1 => ⟨⟨_, rfl⟩, f, rfl, gf, fun b H2 s2 hb => ?_⟩⟩
      obtain ⟨db, hb2⟩ := hb
      have hq3 := (Same.trans s1 s2) _ _ hq
      refine ⟨_, rfl, _, rfl, b, q, db, dx, _, _, rfl, rfl, hb2, hq3, b, q, f, f, rfl, ⟨db, hb2⟩, ⟨dx, hq3⟩, fun H3 s3 => ?_⟩
      have hb3 := s3 _ _ hb2
      refine ⟨_, rfl, b, C, db, _, _, rfl, hb3, T.cl, T.nT, bf_top f, _, rfl, b, C, db, _, _, rfl, hb3, T.cl, T.nL, bf_left f, _, rfl, b, C, db, _, _, rfl, hb3, T.cl, T.nB, bf_bottom f, _, rfl, b, C, db, _, _, rfl, hb3, T.cl, T.nR, bf_right f, four, fun t ht => ⟨two, fun u hu => ?_⟩⟩
      have hut : t ≠ u := fun e => by
        rw [e, upd_same] at hu
        cases hu
      have e : decide (f = f) = true := decide_eq_true rfl
      rw [e]
      exact kk _ _ (Same.upd' (Same.upd' (Same.trans s1 (Same.trans s2 s3)) ht) hu) (.lst (SqL.of upd_same) (.cons (.bl _) (.cons (dp_four (f := f) ((upd_ne hut).trans upd_same)) .nil)))
    · refine ⟨_, rfl, rfl, false, (by decide), iteF ⟨_, rfl, rfl, false, (by decide), iteF ⟨_, rfl, rfl, false, (by decide), iteF ⟨_, rfl, rfl, false, (by decide), iteF ⟨_, rfl, rfl, false, (by decide), iteF ⟨_, rfl, rfl, false, (by decide), iteF ⟨_, rfl, rfl, true, (by decide), iteT ?_⟩⟩⟩⟩⟩⟩⟩
      exact ⟨_, rfl, q, C, dx, _, _, rfl, hq, T.cl, T.nL, bf_left f, f.left, rfl, gf.l1, gf.l2, fun H' s1 => kk _ H' s1 (.str _)⟩
    · refine ⟨_, rfl, rfl, false, (by decide), iteF ⟨_, rfl, rfl, false, (by decide), iteF ⟨_, rfl, rfl, false, (by decide), iteF ⟨_, rfl, rfl, false, (by decide), iteF ⟨_, rfl, rfl, false, (by decide), iteF ⟨_, rfl, rfl, false, (by decide), iteF ⟨_, rfl, rfl, false, (by decide), iteF ?_⟩⟩⟩⟩⟩⟩⟩
      exact ⟨_, rfl, q, C, dx, _, _, rfl, hq, T.cl, T.nL, bf_left f, f.left, rfl, gf.l1, gf.l2, fun H' s1 => ⟨f.left, rfl, gf.l1, gf.l2, kk _ H' s1 (.int _)⟩⟩
theorem scDue : FnScope ["_law_fours", "_law_k", "_law_other", "_law_kind", "_law_cell_here", "_law_four", "_law_part"] ["_law_fours", "_law_k", "_law_other", "_law_kind", "_law_cell_here"] (defScope sDue) := ⟨rfl, rfl, rfl, by decide +kernel, rfl, by decide +kernel, by decide +kernel⟩
theorem cal_due (D : Def K mg "_law_due" sDue) (B : Bare mg) (cH : Cal P w K mg base 1 "_law_has" spLHas) (cT : Cal P w K mg base 2 "_law_text" spLText) (cL : Cal P w K mg base 1 "_law_letters" spLLet) :
    Cal P w K mg base 3 "_law_due" (spDue K) := by
  refine cal_mk D scDue (fun _ _ _ _ _ _ us hl => match us, hl with | [_, _, _, _, _], _ => rfl) (fun vs H Q E h => ?_) (fun f cdv A outer s H vs Q E hr h => ?_)
  · obtain ⟨_, _, _, _, _, _, _, _, _, _, rfl, _⟩ := h
    rfl
  · obtain ⟨a, p, fs, k, o, kind, f, g, i, j, rfl, hB, hk, ho, gf, gg, h8, hp, kk⟩ := h
    refine ⟨_, pss_cons (ps_set (i := 5) scDue.nd rfl (.inl rfl) (pe_ix ix_list (pv 0) (pv 1) (fun _ _ => rfl)))
      (pss_cons (ps_if (pt_cmpR op_eq (pv 3) pe_int (nomark _)) (pss_one (ps_ret (pe_c cH hr (by decide) (by rfl) (pa_cons (pv 5) (pa_cons (pv 4) pa_nil))))) pss_nil)
      (pss_cons (ps_if (pt_cmpR op_eq (pv 3) pe_int (nomark _))
        (pss_cons (ps_if (PW.pt (pw_or (pt_cmp (pc_isN (pe_ix ix_tup (pv 5) pe_int (fun _ _ => rfl))) rfl) (pw_or1 (pt_cmp (pc_isN (pe_ix ix_tup (pv 5) pe_int (fun _ _ => rfl))) rfl)))) (pss_one (ps_ret pe_non)) pss_nil)
        (pss_one (ps_ret (pe_op op_mul (pe_op op_add (pe_op op_sub (pe_ix ix_tup (pv 5) pe_int (fun _ _ => rfl)) (pe_ix ix_tup (pv 5) pe_int (fun _ _ => rfl))) pe_int) (pe_op op_add (pe_op op_sub (pe_ix ix_tup (pv 5) pe_int (fun _ _ => rfl)) (pe_ix ix_tup (pv 5) pe_int (fun _ _ => rfl))) pe_int))))) pss_nil)
      (pss_cons (ps_if (pt_cmpR op_eq (pv 3) pe_int (nomark _)) (pss_one (ps_ret (pe_c cT hr (by decide) (by rfl) (pa_cons (pv 5) pa_nil)))) pss_nil)
      (pss_cons (ps_if (pt_cmpR op_eq (pv 3) pe_int (nomark _)) (pss_one (ps_ret (pe_op op_add_str (pe_op op_add_str pe_str (pe_join pe_str
          (pe_lc (own := [("_law_part", 6)]) (g := gName 6) (tt := tYes) rfl scDue.nd (pi_tup (pv 5)) (blkOk_by (N := ["_law_fours", "_law_k", "_law_other", "_law_kind", "_law_cell_here", "_law_four", "_law_part"]) (sc := defScope sDue) (by decide +kernel))
            (fun _ _ _ _ _ => pg_name (i := 6) scDue.nd rfl (Or.inl rfl)) (fun _ _ _ _ _ => pts_nil) (fun _ _ _ _ _ => pe_callTy call_str_opt (by rfl) B.str (by decide +kernel) (pa_cons (pv 6) pa_nil))))) pe_str))) pss_nil)
      (pss_cons (ps_if (pt_cmpR op_eq (pv 3) pe_int (nomark _)) (pss_one (ps_ret (pe_lst (pa_cons (pe_cmpR (op_eqD hr.units) (pv 5) (pe_ix ix_list (pv 0) (pv 2) (fun _ _ => rfl)) (nomark _))
          (pa_cons (pe_cmpR (op_eqD hr.units) (pv 5) (pe_ix ix_list (pv 0) (pv 2) (fun _ _ => rfl)) (nomark _)) pa_nil))))) pss_nil)
      (pss_cons (ps_if (pt_cmpR op_eq (pv 3) pe_int (nomark _)) (pss_one (ps_ret (pe_lst (pa_cons pe_bl (pa_cons (pv 5) pa_nil))))) pss_nil)
      (pss_one (ps_ret (pe_ix ix_list (pe_lst (pa_cons (pe_c cL hr (by decide) (by rfl) (pa_cons (pe_ix ix_tup (pv 5) pe_int (fun _ _ => rfl)) pa_nil)) (pa_cons (pe_ix ix_tup (pv 5) pe_int (fun _ _ => rfl)) pa_nil))) (pe_op op_sub (pv 3) pe_int) (fun _ _ => rfl)))))))))), ?_⟩
    obtain ⟨xs, q, ha, hxk, hq⟩ := hB.get hk
    obtain ⟨xs2, q2, ha2, hxo, hq2⟩ := hB.get ho
    have exs : xs2 = xs := by
      rw [ha] at ha2
      cases ha2
      rfl
    rw [exs] at hxo
    have two : (2 : Nat) ≤ sizeLine := nat_str (A := True) (by decide)
    refine ⟨_, rfl, _, rfl, a, xs, _, .ref q, rfl, rfl, SqL.of ha, at_ofG (j := k) rfl hxk, ?_⟩
    have hb : ∀ x, f.bottom = some x → 0 ≤ x ∧ x < 1000000000000 := fun x e => ⟨Int.le_trans (by decide) (Int.le_trans gf.t1 (gf.b x e).1), (gf.b x e).2⟩
    have hr2 : ∀ x, f.right = some x → 0 ≤ x ∧ x < 1000000000000 := fun x e => ⟨Int.le_trans (by decide) (Int.le_trans gf.l1 (gf.r x e).1), (gf.r x e).2⟩
    have ht : ∀ x, some f.top = some x → 0 ≤ x ∧ x < 1000000000000 := fun x e => by
      have h1 := gf.t1
      have h2 := gf.t2
      cases e
      omega
    have hl : ∀ x, some f.left = some x → 0 ≤ x ∧ x < 1000000000000 := fun x e => by
      have h1 := gf.l1
      have h2 := gf.l2
      cases e
      omega
    have hc : kind = 0 ∨ kind = 1 ∨ kind = 2 ∨ kind = 3 ∨ kind = 4 ∨ kind = 5 ∨ kind = 6 ∨ kind = 7 := by omega
    rcases hc with rfl | rfl | rfl | rfl | rfl | rfl | rfl | rfl
    · refine ⟨_, rfl, rfl, true, (by decide), iteT ?_⟩
      exact ⟨_, rfl, _, rfl, q, p, f, i, j, rfl, hq, hp, kk _ H (Same.refl H) (.bl _)⟩
    · refine ⟨_, rfl, rfl, false, (by decide), iteF ⟨_, rfl, rfl, true, (by decide), iteT ?_⟩⟩
      refine ⟨_, rfl, q, _, 2, _, rfl, rfl, SqT.of hq, at_ofG (j := 2) rfl rfl, decide (f.bottom = none), congrArg V.bl optV_non, ?_⟩
      cases eb : f.bottom with
      | none =>
        refine iteD rfl ?_
        have e : sizeO f = none := by
          unfold sizeO
          rw [eb]
        exact kk .non H (Same.refl H) (by
          show Dp K H .non (optD (sizeO f))
          rw [e]
          exact .non)
      | some b =>
        refine iteDF (by simp) ⟨_, rfl, q, _, 3, _, rfl, rfl, SqT.of hq, at_ofG (j := 3) rfl rfl, decide (f.right = none), congrArg V.bl optV_non, ?_⟩
        cases er : f.right with
        | none =>
          refine iteD rfl ?_
          have e : sizeO f = none := by
            unfold sizeO
            rw [eb, er]
          exact kk .non H (Same.refl H) (by
            show Dp K H .non (optD (sizeO f))
            rw [e]
            exact .non)
        | some r =>
          have e : sizeO f = some ((b - f.top + 1) * (r - f.left + 1)) := by
            unfold sizeO
            rw [eb, er]
          have i2 : (tupV f)[2]? = some (.int b) := by
            show some (optV f.bottom) = _
            rw [eb]
            rfl
          have i3 : (tupV f)[3]? = some (.int r) := by
            show some (optV f.right) = _
            rw [er]
            rfl
          have hbb := gf.b b eb
          have ht1 := gf.t1
          refine iteDF (by simp) ⟨_, rfl, q, _, 2, _, rfl, rfl, SqT.of hq, at_ofG (j := 2) rfl i2, _, rfl, q, _, 0, _, rfl, rfl, SqT.of hq, at_ofG (j := 0) rfl rfl, _, _, rfl, rfl, _, _, rfl, rfl, ?_⟩
          refine ⟨_, rfl, q, _, 3, _, rfl, rfl, SqT.of hq, at_ofG (j := 3) rfl i3, _, rfl, q, _, 1, _, rfl, rfl, SqT.of hq, at_ofG (j := 1) rfl rfl, _, _, rfl, rfl, _, _, rfl, rfl, _, _, rfl, rfl, .inl ⟨by omega, by omega⟩, ?_⟩
          exact kk _ H (Same.refl H) (by
            show Dp K H _ (optD (sizeO f))
            rw [e]
            exact .int _)
    · refine ⟨_, rfl, rfl, false, (by decide), iteF ⟨_, rfl, rfl, false, (by decide), iteF ⟨_, rfl, rfl, true, (by decide), iteT ?_⟩⟩⟩
      exact ⟨_, rfl, q, f, rfl, gf, hq, fun H' s1 => kk _ H' s1 (.str _)⟩
    · refine ⟨_, rfl, rfl, false, (by decide), iteF ⟨_, rfl, rfl, false, (by decide), iteF ⟨_, rfl, rfl, false, (by decide), iteF ⟨_, rfl, rfl, true, (by decide), iteT ?_⟩⟩⟩⟩
      refine ⟨⟨_, rfl⟩, _, rfl, q, rfl, ⟨_, SqT.of hq⟩, fun D0 hD => lc_tup (K := K) (a := q) (xs := tupV f)
        (fun n H' => Same H H' ∧ H' D0 = some (.lst ((([optS (some f.top), optS (some f.left), optS f.bottom, optS f.right] : List Str).take n).map V.str))) ⟨Same.upd hD, upd_same⟩ (fun n H' _ z => SqT.of (z.1 _ _ hq)) ?_ ?_⟩
      · rintro n x H' hx ⟨s1, hd⟩
        have hn : n < 4 := (List.getElem?_eq_some_iff.mp hx).1
        obtain ⟨o1, rfl, ho1, hL⟩ : ∃ o1 : Option Int, x = optV o1 ∧ (∀ x, o1 = some x → 0 ≤ x ∧ x < 1000000000000) ∧ ([optS (some f.top), optS (some f.left), optS f.bottom, optS f.right] : List Str)[n]? = some (optS o1) := by
          match n, hx with
          | 0, hx => exact ⟨some f.top, (Option.some.inj hx).symm, ht, rfl⟩
          | 1, hx => exact ⟨some f.left, (Option.some.inj hx).symm, hl, rfl⟩
          | 2, hx => exact ⟨f.bottom, (Option.some.inj hx).symm, hb, rfl⟩
          | 3, hx => exact ⟨f.right, (Option.some.inj hx).symm, hr2, rfl⟩
          | n + 4, hx => exact absurd hn (by omega)
        refine ⟨rfl, ?_⟩
        refine ⟨_, rfl, o1, rfl, fun z e => small_log (ho1 z e).1 (ho1 z e).2, _, hd, ?_, Same.again s1 hD, ?_⟩
        · rw [List.length_map, sizeLine_eq]
          exact Nat.lt_of_le_of_lt (List.length_take_le _ _) (by omega)
        · rw [upd_same, take_moreG hL, List.map_append]
          rfl
      rintro H1 ⟨s1, hd1⟩
      have l1 := optS_len ht
      have l2 := optS_len hl
      have l3 := optS_len hb
      have l4 := optS_len hr2
      have c1 : (Str.ofString "Block(").length = 6 := by decide +kernel
      have c2 : (Str.ofString ", ").length = 2 := by decide +kernel
      have c3 : (Str.ofString ")").length = 1 := by decide +kernel
      have lr : (reprS f).length ≤ 100 := by
        unfold reprS
        simp only [len_app]
        omega
      have er := repr_join f
      have lr2 := congrArg Str.length er
      rw [len_app, len_app] at lr2
      refine ⟨_, D0, [optS (some f.top), optS (some f.left), optS f.bottom, optS f.right], rfl, rfl, .inl (SqL.of hd1), ?_, ?_⟩
      · show (optS (some f.top)).length + ((optS (some f.left)).length + ((optS f.bottom).length + ((optS f.right).length + 0))) + 4 * (Str.ofString ", ").length ≤ 16777216
        omega
      · refine ⟨_, _, rfl, rfl, nat_str (A := True) (by omega), _, _, rfl, rfl, nat_str (A := True) (by rw [len_app]; omega), ?_⟩
        show Q (.str (Str.ofString "Block(" ++ Txt.join (Str.ofString ", ") [optS (some f.top), optS (some f.left), optS f.bottom, optS f.right] ++ Str.ofString ")")) H1
        rw [er]
        exact kk _ H1 s1 (.str _)
    · refine ⟨_, rfl, rfl, false, (by decide), iteF ⟨_, rfl, rfl, false, (by decide), iteF ⟨_, rfl, rfl, false, (by decide), iteF ⟨_, rfl, rfl, false, (by decide), iteF ⟨_, rfl, rfl, true, (by decide), iteT ?_⟩⟩⟩⟩⟩
      refine ⟨_, rfl, _, rfl, _, rfl, a, xs, _, .ref q2, rfl, rfl, SqL.of ha, at_ofG (j := o) rfl hxo, fourD f, fourD g, dp_four hq, dp_four hq2, shaped_four f, shaped_four g, ?_⟩
      refine ⟨_, rfl, _, rfl, _, rfl, a, xs, _, .ref q2, rfl, rfl, SqL.of ha, at_ofG (j := o) rfl hxo, fourD f, fourD g, dp_four hq, dp_four hq2, shaped_four f, shaped_four g, two, fun t htt => ?_⟩
      rw [eqv_four]
      exact kk _ _ (Same.upd htt) (.lst (SqL.of upd_same) (.cons (.bl _) (.cons (.bl _) .nil)))
    · refine ⟨_, rfl, rfl, false, (by decide), iteF ⟨_, rfl, rfl, false, (by decide), iteF ⟨_, rfl, rfl, false, (by decide), iteF ⟨_, rfl, rfl, false, (by decide), iteF ⟨_, rfl, rfl, false, (by decide), iteF ⟨_, rfl, rfl, true, (by decide), iteT ?_⟩⟩⟩⟩⟩⟩
      refine ⟨_, rfl, two, fun t htt => ?_⟩
      exact kk _ _ (Same.upd htt) (.lst (SqL.of upd_same) (.cons (.bl _) (.cons (dp_four (f := f) (Same.upd htt _ _ hq)) .nil)))
    · refine ⟨_, rfl, rfl, false, (by decide), iteF ⟨_, rfl, rfl, false, (by decide), iteF ⟨_, rfl, rfl, false, (by decide), iteF ⟨_, rfl, rfl, false, (by decide), iteF ⟨_, rfl, rfl, false, (by decide), iteF ⟨_, rfl, rfl, false, (by decide), iteF ?_⟩⟩⟩⟩⟩⟩
      refine ⟨_, rfl, q, _, 1, _, rfl, rfl, SqT.of hq, at_ofG (j := 1) rfl rfl, f.left, rfl, (by have := gf.l1; omega), gf.l2, _, rfl, q, _, 1, _, rfl, rfl, SqT.of hq, at_ofG (j := 1) rfl rfl, two, fun t htt => ?_⟩
      exact ⟨_, rfl, _, _, rfl, rfl, t, _, _, .str (letS f.left), rfl, rfl, SqL.of upd_same, at_ofG (j := 0) (by decide) rfl, kk _ _ (Same.upd htt) (.str _)⟩
    · refine ⟨_, rfl, rfl, false, (by decide), iteF ⟨_, rfl, rfl, false, (by decide), iteF ⟨_, rfl, rfl, false, (by decide), iteF ⟨_, rfl, rfl, false, (by decide), iteF ⟨_, rfl, rfl, false, (by decide), iteF ⟨_, rfl, rfl, false, (by decide), iteF ?_⟩⟩⟩⟩⟩⟩
      refine ⟨_, rfl, q, _, 1, _, rfl, rfl, SqT.of hq, at_ofG (j := 1) rfl rfl, f.left, rfl, (by have := gf.l1; omega), gf.l2, _, rfl, q, _, 1, _, rfl, rfl, SqT.of hq, at_ofG (j := 1) rfl rfl, two, fun t htt => ?_⟩
      exact ⟨_, rfl, _, _, rfl, rfl, t, _, _, .int f.left, rfl, rfl, SqL.of upd_same, at_ofG (j := 1) (by decide) rfl, kk _ _ (Same.upd htt) (.int _)⟩
end
end K8

/-! The law. -/
namespace K8
open PySem PySem.Spec PyProof.Rows L2 SX
theorem same_but {a : Addr} {H1 H2 H3 : Hp} (s : Same H1 H2) (hn : H1 a = none) (b : But a H2 H3) : Same H1 H3 := fun c o h => b c o (ne_of_none h hn) (s c o h)
theorem fours_same {H H' : Hp} {a : Addr} {fs : List Four} (s : Same H H') (b : Fours H a fs) : Fours H' a fs := by
  obtain ⟨ps, ha, hl, hb⟩ := b
  exact ⟨ps, s _ _ ha, hl, fun n p f h1 h2 => s _ _ (hb n p f h1 h2)⟩
theorem blks_same {C : Addr} {H H' : Hp} {a : Addr} {fs : List Four} (s : Same H H') (b : Blks C H a fs) : Blks C H' a fs := by
  obtain ⟨ps, ha, hl, hb⟩ := b
  exact ⟨ps, s _ _ ha, hl, fun n p f h1 h2 => (hb n p f h1 h2).same s⟩
theorem dpAll_fours {K : PySem.W.Frag} {H : Hp} : ∀ (ps : List Addr) (fs : List Four), ps.length = fs.length → (∀ (n : Nat) p f, ps[n]? = some p → fs[n]? = some f → H p = some (.tup (tupV f))) → DpAll K H (ps.map V.ref) (fs.map fourD)
  | [], [], _, _ => .nil
  | [], _ :: _, h, _ => by simp at h
  | _ :: _, [], h, _ => by simp at h
  | p :: ps, f :: fs, h, hb => .cons (dp_four (hb 0 p f rfl rfl)) (dpAll_fours ps fs (by simpa using h) fun n q g h1 h2 => hb (n + 1) q g (by simpa using h1) (by simpa using h2))
theorem dp_fours {K : PySem.W.Frag} {H : Hp} {a : Addr} {fs : List Four} (b : Fours H a fs) : Dp K H (.ref a) (.list (fs.map fourD)) := by
  obtain ⟨ps, ha, hl, hb⟩ := b
  exact .lst (SqL.of ha) (dpAll_fours ps fs hl hb)
theorem lay_fours : ∀ fs : List Four, PyData.canLayAll0 (fs.map fourD) = true ∧ PyData.depthAll (fs.map fourD) ≤ 1
  | [] => ⟨rfl, Nat.zero_le _⟩
  | f :: fs => by
    obtain ⟨h1, h2⟩ := lay_fours fs
    have e1 : (fourD f).canLay0 = true := SeqAt.canLay_of_shaped (shaped_four f)
    have e2 : (fourD f).depth = 1 := by
      unfold fourD
      simp only [PyData.depth, PyData.depthAll, optD_depth]
      rfl
    constructor
    · rw [List.map_cons, PyData.canLayAll0, e1, h1]
      rfl
    · rw [List.map_cons, PyData.depthAll, e2]
      omega
theorem shaped_fours (fs : List Four) : SeqAt.shaped (.list (fs.map fourD)) = true := by
  obtain ⟨h1, h2⟩ := lay_fours fs
  unfold SeqAt.shaped
  rw [PyData.canLay0, PyData.depth, h1, Bool.true_and, decide_eq_true_eq]
  omega
theorem eqv_fours (fs : List Four) : PyData.eqv (.list (fs.map fourD)) (.list (fs.map fourD)) = true := SeqAt.eqv_refl _ (SeqAt.canLay_of_shaped (shaped_fours fs))
theorem mem_ints {ns : List Int} {lo hi : Option Int} {ms : List Int} {n : Nat} {x : V} (h : (cutV (ns.map V.int) lo hi ++ ms.map V.int)[n]? = some x) : ∃ u : Int, x = .int u := by
  have hm := List.mem_of_getElem? h
  rcases List.mem_append.mp hm with hm | hm
  · unfold cutV at hm
    have h2 := List.mem_of_mem_drop (List.mem_of_mem_take hm)
    obtain ⟨u, _, e⟩ := List.mem_map.mp h2
    exact ⟨u, e.symm⟩
  · obtain ⟨u, _, e⟩ := List.mem_map.mp hm
    exact ⟨u, e.symm⟩
abbrev NL : List Str := ["_law_script", "_law_fours", "_law_k", "_law_well_here", "_law_way", "_law_four", "_law_blocks", "_law_cell_here", "_law_turn", "_law_other", "_law_kind", "_law_spot", "_law_at", "_law_block_here"]
section
variable {P : Program} {w : World} {K : PySem.W.Frag} {mg : Str → Option Value} {base : Heap} {C : Addr}
theorem scLaw : FnScope NL ["_law_script"] (defScope sLaw) := ⟨rfl, rfl, rfl, by decide +kernel, rfl, by decide +kernel, by decide +kernel⟩
theorem ok_law {f0 : Addr} {fd : FuncData} (F : Fun K "law" "law" sLaw f0 fd) (B : Bare mg) (T : ClsB K mg C) (cA : Cal P w K mg base 1 "_law_cell_at" (spCellAt K)) (cW : Cal P w K mg base 1 "_law_well" spWell) (cD : Cal P w K mg base 1 "_law_draw" spDraw)
    (cBl : Cal P w K mg base 3 "_law_block" spLBlock) (cCe : Cal P w K mg base 2 "_law_cell" spLCell) (cM : Mak P w K mg base 4 C (spInit C)) (cAs : Cal P w K mg base 9 "_law_asked" (spAsked K C)) (cDu : Cal P w K mg base 3 "_law_due" (spDue K)) :
    FnOk P w K mg base CX0 10 f0 fd ["_law_script"] (spLaw K) := by
  refine F.ok scLaw (fun vs H Q E h => ?_) (fun cdv A outer s H vs Q E hr h => ?_)
  · obtain ⟨_, _, rfl, _⟩ := h
    rfl
  · obtain ⟨a, ns, rfl, hS, hlen, kk⟩ := h
    refine ⟨_, pss_cons (ps_set (i := 1) scLaw.nd rfl (.inl rfl) (pe_lst pa_nil))
      (pss_cons (ps_for PassesOwn.never rfl (pi_range1 (by rfl) B.range (pa_cons pe_int pa_nil)) (pg_name (i := 2) scLaw.nd rfl (.inl rfl))
        (pss_cons (ps_set (i := 3) scLaw.nd rfl (.inl rfl) (pe_c cW hr (by decide) (by rfl) (pa_cons (pe_c cA hr (by decide) (by rfl) (pa_cons (pv 0) (pa_cons (pv 2) pa_nil))) pa_nil)))
        (pss_cons (ps_set (i := 4) scLaw.nd rfl (.inl rfl) (pe_c cD hr (by decide) (by rfl) (pa_cons (pv 3) (pa_cons pe_int pa_nil))))
        (pss_cons (ps_set (i := 5) scLaw.nd rfl (.inl rfl) (pe_c cBl hr (by decide) (by rfl) (pa_cons (pv 3) pa_nil)))
        (pss_cons (ps_if (PW.pt (pw_and (pt_cmpR op_eq (pv 4) pe_int (nomark _)) (pw_and1 (pt_cmpR (op_neD hr.units) (pv 1) (pe_lst pa_nil) (nomark _)))))
            (pss_one (ps_set (i := 5) scLaw.nd rfl (.inl rfl) (pe_ix ix_list (pv 1) (pe_c cD hr (by decide) (by rfl) (pa_cons (pv 3) (pa_cons (pe_callB call_len_seq (by rfl) B.len PySem.boot_len (pa_cons (pv 1) pa_nil)) pa_nil))) (fun _ _ => rfl)))) pss_nil)
        (pss_one (ps_expr (pe_bm PySem.F.plainAttrs_list PySem.F.slot_list_append PySem.F.type_list_append mt_append (pv 1) (pa_cons (pv 5) pa_nil)))))))))
      (pss_cons (ps_setLc (i := 6) (own := [("_law_four", 5)]) (g := gName 5) (tt := tYes) (te := tMake C (spInit C) [] E0 (tCons (tOp (rIxT K) (tVar 5) (tC (.int 0))) (tCons (tOp (rIxT K) (tVar 5) (tC (.int 1))) (tCons (tOp (rIxT K) (tVar 5) (tC (.int 2))) (tCons (tOp (rIxT K) (tVar 5) (tC (.int 3))) tNil))))) rfl scLaw.nd rfl rfl (sw_true rfl rfl rfl (by decide +kernel)) (pi_list (pv 1)) (blkOk_by (N := NL) (sc := defScope sLaw) (by decide +kernel))
          (fun _ _ _ _ _ => pg_name (i := 5) scLaw.nd rfl (Or.inl rfl)) (fun _ _ _ _ _ => pts_nil)
          (fun _ _ _ _ _ => pe_mkB cM T.mgC hr (by decide) (by rfl) (pa_cons (pe_ix ix_tup (pv 5) pe_int (fun _ _ => rfl)) (pa_cons (pe_ix ix_tup (pv 5) pe_int (fun _ _ => rfl)) (pa_cons (pe_ix ix_tup (pv 5) pe_int (fun _ _ => rfl)) (pa_cons (pe_ix ix_tup (pv 5) pe_int (fun _ _ => rfl)) pa_nil))))))
      (pss_cons (ps_for PassesOwn.never rfl (pi_list (pe_op op_cat (pe_slice sl_list (pv 0) (po_some pe_int) (po_some pe_int)) (pe_lst (pa_cons pe_int (pa_cons pe_int (pa_cons pe_int pa_nil)))))) (pg_name (i := 7) scLaw.nd rfl (.inl rfl))
        (pss_cons (ps_set (i := 3) scLaw.nd rfl (.inl rfl) (pe_c cW hr (by decide) (by rfl) (pa_cons (pv 7) pa_nil)))
        (pss_one (ps_for PassesOwn.never rfl (pi_range1 (by rfl) B.range (pa_cons pe_int pa_nil)) (pg_name (i := 8) scLaw.nd rfl (.inl rfl))
          (pss_cons (ps_set (i := 2) scLaw.nd rfl (.inl rfl) (pe_c cD hr (by decide) (by rfl) (pa_cons (pv 3) (pa_cons pe_int pa_nil))))
          (pss_cons (ps_set (i := 9) scLaw.nd rfl (.inl rfl) (pe_c cD hr (by decide) (by rfl) (pa_cons (pv 3) (pa_cons pe_int pa_nil))))
          (pss_cons (ps_set (i := 10) scLaw.nd rfl (.inl rfl) (pe_c cD hr (by decide) (by rfl) (pa_cons (pv 3) (pa_cons pe_int pa_nil))))
          (pss_cons (ps_set (i := 11) scLaw.nd rfl (.inl rfl) (pe_c cCe hr (by decide) (by rfl) (pa_cons (pv 3) (pa_cons (pe_ix ix_list (pv 1) (pv 2) (fun _ _ => rfl)) pa_nil))))
          (pss_one (ps_for PassesOwn.never rfl (pi_list (pe_lst (pa_cons (pv 2) (pa_cons (pv 9) (pa_cons (pv 2) pa_nil))))) (pg_name (i := 12) scLaw.nd rfl (.inl rfl))
            (pss_one (ps_if (pt_cmpR (op_neD hr.units) (pe_c cAs hr (by decide) (by rfl) (pa_cons (pv 6) (pa_cons (pv 12) (pa_cons (pv 9) (pa_cons (pv 10) (pa_cons (pv 11) pa_nil))))))
                (pe_c cDu hr (by decide) (by rfl) (pa_cons (pv 1) (pa_cons (pv 12) (pa_cons (pv 9) (pa_cons (pv 10) (pa_cons (pv 11) pa_nil)))))) (nomark _)) (pss_one (ps_ret pe_bl)) pss_nil))))))))))))
      (pss_one (ps_ret (pe_cmpR (op_eqD hr.units) (pe_lc (own := [("_law_block_here", 13)]) (g := gName 13) (tt := tYes) (te := tTup (tCons (tFld K (tVar 13) "top") (tCons (tFld K (tVar 13) "left") (tCons (tFld K (tVar 13) "bottom") (tCons (tFld K (tVar 13) "right") tNil))))) rfl scLaw.nd (pi_list (pv 6)) (blkOk_by (N := NL) (sc := defScope sLaw) (by decide +kernel))
          (fun _ _ _ _ _ => pg_name (i := 13) scLaw.nd rfl (Or.inl rfl)) (fun _ _ _ _ _ => pts_nil)
          (fun _ _ _ _ _ => pe_tup (pa_cons (pe_fld (pv 13) rfl) (pa_cons (pe_fld (pv 13) rfl) (pa_cons (pe_fld (pv 13) rfl) (pa_cons (pe_fld (pv 13) rfl) pa_nil)))))) (pv 1) (nomark _))))))), ?_⟩
    have two : (2 : Nat) ≤ sizeLine := nat_str (A := True) (by decide)
    have three : (3 : Nat) ≤ sizeLine := nat_str (A := True) (by decide)
    have four : (4 : Nat) ≤ sizeLine := nat_str (A := True) (by decide)
    refine ⟨Nat.zero_le _, fun L hL => ?_⟩
    refine ⟨7, rfl, by decide, by decide, for_range (n := 7) (fun n σ H' => ∃ (fs : List Four) (v2 v3 v4 v5 : Option V), σ = [some (.ref a), some (.ref L), v2, v3, v4, v5, none, none, none, none, none, none, none, none] ∧
      fs.length = n ∧ (∀ f ∈ fs, Good f) ∧ Fours H' L fs ∧ Same H H') ⟨[], none, none, none, none, rfl, rfl, (fun f hf => absurd hf List.not_mem_nil), ⟨[], upd_same, rfl, (fun n p f h => by simp at h)⟩, Same.upd hL⟩ ?_ ?_⟩
    · rintro n σ H1 hn ⟨fs, v2, v3, v4, v5, rfl, hl, hg, hF, s1⟩
      refine ⟨_, rfl, _, rfl, a, ns, n, (by show [V.ref a, V.int (0 + (n : Int))] = _; rw [Int.zero_add]), s1.seq hS, fun i => ?_⟩
      refine ⟨i, rfl, fun wl H2 s2 hwl w2 => ?_⟩
      refine ⟨_, rfl, wl, 4, rfl, w2, by decide, by decide, fun way H3 _ _ b3 w3 => ?_⟩
      refine ⟨_, rfl, wl, rfl, w3, fun f q H4 gf b4 w4 hq => ?_⟩
      have s14 : Same H1 H4 := same_but s2 hwl (But.trans b3 b4)
      have tail : ∀ (f : Four) (q : Addr) (H5 : Hp), Good f → Same H1 H5 → H5 q = some (.tup (tupV f)) →
          (tBM K "list" rAppend (tVar 1) (tCons (tVar 5) tNil)) [some (.ref a), some (.ref L), some (.int (0 + (n : Int))), some (.ref wl), some (.int way), some (.ref q), none, none, none, none, none, none, none, none] H5
            (fun _ H6 => ∃ (fs : List Four) (v2 v3 v4 v5 : Option V), [some (.ref a), some (.ref L), some (.int (0 + (n : Int))), some (.ref wl), some (.int way), some (.ref q), none, none, none, none, none, none, none, none] = [some (.ref a), some (.ref L), v2, v3, v4, v5, none, none, none, none, none, none, none, none] ∧
              fs.length = n + 1 ∧ (∀ f ∈ fs, Good f) ∧ Fours H6 L fs ∧ Same H H6) := by
        intro f q H5 gf s15 hq
        obtain ⟨ps, hLs, hpl, hps⟩ := fours_same s15 hF
        refine ⟨_, rfl, .inl ⟨rfl, _, SqL.of hLs⟩, _, rfl, L, _, _, rfl, rfl, hLs, ?_, ?_⟩
        · rw [List.length_map, hpl, sizeLine_eq]
          omega
        · refine ⟨fs ++ [f], _, _, _, _, rfl, by simp [hl], fun g hg2 => ?_, ⟨ps ++ [q], ?_, by simp [hpl], fun m p g h1 h2 => ?_⟩, Same.again (s1.trans s15) hL⟩
          · rcases List.mem_append.mp hg2 with h | h
            · exact hg g h
            · rw [List.mem_singleton.mp h]
              exact gf
          · rw [upd_same, List.map_append]
            rfl
          · have hpn : H5 p = some (.tup (tupV g)) := by
              by_cases hm : m < ps.length
              · rw [List.getElem?_append_left hm] at h1
                rw [List.getElem?_append_left (by omega)] at h2
                exact hps m p g h1 h2
              · have hm2 : m = ps.length := by
                  have := (List.getElem?_eq_some_iff.mp h1).1
                  rw [List.length_append, List.length_singleton] at this
                  omega
                subst hm2
                rw [List.getElem?_append_right (Nat.le_refl _), Nat.sub_self] at h1
                rw [hpl, List.getElem?_append_right (Nat.le_refl _), Nat.sub_self] at h2
                cases h1
                cases h2
                exact hq
            rw [upd_ne (ne_of hpn hLs (by intro z; cases z))]
            exact hpn
      refine ⟨_, rfl, rfl, _, rfl, ite2 (fun _ => ?_) (fun _ => ?_)⟩
      · refine ⟨_, rfl, Nat.zero_le _, fun e he => ?_⟩
        have s15 := Same.upd' (o := .lst []) s14 he
        have hF5 := fours_same s15 hF
        refine ⟨.list (fs.map fourD), .list [], dp_fours hF5, .lst (SqL.of upd_same) .nil, shaped_fours fs, rfl, _, rfl, ?_⟩
        cases fs with
        | nil => exact iteF (tail f q _ gf s15 (Same.upd he _ _ hq))
        | cons f1 fr =>
          refine iteT ?_
          obtain ⟨ps, hLs, hpl, hps⟩ := id hF5
          have w5 := well_upd (o := .lst []) w4 he
          refine ⟨_, rfl, _, rfl, _, rfl, L, _, rfl, .inl (SqL.of hLs), wl, _, rfl, w5, ?_, ?_, fun d H6 d0 dl b6 w6 => ?_⟩
          · rw [List.length_map, hpl]
            show (0 : Int) < ((fr.length + 1 : Nat) : Int)
            omega
          · rw [List.length_map, hpl, hl]
            have e2 : (2 : Int) ^ 63 = 9223372036854775808 := by decide
            omega
          · rw [List.length_map] at dl
            have s16 : Same H1 H6 := fun c o h => b6 c o (ne_of_none h hwl) (s15 c o h)
            obtain ⟨ps6, hLs6, hpl6, hps6⟩ := fours_same s16 hF
            have hd : d.toNat < ps6.length := by omega
            have hd2 : d.toNat < (f1 :: fr).length := by omega
            refine ⟨L, _, d, .ref ps6[d.toNat], rfl, rfl, SqL.of hLs6, at_ofG (j := d.toNat) (by omega) (by rw [List.getElem?_map, List.getElem?_eq_getElem hd]; rfl), ?_⟩
            exact tail (f1 :: fr)[d.toNat] ps6[d.toNat] H6 (hg _ (List.getElem_mem hd2)) s16 (hps6 d.toNat _ _ (List.getElem?_eq_getElem hd) (List.getElem?_eq_getElem hd2))
      · exact tail f q H4 gf s14 hq
    · rintro σ H1 ⟨fs, v2, v3, v4, v5, rfl, hl, hg, hF, s1⟩
      obtain ⟨ps, hLs, hpl, hps⟩ := id hF
      refine ⟨_, rfl, L, rfl, ⟨_, SqL.of hLs⟩, fun D0 hD => lc_list (K := K) (a := L) (xs := ps.map V.ref) (fun n H' => Same H1 H' ∧ ∃ qs : List Addr, H' D0 = some (.lst (qs.map V.ref)) ∧ qs.length = n ∧
        ∀ (m : Nat) q f, qs[m]? = some q → fs[m]? = some f → Blk C H' q f) ⟨Same.upd hD, [], upd_same, rfl, (fun m q f h => by simp at h)⟩ (fun n H' _ z => SqL.of (z.1 _ _ hLs)) ?_ ?_⟩
      · rintro n x H' hx ⟨s2, qs, hq, hql, hqb⟩
        have hnl : n < ps.length := by
          have := (List.getElem?_eq_some_iff.mp hx).1
          rw [List.length_map] at this
          exact this
        have hnf : n < fs.length := by omega
        obtain ⟨p, rfl, hp⟩ : ∃ p, x = V.ref p ∧ ps[n]? = some p := by
          rw [List.getElem?_map, List.getElem?_eq_getElem hnl] at hx
          exact ⟨ps[n], (Option.some.inj hx).symm, List.getElem?_eq_getElem hnl⟩
        have hpt : H' p = some (.tup (tupV fs[n])) := s2 _ _ (hps n p _ hp (List.getElem?_eq_getElem hnf))
        have gf := hg _ (List.getElem_mem hnf)
        refine ⟨rfl, ?_⟩
        refine ⟨_, rfl, p, _, 0, _, rfl, rfl, SqT.of hpt, at_ofG (j := 0) rfl rfl, _, rfl, p, _, 1, _, rfl, rfl, SqT.of hpt, at_ofG (j := 1) rfl rfl, _, rfl, p, _, 2, _, rfl, rfl, SqT.of hpt, at_ofG (j := 2) rfl rfl, _, rfl, p, _, 3, _, rfl, rfl, SqT.of hpt, at_ofG (j := 3) rfl rfl, fun x dx hx1 hdx hne => ?_⟩
        refine ⟨x, dx, fs[n], rfl, gf, upd_same, rfl, ?_⟩
        have s3 : Same H' (upd (upd (upd H' dx (.own x)) x (.ins C dx [])) x (.ins C dx (bf fs[n]))) := fun b o e => by
          rw [upd_ne (ne_of_none e hx1), upd_ne (ne_of_none e hx1), upd_ne (ne_of_none e hdx)]
          exact e
        have hD3 := s3 _ _ hq
        refine ⟨_, hD3, ?_, Same.again (s2.trans s3) hD, qs ++ [x], ?_, by simp [hql], fun m q f h1 h2 => ?_⟩
        · rw [List.length_map, hql, sizeLine_eq]
          omega
        · rw [upd_same, List.map_append]
          rfl
        · have hqn : Blk C (upd (upd (upd H' dx (.own x)) x (.ins C dx [])) x (.ins C dx (bf fs[n]))) q f := by
            by_cases hm : m < qs.length
            · rw [List.getElem?_append_left hm] at h1
              exact (hqb m q f h1 h2).same s3
            · have hm2 : m = qs.length := by
                have := (List.getElem?_eq_some_iff.mp h1).1
                rw [List.length_append, List.length_singleton] at this
                omega
              subst hm2
              rw [List.getElem?_append_right (Nat.le_refl _), Nat.sub_self] at h1
              cases h1
              rw [hql, List.getElem?_eq_getElem hnf] at h2
              cases h2
              exact ⟨dx, upd_same⟩
          obtain ⟨dq, hqq⟩ := hqn
          exact ⟨dq, (upd_ne (ne_of hqq hD3 (by intro z; cases z))).trans hqq⟩
      rintro H2 ⟨s2, qs, hq, hql, hqb⟩
      rw [List.length_map] at hql
      have hB : Blks C H2 D0 fs := ⟨qs, hq, by omega, hqb⟩
      have hF2 := fours_same s2 hF
      have s02 := s1.trans s2
      refine ⟨_, rfl, 7, rfl, 37, rfl, a, _, rfl, s02.seq hS, fun p1 hp1 => ⟨three, fun p2 hp2 => ?_⟩⟩
      have e1 := Same.upd (o := .lst (cutV (ns.map V.int) (some 7) (some 37))) hp1
      have e2 := Same.upd (o := .lst [.int 3, .int 6, .int 12]) hp2
      refine ⟨p1, p2, _, _, rfl, rfl, e2 _ _ upd_same, upd_same, ?_, fun p3 hp3 => ?_⟩
      · have h1 := cutV_length (ns.map V.int) (some 7) (some 37)
        rw [List.length_map] at h1
        exact nat_str (A := True) (show _ + 3 ≤ 1000000 by omega)
      have e3 := Same.upd (o := .lst (cutV (ns.map V.int) (some 7) (some 37) ++ [.int 3, .int 6, .int 12])) hp3
      have s2s := Same.trans e1 (Same.trans e2 e3)
      refine ⟨p3, rfl, ⟨_, SqL.of upd_same⟩, for_list (K := K) (a := p3) (xs := cutV (ns.map V.int) (some 7) (some 37) ++ [.int 3, .int 6, .int 12]) (fun n σ H' => ∃ (v2 v3 v4 v5 v7 v8 v9 v10 v11 v12 : Option V),
        σ = [some (.ref a), some (.ref L), v2, v3, v4, v5, some (.ref D0), v7, v8, v9, v10, v11, v12, none] ∧ Same H2 H' ∧ H' p3 = some (.lst (cutV (ns.map V.int) (some 7) (some 37) ++ [.int 3, .int 6, .int 12])))
        ⟨_, _, _, _, _, _, _, _, _, _, rfl, s2s, upd_same⟩ (fun n σ H' _ ⟨_, _, _, _, _, _, _, _, _, _, _, _, z⟩ => SqL.of z) ?_ ?_⟩
      · rintro n x σ H3 hx ⟨v2, v3, v4, v5, v7, v8, v9, v10, v11, v12, rfl, s3, hp33⟩
        obtain ⟨u, rfl⟩ := mem_ints (ms := [3, 6, 12]) hx
        refine ⟨_, rfl, u, rfl, fun wl H4 s4 hwl w4 => ?_⟩
        refine ⟨2, rfl, by decide, by decide, for_range (n := 2) (fun m σ H' => ∃ (v2 v4 v5 v8 v9 v10 v11 v12 : Option V),
          σ = [some (.ref a), some (.ref L), v2, some (.ref wl), v4, v5, some (.ref D0), some (.int u), v8, v9, v10, v11, v12, none] ∧ Same H3 H' ∧ Well H' wl) ⟨_, _, _, _, _, _, _, _, rfl, s4, w4⟩ ?_ ?_⟩
        · rintro m σ H5 hm ⟨v2, v4, v5, v8, v9, v10, v11, v12, rfl, s5, w5⟩
          refine ⟨_, rfl, wl, 7, rfl, w5, by decide, by decide, fun kn H6 k0 k7 b6 w6 => ?_⟩
          obtain ⟨kn, rfl⟩ := Int.eq_ofNat_of_zero_le k0
          refine ⟨_, rfl, wl, 7, rfl, w6, by decide, by decide, fun on H7 o0 o7 b7 w7 => ?_⟩
          obtain ⟨on, rfl⟩ := Int.eq_ofNat_of_zero_le o0
          refine ⟨_, rfl, wl, 8, rfl, w7, by decide, by decide, fun dn H8 d0 d8 b8 w8 => ?_⟩
          obtain ⟨dn, rfl⟩ := Int.eq_ofNat_of_zero_le d0
          have s8 : Same H3 H8 := same_but s5 hwl (But.trans b6 (But.trans b7 b8))
          have hkn : kn < fs.length := by omega
          have hon : on < fs.length := by omega
          have gk := hg _ (List.getElem_mem hkn)
          have go := hg _ (List.getElem_mem hon)
          obtain ⟨xs, q, hLx, hxq, hqf⟩ := (fours_same (s3.trans s8) hF2).get (List.getElem?_eq_getElem hkn)
          refine ⟨_, rfl, _, rfl, _, rfl, L, xs, _, .ref q, rfl, rfl, SqL.of hLx, at_ofG (j := kn) rfl hxq, wl, q, fs[kn], rfl, gk, w8, hqf, fun i j sp H9 hi hj b9 w9 hsp => ?_⟩
          have s9 : Same H3 H9 := same_but s8 hwl b9
          refine ⟨_, rfl, _, rfl, _, rfl, three, fun p4 hp4 => ?_⟩
          have e4 := Same.upd (o := .lst [.int (kn : Int), .int (on : Int), .int (kn : Int)]) hp4
          refine ⟨p4, rfl, ⟨_, SqL.of upd_same⟩, for_list (K := K) (a := p4) (xs := [.int (kn : Int), .int (on : Int), .int (kn : Int)]) (fun t σ H' => ∃ (v12 : Option V),
            σ = [some (.ref a), some (.ref L), some (.int (kn : Int)), some (.ref wl), v4, v5, some (.ref D0), some (.int u), some (.int (0 + (m : Int))), some (.int (on : Int)), some (.int (dn : Int)), some (.ref sp), v12, none] ∧
              Same H9 H' ∧ H' p4 = some (.lst [.int (kn : Int), .int (on : Int), .int (kn : Int)])) ⟨_, rfl, e4, upd_same⟩ (fun t σ H' _ ⟨_, _, _, z⟩ => SqL.of z) ?_ ?_⟩
          · rintro t x σ H10 hx2 ⟨v12, rfl, s10, hp44⟩
            obtain ⟨an, rfl, han⟩ : ∃ an : Nat, x = .int (an : Int) ∧ an < fs.length := by
              match t, hx2 with
              | 0, hx2 => exact ⟨kn, (Option.some.inj hx2).symm, hkn⟩
              | 1, hx2 => exact ⟨on, (Option.some.inj hx2).symm, hon⟩
              | 2, hx2 => exact ⟨kn, (Option.some.inj hx2).symm, hkn⟩
              | t + 3, hx2 => simp at hx2
            have ga := hg _ (List.getElem_mem han)
            have sA := Same.trans s3 (Same.trans s9 s10)
            refine ⟨_, rfl, _, rfl, _, rfl, _, rfl, _, rfl, D0, sp, fs, an, on, dn, fs[an], fs[on], i, j, rfl, blks_same sA hB, List.getElem?_eq_getElem han, List.getElem?_eq_getElem hon, ga, go, by omega, s10 _ _ hsp, hi, hj, fun v H11 s11 dv => ?_⟩
            refine ⟨_, rfl, _, rfl, _, rfl, _, rfl, _, rfl, L, sp, fs, an, on, dn, fs[an], fs[on], i, j, rfl, fours_same (Same.trans sA s11) hF2, List.getElem?_eq_getElem han, List.getElem?_eq_getElem hon, ga, go, by omega, s11 _ _ (s10 _ _ hsp), fun v2 H12 s12 dv2 => ?_⟩
            have hsh := shaped_tell (g := fs[on]) ga (kind := dn) (i := i) (j := j)
            refine ⟨_, _, dp_same s12 _ _ dv, dv2, hsh, hsh, false, ?_, iteF ⟨_, rfl, Same.trans s10 (Same.trans s11 s12), s12 _ _ (s11 _ _ hp44)⟩⟩
            rw [SeqAt.eqv_refl _ (SeqAt.canLay_of_shaped hsh)]
            rfl
          · rintro σ H10 ⟨v12, rfl, s10, hp44⟩
            obtain ⟨x, y, z, hw9⟩ := w9
            exact ⟨_, _, _, _, _, _, _, _, rfl, Same.trans s9 s10, x, y, z, s10 _ _ hw9⟩
        · rintro σ H5 ⟨v2, v4, v5, v8, v9, v10, v11, v12, rfl, s5, w5⟩
          exact ⟨_, _, _, _, _, _, _, _, _, _, rfl, s3.trans s5, s5 _ _ hp33⟩
      · rintro σ H3 ⟨v2, v3, v4, v5, v7, v8, v9, v10, v11, v12, rfl, s3, hp33⟩
        have hq3 := s3 _ _ hq
        refine ⟨_, rfl, D0, rfl, ⟨_, SqL.of hq3⟩, fun D1 hD1 => lc_list (K := K) (a := D0) (xs := qs.map V.ref) (fun n H' => Same H3 H' ∧ ∃ ts : List Addr, H' D1 = some (.lst (ts.map V.ref)) ∧ ts.length = n ∧
          ∀ (m : Nat) t f, ts[m]? = some t → fs[m]? = some f → H' t = some (.tup (tupV f))) ⟨Same.upd hD1, [], upd_same, rfl, (fun m q f h => by simp at h)⟩ (fun n H' _ z => SqL.of (z.1 _ _ hq3)) ?_ ?_⟩
        · rintro n x H' hx ⟨s4, ts, ht, htl, htb⟩
          have hnl : n < qs.length := by
            have := (List.getElem?_eq_some_iff.mp hx).1
            rw [List.length_map] at this
            exact this
          have hnf : n < fs.length := by omega
          obtain ⟨p, rfl, hp⟩ : ∃ p, x = V.ref p ∧ qs[n]? = some p := by
            rw [List.getElem?_map, List.getElem?_eq_getElem hnl] at hx
            exact ⟨qs[n], (Option.some.inj hx).symm, List.getElem?_eq_getElem hnl⟩
          obtain ⟨dp, hpb⟩ := (hqb n p _ hp (List.getElem?_eq_getElem hnf)).same (s3.trans s4)
          refine ⟨rfl, ?_⟩
          refine ⟨_, rfl, p, C, dp, _, _, rfl, hpb, T.cl, T.nT, bf_top fs[n], _, rfl, p, C, dp, _, _, rfl, hpb, T.cl, T.nL, bf_left fs[n], _, rfl, p, C, dp, _, _, rfl, hpb, T.cl, T.nB, bf_bottom fs[n], _, rfl, p, C, dp, _, _, rfl, hpb, T.cl, T.nR, bf_right fs[n], four, fun t htn => ?_⟩
          have s5 := Same.upd (o := .tup (tupV fs[n])) htn
          have hD5 := s5 _ _ ht
          refine ⟨_, hD5, ?_, Same.again (s4.trans s5) hD1, ts ++ [t], ?_, by simp [htl], fun m q f h1 h2 => ?_⟩
          · rw [List.length_map, htl, sizeLine_eq]
            omega
          · rw [upd_same, List.map_append]
            rfl
          · have hqn : (upd H' t (.tup (tupV fs[n]))) q = some (.tup (tupV f)) := by
              by_cases hm : m < ts.length
              · rw [List.getElem?_append_left hm] at h1
                exact s5 _ _ (htb m q f h1 h2)
              · have hm2 : m = ts.length := by
                  have := (List.getElem?_eq_some_iff.mp h1).1
                  rw [List.length_append, List.length_singleton] at this
                  omega
                subst hm2
                rw [List.getElem?_append_right (Nat.le_refl _), Nat.sub_self] at h1
                cases h1
                rw [htl, List.getElem?_eq_getElem hnf] at h2
                cases h2
                exact upd_same
            exact (upd_ne (ne_of hqn hD5 (by intro z; cases z))).trans hqn
        rintro H4 ⟨s4, ts, ht, htl, htb⟩
        rw [List.length_map] at htl
        have hT : Fours H4 D1 fs := ⟨ts, ht, by omega, htb⟩
        refine ⟨_, rfl, .list (fs.map fourD), .list (fs.map fourD), dp_fours hT, dp_fours (fours_same (s3.trans s4) hF2), shaped_fours fs, shaped_fours fs, ?_⟩
        rw [eqv_fours]
        exact kk H4
end
end K8

/-! What the top has left, the head, the end. -/
namespace K8
open PySem PySem.Spec PyProof.Rows L2 SX
theorem def_of {K : PySem.W.Frag} {h : Heap} {mg : Str → Option Value} {x : Str} {st : Stmt} {f : Addr} {oc : Value} {od an : Option Addr} {osl : Array (Option Value)} {kV doc pm cdv ct : Value} (X : K.In h) (G : h.Ns mainGlobals mg)
    (a : PySem.W.nsIn K mainGlobals x = some (some (.ref f))) (l : K.lookup f = some ⟨oc, od, .func (PySem.W.fnOf x x (defArgs st) (defBody st) (defScope st) .none kV doc pm an cdv ct), osl⟩) (c : PySem.W.codeIn K cdv x = true) (k : PySem.W.keepIn K (.ref f) = true) : Def K mg x st :=
  ⟨f, _, fun_mk (st := st) l c k, PySem.W.mg_of X G a⟩
theorem defM_of {K : PySem.W.Frag} {C : Addr} {m qual : Str} {st : Stmt} {f : Addr} {oc : Value} {od an : Option Addr} {osl : Array (Option Value)} {kV doc pm cdv ct : Value}
    (a : PySem.W.findIn K (.ref C) m = some (some (.ref f))) (i : PySem.W.isFn K (.ref f) = true) (l : K.lookup f = some ⟨oc, od, .func (PySem.W.fnOf m qual (defArgs st) (defBody st) (defScope st) .none kV doc pm an cdv ct), osl⟩) (c : PySem.W.codeIn K cdv qual = true) (k : PySem.W.keepIn K (.ref f) = true) : DefM K C m qual st :=
  ⟨f, _, ⟨a, i, k⟩, fun_mk (st := st) l c k⟩
/-- the class's __init__, with its defaults -/
structure InitB (K : PySem.W.Frag) (C : Addr) : Prop where
  ex : ∃ (f : Addr) (fd : FuncData), FunD K "__init__" "Block.__init__" (defArgs sInit) (defBody sInit) (defScope sInit) [.int 1, .int 1, .non, .non] [] f fd ∧ Mk K C f
theorem init_of {K : PySem.W.Frag} {C f T : Addr} {oc tc : Value} {od an td : Option Addr} {osl tsl : Array (Option Value)} {kV doc pm cdv ct : Value} {t1 t2 : Tok} {n : Nat}
    (a : PySem.W.findIn K (.ref C) "__init__" = some (some (.ref f))) (i : PySem.W.isFn K (.ref f) = true) (l : K.lookup f = some ⟨oc, od, .func (PySem.W.fnOf "__init__" "Block.__init__" (defArgs sInit) (defBody sInit) (defScope sInit) (.ref T) kV doc pm an cdv ct), osl⟩)
    (c : PySem.W.codeIn K cdv "Block.__init__" = true) (k : PySem.W.keepIn K (.ref f) = true) (lT : K.lookup T = some ⟨tc, td, .seq #[.int 1 t1, .int 1 t2, .none, .none] n, tsl⟩) (mk : PySem.W.makesIn K C = true) (kc : PySem.W.keepIn K (.ref C) = true) : InitB K C :=
  ⟨f, _, ⟨⟨oc, od, _, kV, doc, pm, an, cdv, ct, osl, rfl, l, c, .inr ⟨by simp, T, _, [.int 1 t1, .int 1 t2, .none, .none], n, rfl, lT, rfl, .cons ⟨_, rfl⟩ (.cons ⟨_, rfl⟩ (.cons rfl (.cons rfl .nil)))⟩, .inl rfl⟩, k⟩, mk, a, i, kc⟩
theorem kit_self {K : PySem.W.Frag} {C : Addr} : PySem.W.kitOne K (.ref C) (.ref C) = some true := by
  unfold PySem.W.kitOne
  rw [if_pos (by simp)]
theorem clsB_of {K : PySem.W.Frag} {h : Heap} {mg : Str → Option Value} {C : Addr} (X : K.In h) (G : h.Ns mainGlobals mg) (aC : PySem.W.nsIn K mainGlobals "Block" = some (some (.ref C)))
    (pg : PySem.W.plainGet K C Str.empty = true) (hd : PySem.W.hasDictIn K C = true) (po : PySem.W.plainOver K C = true) (sa : PySem.W.findIn K (.ref C) "__setattr__" = some (some (.builtin "object.__setattr__")))
    (nT : PySem.W.findIn K (.ref C) "top" = some none) (nL : PySem.W.findIn K (.ref C) "left" = some none) (nB : PySem.W.findIn K (.ref C) "bottom" = some none) (nR : PySem.W.findIn K (.ref C) "right" = some none)
    (ha : PySem.W.findIn K (.ref C) "__class__" = some (some (.builtin "object.__class__"))) (hn : PySem.W.specialIn K (.builtin "object.__class__") "__get__" = some (some (.builtin "getset_descriptor.__get__"))) (htk : PySem.W.takesIn K (.builtin "object.__class__") = some true)
    (hm : PySem.W.mroIn K C (.type "object") = some true) : ClsB K mg C :=
  ⟨⟨pg, hd, po, sa⟩, nT, nL, nB, nR, PySem.W.mg_of X G aC, ha, hn, htk, hm, kit_self⟩
theorem bare_of {K : PySem.W.Frag} {h : Heap} {mg : Str → Option Value} (X : K.In h) (G : h.Ns mainGlobals mg)
    (z0 : PySem.W.nsIn K mainGlobals "isinstance" = some none) (z1 : PySem.W.nsIn K mainGlobals "int" = some none) (z2 : PySem.W.nsIn K mainGlobals "bool" = some none) (z3 : PySem.W.nsIn K mainGlobals "tuple" = some none) (z4 : PySem.W.nsIn K mainGlobals "len" = some none) (z5 : PySem.W.nsIn K mainGlobals "all" = some none) (z6 : PySem.W.nsIn K mainGlobals "divmod" = some none) (z7 : PySem.W.nsIn K mainGlobals "str" = some none) (z8 : PySem.W.nsIn K mainGlobals "repr" = some none) (z9 : PySem.W.nsIn K mainGlobals "min" = some none) (z10 : PySem.W.nsIn K mainGlobals "max" = some none) (z11 : PySem.W.nsIn K mainGlobals "range" = some none) : Bare mg :=
  ⟨PySem.W.mg_none_of X G z0, PySem.W.mg_none_of X G z1, PySem.W.mg_none_of X G z2, PySem.W.mg_none_of X G z3, PySem.W.mg_none_of X G z4, PySem.W.mg_none_of X G z5, PySem.W.mg_none_of X G z6, PySem.W.mg_none_of X G z7, PySem.W.mg_none_of X G z8, PySem.W.mg_none_of X G z9, PySem.W.mg_none_of X G z10, PySem.W.mg_none_of X G z11⟩
theorem consts_of {K : PySem.W.Frag} {h : Heap} {mg : Str → Option Value} {t1 t2 t3 t4 : Tok} (X : K.In h) (G : h.Ns mainGlobals mg) (z1 : PySem.W.nsIn K mainGlobals "LETTERS" = some (some (.str sLET t1))) (z2 : PySem.W.nsIn K mainGlobals "FIGURES" = some (some (.str sFIG t2)))
    (z3 : PySem.W.nsIn K mainGlobals "MOST_LETTERS" = some (some (.int 9 t3))) (z4 : PySem.W.nsIn K mainGlobals "MOST_FIGURES" = some (some (.int 12 t4))) : Consts mg :=
  ⟨⟨_, PySem.W.mg_of X G z1⟩, ⟨_, PySem.W.mg_of X G z2⟩, ⟨_, PySem.W.mg_of X G z3⟩, ⟨_, PySem.W.mg_of X G z4⟩⟩
theorem all_mk {l : PySem.W.OpenLaw} {w : World} {K : PySem.W.Frag} {h : Heap} {mg : Str → Option Value} {fa C : Addr} (X : K.In h) (G : h.Ns mainGlobals mg) (hfa : mg "law" = some (.ref fa)) (aC : PySem.W.nsIn K mainGlobals "Block" = some (some (.ref C)))
    (D0 : Def K mg "is_whole" sWhole)
    (D1 : Def K mg "is_count" sCount)
    (D2 : Def K mg "is_cell" sCell)
    (D3 : Def K mg "checked_cell" sChk)
    (D4 : Def K mg "letters_of" sLetters)
    (D5 : Def K mg "number_of" sNumber)
    (D6 : Def K mg "is_end" sEnd)
    (D7 : Def K mg "is_rows" sRows)
    (D8 : Def K mg "is_columns" sCols)
    (D9 : Def K mg "letters_ahead" sAhead)
    (D10 : Def K mg "by_ends" sEnds)
    (D11 : Def K mg "row_text" sRowT)
    (D12 : Def K mg "column_text" sColT)
    (D13 : Def K mg "count_of" sCountOf)
    (D14 : Def K mg "parted" sParted)
    (D15 : Def K mg "block_of" sBlockOf)
    (D16 : Def K mg "_law_cell_at" sCellAt)
    (D17 : Def K mg "_law_well" sWell)
    (D18 : Def K mg "_law_draw" sDraw)
    (D19 : Def K mg "_law_letters" sLLet)
    (D20 : Def K mg "_law_text" sLText)
    (D21 : Def K mg "_law_number" sLNum)
    (D22 : Def K mg "_law_last" sLLast)
    (D23 : Def K mg "_law_block" sLBlock)
    (D24 : Def K mg "_law_cell" sLCell)
    (D25 : Def K mg "_law_has" sLHas)
    (D26 : Def K mg "_law_asked" sAsked)
    (D27 : Def K mg "_law_due" sDue)
    (M0 : DefM K C "__eq__" "Block.__eq__" sEq)
    (M1 : DefM K C "__str__" "Block.__str__" sStr)
    (M2 : DefM K C "__repr__" "Block.__repr__" sRepr)
    (M3 : DefM K C "has" "Block.has" sHas)
    (M4 : DefM K C "size" "Block.size" sSize)
    (I : InitB K C) (T : ClsB K mg C) (B : Bare mg) (Z : Consts mg) (L : Def K mg "law" sLaw) :
    ∃ fd : FuncData, (∀ (s : Shared) (v : Value), BindsTo s fd ⟨[v], []⟩ [("_law_script", v)]) ∧ ∀ base : Heap, K.In base → base.Ns mainGlobals mg → FnOk l.prog w K mg base CX0 10 fa fd ["_law_script"] (spLaw K) := by
  obtain ⟨f0, fd, F, hm⟩ := L.ex
  have e := hfa.symm.trans hm
  cases e
  have bL : ∀ (s : Shared) (v : Value), BindsTo s fd ⟨[v], []⟩ [("_law_script", v)] := by
    obtain ⟨oc, od, kV, doc, pm, an, cdv, ct, osl, rfl, lk, hcd⟩ := F.ex
    exact fun s v => .of_eq rfl
  refine ⟨fd, bL, fun base _ _ => ?_⟩
  obtain ⟨fI, fdI, FI, MI⟩ := I.ex
  have c_whole := cal_whole (P := l.prog) (w := w) (base := base) D0 B
  have c_count := cal_count D1 c_whole
  have c_end := cal_end D6 c_count
  have c_cell := cal_cell D2 B c_count
  have c_chk := cal_chk D3 c_cell
  have c_letters := cal_letters D4 B Z c_count
  have c_number := cal_number (P := l.prog) (w := w) (base := base) D5 B Z
  have c_rows := cal_rows (P := l.prog) (w := w) (base := base) D7 T
  have c_cols := cal_cols (P := l.prog) (w := w) (base := base) D8 T
  obtain ⟨fA, hA, c_ahead⟩ := cal_ahead (P := l.prog) (w := w) (base := base) D9
  have m_size := met_size (P := l.prog) (w := w) (base := base) M4 T
  have c_ends := cal_ends D10 T c_ahead c_rows c_cols m_size
  have c_rowT := cal_rowT (P := l.prog) (w := w) (base := base) D11 B
  have c_colT := cal_colT D12 c_letters
  have k_init := mak_init FI MI T c_count c_end
  have m_eq := met_eq (P := l.prog) (w := w) (base := base) M0 T B
  have m_has := met_has M3 T c_chk
  have m_str := met_str M1 T B hA c_rowT c_colT c_ends
  have m_repr := met_repr (P := l.prog) (w := w) (base := base) M2 T
  have c_countOf := cal_countOf (P := l.prog) (w := w) (base := base) D13 B Z
  have c_parted := cal_parted D14 B Z c_countOf c_number
  have c_blockOf := cal_blockOf D15 B T c_parted k_init m_str
  have c_cellAt := cal_cellAt (P := l.prog) (w := w) (base := base) D16 B
  have c_well := cal_well (P := l.prog) (w := w) (base := base) D17 B
  have c_draw := cal_draw (P := l.prog) (w := w) (base := base) D18
  have c_llet := cal_llet (P := l.prog) (w := w) (base := base) D19
  have c_lnum := cal_lnum D21 c_draw
  have c_llast := cal_llast D22 B c_draw
  have c_lblock := cal_lblock D23 c_draw c_lnum c_llast
  have c_lcell := cal_lcell D24 B c_draw
  have c_lhas := cal_lhas (P := l.prog) (w := w) (base := base) D25
  have c_ltext := cal_ltext D20 B c_llet
  have c_asked := cal_asked D26 B T m_has m_size m_str m_repr m_eq c_blockOf c_letters c_number
  have c_due := cal_due D27 B c_lhas c_ltext c_llet
  exact ok_law F B T c_cellAt c_well c_draw c_lblock c_lcell k_init c_asked c_due
theorem walk {l : PySem.W.OpenLaw} {q : Program} {loose : List Str} {XP : (Str → Option Value) → Heap → Prop} {YP : World → Heap → Prop} {d : DefRec} {K : Params → PySem.W.Frag} (hn : l.most = some 63) (hdf : d.params.defaults = [])
    (hY : ∀ (w : World) (h : Heap), YP w h → (K w.params).In h)
    (F : ∀ (w : World) (mg : Str → Option Value) (fa : Addr) (h : Heap), (K w.params).In h → h.Ns mainGlobals mg → mg d.name = some (.ref fa) →
      ∃ fd : FuncData, (∀ (s : Shared) (u : Value), BindsTo s fd ⟨[u], []⟩ [("_law_script", u)]) ∧ ∀ base : Heap, (K w.params).In base → base.Ns mainGlobals mg → FnOk l.prog w (K w.params) mg base CX0 10 fa fd ["_law_script"] (spLaw (K w.params))) :
    PySem.W.WalkO q loose XP YP l.row.toRowW d [] (fun f vs => PySem.call f vs) :=
  L2.walk_of (n := 63) (k := 10) (x := "_law_script") (CX := fun _ => CX0) (sp := fun w => spLaw (K w.params)) hn (by decide) hdf ⟨rfl, by decide, by decide⟩ hY F (fun _ _ a ns hl _ hS => ⟨a, ns, rfl, hS, hl, fun _ => rfl⟩) fun _ _ _ _ _ z => z
end K8

open PySem PySem.W PyProof.Rows in
set_option maxRecDepth 100000 in
set_option maxHeartbeats 0 in
theorem PySem.Challenge.cw_cellblocks_k08_whole_blocks_by_turns_holds : PySem.Challenge.rw_cellblocks_k08_whole_blocks_by_turns.Holds := by
  w_on; o_law; k_head; (case hw => w_witness2)
  k_fill
  refine K8.walk (l := PySem.Challenge.rw_cellblocks_k08_whole_blocks_by_turns) rfl rfl (fun w h Y => PySem.W.kIn_of Y) ?F
  case F =>
    intro w mg fa h KX G hmg
    refine' K8.all_mk KX G hmg ?aC ?D0 ?D1 ?D2 ?D3 ?D4 ?D5 ?D6 ?D7 ?D8 ?D9 ?D10 ?D11 ?D12 ?D13 ?D14 ?D15 ?D16 ?D17 ?D18 ?D19 ?D20 ?D21 ?D22 ?D23 ?D24 ?D25 ?D26 ?D27 ?M0 ?M1 ?M2 ?M3 ?M4 ?I ?T ?B ?Z ?L
    (case aC => k_is)
    (case D0 => (refine' K8.def_of KX G ?a ?l ?c ?k; (case a => k_is); (case l => k_is); (case c => k_is); (case k => k_is)))
    (case D1 => (refine' K8.def_of KX G ?a ?l ?c ?k; (case a => k_is); (case l => k_is); (case c => k_is); (case k => k_is)))
    (case D2 => (refine' K8.def_of KX G ?a ?l ?c ?k; (case a => k_is); (case l => k_is); (case c => k_is); (case k => k_is)))
    (case D3 => (refine' K8.def_of KX G ?a ?l ?c ?k; (case a => k_is); (case l => k_is); (case c => k_is); (case k => k_is)))
    (case D4 => (refine' K8.def_of KX G ?a ?l ?c ?k; (case a => k_is); (case l => k_is); (case c => k_is); (case k => k_is)))
    (case D5 => (refine' K8.def_of KX G ?a ?l ?c ?k; (case a => k_is); (case l => k_is); (case c => k_is); (case k => k_is)))
    (case D6 => (refine' K8.def_of KX G ?a ?l ?c ?k; (case a => k_is); (case l => k_is); (case c => k_is); (case k => k_is)))
    (case D7 => (refine' K8.def_of KX G ?a ?l ?c ?k; (case a => k_is); (case l => k_is); (case c => k_is); (case k => k_is)))
    (case D8 => (refine' K8.def_of KX G ?a ?l ?c ?k; (case a => k_is); (case l => k_is); (case c => k_is); (case k => k_is)))
    (case D9 => (refine' K8.def_of KX G ?a ?l ?c ?k; (case a => k_is); (case l => k_is); (case c => k_is); (case k => k_is)))
    (case D10 => (refine' K8.def_of KX G ?a ?l ?c ?k; (case a => k_is); (case l => k_is); (case c => k_is); (case k => k_is)))
    (case D11 => (refine' K8.def_of KX G ?a ?l ?c ?k; (case a => k_is); (case l => k_is); (case c => k_is); (case k => k_is)))
    (case D12 => (refine' K8.def_of KX G ?a ?l ?c ?k; (case a => k_is); (case l => k_is); (case c => k_is); (case k => k_is)))
    (case D13 => (refine' K8.def_of KX G ?a ?l ?c ?k; (case a => k_is); (case l => k_is); (case c => k_is); (case k => k_is)))
    (case D14 => (refine' K8.def_of KX G ?a ?l ?c ?k; (case a => k_is); (case l => k_is); (case c => k_is); (case k => k_is)))
    (case D15 => (refine' K8.def_of KX G ?a ?l ?c ?k; (case a => k_is); (case l => k_is); (case c => k_is); (case k => k_is)))
    (case D16 => (refine' K8.def_of KX G ?a ?l ?c ?k; (case a => k_is); (case l => k_is); (case c => k_is); (case k => k_is)))
    (case D17 => (refine' K8.def_of KX G ?a ?l ?c ?k; (case a => k_is); (case l => k_is); (case c => k_is); (case k => k_is)))
    (case D18 => (refine' K8.def_of KX G ?a ?l ?c ?k; (case a => k_is); (case l => k_is); (case c => k_is); (case k => k_is)))
    (case D19 => (refine' K8.def_of KX G ?a ?l ?c ?k; (case a => k_is); (case l => k_is); (case c => k_is); (case k => k_is)))
    (case D20 => (refine' K8.def_of KX G ?a ?l ?c ?k; (case a => k_is); (case l => k_is); (case c => k_is); (case k => k_is)))
    (case D21 => (refine' K8.def_of KX G ?a ?l ?c ?k; (case a => k_is); (case l => k_is); (case c => k_is); (case k => k_is)))
    (case D22 => (refine' K8.def_of KX G ?a ?l ?c ?k; (case a => k_is); (case l => k_is); (case c => k_is); (case k => k_is)))
    (case D23 => (refine' K8.def_of KX G ?a ?l ?c ?k; (case a => k_is); (case l => k_is); (case c => k_is); (case k => k_is)))
    (case D24 => (refine' K8.def_of KX G ?a ?l ?c ?k; (case a => k_is); (case l => k_is); (case c => k_is); (case k => k_is)))
    (case D25 => (refine' K8.def_of KX G ?a ?l ?c ?k; (case a => k_is); (case l => k_is); (case c => k_is); (case k => k_is)))
    (case D26 => (refine' K8.def_of KX G ?a ?l ?c ?k; (case a => k_is); (case l => k_is); (case c => k_is); (case k => k_is)))
    (case D27 => (refine' K8.def_of KX G ?a ?l ?c ?k; (case a => k_is); (case l => k_is); (case c => k_is); (case k => k_is)))
    (case M0 => (refine' K8.defM_of ?a ?i ?l ?c ?k; (case a => k_is); (case i => k_is); (case l => k_is); (case c => k_is); (case k => k_is)))
    (case M1 => (refine' K8.defM_of ?a ?i ?l ?c ?k; (case a => k_is); (case i => k_is); (case l => k_is); (case c => k_is); (case k => k_is)))
    (case M2 => (refine' K8.defM_of ?a ?i ?l ?c ?k; (case a => k_is); (case i => k_is); (case l => k_is); (case c => k_is); (case k => k_is)))
    (case M3 => (refine' K8.defM_of ?a ?i ?l ?c ?k; (case a => k_is); (case i => k_is); (case l => k_is); (case c => k_is); (case k => k_is)))
    (case M4 => (refine' K8.defM_of ?a ?i ?l ?c ?k; (case a => k_is); (case i => k_is); (case l => k_is); (case c => k_is); (case k => k_is)))
    (case I => (refine' K8.init_of ?a ?i ?l ?c ?k ?t ?m ?kc; (case a => k_is); (case i => k_is); (case l => k_is); (case c => k_is); (case k => k_is); (case t => k_is); (case m => k_is); (case kc => k_is)))
    (case T => (refine' K8.clsB_of KX G ?aC2 ?pg ?hd ?po ?sa ?nT ?nL ?nB ?nR ?ha ?hn ?htk ?hm; (case aC2 => k_is); (case pg => k_is); (case hd => k_is); (case po => k_is); (case sa => k_is); (case nT => k_is); (case nL => k_is); (case nB => k_is); (case nR => k_is); (case ha => k_is); (case hn => k_is); (case htk => k_is); (case hm => k_is)))
    (case B => (refine' K8.bare_of KX G ?z0 ?z1 ?z2 ?z3 ?z4 ?z5 ?z6 ?z7 ?z8 ?z9 ?z10 ?z11; (case z0 => k_is); (case z1 => k_is); (case z2 => k_is); (case z3 => k_is); (case z4 => k_is); (case z5 => k_is); (case z6 => k_is); (case z7 => k_is); (case z8 => k_is); (case z9 => k_is); (case z10 => k_is); (case z11 => k_is)))
    (case Z => (refine' K8.consts_of KX G ?z1 ?z2 ?z3 ?z4; (case z1 => k_is); (case z2 => k_is); (case z3 => k_is); (case z4 => k_is)))
    (case L => (refine' K8.def_of KX G ?a ?l ?c ?k; (case a => k_is); (case l => k_is); (case c => k_is); (case k => k_is)))

