import PyProof.Rows.All
import Wide.All
import OpenK.AllK
import Wide.FinOn
import HandS.ForMost
import HandS.Zip
import HandS.Walk
import HandS.Conv
import HandS.Style
import HandS.Deep
import HandS.Evl
import KE.GoesMore
import KE.GoesEnum
import KE.GoesZip
import HandS.OwnEq
import HandS.WideBits
import KE.SortData
import KE.KDictSum
import KE.OsArith
import HandS.Property
import HandS.IsInst
import HandS.Codes
import HandS.Defaults
import HandS.SortKw
import HandS.TupAny
import HandS.DictTup
import KE.KStateDown
import HandS.Ends
import HandS.More
import HandS.Words
import HandS.WordsExc
import HandS.Head0
import HandS.Head1
import HandS.Head2
import HandS.HeadEnd
import HandS.HeadHook1
import HandS.HeadHook2
import PySem.Challenge.RW_owncontraries_k27_whole_fill_ups_listed
set_option Elab.async false
set_option linter.all false
set_option maxRecDepth 100000
set_option autoImplicit false
/-! K27Math: words as numbers, sums as ^^^, rooms by reduced bases. Core Lean alone. -/
namespace K27

/-! ### numbers by their bits -/
theorem lt_of_bit {x y i : Nat} (hx : x.testBit i = false) (hy : y.testBit i = true) (h : ∀ j, i < j → x.testBit j = y.testBit j) : x < y := by
  have e : x / 2 ^ (i + 1) = y / 2 ^ (i + 1) := by
    apply Nat.eq_of_testBit_eq
    intro j
    rw [Nat.testBit_div_two_pow, Nat.testBit_div_two_pow]
    exact h _ (by omega)
  have lx : x % 2 ^ (i + 1) < 2 ^ i := by
    apply Nat.lt_pow_two_of_testBit
    intro j hj
    rw [Nat.testBit_mod_two_pow]
    by_cases hji : j = i
    · subst hji
      rw [hx, Bool.and_false]
    · have : ¬ j < i + 1 := by omega
      rw [decide_eq_false this, Bool.false_and]
  have ly : 2 ^ i ≤ y % 2 ^ (i + 1) := by
    apply Nat.ge_two_pow_of_testBit
    rw [Nat.testBit_mod_two_pow, hy, decide_eq_true (by omega : i < i + 1)]
    rfl
  have dx := Nat.div_add_mod x (2 ^ (i + 1))
  have dy := Nat.div_add_mod y (2 ^ (i + 1))
  rw [e] at dx
  omega

theorem xor_cancel (a b : Nat) : (a ^^^ b) ^^^ b = a := by
  rw [Nat.xor_assoc, Nat.xor_self, Nat.xor_zero]
theorem xor_swap (a b c : Nat) : (a ^^^ b) ^^^ c = (a ^^^ c) ^^^ b := by
  rw [Nat.xor_assoc, Nat.xor_comm b c, ← Nat.xor_assoc]
theorem xor_eq_zero {a b : Nat} (h : a ^^^ b = 0) : a = b := by
  have := xor_cancel a b
  rw [h, Nat.zero_xor] at this
  exact this.symm

abbrev hi (b : Nat) : Nat := b.log2
theorem hi_on {b : Nat} (h : b ≠ 0) : b.testBit (hi b) = true := Nat.testBit_log2 h
theorem hi_above {b j : Nat} (h : hi b < j) : b.testBit j = false :=
  Nat.testBit_lt_two_pow (Nat.lt_of_lt_of_le Nat.lt_log2_self (Nat.pow_le_pow_right (by decide) h))
theorem hi_eq {b i : Nat} (h : b.testBit i = true) (ha : ∀ j, i < j → b.testBit j = false) : hi b = i := by
  have hb : b ≠ 0 := by
    rintro rfl
    rw [Nat.zero_testBit] at h
    cases h
  rcases Nat.lt_trichotomy (hi b) i with c | c | c
  · rw [hi_above c] at h
    cases h
  · exact c
  · have := ha _ c
    rw [hi_on hb] at this
    cases this
theorem hi_ge {b i : Nat} (h : b.testBit i = true) : i ≤ hi b := by
  rcases Nat.lt_or_ge (hi b) i with c | c
  · rw [hi_above c] at h
    cases h
  · exact c
theorem ne_zero_of_bit {b i : Nat} (h : b.testBit i = true) : b ≠ 0 := by
  rintro rfl
  rw [Nat.zero_testBit] at h
  cases h

/-- taking b off -/
theorem min_xor {w b : Nat} (hb : b ≠ 0) : min w (w ^^^ b) = if w.testBit (hi b) then w ^^^ b else w := by
  cases e : w.testBit (hi b) with
  | true =>
    have : w ^^^ b < w := lt_of_bit (i := hi b) (by rw [Nat.testBit_xor, e, hi_on hb]; rfl) e (fun j hj => by
      rw [Nat.testBit_xor, hi_above hj, Bool.xor_false])
    rw [if_pos rfl]
    omega
  | false =>
    have : w < w ^^^ b := lt_of_bit (i := hi b) e (by rw [Nat.testBit_xor, e, hi_on hb]; rfl) (fun j hj => by
      rw [Nat.testBit_xor, hi_above hj, Bool.xor_false])
    rw [if_neg Bool.false_ne_true]
    omega

/-! ### all sums -/
/-- all sums of some words, in the program's sequence (all_words) -/
def allW : List Nat → List Nat
  | [] => [0]
  | b :: bs => allW bs ++ (allW bs).map (fun w => w ^^^ b)
theorem allW_len : ∀ bs, (allW bs).length = 2 ^ bs.length
  | [] => rfl
  | b :: bs => by
    show (allW bs ++ (allW bs).map (fun w => w ^^^ b)).length = 2 ^ (bs.length + 1)
    rw [List.length_append, List.length_map, allW_len bs, Nat.pow_succ]
    omega
theorem mem_allW_cons {b w : Nat} {bs : List Nat} : w ∈ allW (b :: bs) ↔ w ∈ allW bs ∨ w ^^^ b ∈ allW bs := by
  show w ∈ allW bs ++ (allW bs).map (fun w => w ^^^ b) ↔ _
  rw [List.mem_append, List.mem_map]
  constructor
  · rintro (h | ⟨v, h, rfl⟩)
    · exact .inl h
    · rw [xor_cancel]
      exact .inr h
  · rintro (h | h)
    · exact .inl h
    · exact .inr ⟨_, h, xor_cancel w b⟩
theorem zero_mem : ∀ bs, 0 ∈ allW bs
  | [] => List.mem_singleton.mpr rfl
  | b :: bs => mem_allW_cons.mpr (.inl (zero_mem bs))
theorem gen_mem : ∀ {bs : List Nat} {b : Nat}, b ∈ bs → b ∈ allW bs
  | c :: bs, b, h => by
    rcases List.mem_cons.mp h with rfl | h
    · refine mem_allW_cons.mpr (.inr ?_)
      rw [Nat.xor_self]
      exact zero_mem bs
    · exact mem_allW_cons.mpr (.inl (gen_mem h))
theorem xor_mem : ∀ {bs : List Nat} {v w : Nat}, v ∈ allW bs → w ∈ allW bs → v ^^^ w ∈ allW bs
  | [], v, w, hv, hw => by
    rw [List.mem_singleton.mp hv, List.mem_singleton.mp hw]
    exact List.mem_singleton.mpr rfl
  | b :: bs, v, w, hv, hw => by
    rcases mem_allW_cons.mp hv with hv | hv
    · rcases mem_allW_cons.mp hw with hw | hw
      · exact mem_allW_cons.mpr (.inl (xor_mem hv hw))
      · refine mem_allW_cons.mpr (.inr ?_)
        rw [Nat.xor_assoc]
        exact xor_mem hv hw
    · rcases mem_allW_cons.mp hw with hw | hw
      · refine mem_allW_cons.mpr (.inr ?_)
        rw [xor_swap]
        exact xor_mem hv hw
      · refine mem_allW_cons.mpr (.inl ?_)
        have := xor_mem hv hw
        rw [xor_swap, Nat.xor_assoc, xor_cancel, Nat.xor_comm] at this
        rw [Nat.xor_comm]
        exact this
/-- sums by their making -/
theorem allW_ind {P : Nat → Prop} (h0 : P 0) : ∀ {bs : List Nat}, (∀ b ∈ bs, ∀ w, P w → P (w ^^^ b)) → ∀ {w : Nat}, w ∈ allW bs → P w
  | [], _, w, hw => by
    rw [List.mem_singleton.mp hw]
    exact h0
  | b :: bs, hs, w, hw => by
    rcases mem_allW_cons.mp hw with hw | hw
    · exact allW_ind h0 (fun c hc => hs c (List.mem_cons_of_mem _ hc)) hw
    · have := hs b List.mem_cons_self _ (allW_ind h0 (fun c hc => hs c (List.mem_cons_of_mem _ hc)) hw)
      rw [xor_cancel] at this
      exact this
theorem allW_sub {bs cs : List Nat} (h : ∀ c ∈ cs, c ∈ allW bs) {w : Nat} (hw : w ∈ allW cs) : w ∈ allW bs :=
  allW_ind (P := fun w => w ∈ allW bs) (zero_mem bs) (fun c hc _ hv => xor_mem hv (h c hc)) hw
theorem allW_mono {bs cs : List Nat} (h : ∀ c ∈ cs, c ∈ bs) {w : Nat} (hw : w ∈ allW cs) : w ∈ allW bs :=
  allW_sub (fun c hc => gen_mem (h c hc)) hw
theorem allW_lt {n : Nat} {bs : List Nat} (h : ∀ b ∈ bs, b < 2 ^ n) {w : Nat} (hw : w ∈ allW bs) : w < 2 ^ n :=
  allW_ind (P := fun w => w < 2 ^ n) (Nat.two_pow_pos n) (fun c hc _ hv => Nat.xor_lt_two_pow hv (h c hc)) hw

/-- the same sums -/
def SameW (bs cs : List Nat) : Prop := ∀ w, w ∈ allW bs ↔ w ∈ allW cs
theorem SameW.refl (bs : List Nat) : SameW bs bs := fun _ => Iff.rfl
theorem SameW.symm {bs cs : List Nat} (h : SameW bs cs) : SameW cs bs := fun w => (h w).symm
theorem SameW.trans {bs cs ds : List Nat} (h : SameW bs cs) (k : SameW cs ds) : SameW bs ds := fun w => (h w).trans (k w)
theorem SameW.of {bs cs : List Nat} (h : ∀ b ∈ bs, b ∈ allW cs) (k : ∀ c ∈ cs, c ∈ allW bs) : SameW bs cs := fun _ => ⟨fun hw => allW_sub h hw, fun hw => allW_sub k hw⟩
theorem SameW.of_mem {bs cs : List Nat} (h : ∀ b, b ∈ bs ↔ b ∈ cs) : SameW bs cs := .of (fun b hb => gen_mem ((h b).mp hb)) fun c hc => gen_mem ((h c).mpr hc)
theorem mem_append_W {bs cs : List Nat} {w : Nat} (h : w ∈ allW (bs ++ cs)) : ∃ u v, u ∈ allW bs ∧ v ∈ allW cs ∧ w = u ^^^ v := by
  refine allW_ind (P := fun w => ∃ u v, u ∈ allW bs ∧ v ∈ allW cs ∧ w = u ^^^ v) ⟨0, 0, zero_mem _, zero_mem _, by rw [Nat.xor_zero]⟩ ?_ h
  rintro b hb w ⟨u, v, hu, hv, rfl⟩
  rcases List.mem_append.mp hb with hb | hb
  · exact ⟨u ^^^ b, v, xor_mem hu (gen_mem hb), hv, xor_swap u v b⟩
  · exact ⟨u, v ^^^ b, hu, xor_mem hv (gen_mem hb), Nat.xor_assoc u v b⟩

/-! ### words none of which is a sum of others -/
def Ind : List Nat → Prop
  | [] => True
  | b :: bs => b ∉ allW bs ∧ Ind bs
theorem nodup_map_xor {l : List Nat} (h : l.Nodup) (b : Nat) : (l.map (fun w => w ^^^ b)).Nodup := by
  refine List.Pairwise.map _ (fun x y hxy e => hxy ?_) h
  have := congrArg (fun z => z ^^^ b) e
  simpa [xor_cancel] using this
theorem Ind.nodup : ∀ {bs : List Nat}, Ind bs → (allW bs).Nodup
  | [], _ => by simp [allW]
  | b :: bs, ⟨h1, h2⟩ => by
    show (allW bs ++ (allW bs).map (fun w => w ^^^ b)).Nodup
    refine List.nodup_append.mpr ⟨h2.nodup, nodup_map_xor h2.nodup b, ?_⟩
    rintro v hv w hw rfl
    obtain ⟨u, hu, e⟩ := List.mem_map.mp hw
    apply h1
    have := xor_mem hu hv
    rw [← e, ← Nat.xor_assoc, Nat.xor_self, Nat.zero_xor] at this
    exact this
theorem nodup_len {l m : List Nat} (hl : l.Nodup) (hm : m.Nodup) (h : ∀ x, x ∈ l ↔ x ∈ m) : l.length = m.length :=
  ((List.perm_ext_iff_of_nodup hl hm).mpr h).length_eq
theorem Ind.len {bs cs : List Nat} (hb : Ind bs) (hc : Ind cs) (h : SameW bs cs) : bs.length = cs.length := by
  have := nodup_len hb.nodup hc.nodup h
  rw [allW_len, allW_len] at this
  exact (Nat.pow_right_inj (by decide)).mp this
theorem nodup_sub_len : ∀ {l m : List Nat}, l.Nodup → (∀ x ∈ l, x ∈ m) → l.length ≤ m.length
  | [], _, _, _ => Nat.zero_le _
  | x :: l, m, hn, hs => by
    obtain ⟨h1, h2⟩ := List.nodup_cons.mp hn
    have hx : x ∈ m := hs x List.mem_cons_self
    have ih := nodup_sub_len (l := l) (m := m.erase x) h2 fun y hy => by
      have hne : y ≠ x := fun e => h1 (e ▸ hy)
      exact (List.mem_erase_of_ne hne).2 (hs y (List.mem_cons_of_mem _ hy))
    have e := List.length_erase_of_mem hx
    have hp : 0 < m.length := List.length_pos_of_mem hx
    rw [List.length_cons]
    omega
theorem nodup_eq_of_len {l m : List Nat} (hl : l.Nodup) (h : ∀ x ∈ l, x ∈ m) (hlen : m.length ≤ l.length) : ∀ x ∈ m, x ∈ l := by
  intro x hx
  apply Classical.byContradiction
  intro hxl
  have := nodup_sub_len (l := x :: l) (m := m) (List.nodup_cons.mpr ⟨hxl, hl⟩) (fun y hy => by
    rcases List.mem_cons.mp hy with rfl | hy
    · exact hx
    · exact h y hy)
  rw [List.length_cons] at this
  omega
theorem Ind.len_le {bs cs : List Nat} (hb : Ind bs) (h : ∀ b ∈ bs, b ∈ allW cs) : bs.length ≤ cs.length := by
  have := nodup_sub_len hb.nodup (m := allW cs) (fun w hw => allW_sub h hw)
  rw [allW_len, allW_len] at this
  exact (Nat.pow_le_pow_iff_right (by decide)).mp this
/-- as many, and within: the same sums -/
theorem Ind.same {bs cs : List Nat} (hb : Ind bs) (h : ∀ b ∈ bs, b ∈ allW cs) (hl : cs.length ≤ bs.length) : SameW bs cs := fun w =>
  ⟨fun hw => allW_sub h hw, fun hw => nodup_eq_of_len hb.nodup (fun w hw => allW_sub h hw) (by
    rw [allW_len, allW_len]
    exact Nat.pow_le_pow_right (by decide) hl) w hw⟩

/-! ### words with a place of their own -/
/-- each pair: a place, a word that has it on; no other one has it on -/
def Piv (L : List (Nat × Nat)) : Prop := (∀ x ∈ L, x.2.testBit x.1 = true) ∧ L.Pairwise (fun x y => x.2.testBit y.1 = false ∧ y.2.testBit x.1 = false)
def redP (L : List (Nat × Nat)) (w : Nat) : Nat := L.foldl (fun w x => if w.testBit x.1 then w ^^^ x.2 else w) w
theorem Piv.tail {x : Nat × Nat} {L : List (Nat × Nat)} (h : Piv (x :: L)) : Piv L := ⟨fun y hy => h.1 y (List.mem_cons_of_mem _ hy), (List.pairwise_cons.mp h.2).2⟩
theorem redP_cons (x : Nat × Nat) (L : List (Nat × Nat)) (w : Nat) : redP (x :: L) w = redP L (if w.testBit x.1 then w ^^^ x.2 else w) := rfl
theorem redP_keep : ∀ {L : List (Nat × Nat)} {i : Nat}, (∀ x ∈ L, x.2.testBit i = false) → ∀ w, (redP L w).testBit i = w.testBit i
  | [], _, _, _ => rfl
  | x :: L, i, h, w => by
    rw [redP_cons, redP_keep (fun y hy => h y (List.mem_cons_of_mem _ hy))]
    split
    · rw [Nat.testBit_xor, h x List.mem_cons_self, Bool.xor_false]
    · rfl
theorem redP_off : ∀ {L : List (Nat × Nat)}, Piv L → ∀ (w : Nat), ∀ x ∈ L, (redP L w).testBit x.1 = false
  | [], _, _, x, hx => by cases hx
  | y :: L, h, w, x, hx => by
    obtain ⟨h1, h2⟩ := h
    rw [redP_cons]
    rcases List.mem_cons.mp hx with rfl | hx
    · rw [redP_keep (fun z hz => ((List.pairwise_cons.mp h2).1 z hz).2)]
      cases e : w.testBit x.1 with
      | true => rw [if_pos rfl, Nat.testBit_xor, e, h1 x List.mem_cons_self]; rfl
      | false => rw [if_neg Bool.false_ne_true, e]
    · exact redP_off (Piv.tail ⟨h1, h2⟩) _ x hx
theorem redP_none : ∀ {L : List (Nat × Nat)} {w : Nat}, (∀ x ∈ L, w.testBit x.1 = false) → redP L w = w
  | [], _, _ => rfl
  | x :: L, w, h => by
    rw [redP_cons, h x List.mem_cons_self, if_neg Bool.false_ne_true]
    exact redP_none fun y hy => h y (List.mem_cons_of_mem _ hy)
theorem redP_xor : ∀ (L : List (Nat × Nat)) (v w : Nat), redP L (v ^^^ w) = redP L v ^^^ redP L w
  | [], _, _ => rfl
  | x :: L, v, w => by
    rw [redP_cons, redP_cons, redP_cons, ← redP_xor L]
    congr 1
    rw [Nat.testBit_xor]
    cases v.testBit x.1 <;> cases w.testBit x.1
    · rfl
    · show (v ^^^ w) ^^^ x.2 = v ^^^ (w ^^^ x.2)
      exact Nat.xor_assoc _ _ _
    · show (v ^^^ w) ^^^ x.2 = (v ^^^ x.2) ^^^ w
      exact xor_swap _ _ _
    · show v ^^^ w = (v ^^^ x.2) ^^^ (w ^^^ x.2)
      rw [← Nat.xor_assoc, xor_swap v x.2 w, xor_cancel]
theorem redP_mem : ∀ (L : List (Nat × Nat)) (w : Nat), w ^^^ redP L w ∈ allW (L.map (·.2))
  | [], w => by
    show w ^^^ w ∈ _
    rw [Nat.xor_self]
    exact zero_mem _
  | x :: L, w => by
    rw [redP_cons, List.map_cons]
    have ih := redP_mem L (if w.testBit x.1 then w ^^^ x.2 else w)
    split at ih
    · rename_i c
      rw [if_pos c]
      refine mem_allW_cons.mpr (.inr ?_)
      rw [xor_swap]
      exact ih
    · rename_i c
      rw [if_neg c]
      exact mem_allW_cons.mpr (.inl ih)
theorem redP_gen {L : List (Nat × Nat)} (h : Piv L) : ∀ x ∈ L, redP L x.2 = 0 := by
  induction L with
  | nil => intro x hx; cases hx
  | cons y L ih =>
    intro x hx
    rw [redP_cons]
    rcases List.mem_cons.mp hx with rfl | hx
    · rw [h.1 x List.mem_cons_self, if_pos rfl, Nat.xor_self]
      exact redP_none fun _ _ => Nat.zero_testBit _
    · rw [((List.pairwise_cons.mp h.2).1 x hx).2, if_neg Bool.false_ne_true]
      exact ih h.tail x hx
theorem redP_zero {L : List (Nat × Nat)} : redP L 0 = 0 := redP_none fun _ _ => Nat.zero_testBit _
theorem redP_iff {L : List (Nat × Nat)} (h : Piv L) {w : Nat} : redP L w = 0 ↔ w ∈ allW (L.map (·.2)) := by
  constructor
  · intro e
    have := redP_mem L w
    rw [e, Nat.xor_zero] at this
    exact this
  · intro hw
    refine allW_ind (P := fun w => redP L w = 0) redP_zero (fun b hb v hv => ?_) hw
    obtain ⟨x, hx, rfl⟩ := List.mem_map.mp hb
    rw [redP_xor, hv, redP_gen h x hx]
    rfl
theorem Piv.ind : ∀ {L : List (Nat × Nat)}, Piv L → Ind (L.map (·.2))
  | [], _ => trivial
  | x :: L, h => by
    refine ⟨fun hx => ?_, Piv.ind h.tail⟩
    have e := (redP_iff h.tail).mpr hx
    rw [redP_none fun y hy => ((List.pairwise_cons.mp h.2).1 y hy).1] at e
    have := h.1 x List.mem_cons_self
    rw [e, Nat.zero_testBit] at this
    cases this

/-! ### reduced bases -/
/-- what is left of a word (left_of) -/
def red (B : List Nat) (w : Nat) : Nat := B.foldl (fun w b => min w (w ^^^ b)) w
def Rd (B : List Nat) : Prop := (∀ b ∈ B, b ≠ 0) ∧ B.Pairwise (fun b c => b.testBit (hi c) = false ∧ c.testBit (hi b) = false)
def pairs (B : List Nat) : List (Nat × Nat) := B.map fun b => (hi b, b)
theorem pairs_snd (B : List Nat) : (pairs B).map (·.2) = B := by
  unfold pairs
  rw [List.map_map]
  exact List.map_id B
theorem Rd.piv {B : List Nat} (h : Rd B) : Piv (pairs B) := by
  refine ⟨fun x hx => ?_, ?_⟩
  · obtain ⟨b, hb, rfl⟩ := List.mem_map.mp hx
    exact hi_on (h.1 b hb)
  · exact List.Pairwise.map _ (fun a b hab => hab) h.2
theorem red_eq : ∀ {B : List Nat}, (∀ b ∈ B, b ≠ 0) → ∀ w, red B w = redP (pairs B) w
  | [], _, _ => rfl
  | b :: B, h, w => by
    show red B (min w (w ^^^ b)) = redP (pairs B) (if w.testBit (hi b) then w ^^^ b else w)
    rw [min_xor (h b List.mem_cons_self)]
    exact red_eq (fun c hc => h c (List.mem_cons_of_mem _ hc)) _
theorem red_iff {B : List Nat} (h : Rd B) {w : Nat} : red B w = 0 ↔ w ∈ allW B := by
  rw [red_eq h.1, redP_iff h.piv, pairs_snd]
theorem red_off {B : List Nat} (h : Rd B) (w : Nat) : ∀ b ∈ B, (red B w).testBit (hi b) = false := fun b hb => by
  rw [red_eq h.1]
  exact redP_off h.piv w (hi b, b) (List.mem_map.mpr ⟨b, hb, rfl⟩)
theorem red_mem {B : List Nat} (h : Rd B) (w : Nat) : w ^^^ red B w ∈ allW B := by
  rw [red_eq h.1]
  have := redP_mem (pairs B) w
  rw [pairs_snd] at this
  exact this
theorem Rd.ind {B : List Nat} (h : Rd B) : Ind B := by
  have := h.piv.ind
  rw [pairs_snd] at this
  exact this
theorem Rd.nil : Rd [] := ⟨fun _ h => (by cases h), .nil⟩
theorem Rd.pair {B : List Nat} (h : Rd B) : ∀ {b c : Nat}, b ∈ B → c ∈ B → b ≠ c → b.testBit (hi c) = false := by
  have h2 := h.2
  clear h
  induction B with
  | nil => intro b c hb; cases hb
  | cons x B ih =>
    intro b c hb hc ne
    obtain ⟨p1, p2⟩ := List.pairwise_cons.mp h2
    rcases List.mem_cons.mp hb with e | hb
    · rcases List.mem_cons.mp hc with e' | hc
      · exact absurd (e.trans e'.symm) ne
      · rw [e]
        exact (p1 c hc).1
    · rcases List.mem_cons.mp hc with e' | hc
      · rw [e']
        exact (p1 b hb).2
      · exact ih p2 hb hc ne
theorem Rd.perm {B C : List Nat} (h : Rd B) (p : C.Perm B) : Rd C :=
  ⟨fun c hc => h.1 c (p.mem_iff.mp hc), (List.Perm.pairwise_iff (fun {_ _} z => ⟨z.2, z.1⟩) p).mpr h.2⟩
/-- the highest place of a sum is that of a basis word -/
theorem Rd.top {B : List Nat} (h : Rd B) {w : Nat} (hw : w ∈ allW B) (hz : w ≠ 0) : ∃ b ∈ B, hi b = hi w := by
  apply Classical.byContradiction
  intro hne
  have hne : ∀ b ∈ B, hi b ≠ hi w := fun b hb e => hne ⟨b, hb, e⟩
  have key : ∀ (C : List Nat) (v : Nat), (∀ c ∈ C, c ≠ 0) → (∀ b ∈ C, hi b ≠ hi w) → v.testBit (hi w) = true → (∀ j, hi w < j → v.testBit j = false) → (redP (pairs C) v).testBit (hi w) = true := by
    intro C
    induction C with
    | nil => intro v _ _ h _; exact h
    | cons c C ih =>
      intro v hc0 hc hv ha
      show (redP (pairs C) (if v.testBit (hi c) then v ^^^ c else v)).testBit (hi w) = true
      have hc0' := fun d hd => hc0 d (List.mem_cons_of_mem _ hd)
      have hc' := fun d hd => hc d (List.mem_cons_of_mem _ hd)
      split
      · rename_i e
        have hle : hi c < hi w := by
          rcases Nat.lt_trichotomy (hi c) (hi w) with q | q | q
          · exact q
          · exact absurd q (hc c List.mem_cons_self)
          · rw [ha _ q] at e
            cases e
        refine ih _ hc0' hc' ?_ fun j hj => ?_
        · rw [Nat.testBit_xor, hv, hi_above hle]
          rfl
        · rw [Nat.testBit_xor, ha j hj, hi_above (Nat.lt_trans hle hj)]
          rfl
      · exact ih v hc0' hc' hv ha
  have := key B w h.1 hne (hi_on hz) fun j hj => hi_above hj
  rw [← red_eq h.1, (red_iff h).mpr hw, Nat.zero_testBit] at this
  cases this

/-! ### plain bases -/
def Plain (B : List Nat) : Prop := Rd B ∧ B.Pairwise (· > ·)
theorem Plain.nil : Plain [] := ⟨Rd.nil, .nil⟩
theorem desc_eq {B C : List Nat} (hb : B.Pairwise (· > ·)) (hc : C.Pairwise (· > ·)) (h : ∀ x, x ∈ B ↔ x ∈ C) : B = C := by
  have nb : B.Nodup := hb.imp fun {a b} (z : a > b) => Nat.ne_of_gt z
  have nc : C.Nodup := hc.imp fun {a b} (z : a > b) => Nat.ne_of_gt z
  exact List.Perm.eq_of_pairwise (le := (· > ·)) (fun a b _ _ h1 h2 => absurd (Nat.lt_trans h1 h2) (Nat.lt_irrefl _)) hb hc ((List.perm_ext_iff_of_nodup nb nc).mpr h)
theorem Rd.sub {B C : List Nat} (hb : Rd B) (hc : Rd C) (h : SameW B C) : ∀ b ∈ B, b ∈ C := by
  intro b hbB
  obtain ⟨c, hcC, e⟩ := hc.top ((h b).mp (gen_mem hbB)) (hb.1 b hbB)
  have hx : b ^^^ c ∈ allW B := xor_mem (gen_mem hbB) ((h c).mpr (gen_mem hcC))
  have off : ∀ x ∈ pairs B, (b ^^^ c).testBit x.1 = false := by
    intro x hx
    obtain ⟨d, hd, rfl⟩ := List.mem_map.mp hx
    show (b ^^^ c).testBit (hi d) = false
    by_cases hbd : b = d
    · subst hbd
      rw [Nat.testBit_xor, hi_on (hb.1 b hbB), ← e, hi_on (hc.1 c hcC)]
      rfl
    · rw [Nat.testBit_xor, hb.pair hbB hd hbd, Bool.false_xor]
      obtain ⟨c', hc', e'⟩ := hc.top ((h d).mp (gen_mem hd)) (hb.1 d hd)
      rw [← e']
      by_cases hcc : c = c'
      · exfalso
        subst hcc
        have e2 : hi b = hi d := e.symm.trans e'
        have := hb.pair hbB hd hbd
        rw [← e2, hi_on (hb.1 b hbB)] at this
        cases this
      · exact hc.pair hcC hc' hcc
  have z : redP (pairs B) (b ^^^ c) = 0 := by
    rw [← red_eq hb.1]
    exact (red_iff hb).mpr hx
  rw [redP_none off] at z
  rw [xor_eq_zero z]
  exact hcC
/-- each room has one plain basis -/
theorem Plain.unique {B C : List Nat} (hb : Plain B) (hc : Plain C) (h : SameW B C) : B = C :=
  desc_eq hb.2 hc.2 fun x => ⟨hb.1.sub hc.1 h x, hc.1.sub hb.1 h.symm x⟩

/-! ### one word more -/
/-- falling -/
def sortD (l : List Nat) : List Nat := l.mergeSort (fun a b => decide (b ≤ a))
theorem sortD_perm (l : List Nat) : (sortD l).Perm l := List.mergeSort_perm _ _
theorem sortD_desc (l : List Nat) : (sortD l).Pairwise (· ≥ ·) := by
  have := List.pairwise_mergeSort (le := fun a b : Nat => decide (b ≤ a)) (fun a b c h1 h2 => by
    have h1 := of_decide_eq_true h1
    have h2 := of_decide_eq_true h2
    exact decide_eq_true (by omega)) (fun a b => by
    rw [Bool.or_eq_true, decide_eq_true_eq, decide_eq_true_eq]
    omega) l
  exact this.imp fun {a b} h => of_decide_eq_true h
theorem sortD_of {l m : List Nat} (p : m.Perm l) (h : m.Pairwise (· ≥ ·)) : m = sortD l :=
  List.Perm.eq_of_pairwise (le := (· ≥ ·)) (fun a b _ _ h1 h2 => Nat.le_antisymm h2 h1) h (sortD_desc l) (p.trans (sortD_perm l).symm)
/-- the words of a reduced basis and one more, reduced -/
def extU (B : List Nat) (l : Nat) : List Nat := B.map (fun o => min o (o ^^^ l)) ++ [l]
/-- with_word -/
def extB (B : List Nat) (w : Nat) : List Nat := if red B w = 0 then B else sortD (extU B (red B w))
theorem Rd.nodup {B : List Nat} (h : Rd B) : B.Nodup := by
  have hb := h.1
  refine List.Pairwise.imp_of_mem ?_ h.2
  rintro b c hbB _ ⟨h1, _⟩ rfl
  rw [hi_on (hb b hbB)] at h1
  cases h1
theorem ext_step {B : List Nat} {l : Nat} (h : Rd B) (hl : l ≠ 0) (ho : ∀ b ∈ B, l.testBit (hi b) = false) {b : Nat} (hb : b ∈ B) :
    hi (min b (b ^^^ l)) = hi b ∧ min b (b ^^^ l) ≠ 0 ∧ (min b (b ^^^ l)).testBit (hi l) = false ∧ ∀ c ∈ B, c ≠ b → (min b (b ^^^ l)).testBit (hi c) = false := by
  rw [min_xor hl]
  have hb0 := h.1 b hb
  split
  · rename_i e
    have hlt : hi l < hi b := by
      rcases Nat.lt_trichotomy (hi l) (hi b) with q | q | q
      · exact q
      · have := ho b hb
        rw [← q, hi_on hl] at this
        cases this
      · rw [hi_above q] at e
        cases e
    have on : (b ^^^ l).testBit (hi b) = true := by
      rw [Nat.testBit_xor, hi_on hb0, ho b hb]
      rfl
    refine ⟨hi_eq on fun j hj => ?_, ne_zero_of_bit on, ?_, fun c hc ne => ?_⟩
    · rw [Nat.testBit_xor, hi_above hj, hi_above (Nat.lt_trans hlt hj)]
      rfl
    · rw [Nat.testBit_xor, e, hi_on hl]
      rfl
    · rw [Nat.testBit_xor, h.pair hb hc (Ne.symm ne), ho c hc]
      rfl
  · rename_i e
    exact ⟨rfl, hb0, by simpa using e, fun c hc ne => h.pair hb hc (Ne.symm ne)⟩
theorem extU_rd {B : List Nat} {l : Nat} (h : Rd B) (hl : l ≠ 0) (ho : ∀ b ∈ B, l.testBit (hi b) = false) : Rd (extU B l) := by
  refine ⟨fun x hx => ?_, ?_⟩
  · rcases List.mem_append.mp hx with hx | hx
    · obtain ⟨b, hb, rfl⟩ := List.mem_map.mp hx
      exact (ext_step h hl ho hb).2.1
    · rw [List.mem_singleton.mp hx]
      exact hl
  · refine List.pairwise_append.mpr ⟨?_, List.pairwise_singleton _ _, fun x hx y hy => ?_⟩
    · rw [List.pairwise_map]
      refine List.Pairwise.imp_of_mem ?_ h.nodup
      intro b c hb hc ne
      obtain ⟨b1, _, _, b4⟩ := ext_step h hl ho hb
      obtain ⟨c1, _, _, c4⟩ := ext_step h hl ho hc
      rw [b1, c1]
      exact ⟨b4 c hc (Ne.symm ne), c4 b hb ne⟩
    · obtain ⟨b, hb, rfl⟩ := List.mem_map.mp hx
      obtain ⟨b1, _, b3, _⟩ := ext_step h hl ho hb
      rw [List.mem_singleton.mp hy, b1]
      exact ⟨b3, ho b hb⟩
theorem min_mem {bs : List Nat} {b l : Nat} (hb : b ∈ allW bs) (hl : l ∈ allW bs) : min b (b ^^^ l) ∈ allW bs := by
  rcases Nat.le_total b (b ^^^ l) with h | h
  · rw [Nat.min_eq_left h]
    exact hb
  · rw [Nat.min_eq_right h]
    exact xor_mem hb hl
theorem extU_same {B : List Nat} {l : Nat} : SameW (extU B l) (l :: B) := by
  refine .of (fun x hx => ?_) fun x hx => ?_
  · rcases List.mem_append.mp hx with hx | hx
    · obtain ⟨b, hb, rfl⟩ := List.mem_map.mp hx
      exact min_mem (gen_mem (List.mem_cons_of_mem _ hb)) (gen_mem List.mem_cons_self)
    · rw [List.mem_singleton.mp hx]
      exact gen_mem List.mem_cons_self
  · have hl : l ∈ allW (extU B l) := gen_mem (List.mem_append_right _ (List.mem_singleton.mpr rfl))
    rcases List.mem_cons.mp hx with rfl | hx
    · exact hl
    · have hm : min x (x ^^^ l) ∈ allW (extU B l) := gen_mem (List.mem_append_left _ (List.mem_map.mpr ⟨x, hx, rfl⟩))
      rcases Nat.le_total x (x ^^^ l) with h | h
      · rw [Nat.min_eq_left h] at hm
        exact hm
      · rw [Nat.min_eq_right h] at hm
        have := xor_mem hm hl
        rw [xor_cancel] at this
        exact this
theorem red_same {B : List Nat} (h : Rd B) (w : Nat) : SameW (red B w :: B) (w :: B) := by
  have m := red_mem h w
  refine .of (fun x hx => ?_) fun x hx => ?_
  · rcases List.mem_cons.mp hx with rfl | hx
    · have := xor_mem (mem_allW_cons (b := w).mpr (.inl m)) (gen_mem (bs := w :: B) List.mem_cons_self)
      rw [xor_swap, Nat.xor_self, Nat.zero_xor] at this
      exact this
    · exact gen_mem (List.mem_cons_of_mem _ hx)
  · rcases List.mem_cons.mp hx with rfl | hx
    · have := xor_mem (mem_allW_cons (b := red B x).mpr (.inl m)) (gen_mem (bs := red B x :: B) List.mem_cons_self)
      rw [xor_cancel] at this
      exact this
    · exact gen_mem (List.mem_cons_of_mem _ hx)
theorem SameW.perm {B C : List Nat} (p : B.Perm C) : SameW B C := .of_mem fun _ => p.mem_iff
theorem extB_same {B : List Nat} (h : Rd B) (w : Nat) : SameW (extB B w) (w :: B) := by
  unfold extB
  split
  · rename_i e
    exact .of (fun b hb => gen_mem (List.mem_cons_of_mem _ hb)) fun c hc => by
      rcases List.mem_cons.mp hc with rfl | hc
      · exact (red_iff h).mp e
      · exact gen_mem hc
  · exact ((SameW.perm (sortD_perm _)).trans extU_same).trans (red_same h w)
theorem ge_nodup {l : List Nat} (h : l.Pairwise (· ≥ ·)) (n : l.Nodup) : l.Pairwise (· > ·) :=
  (h.and n).imp fun {a b} z => Nat.lt_of_le_of_ne z.1 (Ne.symm z.2)
theorem sortD_plain {l : List Nat} (h : Rd l) : Plain (sortD l) := by
  have r : Rd (sortD l) := h.perm (sortD_perm l)
  exact ⟨r, ge_nodup (sortD_desc l) r.nodup⟩
theorem extB_plain {B : List Nat} (h : Plain B) (w : Nat) : Plain (extB B w) := by
  unfold extB
  split
  · exact h
  · rename_i e
    exact sortD_plain (extU_rd h.1 e (red_off h.1 w))
theorem extB_len {B : List Nat} (h : Rd B) {w : Nat} (hw : w ∉ allW B) : (extB B w).length = B.length + 1 := by
  unfold extB
  rw [if_neg fun e => hw ((red_iff h).mp e), (sortD_perm _).length_eq]
  unfold extU
  rw [List.length_append, List.length_map, List.length_singleton]
theorem extB_in {B : List Nat} (h : Rd B) {w : Nat} (hw : w ∈ allW B) : extB B w = B := by
  unfold extB
  rw [if_pos ((red_iff h).mpr hw)]
/-- plain_basis -/
def plainOf (ws : List Nat) : List Nat := ws.foldl extB []
theorem foldl_extB : ∀ (ws : List Nat) {B : List Nat}, Plain B → Plain (ws.foldl extB B) ∧ SameW (ws.foldl extB B) (ws ++ B)
  | [], B, h => ⟨h, SameW.refl B⟩
  | w :: ws, B, h => by
    obtain ⟨p, s⟩ := foldl_extB ws (extB_plain h w)
    refine ⟨p, s.trans (.of (fun x hx => ?_) fun x hx => ?_)⟩
    · rcases List.mem_append.mp hx with hx | hx
      · exact gen_mem (List.mem_append_left _ (List.mem_cons_of_mem _ hx))
      · have := (extB_same h.1 w x).mp (gen_mem hx)
        refine allW_mono (fun c hc => ?_) this
        rcases List.mem_cons.mp hc with rfl | hc
        · exact List.mem_append_left _ List.mem_cons_self
        · exact List.mem_append_right _ hc
    · have sub : ∀ y ∈ w :: B, y ∈ allW (ws ++ extB B w) := fun y hy => by
        have := (extB_same h.1 w y).mpr (gen_mem hy)
        exact allW_mono (fun c hc => List.mem_append_right _ hc) this
      rcases List.mem_append.mp hx with hx | hx
      · rcases List.mem_cons.mp hx with rfl | hx
        · exact sub _ List.mem_cons_self
        · exact gen_mem (List.mem_append_left _ hx)
      · exact sub _ (List.mem_cons_of_mem _ hx)
theorem plainOf_plain (ws : List Nat) : Plain (plainOf ws) := (foldl_extB ws Plain.nil).1
theorem plainOf_same (ws : List Nat) : SameW (plainOf ws) ws := by
  have := (foldl_extB ws Plain.nil).2
  rw [List.append_nil] at this
  exact this
theorem plainOf_of {B ws : List Nat} (h : Plain B) (s : SameW B ws) : plainOf ws = B := (plainOf_plain ws).unique h ((plainOf_same ws).trans s.symm)
theorem plainOf_eq {vs ws : List Nat} (s : SameW vs ws) : plainOf vs = plainOf ws := plainOf_of (plainOf_plain ws) ((plainOf_same ws).trans s.symm)
theorem extB_of {B C : List Nat} {w : Nat} (h : Plain B) (hc : Plain C) (s : SameW C (w :: B)) : extB B w = C := (extB_plain h w).unique hc ((extB_same h.1 w).trans s.symm)
theorem extB_eq_plainOf {B : List Nat} {w : Nat} (h : Plain B) : plainOf (B ++ [w]) = extB B w :=
  plainOf_of (extB_plain h w) ((extB_same h.1 w).trans (SameW.of_mem fun x => by simp [or_comm]))
theorem extB_lt {n : Nat} {B : List Nat} {w : Nat} (h : Rd B) (hb : ∀ b ∈ B, b < 2 ^ n) (hw : w < 2 ^ n) : ∀ b ∈ extB B w, b < 2 ^ n := fun b hbm =>
  allW_lt (bs := w :: B) (fun c hc => by
    rcases List.mem_cons.mp hc with rfl | hc
    · exact hw
    · exact hb c hc) ((extB_same h w b).mp (gen_mem hbm))
theorem plainOf_lt {n : Nat} {ws : List Nat} (h : ∀ w ∈ ws, w < 2 ^ n) : ∀ b ∈ plainOf ws, b < 2 ^ n := fun b hb => allW_lt h ((plainOf_same ws b).mp (gen_mem hb))
end K27
/-! K27Math2: parity, contraries, still bases, classes, levels, how many. -/
namespace K27

/-! ### parity -/
def parN : Nat → Nat → Bool
  | 0, _ => false
  | n + 1, w => (parN n w) ^^ (w.testBit n)
abbrev par (w : Nat) : Bool := parN 24 w
theorem parN_xor : ∀ n v w, parN n (v ^^^ w) = (parN n v ^^ parN n w)
  | 0, _, _ => rfl
  | n + 1, v, w => by
    show (parN n (v ^^^ w) ^^ (v ^^^ w).testBit n) = ((parN n v ^^ v.testBit n) ^^ (parN n w ^^ w.testBit n))
    rw [parN_xor n, Nat.testBit_xor]
    cases parN n v <;> cases parN n w <;> cases v.testBit n <;> cases w.testBit n <;> rfl
theorem parN_zero : ∀ n, parN n 0 = false
  | 0 => rfl
  | n + 1 => by
    show (parN n 0 ^^ (0 : Nat).testBit n) = false
    rw [parN_zero n, Nat.zero_testBit]
    rfl
theorem parN_pow : ∀ n p, parN n (2 ^ p) = decide (p < n)
  | 0, p => (decide_eq_false (Nat.not_lt_zero p)).symm
  | n + 1, p => by
    show (parN n (2 ^ p) ^^ (2 ^ p).testBit n) = _
    rw [parN_pow n, Nat.testBit_two_pow]
    by_cases h : p < n
    · rw [decide_eq_true h, decide_eq_false (by omega : ¬ p = n), decide_eq_true (by omega : p < n + 1)]
      rfl
    · by_cases e : p = n
      · rw [decide_eq_false h, decide_eq_true e, decide_eq_true (by omega : p < n + 1)]
        rfl
      · rw [decide_eq_false h, decide_eq_false e, decide_eq_false (by omega : ¬ p < n + 1)]
        rfl
def dot (a b : Nat) : Bool := par (a &&& b)
theorem dot_comm (a b : Nat) : dot a b = dot b a := by
  unfold dot
  rw [Nat.and_comm]
theorem dot_xor (a b c : Nat) : dot (a ^^^ b) c = (dot a c ^^ dot b c) := by
  unfold dot
  rw [Nat.and_xor_distrib_right]
  exact parN_xor 24 _ _
theorem dot_zero (a : Nat) : dot 0 a = false := by
  unfold dot
  rw [Nat.zero_and]
  exact parN_zero 24
theorem dot_all {bs : List Nat} {w : Nat} (h : ∀ b ∈ bs, dot w b = false) {v : Nat} (hv : v ∈ allW bs) : dot w v = false := by
  refine allW_ind (P := fun v => dot w v = false) ?_ (fun b hb u hu => ?_) hv
  · rw [dot_comm]
    exact dot_zero w
  · rw [dot_comm, dot_xor, dot_comm u, dot_comm b, hu, h b hb]
    rfl
def Still (bs : List Nat) : Prop := ∀ a ∈ bs, ∀ b ∈ bs, dot a b = false
theorem Still.all {bs : List Nat} (h : Still bs) {a b : Nat} (ha : a ∈ allW bs) (hb : b ∈ allW bs) : dot a b = false := by
  rw [dot_comm]
  refine dot_all (fun c hc => ?_) ha
  rw [dot_comm]
  exact dot_all (h c hc) hb
theorem Still.within {bs cs : List Nat} (h : Still bs) (hs : ∀ c ∈ cs, c ∈ allW bs) : Still cs := fun a ha b hb => h.all (hs a ha) (hs b hb)
theorem Still.same {bs cs : List Nat} (h : Still bs) (s : SameW cs bs) : Still cs := h.within fun c hc => (s c).mp (gen_mem hc)
theorem Still.cons {bs : List Nat} {w : Nat} (h : Still bs) (hw : ∀ b ∈ bs, dot w b = false) (hh : dot w w = false) : Still (w :: bs) := fun a ha b hb => by
  rcases List.mem_cons.mp ha with ea | ha
  · rcases List.mem_cons.mp hb with eb | hb
    · rw [ea, eb]
      exact hh
    · rw [ea]
      exact hw b hb
  · rcases List.mem_cons.mp hb with eb | hb
    · rw [eb, dot_comm]
      exact hw a ha
    · exact h a ha b hb
theorem dot_self (w : Nat) : dot w w = par w := by
  unfold dot
  rw [Nat.and_self]
/-- the word of all places -/
abbrev ones (n : Nat) : Nat := 2 ^ n - 1
theorem ones_lt (n : Nat) : ones n < 2 ^ n := Nat.sub_lt (Nat.two_pow_pos n) (by decide)
theorem dot_ones {n w : Nat} (h : w < 2 ^ n) : dot w (ones n) = par w := by
  unfold dot
  rw [Nat.and_two_pow_sub_one_eq_mod, Nat.mod_eq_of_lt h]
theorem par_ones : ∀ m n : Nat, n ≤ m → parN m (ones n) = decide (n % 2 = 1)
  | m, 0, _ => by
    show parN m 0 = _
    rw [parN_zero]
    rfl
  | m, n + 1, h => by
    have e : ones (n + 1) = ones n ^^^ 2 ^ n := by
      apply Nat.eq_of_testBit_eq
      intro j
      rw [Nat.testBit_xor, Nat.testBit_two_pow_sub_one, Nat.testBit_two_pow_sub_one, Nat.testBit_two_pow]
      by_cases h1 : j < n
      · rw [decide_eq_true (by omega : j < n + 1), decide_eq_true h1, decide_eq_false (by omega : ¬ n = j)]
        rfl
      · by_cases h2 : n = j
        · rw [decide_eq_true (by omega : j < n + 1), decide_eq_false h1, decide_eq_true h2]
          rfl
        · rw [decide_eq_false (by omega : ¬ j < n + 1), decide_eq_false h1, decide_eq_false h2]
          rfl
    rw [e, parN_xor, par_ones m n (by omega), parN_pow, decide_eq_true (by omega : n < m)]
    by_cases h1 : n % 2 = 1
    · rw [decide_eq_true h1, decide_eq_false (by omega : ¬ (n + 1) % 2 = 1)]
      rfl
    · rw [decide_eq_false h1, decide_eq_true (by omega : (n + 1) % 2 = 1)]
      rfl
theorem dot_ones_ones {n : Nat} (h : n % 2 = 0) (hn : n ≤ 24) : dot (ones n) (ones n) = false := by
  rw [dot_self]
  exact (par_ones 24 n hn).trans (decide_eq_false (by omega))

/-! ### sums of single places -/
theorem add_pow : ∀ (e x : Nat), x.testBit e = false → x + 2 ^ e = x ^^^ 2 ^ e
  | 0, x, h => by
    have h2 : x % 2 = 0 := by
      rw [Nat.testBit_zero] at h
      have := of_decide_eq_false h
      omega
    apply Nat.eq_of_testBit_eq
    intro j
    cases j with
    | zero =>
      rw [Nat.testBit_xor, Nat.testBit_zero, Nat.testBit_zero]
      have : (x + 2 ^ 0) % 2 = 1 := by omega
      rw [decide_eq_true this, decide_eq_false (by omega : ¬ x % 2 = 1)]
      rfl
    | succ j =>
      rw [Nat.testBit_succ, Nat.testBit_xor, Nat.testBit_succ, Nat.testBit_succ]
      have e1 : (x + 2 ^ 0) / 2 = x / 2 := by omega
      rw [e1]
      simp
  | e + 1, x, h => by
    have ih := add_pow e (x / 2) (by rw [← Nat.testBit_succ]; exact h)
    have p : 2 ^ (e + 1) = 2 * 2 ^ e := by rw [Nat.pow_succ, Nat.mul_comm]
    apply Nat.eq_of_testBit_eq
    intro j
    cases j with
    | zero =>
      rw [Nat.testBit_xor, Nat.testBit_zero, Nat.testBit_zero, Nat.testBit_zero, p]
      have e1 : (x + 2 * 2 ^ e) % 2 = x % 2 := by omega
      have e2 : (2 * 2 ^ e) % 2 = 0 := by omega
      rw [e1, e2]
      simp
    | succ j =>
      rw [Nat.testBit_succ, Nat.testBit_xor, Nat.testBit_succ, Nat.testBit_succ, p]
      have e1 : (x + 2 * 2 ^ e) / 2 = x / 2 + 2 ^ e := by omega
      have e2 : (2 * 2 ^ e) / 2 = 2 ^ e := by omega
      rw [e1, e2, ih, Nat.testBit_xor]
/-- the word with just these places on -/
def setW (es : List Nat) : Nat := (es.map fun e => 2 ^ e).sum
theorem setW_bit : ∀ {es : List Nat}, es.Nodup → ∀ j, (setW es).testBit j = decide (j ∈ es)
  | [], _, j => by
    show (0 : Nat).testBit j = _
    rw [Nat.zero_testBit]
    simp
  | e :: es, h, j => by
    obtain ⟨h1, h2⟩ := List.nodup_cons.mp h
    have ih := setW_bit h2
    have off : (setW es).testBit e = false := by
      rw [ih e]
      exact decide_eq_false h1
    show (2 ^ e + setW es).testBit j = _
    rw [Nat.add_comm, add_pow e _ off, Nat.testBit_xor, ih j, Nat.testBit_two_pow]
    by_cases hj : e = j
    · subst hj
      rw [decide_eq_false h1]
      simp
    · rw [decide_eq_false hj, Bool.xor_false]
      have : (j ∈ e :: es) ↔ j ∈ es := by
        rw [List.mem_cons]
        exact ⟨fun z => z.elim (fun z => absurd z.symm hj) id, .inr⟩
      by_cases hm : j ∈ es
      · rw [decide_eq_true hm, decide_eq_true (this.mpr hm)]
      · rw [decide_eq_false hm, decide_eq_false (fun z => hm (this.mp z))]

/-! ### the contrary -/
/-- the places that are no basis word's highest -/
def freeP (n : Nat) (B : List Nat) : List Nat := (List.range n).filter fun p => decide (p ∉ B.map hi)
/-- the places of the contrary's word by p -/
def ctrE (B : List Nat) (p : Nat) : List Nat := (B.filter fun b => b.testBit p).map hi
def ctrW (B : List Nat) (p : Nat) : Nat := setW (ctrE B p) + 2 ^ p
def ctrGen (n : Nat) (B : List Nat) : List Nat := (freeP n B).map (ctrW B)
/-- contrary_basis -/
def ctr (n : Nat) (B : List Nat) : List Nat := plainOf (ctrGen n B)
theorem Rd.hi_nodup {B : List Nat} (h : Rd B) : (B.map hi).Nodup := by
  rw [List.Nodup, List.pairwise_map]
  refine List.Pairwise.imp_of_mem ?_ h.2
  rintro b c hb hc ⟨h1, h2⟩ e
  rw [← e, hi_on (h.1 b hb)] at h1
  cases h1
theorem mem_freeP {n p : Nat} {B : List Nat} : p ∈ freeP n B ↔ p < n ∧ p ∉ B.map hi := by
  unfold freeP
  rw [List.mem_filter, List.mem_range, decide_eq_true_eq]
theorem ctrE_nodup {B : List Nat} (h : Rd B) (p : Nat) : (ctrE B p).Nodup := by
  refine List.Nodup.sublist ?_ h.hi_nodup
  exact List.Sublist.map _ List.filter_sublist
theorem mem_ctrE {B : List Nat} {p j : Nat} : j ∈ ctrE B p ↔ ∃ b ∈ B, b.testBit p = true ∧ hi b = j := by
  unfold ctrE
  rw [List.mem_map]
  constructor
  · rintro ⟨b, hb, e⟩
    obtain ⟨h1, h2⟩ := List.mem_filter.mp hb
    exact ⟨b, h1, h2, e⟩
  · rintro ⟨b, h1, h2, e⟩
    exact ⟨b, List.mem_filter.mpr ⟨h1, h2⟩, e⟩
theorem ctrW_bit {B : List Nat} (h : Rd B) {p : Nat} (hp : p ∉ B.map hi) (j : Nat) : (ctrW B p).testBit j = decide (j = p ∨ j ∈ ctrE B p) := by
  have nin : p ∉ ctrE B p := fun z => by
    obtain ⟨b, hb, _, e⟩ := mem_ctrE.mp z
    exact hp (List.mem_map.mpr ⟨b, hb, e⟩)
  have off : (setW (ctrE B p)).testBit p = false := by
    rw [setW_bit (ctrE_nodup h p)]
    exact decide_eq_false nin
  unfold ctrW
  rw [add_pow _ _ off, Nat.testBit_xor, setW_bit (ctrE_nodup h p), Nat.testBit_two_pow]
  by_cases hj : p = j
  · subst hj
    rw [decide_eq_false nin]
    simp
  · by_cases hm : j ∈ ctrE B p
    · rw [decide_eq_true hm, decide_eq_false hj, decide_eq_true (.inr hm)]
      rfl
    · rw [decide_eq_false hm, decide_eq_false hj, decide_eq_false (fun z => z.elim (fun z => hj z.symm) hm)]
      rfl
theorem ctrW_lt {n : Nat} {B : List Nat} (h : Rd B) (hl : ∀ b ∈ B, b < 2 ^ n) {p : Nat} (hp : p ∈ freeP n B) : ctrW B p < 2 ^ n := by
  obtain ⟨h1, h2⟩ := mem_freeP.mp hp
  apply Nat.lt_pow_two_of_testBit
  intro j hj
  rw [ctrW_bit h h2]
  refine decide_eq_false fun z => ?_
  rcases z with z | z
  · omega
  · obtain ⟨b, hb, _, e⟩ := mem_ctrE.mp z
    have : hi b < n := (Nat.log2_lt (h.1 b hb)).mpr (hl b hb)
    omega
def ctrL (n : Nat) (B : List Nat) : List (Nat × Nat) := (freeP n B).map fun p => (p, ctrW B p)
theorem ctrL_snd (n : Nat) (B : List Nat) : (ctrL n B).map (·.2) = ctrGen n B := by
  unfold ctrL ctrGen
  rw [List.map_map]
  rfl
theorem freeP_nodup (n : Nat) (B : List Nat) : (freeP n B).Nodup := List.Nodup.sublist List.filter_sublist List.nodup_range
theorem ctrL_piv {n : Nat} {B : List Nat} (h : Rd B) : Piv (ctrL n B) := by
  refine ⟨fun x hx => ?_, ?_⟩
  · obtain ⟨p, hp, rfl⟩ := List.mem_map.mp hx
    show (ctrW B p).testBit p = true
    rw [ctrW_bit h (mem_freeP.mp hp).2]
    exact decide_eq_true (.inl rfl)
  · unfold ctrL
    rw [List.pairwise_map]
    refine List.Pairwise.imp_of_mem ?_ (freeP_nodup n B)
    intro p q hp hq ne
    have hp2 := (mem_freeP.mp hp).2
    have hq2 := (mem_freeP.mp hq).2
    have key : ∀ x y : Nat, x ∉ B.map hi → y ∉ B.map hi → x ≠ y → (ctrW B x).testBit y = false := fun x y hx hy ne => by
      rw [ctrW_bit h hx]
      refine decide_eq_false fun z => z.elim (fun z => ne z.symm) fun z => ?_
      obtain ⟨b, hb, _, e⟩ := mem_ctrE.mp z
      exact hy (List.mem_map.mpr ⟨b, hb, e⟩)
    exact ⟨key p q hp2 hq2 ne, key q p hq2 hp2 (Ne.symm ne)⟩
theorem ctrW_dot {n : Nat} {B : List Nat} (h : Rd B) (hl : ∀ b ∈ B, b < 2 ^ n) (hn : n ≤ 24) {p : Nat} (hp : p ∈ freeP n B) {b : Nat} (hb : b ∈ B) : dot (ctrW B p) b = false := by
  obtain ⟨h1, h2⟩ := mem_freeP.mp hp
  have hh : hi b < 24 := Nat.lt_of_lt_of_le ((Nat.log2_lt (h.1 b hb)).mpr (hl b hb)) hn
  have ne : p ≠ hi b := fun e => h2 (List.mem_map.mpr ⟨b, hb, e.symm⟩)
  have bits : ∀ j, (ctrW B p &&& b).testBit j = if b.testBit p then (2 ^ p ^^^ 2 ^ hi b).testBit j else false := fun j => by
    rw [Nat.testBit_and, ctrW_bit h h2]
    cases e : b.testBit p with
    | false =>
      rw [if_neg Bool.false_ne_true]
      by_cases hj : j = p
      · rw [hj, e, Bool.and_false]
      · by_cases hm : j ∈ ctrE B p
        · obtain ⟨c, hc, hcp, rfl⟩ := mem_ctrE.mp hm
          have ncb : b ≠ c := fun z => by
            rw [← z, e] at hcp
            cases hcp
          rw [h.pair hb hc ncb, Bool.and_false]
        · rw [decide_eq_false (fun z => z.elim hj hm), Bool.false_and]
    | true =>
      rw [if_pos rfl, Nat.testBit_xor, Nat.testBit_two_pow, Nat.testBit_two_pow]
      by_cases hj : j = p
      · subst hj
        rw [decide_eq_true (.inl rfl), e, decide_eq_true rfl, decide_eq_false (Ne.symm ne)]
        rfl
      · rw [decide_eq_false (Ne.symm hj)]
        by_cases hjb : hi b = j
        · rw [decide_eq_true hjb, decide_eq_true (.inr (mem_ctrE.mpr ⟨b, hb, e, hjb⟩)), ← hjb, hi_on (h.1 b hb)]
          rfl
        · rw [decide_eq_false hjb]
          by_cases hm : j ∈ ctrE B p
          · obtain ⟨c, hc, hcp, rfl⟩ := mem_ctrE.mp hm
            have ncb : b ≠ c := fun z => hjb (by rw [z])
            rw [h.pair hb hc ncb, Bool.and_false]
            rfl
          · rw [decide_eq_false (fun z => z.elim hj hm), Bool.false_and]
            rfl
  unfold dot
  cases e : b.testBit p with
  | false =>
    have z : ctrW B p &&& b = 0 := Nat.eq_of_testBit_eq fun j => by rw [bits, e, if_neg Bool.false_ne_true, Nat.zero_testBit]
    rw [z]
    exact parN_zero 24
  | true =>
    have z : ctrW B p &&& b = 2 ^ p ^^^ 2 ^ hi b := Nat.eq_of_testBit_eq fun j => by rw [bits, e, if_pos rfl]
    rw [z]
    show parN 24 _ = false
    rw [parN_xor, parN_pow, parN_pow, decide_eq_true (by omega : p < 24), decide_eq_true hh]
    rfl
/-- the contrary: all words even to the basis -/
theorem ctr_iff {n : Nat} {B : List Nat} (h : Rd B) (hl : ∀ b ∈ B, b < 2 ^ n) (hn : n ≤ 24) {w : Nat} : w ∈ allW (ctr n B) ↔ w < 2 ^ n ∧ ∀ b ∈ B, dot w b = false := by
  have same : w ∈ allW (ctr n B) ↔ w ∈ allW (ctrGen n B) := plainOf_same (ctrGen n B) w
  rw [same]
  constructor
  · intro hw
    refine ⟨allW_lt (fun b hb => ?_) hw, fun b hb => ?_⟩
    · obtain ⟨p, hp, rfl⟩ := List.mem_map.mp hb
      exact ctrW_lt h hl hp
    · rw [dot_comm]
      refine dot_all (fun v hv => ?_) hw
      obtain ⟨p, hp, rfl⟩ := List.mem_map.mp hv
      rw [dot_comm]
      exact ctrW_dot h hl hn hp hb
  · rintro ⟨hw, hd⟩
    have hm := redP_mem (ctrL n B) w
    rw [ctrL_snd] at hm
    have hmlt : w ^^^ redP (ctrL n B) w < 2 ^ n := allW_lt (fun b hb => by
      obtain ⟨p, hp, rfl⟩ := List.mem_map.mp hb
      exact ctrW_lt h hl hp) hm
    have hrlt : redP (ctrL n B) w < 2 ^ n := by
      have := Nat.xor_lt_two_pow hmlt hw
      rw [xor_swap, Nat.xor_self, Nat.zero_xor] at this
      exact this
    have hrd : ∀ b ∈ B, dot (redP (ctrL n B) w) b = false := fun b hb => by
      have e1 : dot (w ^^^ redP (ctrL n B) w) b = false := by
        rw [dot_comm]
        refine dot_all (fun v hv => ?_) hm
        obtain ⟨p, hp, rfl⟩ := List.mem_map.mp hv
        rw [dot_comm]
        exact ctrW_dot h hl hn hp hb
      rw [dot_xor, hd b hb, Bool.false_xor] at e1
      exact e1
    have off : ∀ p ∈ freeP n B, (redP (ctrL n B) w).testBit p = false := fun p hp => redP_off (ctrL_piv h) w (p, ctrW B p) (List.mem_map.mpr ⟨p, hp, rfl⟩)
    have z : redP (ctrL n B) w = 0 := by
      generalize redP (ctrL n B) w = r at hrlt hrd off
      have inH : ∀ j, r.testBit j = true → ∃ c ∈ B, hi c = j := fun j hj => by
        have jn : j < n := by
          apply Classical.byContradiction
          intro hge
          rw [Nat.testBit_lt_two_pow (Nat.lt_of_lt_of_le hrlt (Nat.pow_le_pow_right (by decide) (by omega : n ≤ j)))] at hj
          cases hj
        apply Classical.byContradiction
        intro hne
        have := off j (mem_freeP.mpr ⟨jn, fun z => by
          obtain ⟨c, hc, e⟩ := List.mem_map.mp z
          exact hne ⟨c, hc, e⟩⟩)
        rw [hj] at this
        cases this
      apply Nat.eq_of_testBit_eq
      intro j
      rw [Nat.zero_testBit]
      cases hj : r.testBit j with
      | false => rfl
      | true =>
        exfalso
        obtain ⟨c, hc, e⟩ := inH j hj
        have ec : r &&& c = 2 ^ hi c := by
          apply Nat.eq_of_testBit_eq
          intro i
          rw [Nat.testBit_and, Nat.testBit_two_pow]
          by_cases hi' : hi c = i
          · rw [← hi', e, hj, ← e, hi_on (h.1 c hc), decide_eq_true rfl]
            rfl
          · rw [decide_eq_false hi']
            cases hri : r.testBit i with
            | false => rfl
            | true =>
              obtain ⟨d, hd', ed⟩ := inH i hri
              have : c ≠ d := fun z => hi' (by rw [z, ed])
              rw [← ed, h.pair hc hd' this]
              rfl
        have hh : hi c < 24 := Nat.lt_of_lt_of_le ((Nat.log2_lt (h.1 c hc)).mpr (hl c hc)) hn
        have := hrd c hc
        unfold dot at this
        rw [ec] at this
        have e3 : parN 24 (2 ^ hi c) = false := this
        rw [parN_pow, decide_eq_true hh] at e3
        cases e3
    rw [z, Nat.xor_zero] at hm
    exact hm
theorem freeP_len {n : Nat} {B : List Nat} (h : Rd B) (hl : ∀ b ∈ B, b < 2 ^ n) : (freeP n B).length + B.length = n := by
  have e1 : ((List.range n).filter fun p => decide (p ∈ B.map hi)).length = B.length := by
    have : ((List.range n).filter fun p => decide (p ∈ B.map hi)).length = (B.map hi).length := nodup_len (List.Nodup.sublist List.filter_sublist List.nodup_range) h.hi_nodup fun x => by
      rw [List.mem_filter, List.mem_range, decide_eq_true_eq]
      refine ⟨fun z => z.2, fun z => ⟨?_, z⟩⟩
      obtain ⟨b, hb, rfl⟩ := List.mem_map.mp z
      exact (Nat.log2_lt (h.1 b hb)).mpr (hl b hb)
    rw [this, List.length_map]
  have e2 := List.length_eq_countP_add_countP (fun p => decide (p ∈ B.map hi)) (l := List.range n)
  rw [List.length_range, List.countP_eq_length_filter, List.countP_eq_length_filter, e1] at e2
  have e3 : (freeP n B) = (List.range n).filter fun a => decide ¬ (decide (a ∈ B.map hi) = true) := by
    unfold freeP
    refine List.filter_congr fun x _ => ?_
    by_cases hx : x ∈ B.map hi
    · simp [hx]
    · simp [hx]
  rw [e3]
  omega
theorem ctr_plain (n : Nat) (B : List Nat) : Plain (ctr n B) := plainOf_plain _
theorem ctr_len {n : Nat} {B : List Nat} (h : Rd B) (hl : ∀ b ∈ B, b < 2 ^ n) : (ctr n B).length + B.length = n := by
  have i1 : Ind (ctrGen n B) := by
    have := (ctrL_piv (n := n) h).ind
    rw [ctrL_snd] at this
    exact this
  have e : (ctr n B).length = (ctrGen n B).length := (ctr_plain n B).1.ind.len i1 (plainOf_same _)
  have := freeP_len h hl
  unfold ctrGen at e
  rw [List.length_map] at e
  omega

/-! ### classes -/
def clsStep (sh : List Nat × List Nat) (w : Nat) : List Nat × List Nat := if red sh.2 w = 0 then sh else (sh.1 ++ [w], extB sh.2 w)
/-- one word of a basis of the classes -/
def cls (n : Nat) (B : List Nat) : List Nat := ((ctr n B).foldl clsStep ([], B)).1
/-- class_words -/
def classW (n : Nat) (B : List Nat) : List Nat := (allW (cls n B)).tail
structure ClsInv (B : List Nat) (sh : List Nat × List Nat) : Prop where
  plain : Plain sh.2
  same : SameW sh.2 (sh.1.reverse ++ B)
  ind : Ind (sh.1.reverse ++ B)
theorem cls_inv {B : List Nat} : ∀ (ws : List Nat) (sh : List Nat × List Nat), ClsInv B sh → ClsInv B (ws.foldl clsStep sh) ∧ (∀ w, w ∈ allW sh.2 → w ∈ allW (ws.foldl clsStep sh).2) ∧ (∀ w ∈ ws, w ∈ allW (ws.foldl clsStep sh).2) ∧ (∀ w ∈ (ws.foldl clsStep sh).1, w ∈ sh.1 ∨ w ∈ ws)
  | [], sh, h => ⟨h, fun _ z => z, (fun _ z => nomatch z), fun _ z => Or.inl z⟩
  | w :: ws, sh, h => by
    rw [List.foldl_cons]
    by_cases hz : red sh.2 w = 0
    · have e : clsStep sh w = sh := if_pos hz
      rw [e]
      obtain ⟨a, b, c, d⟩ := cls_inv ws sh h
      refine ⟨a, b, fun v hv => ?_, fun v hv => (d v hv).imp id (List.mem_cons_of_mem _)⟩
      rcases List.mem_cons.mp hv with rfl | hv
      · exact b _ ((red_iff h.plain.1).mp hz)
      · exact c v hv
    · have e : clsStep sh w = (sh.1 ++ [w], extB sh.2 w) := if_neg hz
      have hw : w ∉ allW sh.2 := fun z => hz ((red_iff h.plain.1).mpr z)
      have er : (sh.1 ++ [w]).reverse ++ B = w :: (sh.1.reverse ++ B) := by
        rw [List.reverse_append]
        rfl
      have s1 : SameW (extB sh.2 w) (w :: (sh.1.reverse ++ B)) := (extB_same h.plain.1 w).trans (.of (fun x hx => by
        rcases List.mem_cons.mp hx with rfl | hx
        · exact gen_mem List.mem_cons_self
        · exact allW_mono (fun c hc => List.mem_cons_of_mem _ hc) ((h.same x).mp (gen_mem hx))) fun x hx => by
        rcases List.mem_cons.mp hx with rfl | hx
        · exact gen_mem List.mem_cons_self
        · exact allW_mono (fun c hc => List.mem_cons_of_mem _ hc) ((h.same x).mpr (gen_mem hx)))
      have h' : ClsInv B (sh.1 ++ [w], extB sh.2 w) := ⟨extB_plain h.plain w, by show SameW (extB sh.2 w) ((sh.1 ++ [w]).reverse ++ B); rw [er]; exact s1, by
        show Ind ((sh.1 ++ [w]).reverse ++ B)
        rw [er]
        exact ⟨fun z => hw ((h.same w).mpr z), h.ind⟩⟩
      rw [e]
      obtain ⟨a, b, c, d⟩ := cls_inv ws (sh.1 ++ [w], extB sh.2 w) h'
      have up : ∀ v, v ∈ allW sh.2 → v ∈ allW (extB sh.2 w) := fun v hv => (extB_same h.plain.1 w v).mpr (allW_mono (fun c hc => List.mem_cons_of_mem _ hc) hv)
      refine ⟨a, fun v hv => b v (up v hv), fun v hv => ?_, fun v hv => ?_⟩
      · rcases List.mem_cons.mp hv with rfl | hv
        · exact b _ ((extB_same h.plain.1 v v).mpr (gen_mem List.mem_cons_self))
        · exact c v hv
      · rcases d v hv with hv | hv
        · rcases List.mem_append.mp hv with hv | hv
          · exact .inl hv
          · rw [List.mem_singleton.mp hv]
            exact .inr List.mem_cons_self
        · exact .inr (List.mem_cons_of_mem _ hv)

/-- what the rooms here are: plain, still, of n places (an even number), with the word of all places -/
structure Base (n : Nat) (B : List Nat) : Prop where
  plain : Plain B
  still : Still B
  lt : ∀ b ∈ B, b < 2 ^ n
  all : ones n ∈ allW B
  ev : n % 2 = 0
  le : n ≤ 24
theorem Base.ctr_self {n : Nat} {B : List Nat} (h : Base n B) {w : Nat} (hw : w < 2 ^ n) (hd : ∀ b ∈ B, dot w b = false) : dot w w = false := by
  rw [dot_self, ← dot_ones hw]
  exact dot_all hd h.all
theorem cls_facts {n : Nat} {B : List Nat} (h : Base n B) :
    Ind ((cls n B).reverse ++ B) ∧ SameW ((cls n B).reverse ++ B) (ctr n B) ∧ 2 * B.length + (cls n B).length = n := by
  obtain ⟨a, b, c, d⟩ := cls_inv (B := B) (ctr n B) ([], B) ⟨h.plain, SameW.refl B, h.plain.1.ind⟩
  have s1 : SameW ((cls n B).reverse ++ B) ((ctr n B).foldl clsStep ([], B)).2 := a.same.symm
  have s2 : SameW ((ctr n B).foldl clsStep ([], B)).2 (ctr n B) := by
    refine .of (fun x hx => ?_) c
    have := (a.same x).mp (gen_mem hx)
    refine allW_sub (fun y hy => ?_) this
    rcases List.mem_append.mp hy with hy | hy
    · rcases d y (List.mem_reverse.mp hy) with z | z
      · cases z
      · exact gen_mem z
    · exact (ctr_iff h.plain.1 h.lt h.le).mpr ⟨h.lt y hy, fun b hb => h.still y hy b hb⟩
  refine ⟨a.ind, s1.trans s2, ?_⟩
  have e := Ind.len a.ind (ctr_plain n B).1.ind (s1.trans s2)
  have e2 := ctr_len h.plain.1 h.lt
  rw [List.length_append, List.length_reverse] at e
  show 2 * B.length + ((ctr n B).foldl clsStep ([], B)).1.length = n
  omega
theorem allW_head : ∀ bs, ∃ t, allW bs = 0 :: t
  | [] => ⟨[], rfl⟩
  | b :: bs => by
    obtain ⟨t, e⟩ := allW_head bs
    exact ⟨t ++ (allW bs).map (fun w => w ^^^ b), by show allW bs ++ _ = _; rw [e]; rfl⟩
theorem Ind.right : ∀ {as bs : List Nat}, Ind (as ++ bs) → Ind bs
  | [], _, h => h
  | _ :: _, _, h => Ind.right h.2
theorem Ind.left : ∀ {as bs : List Nat}, Ind (as ++ bs) → Ind as
  | [], _, _ => trivial
  | a :: as, bs, h => ⟨fun z => h.1 (allW_mono (fun c hc => List.mem_append_left _ hc) z), Ind.left h.2⟩
theorem nodup_of_len {l m : List Nat} (hl : l.Nodup) (h : ∀ x ∈ l, x ∈ m) (hlen : m.length ≤ l.length) : m.Nodup := by
  induction m generalizing l with
  | nil => exact .nil
  | cons y m ih =>
    have hy : y ∈ l := nodup_eq_of_len hl h hlen y List.mem_cons_self
    have hle : l.length ≤ (y :: m).length := nodup_sub_len hl h
    have hm : y ∉ m := fun z => by
      have := nodup_sub_len hl (m := m) (fun x hx => by
        rcases List.mem_cons.mp (h x hx) with rfl | q
        · exact z
        · exact q)
      rw [List.length_cons] at hlen
      omega
    refine List.nodup_cons.mpr ⟨hm, ih (l := l.erase y) (hl.erase y) (fun x hx => ?_) ?_⟩
    · have hx' := List.mem_of_mem_erase hx
      have hne : x ≠ y := fun e => by
        rw [e] at hx
        exact (List.Nodup.not_mem_erase hl) hx
      exact (List.mem_cons.mp (h x hx')).resolve_left hne
    · rw [List.length_erase_of_mem hy]
      rw [List.length_cons] at hlen
      omega
theorem allW_perm_of {as bs : List Nat} (h : Ind as) (p : bs.Perm as) : (allW bs).Perm (allW as) := by
  have s : SameW bs as := SameW.perm p
  have nb : (allW bs).Nodup := nodup_of_len h.nodup (fun x hx => (s x).mpr hx) (by rw [allW_len, allW_len, p.length_eq]; exact Nat.le_refl _)
  exact (List.perm_ext_iff_of_nodup nb h.nodup).mpr s
theorem cls_perm {n : Nat} {B : List Nat} (h : Base n B) : (allW (cls n B)).Perm (allW (cls n B).reverse) :=
  allW_perm_of (cls_facts h).1.left (List.reverse_perm _).symm
theorem cls_nodup {n : Nat} {B : List Nat} (h : Base n B) : (allW (cls n B)).Nodup := (cls_perm h).nodup_iff.mpr (cls_facts h).1.left.nodup
theorem mem_classW {n : Nat} {B : List Nat} (h : Base n B) {w : Nat} : w ∈ classW n B ↔ w ∈ allW (cls n B) ∧ w ≠ 0 := by
  obtain ⟨t, e⟩ := allW_head (cls n B)
  have nd := cls_nodup h
  unfold classW
  rw [e] at nd ⊢
  show w ∈ t ↔ _
  obtain ⟨h1, _⟩ := List.nodup_cons.mp nd
  rw [List.mem_cons]
  constructor
  · exact fun z => ⟨.inr z, fun e => h1 (e ▸ z)⟩
  · rintro ⟨z | z, ne⟩
    · exact absurd z ne
    · exact z
theorem classW_len (n : Nat) (B : List Nat) : (classW n B).length = 2 ^ (cls n B).length - 1 := by
  unfold classW
  rw [List.length_tail, allW_len]
/-- a class word lies in the contrary, and not in the room -/
theorem classW_out {n : Nat} {B : List Nat} (h : Base n B) {w : Nat} (hw : w ∈ classW n B) : w < 2 ^ n ∧ (∀ b ∈ B, dot w b = false) ∧ w ∉ allW B := by
  obtain ⟨h1, h2, h3⟩ := cls_facts h
  obtain ⟨m1, m2⟩ := (mem_classW h).mp hw
  have m3 : w ∈ allW (cls n B).reverse := (SameW.perm (List.reverse_perm _) w).mpr m1
  have m4 : w ∈ allW (ctr n B) := (h2 w).mp (allW_mono (fun c hc => List.mem_append_left _ hc) m3)
  obtain ⟨a, b⟩ := (ctr_iff h.plain.1 h.lt h.le).mp m4
  refine ⟨a, b, fun hB => ?_⟩
  have key : ∀ (as : List Nat), Ind (as ++ B) → ∀ w, w ∈ allW as → w ∈ allW B → w = 0 := by
    intro as
    induction as with
    | nil =>
      intro _ w hw _
      exact List.mem_singleton.mp hw
    | cons c as ih =>
      intro hi w hw hwB
      rcases mem_allW_cons.mp hw with hw | hw
      · exact ih hi.2 w hw hwB
      · exfalso
        apply hi.1
        have z1 : w ^^^ c ∈ allW (as ++ B) := allW_mono (fun c hc => List.mem_append_left _ hc) hw
        have z2 : w ∈ allW (as ++ B) := allW_mono (fun c hc => List.mem_append_right _ hc) hwB
        have := xor_mem z1 z2
        rw [xor_swap, Nat.xor_self, Nat.zero_xor] at this
        exact this
  exact m2 (key _ h1 w m3 hB)

/-! ### levels -/
/-- C is a still room over B with s dimensions more -/
structure Lev (n : Nat) (B : List Nat) (s : Nat) (C : List Nat) : Prop where
  plain : Plain C
  still : Still C
  lt : ∀ c ∈ C, c < 2 ^ n
  sub : ∀ b ∈ B, b ∈ allW C
  len : C.length = B.length + s
theorem Base.ext {n : Nat} {B C : List Nat} {s : Nat} (h : Base n B) (c : Lev n B s C) : Base n C := ⟨c.plain, c.still, c.lt, allW_sub c.sub h.all, h.ev, h.le⟩
theorem Lev.zero {n : Nat} {B C : List Nat} (h : Base n B) : Lev n B 0 C ↔ C = B := by
  constructor
  · intro c
    have := Ind.same h.plain.1.ind c.sub (by rw [c.len]; exact Nat.le_refl _)
    exact (h.plain.unique c.plain this).symm
  · rintro rfl
    exact ⟨h.plain, h.still, h.lt, fun b hb => gen_mem hb, rfl⟩
theorem lev_ext {n : Nat} {B : List Nat} (h : Base n B) {w : Nat} (hw : w < 2 ^ n) (hd : ∀ b ∈ B, dot w b = false) (ho : w ∉ allW B) : Lev n B 1 (extB B w) := by
  have s := extB_same h.plain.1 w
  exact ⟨extB_plain h.plain w, (h.still.cons hd (h.ctr_self hw hd)).same s, extB_lt h.plain.1 h.lt hw, fun b hb => (s b).mpr (gen_mem (List.mem_cons_of_mem _ hb)), extB_len h.plain.1 ho⟩
theorem ext_eq {n : Nat} {B E : List Nat} (h : Base n B) (e : Lev n B 1 E) {u : Nat} (hu : u ∈ allW E) (ho : u ∉ allW B) : extB B u = E := by
  refine extB_of h.plain e.plain ?_
  have i : Ind (u :: B) := ⟨ho, h.plain.1.ind⟩
  refine (Ind.same i (fun b hb => ?_) ?_).symm
  · rcases List.mem_cons.mp hb with rfl | hb
    · exact hu
    · exact e.sub b hb
  · rw [e.len]
    exact Nat.le_refl _
/-- each class of the contrary: the room's words and one more -/
theorem lev_one {n : Nat} {B : List Nat} (h : Base n B) {E : List Nat} : Lev n B 1 E ↔ ∃ w ∈ classW n B, extB B w = E := by
  constructor
  · intro e
    have : ∃ x ∈ E, x ∉ allW B := by
      apply Classical.byContradiction
      intro hne
      have hin : ∀ x ∈ E, x ∈ allW B := fun x hx => Classical.byContradiction fun z => hne ⟨x, hx, z⟩
      have := Ind.len_le e.plain.1.ind hin
      rw [e.len] at this
      omega
    obtain ⟨x, hx, ho⟩ := this
    obtain ⟨h1, h2, h3⟩ := cls_facts h
    have hc : x ∈ allW (ctr n B) := (ctr_iff h.plain.1 h.lt h.le).mpr ⟨e.lt x hx, fun b hb => e.still.all (gen_mem hx) (e.sub b hb)⟩
    obtain ⟨u, v, hu, hv, exv⟩ := mem_append_W ((h2 x).mpr hc)
    have hu0 : u ≠ 0 := by
      rintro rfl
      rw [Nat.zero_xor] at exv
      exact ho (exv ▸ hv)
    have hu' : u ∈ allW (cls n B) := (SameW.perm (List.reverse_perm _) u).mp hu
    have hw : u ∈ classW n B := (mem_classW h).mpr ⟨hu', hu0⟩
    have huE : u ∈ allW E := by
      have := xor_mem (gen_mem hx) (allW_sub e.sub hv)
      rw [exv, xor_cancel] at this
      exact this
    exact ⟨u, hw, ext_eq h e huE (classW_out h hw).2.2⟩
  · rintro ⟨w, hw, rfl⟩
    obtain ⟨a, b, c⟩ := classW_out h hw
    exact lev_ext h a b c
/-- all words of the contrary but those of the room (the law's own walk) -/
theorem lev_one' {n : Nat} {B : List Nat} (h : Base n B) {E : List Nat} : Lev n B 1 E ↔ ∃ w, w < 2 ^ n ∧ (∀ b ∈ B, dot w b = false) ∧ w ∉ allW B ∧ extB B w = E := by
  constructor
  · intro e
    obtain ⟨w, hw, he⟩ := (lev_one h).mp e
    obtain ⟨a, b, c⟩ := classW_out h hw
    exact ⟨w, a, b, c, he⟩
  · rintro ⟨w, a, b, c, rfl⟩
    exact lev_ext h a b c
theorem between {n : Nat} {B E : List Nat} (h : Base n B) {s : Nat} (e : Lev n B s E) : ∀ t, t ≤ s → ∃ D, Lev n B t D ∧ ∀ d ∈ D, d ∈ allW E
  | 0, _ => ⟨B, (Lev.zero h).mpr rfl, e.sub⟩
  | t + 1, ht => by
    obtain ⟨D, d, hD⟩ := between h e t (by omega)
    have : ∃ x ∈ E, x ∉ allW D := by
      apply Classical.byContradiction
      intro hne
      have hin : ∀ x ∈ E, x ∈ allW D := fun x hx => Classical.byContradiction fun z => hne ⟨x, hx, z⟩
      have := Ind.len_le e.plain.1.ind hin
      rw [e.len, d.len] at this
      omega
    obtain ⟨x, hx, ho⟩ := this
    have s1 := extB_same d.plain.1 x
    have sub : ∀ y ∈ extB D x, y ∈ allW E := fun y hy => by
      refine allW_sub (fun z hz => ?_) ((s1 y).mp (gen_mem hy))
      rcases List.mem_cons.mp hz with rfl | hz
      · exact gen_mem hx
      · exact hD z hz
    refine ⟨extB D x, ⟨extB_plain d.plain x, e.still.within sub, fun c hc => allW_lt e.lt (sub c hc), fun b hb => ?_, ?_⟩, sub⟩
    · exact (s1 b).mpr (allW_mono (fun c hc => List.mem_cons_of_mem _ hc) (d.sub b hb))
    · rw [extB_len d.plain.1 ho, d.len]
      omega
theorem Lev.trans {n : Nat} {B D E : List Nat} {s t : Nat} (d : Lev n B s D) (e : Lev n D t E) : Lev n B (s + t) E :=
  ⟨e.plain, e.still, e.lt, fun b hb => allW_sub e.sub (d.sub b hb), by rw [e.len, d.len]; omega⟩
theorem lev_succ {n : Nat} {B : List Nat} (h : Base n B) {s : Nat} {E : List Nat} : Lev n B (s + 1) E ↔ ∃ D, Lev n B s D ∧ Lev n D 1 E := by
  constructor
  · intro e
    obtain ⟨D, d, hD⟩ := between h e s (by omega)
    exact ⟨D, d, ⟨e.plain, e.still, e.lt, hD, by rw [e.len, d.len]; omega⟩⟩
  · rintro ⟨D, d, e⟩
    exact d.trans e

/-! ### how many -/
/-- fill_number -/
def fillN : Nat → Nat
  | 0 => 1
  | m + 1 => fillN m * (2 ^ (m + 1) + 1)
theorem count_coset {B : List Nat} {P : Nat → Bool} (hP : ∀ w v, v ∈ allW B → P (w ^^^ v) = P w) : ∀ ss : List Nat, (allW (ss ++ B)).countP P = 2 ^ B.length * (allW ss).countP P := by
  have key : ∀ (ss : List Nat) (Q : Nat → Bool), (∀ w v, v ∈ allW B → Q (w ^^^ v) = Q w) → (allW (ss ++ B)).countP Q = 2 ^ B.length * (allW ss).countP Q := by
    intro ss
    induction ss with
    | nil =>
      intro Q hQ
      have e : ∀ v ∈ allW B, Q v = Q 0 := fun v hv => by
        have := hQ 0 v hv
        rw [Nat.zero_xor] at this
        exact this
      show (allW B).countP Q = 2 ^ B.length * [0].countP Q
      cases h0 : Q 0 with
      | true =>
        have : (allW B).countP Q = (allW B).length := List.countP_eq_length.mpr fun v hv => (e v hv).trans h0
        rw [this, allW_len]
        simp [h0]
      | false =>
        have : (allW B).countP Q = 0 := List.countP_eq_zero.mpr fun v hv => by rw [e v hv, h0]; exact Bool.false_ne_true
        rw [this]
        simp [h0]
    | cons s ss ih =>
      intro Q hQ
      show (allW (ss ++ B) ++ (allW (ss ++ B)).map (fun w => w ^^^ s)).countP Q = 2 ^ B.length * (allW ss ++ (allW ss).map (fun w => w ^^^ s)).countP Q
      rw [List.countP_append, List.countP_append, List.countP_map, List.countP_map, ih Q hQ, ih (Q ∘ fun w => w ^^^ s) (fun w v hv => by
        show Q ((w ^^^ v) ^^^ s) = Q (w ^^^ s)
        rw [xor_swap]
        exact hQ _ v hv), Nat.mul_add]
  exact fun ss => key ss P hP
/-- how many class words lie in a room over B -/
theorem count_in {n : Nat} {B C : List Nat} {s : Nat} (h : Base n B) (c : Lev n B s C) : (classW n B).countP (fun w => decide (w ∈ allW C)) = 2 ^ s - 1 := by
  obtain ⟨h1, h2, h3⟩ := cls_facts h
  have inv : ∀ w v, v ∈ allW B → (decide (w ^^^ v ∈ allW C)) = decide (w ∈ allW C) := fun w v hv => by
    have hvC : v ∈ allW C := allW_sub c.sub hv
    by_cases hw : w ∈ allW C
    · rw [decide_eq_true hw, decide_eq_true (xor_mem hw hvC)]
    · rw [decide_eq_false hw, decide_eq_false fun z => hw (by
        have := xor_mem z hvC
        rw [xor_cancel] at this
        exact this)]
  have e1 := count_coset (P := fun w => decide (w ∈ allW C)) inv (cls n B).reverse
  have e2 : (allW ((cls n B).reverse ++ B)).countP (fun w => decide (w ∈ allW C)) = 2 ^ C.length := by
    rw [List.countP_eq_length_filter, ← allW_len C]
    refine nodup_len (List.Nodup.sublist List.filter_sublist h1.nodup) c.plain.1.ind.nodup fun x => ?_
    rw [List.mem_filter, decide_eq_true_eq]
    refine ⟨fun z => z.2, fun z => ⟨(h2 x).mpr ?_, z⟩⟩
    exact (ctr_iff h.plain.1 h.lt h.le).mpr ⟨allW_lt c.lt z, fun b hb => c.still.all z (c.sub b hb)⟩
  rw [e2, c.len, Nat.pow_add] at e1
  have e3 : (allW (cls n B).reverse).countP (fun w => decide (w ∈ allW C)) = 2 ^ s := (Nat.eq_of_mul_eq_mul_left (Nat.two_pow_pos _) e1).symm
  have e4 : (allW (cls n B)).countP (fun w => decide (w ∈ allW C)) = 2 ^ s := ((cls_perm h).countP_eq _).trans e3
  obtain ⟨t, et⟩ := allW_head (cls n B)
  unfold classW
  rw [et] at e4 ⊢
  rw [List.countP_cons, if_pos (decide_eq_true (zero_mem C))] at e4
  show t.countP _ = _
  omega
theorem swap_sum {α β : Type} (P : α → β → Bool) : ∀ (W : List α) (F : List β), (W.map fun w => F.countP (P w)).sum = (F.map fun c => W.countP fun w => P w c).sum
  | [], F => by
    induction F with
    | nil => rfl
    | cons c F ih =>
      rw [List.map_cons, List.sum_cons, ← ih]
      rfl
  | w :: W, F => by
    rw [List.map_cons, List.sum_cons, swap_sum P W F]
    induction F with
    | nil => rfl
    | cons c F ih =>
      rw [List.map_cons, List.map_cons, List.sum_cons, List.sum_cons, List.countP_cons, List.countP_cons, ← ih]
      omega
theorem sum_const {α : Type} (f : α → Nat) (k : Nat) : ∀ {l : List α}, (∀ x ∈ l, f x = k) → (l.map f).sum = l.length * k
  | [], _ => by simp
  | x :: l, h => by
    rw [List.map_cons, List.sum_cons, h x List.mem_cons_self, sum_const f k fun y hy => h y (List.mem_cons_of_mem _ hy), List.length_cons, Nat.add_mul]
    omega
/-- THE COUNT: the rooms over B of half the dimension -/
theorem count_fills {n : Nat} : ∀ (m : Nat) {B : List Nat} {F : List (List Nat)}, Base n B → n = 2 * (B.length + m) → F.Nodup → (∀ C, C ∈ F ↔ Lev n B m C) → F.length = fillN m
  | 0, B, F, h, hn, nd, hF => by
    have e : ∀ C, C ∈ F ↔ C = B := fun C => (hF C).trans (Lev.zero h)
    have e1 : F.Perm [B] := (List.perm_ext_iff_of_nodup nd (by simp)).mpr fun C => by rw [e C, List.mem_singleton]
    rw [e1.length_eq]
    rfl
  | m + 1, B, F, h, hn, nd, hF => by
    have hcl : (cls n B).length = 2 * (m + 1) := by
      have := (cls_facts h).2.2
      omega
    have e1 := swap_sum (fun (w : Nat) (C : List Nat) => decide (w ∈ allW C)) (classW n B) F
    have e2 : (F.map fun c => (classW n B).countP fun w => decide (w ∈ allW c)).sum = F.length * (2 ^ (m + 1) - 1) := sum_const _ _ fun C hC => count_in h ((hF C).mp hC)
    have e3 : ((classW n B).map fun w => F.countP fun C => decide (w ∈ allW C)).sum = (classW n B).length * fillN m := sum_const _ _ fun w hw => by
      obtain ⟨a, b, c⟩ := classW_out h hw
      have l1 := lev_ext h a b c
      have s1 := extB_same h.plain.1 w
      rw [List.countP_eq_length_filter]
      refine count_fills m (h.ext l1) (by rw [l1.len]; omega) (nd.sublist List.filter_sublist) fun C => ?_
      rw [List.mem_filter, hF C, decide_eq_true_eq]
      constructor
      · rintro ⟨z, hwC⟩
        refine ⟨z.plain, z.still, z.lt, fun b hb => ?_, by rw [z.len, l1.len]; omega⟩
        refine allW_sub (fun x hx => ?_) ((s1 b).mp (gen_mem hb))
        rcases List.mem_cons.mp hx with rfl | hx
        · exact hwC
        · exact z.sub x hx
      · intro z
        refine ⟨⟨z.plain, z.still, z.lt, fun b hb => allW_sub z.sub (l1.sub b hb), by rw [z.len, l1.len]; omega⟩, ?_⟩
        exact allW_sub z.sub ((s1 w).mpr (gen_mem List.mem_cons_self))
    have e4 : F.length * (2 ^ (m + 1) - 1) = (classW n B).length * fillN m := e2.symm.trans (e1.symm.trans e3)
    rw [classW_len, hcl] at e4
    have p1 : 2 ≤ 2 ^ (m + 1) := by
      rw [Nat.pow_succ]
      have := Nat.two_pow_pos m
      omega
    have e5 : 2 ^ (2 * (m + 1)) - 1 = (2 ^ (m + 1) + 1) * (2 ^ (m + 1) - 1) := by
      have : 2 ^ (2 * (m + 1)) = 2 ^ (m + 1) * 2 ^ (m + 1) := by
        rw [← Nat.pow_add]
        congr 1
        omega
      rw [this]
      generalize 2 ^ (m + 1) = x at p1
      obtain ⟨y, rfl⟩ : ∃ y, x = y + 1 := ⟨x - 1, by omega⟩
      have e7 : (y + 1) * (y + 1) = y * y + y + (y + 1) := by rw [Nat.add_mul, Nat.mul_add, Nat.mul_one, Nat.one_mul]
      have e8 : (y + 1 + 1) * y = y * y + y + y := by rw [Nat.add_mul, Nat.add_mul, Nat.one_mul]
      rw [Nat.add_sub_cancel, e7, e8]
      omega
    rw [e5] at e4
    have e6 : F.length * (2 ^ (m + 1) - 1) = (fillN m * (2 ^ (m + 1) + 1)) * (2 ^ (m + 1) - 1) := by
      rw [e4, Nat.mul_comm (fillN m), Nat.mul_assoc, Nat.mul_assoc, Nat.mul_comm (fillN m)]
    show F.length = fillN m * (2 ^ (m + 1) + 1)
    exact Nat.eq_of_mul_eq_mul_right (by omega) e6
end K27
/-! K27Math3: weights by tables and by bits, highest places. -/
namespace K27
theorem bit_dec (w p : Nat) : decide ((w >>> p) &&& 1 = 1) = w.testBit p := by
  rw [Nat.and_one_is_mod, Nat.shiftRight_eq_div_pow, Nat.testBit_eq_decide_div_mod_eq]
/-- HALVES -/
def halves : List Nat := [0, 1, 1, 2, 1, 2, 2, 3, 1, 2, 2, 3, 2, 3, 3, 4]
def hv (i : Nat) : Nat := halves.getD i 0
/-- weight_of -/
def wt (w : Nat) : Nat := (hv (w &&& 15) + hv ((w >>> 4) &&& 15) + hv ((w >>> 8) &&& 15)) + hv ((w >>> 12) &&& 15) + hv ((w >>> 16) &&& 15) + hv (w >>> 20)
theorem hv_par : ∀ x : Nat, x < 16 → decide (hv x % 2 = 1) = (((x.testBit 0 ^^ x.testBit 1) ^^ x.testBit 2) ^^ x.testBit 3) := by decide
theorem odd_add (a b : Nat) : decide ((a + b) % 2 = 1) = (decide (a % 2 = 1) ^^ decide (b % 2 = 1)) := by
  by_cases h1 : a % 2 = 1 <;> by_cases h2 : b % 2 = 1
  · rw [decide_eq_true h1, decide_eq_true h2, decide_eq_false (by omega)]; rfl
  · rw [decide_eq_true h1, decide_eq_false h2, decide_eq_true (by omega)]; rfl
  · rw [decide_eq_false h1, decide_eq_true h2, decide_eq_true (by omega)]; rfl
  · rw [decide_eq_false h1, decide_eq_false h2, decide_eq_false (by omega)]; rfl
theorem nib_lt (w k : Nat) : (w >>> k) &&& 15 < 16 := Nat.lt_of_le_of_lt Nat.and_le_right (by decide)
theorem nib_bit (w k : Nat) {j : Nat} (hj : j < 4) : ((w >>> k) &&& 15).testBit j = w.testBit (k + j) := by
  rw [Nat.testBit_and, Nat.testBit_shiftRight]
  have : (15 : Nat).testBit j = true := by
    have : j = 0 ∨ j = 1 ∨ j = 2 ∨ j = 3 := by omega
    rcases this with rfl | rfl | rfl | rfl <;> decide
  rw [this, Bool.and_true]
theorem nib_par (w k : Nat) : decide (hv ((w >>> k) &&& 15) % 2 = 1) = (((w.testBit (k + 0) ^^ w.testBit (k + 1)) ^^ w.testBit (k + 2)) ^^ w.testBit (k + 3)) := by
  rw [hv_par _ (nib_lt w k), nib_bit w k (by decide), nib_bit w k (by decide), nib_bit w k (by decide), nib_bit w k (by decide)]
theorem wt_par {w : Nat} (h : w < 2 ^ 24) : decide (wt w &&& 1 = 1) = par w := by
  have e0 : w &&& 15 = (w >>> 0) &&& 15 := by rw [Nat.shiftRight_zero]
  have e5 : w >>> 20 = (w >>> 20) &&& 15 := by
    have : w >>> 20 < 2 ^ 4 := by
      rw [Nat.shiftRight_eq_div_pow]
      omega
    rw [show (15 : Nat) = 2 ^ 4 - 1 from rfl, Nat.and_two_pow_sub_one_eq_mod, Nat.mod_eq_of_lt this]
  rw [Nat.and_one_is_mod]
  unfold wt
  rw [e0, e5]
  rw [odd_add, odd_add, odd_add, odd_add, odd_add, nib_par, nib_par, nib_par, nib_par, nib_par, nib_par]
  show _ = parN 24 w
  simp only [parN, Bool.false_xor, Bool.xor_assoc, Nat.zero_add, Nat.reduceAdd]
/-- the places that are on -/
def spots (w : Nat) : List Nat := (List.range 24).filter fun p => w.testBit p
theorem spots_last {w : Nat} (h0 : w ≠ 0) (h : w < 2 ^ 24) : (spots w)[(spots w).length - 1]? = some (hi w) := by
  have hlt : hi w < 24 := (Nat.log2_lt h0).mpr h
  have key : ∀ n, hi w < n → ((List.range n).filter fun p => w.testBit p).getLast? = some (hi w) := by
    intro n
    induction n with
    | zero => intro h; omega
    | succ n ih =>
      intro hn
      rw [List.range_succ, List.filter_append, List.getLast?_append]
      by_cases e : n = hi w
      · have : w.testBit n = true := by rw [e]; exact hi_on h0
        rw [List.filter_cons, if_pos this]
        show some n = _
        rw [e]
      · have hn' : hi w < n := by omega
        have : w.testBit n = false := hi_above hn'
        rw [List.filter_cons, if_neg (by rw [this]; exact Bool.false_ne_true)]
        show (none : Option Nat).or _ = _
        rw [Option.none_or]
        exact ih hn'
  have := key 24 hlt
  rw [List.getLast?_eq_getElem?] at this
  exact this
/-- _law_weight -/
def cnt : Nat → Nat → Nat
  | 0, _ => 0
  | n + 1, w => cnt n (w >>> 1) + (w &&& 1)
theorem parN_shift : ∀ n w, parN (n + 1) w = (w.testBit 0 ^^ parN n (w >>> 1))
  | 0, w => by
    show (parN 0 w ^^ w.testBit 0) = (w.testBit 0 ^^ parN 0 (w >>> 1))
    show (false ^^ w.testBit 0) = (w.testBit 0 ^^ false)
    rw [Bool.false_xor, Bool.xor_false]
  | n + 1, w => by
    show (parN (n + 1) w ^^ w.testBit (n + 1)) = (w.testBit 0 ^^ (parN n (w >>> 1) ^^ (w >>> 1).testBit n))
    rw [parN_shift n w, Nat.testBit_shiftRight, Bool.xor_assoc, Nat.add_comm 1 n]
theorem cnt_par : ∀ n w, decide (cnt n w % 2 = 1) = parN n w
  | 0, _ => rfl
  | n + 1, w => by
    rw [parN_shift]
    show decide ((cnt n (w >>> 1) + (w &&& 1)) % 2 = 1) = _
    rw [odd_add, cnt_par n, Bool.xor_comm]
    congr 1
    rw [Nat.testBit_zero, Nat.and_one_is_mod, Nat.mod_mod]
theorem cnt_zero : ∀ n, cnt n 0 = 0
  | 0 => rfl
  | n + 1 => by
    show cnt n (0 >>> 1) + (0 &&& 1) = 0
    rw [Nat.zero_shiftRight, cnt_zero n]
    rfl
end K27
/-! K27Math4: the law's own plain bases, words led by a sequence of places, paired words, more words. -/
namespace K27
/-! ### plain bases without sorting on the way -/
def stepU (B : List Nat) (w : Nat) : List Nat := if red B w = 0 then B else extU B (red B w)
def plU (ws : List Nat) : List Nat := ws.foldl stepU []
theorem stepU_ok {B : List Nat} (h : Rd B) (w : Nat) : Rd (stepU B w) ∧ SameW (stepU B w) (w :: B) := by
  unfold stepU
  split
  · rename_i e
    exact ⟨h, .of (fun b hb => gen_mem (List.mem_cons_of_mem _ hb)) fun c hc => by
      rcases List.mem_cons.mp hc with rfl | hc
      · exact (red_iff h).mp e
      · exact gen_mem hc⟩
  · rename_i e
    exact ⟨extU_rd h e (red_off h w), extU_same.trans (red_same h w)⟩
theorem foldl_stepU : ∀ (ws : List Nat) {B : List Nat}, Rd B → Rd (ws.foldl stepU B) ∧ SameW (ws.foldl stepU B) (ws ++ B)
  | [], B, h => ⟨h, SameW.refl B⟩
  | w :: ws, B, h => by
    obtain ⟨hr, hs⟩ := stepU_ok h w
    obtain ⟨p, s⟩ := foldl_stepU ws hr
    refine ⟨p, s.trans (.of (fun x hx => ?_) fun x hx => ?_)⟩
    · rcases List.mem_append.mp hx with hx | hx
      · exact gen_mem (List.mem_append_left _ (List.mem_cons_of_mem _ hx))
      · have := (hs x).mp (gen_mem hx)
        refine allW_mono (fun c hc => ?_) this
        rcases List.mem_cons.mp hc with rfl | hc
        · exact List.mem_append_left _ List.mem_cons_self
        · exact List.mem_append_right _ hc
    · have sub : ∀ y ∈ w :: B, y ∈ allW (ws ++ stepU B w) := fun y hy => by
        have := (hs y).mpr (gen_mem hy)
        exact allW_mono (fun c hc => List.mem_append_right _ hc) this
      rcases List.mem_append.mp hx with hx | hx
      · rcases List.mem_cons.mp hx with rfl | hx
        · exact sub _ List.mem_cons_self
        · exact gen_mem (List.mem_append_left _ hx)
      · exact sub _ (List.mem_cons_of_mem _ hx)
theorem plU_sort (ws : List Nat) : sortD (plU ws) = plainOf ws := by
  obtain ⟨r, s⟩ := foldl_stepU ws Rd.nil
  rw [List.append_nil] at s
  exact (plainOf_of (sortD_plain r) ((SameW.perm (sortD_perm _)).trans s)).symm
theorem plainOf_len (ws : List Nat) : (plainOf ws).length = (plU ws).length := by
  rw [← plU_sort, (sortD_perm _).length_eq]
/-! ### words led by a sequence of places -/
def ledP (s : List Nat) (w : Nat) : Nat → Nat
  | 0 => 0
  | i + 1 => if w.testBit i then ledP s w i ||| (1 <<< s.getD i 0) else ledP s w i
theorem led_bit (s : List Nat) (w : Nat) : ∀ i j, (ledP s w i).testBit j = true ↔ ∃ k, k < i ∧ s.getD k 0 = j ∧ w.testBit k = true
  | 0, j => by
    show (0 : Nat).testBit j = true ↔ _
    rw [Nat.zero_testBit]
    exact ⟨fun z => (by cases z), fun ⟨k, h, _⟩ => absurd h (Nat.not_lt_zero k)⟩
  | i + 1, j => by
    have ih := led_bit s w i j
    show (if w.testBit i then ledP s w i ||| (1 <<< s.getD i 0) else ledP s w i).testBit j = true ↔ _
    by_cases hw : w.testBit i = true
    · rw [if_pos hw, Nat.testBit_or, Bool.or_eq_true, ih, Nat.one_shiftLeft, Nat.testBit_two_pow, decide_eq_true_iff]
      constructor
      · rintro (⟨k, h1, h2, h3⟩ | h)
        · exact ⟨k, by omega, h2, h3⟩
        · exact ⟨i, by omega, h, hw⟩
      · rintro ⟨k, h1, h2, h3⟩
        by_cases e : k = i
        · subst e
          exact .inr h2
        · exact .inl ⟨k, by omega, h2, h3⟩
    · rw [if_neg hw, ih]
      constructor
      · rintro ⟨k, h1, h2, h3⟩
        exact ⟨k, by omega, h2, h3⟩
      · rintro ⟨k, h1, h2, h3⟩
        by_cases e : k = i
        · subst e
          exact absurd h3 hw
        · exact ⟨k, by omega, h2, h3⟩
theorem getD_inj {s : List Nat} (h : s.Nodup) {i j : Nat} (hi : i < s.length) (hj : j < s.length) (e : s.getD i 0 = s.getD j 0) : i = j := by
  rw [List.getD_eq_getElem?_getD, List.getD_eq_getElem?_getD, List.getElem?_eq_getElem hi, List.getElem?_eq_getElem hj] at e
  exact (List.getElem_inj h).mp e
theorem led_and {s : List Nat} (h : s.Nodup) (u v : Nat) {i : Nat} (hi : i ≤ s.length) : ledP s u i &&& ledP s v i = ledP s (u &&& v) i := by
  refine Nat.eq_of_testBit_eq fun j => ?_
  rw [Bool.eq_iff_iff, Nat.testBit_and, Bool.and_eq_true, led_bit, led_bit, led_bit]
  constructor
  · rintro ⟨⟨k, h1, h2, h3⟩, ⟨l, g1, g2, g3⟩⟩
    have e : k = l := getD_inj h (by omega) (by omega) (h2.trans g2.symm)
    subst e
    exact ⟨k, h1, h2, by rw [Nat.testBit_and, h3, g3]; rfl⟩
  · rintro ⟨k, h1, h2, h3⟩
    rw [Nat.testBit_and, Bool.and_eq_true] at h3
    exact ⟨⟨k, h1, h2, h3.1⟩, ⟨k, h1, h2, h3.2⟩⟩
theorem or_xor_of_off (a p : Nat) (h : a.testBit p = false) : a ||| 2 ^ p = a ^^^ 2 ^ p := by
  refine Nat.eq_of_testBit_eq fun j => ?_
  rw [Nat.testBit_or, Nat.testBit_xor, Nat.testBit_two_pow]
  by_cases e : p = j
  · subst e
    rw [h, decide_eq_true rfl]
    rfl
  · rw [decide_eq_false e, Bool.or_false, Bool.xor_false]
theorem par_led {s : List Nat} (h : s.Nodup) {N : Nat} (hs : ∀ k, k < s.length → s.getD k 0 < N) (w : Nat) : ∀ i, i ≤ s.length → parN N (ledP s w i) = parN i w
  | 0, _ => parN_zero N
  | i + 1, hi => by
    have ih := par_led h hs w i (by omega)
    show parN N (if w.testBit i then ledP s w i ||| (1 <<< s.getD i 0) else ledP s w i) = (parN i w ^^ w.testBit i)
    by_cases hw : w.testBit i = true
    · have off : (ledP s w i).testBit (s.getD i 0) = false := by
        rw [← Bool.not_eq_true, led_bit]
        rintro ⟨k, h1, h2, _⟩
        have := getD_inj h (by omega) (by omega) h2
        omega
      rw [if_pos hw, Nat.one_shiftLeft, or_xor_of_off _ _ off, parN_xor, ih, parN_pow, decide_eq_true (hs i (by omega)), hw]
    · rw [if_neg hw, ih]
      have : w.testBit i = false := by simpa using hw
      rw [this, Bool.xor_false]
theorem led_lt {s : List Nat} {n : Nat} (hs : ∀ k, k < s.length → s.getD k 0 < n) (w : Nat) {i : Nat} (hi : i ≤ s.length) : ledP s w i < 2 ^ n := by
  refine Nat.lt_pow_two_of_testBit _ fun j hj => ?_
  rw [← Bool.not_eq_true, led_bit]
  rintro ⟨k, h1, h2, _⟩
  have := hs k (by omega)
  omega
/-! ### paired words -/
def PairW (u : Nat) : Prop := ∀ k, u.testBit (2 * k) = u.testBit (2 * k + 1)
theorem PairW.zero : PairW 0 := fun k => by rw [Nat.zero_testBit, Nat.zero_testBit]
theorem PairW.xor {u v : Nat} (h : PairW u) (g : PairW v) : PairW (u ^^^ v) := fun k => by rw [Nat.testBit_xor, Nat.testBit_xor, h k, g k]
theorem PairW.and {u v : Nat} (h : PairW u) (g : PairW v) : PairW (u &&& v) := fun k => by rw [Nat.testBit_and, Nat.testBit_and, h k, g k]
theorem PairW.three (p : Nat) : PairW (3 <<< (2 * p)) := fun k => by
  rw [Nat.testBit_shiftLeft, Nat.testBit_shiftLeft]
  rcases Nat.lt_trichotomy k p with h | h | h
  · rw [decide_eq_false (by omega : ¬ 2 * k ≥ 2 * p), decide_eq_false (by omega : ¬ 2 * k + 1 ≥ 2 * p)]
    rfl
  · subst h
    rw [decide_eq_true (by omega : 2 * k ≥ 2 * k), decide_eq_true (by omega : 2 * k + 1 ≥ 2 * k), Nat.sub_self, Nat.add_sub_cancel_left]
    rfl
  · have e : ∀ j, 2 ≤ j → (3 : Nat).testBit j = false := fun j hj => Nat.testBit_lt_two_pow (Nat.lt_of_lt_of_le (by decide : 3 < 2 ^ 2) (Nat.pow_le_pow_right (by decide) hj))
    rw [e _ (by omega), e _ (by omega), Bool.and_false, Bool.and_false]
theorem PairW.par {u : Nat} (h : PairW u) : ∀ m, parN (2 * m) u = false
  | 0 => rfl
  | m + 1 => by
    show (((parN (2 * m) u ^^ u.testBit (2 * m)) ^^ u.testBit (2 * m + 1))) = false
    rw [PairW.par h m, h m]
    cases u.testBit (2 * m + 1) <;> rfl
theorem three_lt {p m : Nat} (h : p < m) : 3 <<< (2 * p) < 2 ^ (2 * m) := by
  rw [Nat.shiftLeft_eq]
  have h1 : 2 ^ (2 * p + 2) ≤ 2 ^ (2 * m) := Nat.pow_le_pow_right (by decide) (by omega)
  have h2 : 2 ^ (2 * p + 2) = 2 ^ (2 * p) * 4 := Nat.pow_add 2 (2 * p) 2
  have h3 := Nat.two_pow_pos (2 * p)
  omega
/-- two led paired words meet evenly -/
theorem led_dot {s : List Nat} {m : Nat} (h : s.Nodup) (hl : s.length = 2 * m) (hm : 2 * m ≤ 24) (hs : ∀ k, k < s.length → s.getD k 0 < 2 * m) {u v : Nat} (hu : PairW u) (hv : PairW v) : dot (ledP s u (2 * m)) (ledP s v (2 * m)) = false := by
  unfold dot
  rw [led_and h u v (by omega)]
  have := par_led h (N := 24) (fun k hk => Nat.lt_of_lt_of_le (hs k hk) hm) (u &&& v) (2 * m) (by omega)
  exact this.trans ((hu.and hv).par m)
theorem perm_range {s : List Nat} {n : Nat} (p : s.Perm (List.range n)) : s.Nodup ∧ s.length = n ∧ ∀ k, k < s.length → s.getD k 0 < n := by
  refine ⟨p.nodup_iff.mpr List.nodup_range, by rw [p.length_eq, List.length_range], fun k hk => ?_⟩
  rw [List.getD_eq_getElem?_getD, List.getElem?_eq_getElem hk]
  exact List.mem_range.mp (p.mem_iff.mp (List.getElem_mem hk))
/-! ### more -/
theorem Still.snoc {bs : List Nat} {w : Nat} (h : Still bs) (hw : ∀ b ∈ bs, dot w b = false) (hh : dot w w = false) : Still (bs ++ [w]) := by
  have := h.cons hw hh
  refine this.within fun c hc => gen_mem ?_
  rcases List.mem_append.mp hc with hc | hc
  · exact List.mem_cons_of_mem _ hc
  · rw [List.mem_singleton.mp hc]
    exact List.mem_cons_self
theorem SameW.cons {B C : List Nat} (h : SameW B C) (a : Nat) : SameW (a :: B) (a :: C) := fun w => by
  rw [mem_allW_cons, mem_allW_cons, h, h]
theorem extP_same (ws : List Nat) (o : Nat) : SameW (extB (plainOf ws) o) (o :: ws) :=
  (extB_same (plainOf_plain ws).1 o).trans ((plainOf_same ws).cons o)
theorem extP_eq (ws : List Nat) (o : Nat) : plainOf (ws ++ [o]) = extB (plainOf ws) o := by
  unfold plainOf
  rw [List.foldl_append]
  rfl
theorem more_same (ws : List Nat) (o w : Nat) : SameW (extB (plainOf (ws ++ [w])) o) (w :: extB (plainOf ws) o) := by
  refine (extP_same _ o).trans (SameW.trans ?_ ((extP_same ws o).cons w).symm)
  exact .of_mem fun x => by simp [or_comm, or_left_comm]
theorem lev_more {n : Nat} {C0 C1 : List Nat} {w m m' : Nat} (s : SameW C1 (w :: C0)) (hl : C0.length + m = C1.length + m') {C : List Nat} : (Lev n C0 m C ∧ red C w = 0) ↔ Lev n C1 m' C := by
  constructor
  · rintro ⟨l, hr⟩
    have hw := (red_iff l.plain.1).mp hr
    refine ⟨l.plain, l.still, l.lt, fun b hb => ?_, by rw [l.len, hl]⟩
    refine allW_sub (fun c hc => ?_) ((s b).mp (gen_mem hb))
    rcases List.mem_cons.mp hc with rfl | hc
    · exact hw
    · exact l.sub c hc
  · intro l
    have sub : ∀ b ∈ w :: C0, b ∈ allW C := fun b hb => allW_sub l.sub ((s b).mpr (gen_mem hb))
    exact ⟨⟨l.plain, l.still, l.lt, fun b hb => sub b (List.mem_cons_of_mem _ hb), by rw [l.len, hl]⟩, (red_iff l.plain.1).mpr (sub w List.mem_cons_self)⟩
theorem lev_some {n : Nat} {D : List Nat} (h : Base n D) (hl : 2 * D.length < n) : ∃ E, Lev n D 1 E := by
  have hc := (cls_facts h).2.2
  have h1 : 0 < (classW n D).length := by
    rw [classW_len]
    have : 2 ^ 1 ≤ 2 ^ (cls n D).length := Nat.pow_le_pow_right (by decide) (by omega)
    omega
  exact ⟨_, (lev_one h).mpr ⟨_, List.getElem_mem h1, rfl⟩⟩
/-- the words of _law_whole, cut -/
def wholeW (p : Nat) : List Nat := ((List.range p).map fun k => 3 <<< (2 * k)).take (p - 3)
theorem whole_still (p : Nat) (hp : p = 3 ∨ p = 4 ∨ p = 5 ∨ p = 6) : (∀ a ∈ wholeW p, ∀ b ∈ wholeW p, dot a b = false) ∧ (∀ b ∈ wholeW p, b < 2 ^ (2 * p)) ∧ p - 2 ≤ (plU (wholeW p ++ [ones (2 * p)])).length := by
  rcases hp with rfl | rfl | rfl | rfl <;> decide +kernel
end K27
set_option maxHeartbeats 4000000
/-! K27RuleA: rules that the layer lacks: enumerate(tuple), zip(tuple, list), tuple[::-1]. -/
namespace K27R
open PySem PySem.Spec PyProof.Rows L2
open AutoSeq1 (wpAny_loadPart')

/-! ### enumerate(tuple) -/
theorem meets_enumerate_newT (l : Addr) (items : Array Value) :
    Meets (Builtin.«enumerate.__new__» ⟨[.type "enumerate", .ref l], []⟩) (fun _ R s => s.heap.IsTuple l items ∧
      R (.ok (.ret (.ref (s.heap.push { cls := .type "tuple_iterator", data := .fields #[.ref l, .int 0 0] }).objs.size)))
        { s with heap := (s.heap.push { cls := .type "tuple_iterator", data := .fields #[.ref l, .int 0 0] }).push { cls := .type "enumerate", data := .fields #[.none, .bool false, .ref s.heap.objs.size, rawInt 0, .none, .none] } }) :=
  .of_wp fun prog w A R s h => by
    obtain ⟨hp, g, d, tk, os⟩ := s; obtain ⟨hL, h⟩ := h
    have hsub := sub_enumerate
    obtain ⟨o, ho, hc, n, hd⟩ := id hL
    obtain ⟨c, dct, dt, sl⟩ := o
    replace hc : c = .type "tuple" := hc
    replace hd : dt = .seq items n := hd
    subst hc hd
    wp_walk using wpAny_loadPart' ho
    refine wpAny_stack_any fun st => wpAny_pure ?_
    split
    · rename_i c _ _ _ _ _
      cases (c == Value.type "enumerate")
      · wp_walk using wpAny_loadPart' ho, wpAny_pyIter_tuple hL
        exact ⟨_, rfl, h⟩
      · wp_walk using wpAny_loadPart' ho, wpAny_pyIter_tuple hL
        exact ⟨_, rfl, h⟩
    · wp_walk using wpAny_loadPart' ho, wpAny_pyIter_tuple hL
      exact ⟨_, rfl, h⟩
section
variable {prog : Program} {w : World} {A : Around} {E : Value → Shared → Prop} {s : Shared}
theorem call_enumerate_tup {l : Addr} {items : Array Value} {Q : Value → Shared → Prop} (hL : s.heap.IsTuple l items)
    (h : ∀ h', IsEnum h' (s.heap.objs.size + 1) s.heap.objs.size 0 .none → h'.IsTupleIter s.heap.objs.size l 0 → h'.objs.size = s.heap.objs.size + 2 →
      (∀ b o, s.heap.get? b = some o → h'.get? b = some o) → Q (.ref (s.heap.objs.size + 1)) { s with heap := h' }) :
    wpAny (model prog w) A (call (.type "enumerate") [.ref l]) Q E s := by
  refine callType_new F.called_enumerate (by decide) (F.typeCall_enumerate_1 _) (F.newCall_enumerate_1 _) (fun obj => F.args_object_init_2 obj _) F.entry_enumerate_new
    (meets_enumerate_newT l items) ⟨hL, ?_⟩
  have hz : (s.heap.push { cls := .type "tuple_iterator", data := .fields #[.ref l, .int 0 0] }).objs.size = s.heap.objs.size + 1 := Heap.size_push ..
  show _ ∧ _
  rw [hz]
  have he : IsEnum ((s.heap.push { cls := .type "tuple_iterator", data := .fields #[.ref l, .int 0 0] }).push
      { cls := .type "enumerate", data := .fields #[.none, .bool false, .ref s.heap.objs.size, rawInt 0, .none, .none] }) (s.heap.objs.size + 1) s.heap.objs.size 0 .none := by
    have := Heap.get?_push_size (s.heap.push { cls := .type "tuple_iterator", data := .fields #[.ref l, .int 0 0] })
      (o := { cls := .type "enumerate", data := .fields #[.none, .bool false, .ref s.heap.objs.size, rawInt 0, .none, .none] }) rfl
    rw [hz] at this; exact this
  refine ⟨⟨_, he, rfl⟩, h _ he ⟨_, Heap.get?_push_of_some _ (Heap.get?_push_size _ rfl), rfl, rfl⟩ (by rw [Heap.size_push, hz]) fun b o x => Heap.get?_push_of_some _ (Heap.get?_push_of_some _ x)⟩
end
/-- the tuple at a as it stands at each turn, each item in a new pair -/
def IteT (K : PySem.W.Frag) (a : Addr) : It :=
  ⟨fun i H => ∃ (xs : List V) (x : V), SqT K H a xs ∧ xs[i]? = some x, fun i H v H' => ∃ T x, v = .ref T ∧ H T = none ∧ H' = upd H T (.tup [.int (i : Nat), x]) ∧ ∀ xs, SqT K H a xs → xs[i]? = some x, fun i H => ∃ xs : List V, SqT K H a xs ∧ xs.length = i⟩
theorem turn_enumT {P : Program} {w : World} {K : PySem.W.Frag} {elts : List Expr} {kk : Nat} {tpos : Pos} (a e it : Addr) (hai : a ≠ it) (hae : a ≠ e) :
    Turn P w K (.Tuple elts kk tpos) (IteT K a) [e, it] e (fun i h => (∃ old, IsEnum h e it ((i : Nat) : Int) old) ∧ h.IsTupleIter it a i ∧ e ≠ it) where
  mem := by simp
  obj := fun i h st b hb => by
    obtain ⟨⟨old, he⟩, ⟨o, ho, hc, hd⟩, _⟩ := st
    have e' : b = e ∨ b = it := by simpa using hb
    rcases e' with z | z
    · rw [z]; exact ⟨_, he, fun v q => nomatch q⟩
    · rw [z]; exact ⟨o, ho, fun v q => by rw [hd] at q; cases q⟩
  keep := fun i h h' st k => let ⟨⟨old, he⟩, hi, hne⟩ := st; ⟨⟨old, k e (by simp) _ he⟩, hi.at fun o q => k it (by simp) o q, hne⟩
  item := by
    intro X hP hw hK hc i pins s σ H E I hf st hg
    subst hP hw hK
    obtain ⟨⟨old, he⟩, hit, hne⟩ := st
    obtain ⟨xs, x, hq, hx⟩ := hg
    obtain ⟨its, rv, p, hz⟩ := I.tuple hq
    obtain ⟨u, hu, ru⟩ := rv.get hx
    have hel : e < s.heap.objs.size := Heap.lt_size he
    have hil : it < s.heap.objs.size := by obtain ⟨_, q, _⟩ := hit; exact Heap.lt_size q
    have hlt : i < its.toArray.size := by
      have := (List.getElem?_eq_some_iff.mp hu).1
      simpa using this
    refine wpAny_pyNext_enum_itemD (Draws.tuple (prog := X.prog) (w := X.w) (A := X.A.in1) (I.ok.hd hc) it a hai its.toArray) he ⟨hit, p⟩ hlt hne (by simp [hne, Ne.symm hae]) fun v h' tk hv ho hit' hT hsz hk => ?_
    have ev : v = u := by
      have : its.toArray[i]? = some u := by simpa using hu
      rw [this] at hv
      exact (Option.some.inj hv).symm
    subst ev
    refine ⟨_, rfl, wpAny_letOwnedTupleGo_enum (s := { s with heap := h', toks := tk + 1 }) ho fun h'' he' sb => ?_⟩
    have hT2 : h''.get? s.heap.objs.size = some { cls := .type "tuple", data := .seq #[.int i tk, v] } := (sb.2 _ (Nat.ne_of_gt hel)).trans hT
    have new : ObjOk X.prog X.w (upd H s.heap.objs.size (.tup [.int (i : Nat), x])) h'' s.heap.objs.size (.tup [.int (i : Nat), x]) :=
      ⟨by show 2 ≤ sizeLine; decide, [.int i tk, v], .cons ⟨_, rfl⟩ (.cons ru .nil), ⟨_, hT2, rfl, _, rfl⟩⟩
    have I1 : Inv X pins σ (upd H s.heap.objs.size (.tup [.int (i : Nat), x])) { s with heap := h'', toks := tk + 1 } :=
      I.turnedNew (ch := [e, it]) (fun b ob hb q => (sb.2 b (fun z => hb (by simp [z]))).trans (hk b ob (fun z => hb (by simp [z])) (fun z => hb (by simp [z])) q)) hf (Nat.le_refl _) new
    refine ⟨.ref s.heap.objs.size, _, I1, rfl, ⟨_, x, rfl, I.hok.fresh (Nat.le_refl _), rfl, fun ys hy => by rw [I.tuple_inj hy hq]; exact hx⟩, ⟨⟨v, ?_⟩, hit'.1.at fun o q => (sb.2 it (Ne.symm hne)).trans q, hne⟩, fun b hb => ?_⟩
    · have e1 : ((i + 1 : Nat) : Int) = (i : Int) + 1 := by omega
      rw [e1]; exact he'
    · have hb' : b < s.heap.objs.size := by
        have e' : b = e ∨ b = it := by simpa using hb
        rcases e' with z | z
        · rw [z]; exact hel
        · rw [z]; exact hil
      rw [upd_ne (Nat.ne_of_lt hb')]
      exact (hf b hb).1
  done := by
    intro X hP hw hK hc i pins s σ H E I hf st hg
    subst hP hw hK
    obtain ⟨⟨old, he⟩, hit, hne⟩ := st
    obtain ⟨xs, hq, hx⟩ := hg
    obtain ⟨its, rv, p, hz⟩ := I.tuple hq
    obtain ⟨f0, f1, f2, f3, f4, f5⟩ := hf it (by simp)
    have hl := rv.length
    have hi : i = its.toArray.size := by simp; omega
    subst hi
    exact wpAny_pyNext_enum_endD (Draws.tuple (prog := X.prog) (w := X.w) (A := X.A.in1) (I.ok.hd hc) it a hai its.toArray) he ⟨hit, p⟩ fun h' eb => ⟨rfl, I.turned (t' := s.toks) (fun b o hb q => eb b o hb q) f0 f1 f3 f4 f5⟩
  self := fun A i s Q E st h => let ⟨⟨_, he⟩, _⟩ := st; wpAny_pyIter_enum he h
def iEnumT (K : PySem.W.Frag) (ta : TA) : TI := fun σ H R => ta σ H fun vs H1 => ∃ a xs, vs = [.ref a] ∧ SqT K H1 a xs ∧ R (IteT K a) H1
theorem pi_enumT {X : Cx} {e : Expr} {ta : TA} {p pos tpos : Pos} {elts : List Expr} {kk : Nat} (hg : Gl X "enumerate") (hm : X.mg "enumerate" = none) (ha : PA X [e] ta) (hs : starEach [e] X.env = [(false, eval e X.env)] := by rfl) :
    PI X (.Tuple elts kk tpos) (.Call (.Name "enumerate" p) [e] [] pos) (iEnumT X.K ta) := by
  refine ⟨fun pins s σ H R I h => ?_⟩
  refine Call_ (ld_blt I hg hm boot_enumerate (PyProof.Rows.callWith_type1 (thn (ha.run pos pins s σ H _ I h) fun us s1 ⟨vs, H1, I1, r1, q1⟩ => ?_) hs rfl))
  obtain ⟨a, xs, ex, hq, q⟩ := q1
  subst ex
  cases r1 with
  | cons r rr =>
    cases rr
    cases r
    obtain ⟨its, rv, p', hz⟩ := I1.tuple hq
    have hal : a < s1.heap.objs.size := p'.lt
    refine call_enumerate_tup (show s1.heap.IsTuple a its.toArray from p') fun h' he hit hsz hk => wpAny_pyIter_enum he ?_
    have I2 : Inv X pins σ H1 { s1 with heap := h' } := I1.kept (t' := s1.toks) hk
    refine ⟨s1.heap.objs.size + 1, [s1.heap.objs.size + 1, s1.heap.objs.size], _, _, H1, rfl, I2, turn_enumT a (s1.heap.objs.size + 1) s1.heap.objs.size (Nat.ne_of_lt hal) (Nat.ne_of_lt (Nat.lt_succ_of_lt hal)), ⟨⟨.none, he⟩, hit, Nat.succ_ne_self _⟩, fun b hb => ?_, q⟩
    have e' : b = s1.heap.objs.size + 1 ∨ b = s1.heap.objs.size := by simpa using hb
    have hle : s1.heap.objs.size ≤ b := by
      rcases e' with z | z
      · rw [z]; exact Nat.le_add_right _ _
      · rw [z]; exact Nat.le_refl _
    exact I1.fpOk hle (I1.hok.fresh hle)
theorem walk_enumT {K : PySem.W.Frag} {a : Addr} {xs : List V} : Walk (IteT K a) xs.length (fun H => SqT K H a xs) (YPair (fun i => some (.int (i : Nat))) (fun i => xs[i]?)) := by
  refine ⟨fun i _ hi q => ⟨xs, xs[i], q, by simp [hi]⟩, fun _ q => ⟨xs, q, rfl⟩, fun i H v H' _ q y => ?_⟩
  obtain ⟨T, x, h1, h2, h3, h4⟩ := y
  exact ⟨T, .int (i : Nat), x, h1, h2, h3, rfl, h4 xs q⟩

/-! ### zip(tuple, list) -/
/-- the tuple at a and the list at b as they stand at each turn, the items in new pairs -/
def ItzM (K : PySem.W.Frag) (a b : Addr) : It :=
  ⟨fun i H => ∃ (xs ys : List V) (x y : V), SqT K H a xs ∧ SqL K H b ys ∧ xs[i]? = some x ∧ ys[i]? = some y,
    fun i H v H' => ∃ T x y, v = .ref T ∧ H T = none ∧ H' = upd H T (.tup [x, y]) ∧ (∀ xs, SqT K H a xs → xs[i]? = some x) ∧ ∀ ys, SqL K H b ys → ys[i]? = some y,
    fun i H => ∃ xs ys : List V, SqT K H a xs ∧ SqL K H b ys ∧ xs.length = i ∧ ys.length = i⟩
theorem turn_zipM {P : Program} {w : World} {K : PySem.W.Frag} {elts : List Expr} {kk : Nat} {tpos : Pos} {a b z TI TO i1 i2 : Addr} (S : ZipSep2 z TI TO i1 i2 [i1, a] [i2, b]) (ha : a ≠ i1) (hb : b ≠ i2) :
    Turn P w K (.Tuple elts kk tpos) (ItzM K a b) [z, TI, TO, i1, i2] z (fun i h => IsZip h z TI TO .none ∧ IsTupOf2 h TI (.ref i1) (.ref i2) ∧ (∃ x y, IsTupOf2 h TO x y) ∧ h.IsTupleIter i1 a i ∧ h.IsListIter i2 b i) where
  mem := by simp
  obj := fun i h st c hc => by
    obtain ⟨hz, hTI, ⟨x, y, hTO⟩, ⟨o1, e1, _, d1⟩, ⟨o2, e2, _, d2⟩⟩ := st
    have e' : c = z ∨ c = TI ∨ c = TO ∨ c = i1 ∨ c = i2 := by simpa using hc
    rcases e' with q | q | q | q | q
    · rw [q]; exact ⟨_, hz, fun v q => nomatch q⟩
    · rw [q]; exact ⟨_, hTI, fun v q => nomatch q⟩
    · rw [q]; exact ⟨_, hTO, fun v q => nomatch q⟩
    · rw [q]; exact ⟨o1, e1, fun v q => by rw [d1] at q; cases q⟩
    · rw [q]; exact ⟨o2, e2, fun v q => by rw [d2] at q; cases q⟩
  keep := fun i h h' st k => by
    obtain ⟨hz, hTI, ⟨x, y, hTO⟩, h1, h2⟩ := st
    exact ⟨k z (by simp) _ hz, k TI (by simp) _ hTI, ⟨x, y, k TO (by simp) _ hTO⟩, h1.at fun o q => k i1 (by simp) o q, h2.at fun o q => k i2 (by simp) o q⟩
  item := by
    intro X hP hw hK hc i pins s σ H E I hf st hg
    subst hP hw hK
    obtain ⟨hz, hTI, ⟨x0, y0, hTO⟩, h1, h2⟩ := st
    obtain ⟨xs, ys, x, y, hqx, hqy, hx, hy⟩ := hg
    obtain ⟨its, rv, p, _⟩ := I.tuple hqx
    obtain ⟨its2, rv2, p2, _⟩ := I.list hqy
    obtain ⟨u, hu, ru⟩ := rv.get hx
    obtain ⟨u2, hu2, ru2⟩ := rv2.get hy
    have hzl : z < s.heap.objs.size := Heap.lt_size hz
    have hl1 : i < its.toArray.size := by simpa using (List.getElem?_eq_some_iff.mp hu).1
    have hl2 : i < its2.toArray.size := by simpa using (List.getElem?_eq_some_iff.mp hu2).1
    refine wpAny_pyNext_zipD2_item S (Draws.tuple (prog := X.prog) (w := X.w) (A := X.A.in1) (I.ok.hd hc) i1 a ha its.toArray) (Draws.list (prog := X.prog) (w := X.w) (A := X.A.in1) (I.ok.hd hc) i2 b hb its2.toArray) hz hTI hTO ⟨h1, p⟩ ⟨h2, p2.isList⟩ hl1 hl2
      fun v1 v2 h' tk hv1 hv2 z' TO' st1 st2 hT hsz hk => ?_
    have ev1 : v1 = u := by
      have : its.toArray[i]? = some u := by simpa using hu
      rw [this] at hv1
      exact (Option.some.inj hv1).symm
    have ev2 : v2 = u2 := by
      have : its2.toArray[i]? = some u2 := by simpa using hu2
      rw [this] at hv2
      exact (Option.some.inj hv2).symm
    subst ev1 ev2
    refine ⟨_, rfl, wpAny_letOwnedTupleGo_zip (s := { s with heap := h', toks := tk }) z' fun h'' z'' sb => ?_⟩
    have hT2 : h''.get? s.heap.objs.size = some { cls := .type "tuple", data := .seq #[v1, v2] } := (sb.2 _ (Nat.ne_of_gt hzl)).trans hT
    have new : ObjOk X.prog X.w (upd H s.heap.objs.size (.tup [x, y])) h'' s.heap.objs.size (.tup [x, y]) :=
      ⟨by show 2 ≤ sizeLine; decide, [v1, v2], .cons ru (.cons ru2 .nil), ⟨_, hT2, rfl, _, rfl⟩⟩
    have I1 : Inv X pins σ (upd H s.heap.objs.size (.tup [x, y])) { s with heap := h'', toks := tk } :=
      I.turnedNew (t' := tk) (ch := [z, TI, TO, i1, i2]) (fun c o hb q => (sb.2 c (fun q' => hb (by simp [q']))).trans (hk c o (fun q' => hb (by simp [q'])) (fun q' => hb (by simp [q'])) (fun q' => hb (by simp [q'])) (fun q' => hb (by simp [q'])) q)) hf (Nat.le_refl _) new
    refine ⟨.ref s.heap.objs.size, _, I1, rfl, ⟨_, x, y, rfl, I.hok.fresh (Nat.le_refl _), rfl, fun l hl => by rw [I.tuple_inj hl hqx]; exact hx, fun l hl => by rw [I.list_inj hl hqy]; exact hy⟩, ⟨z'', ?_, ⟨v1, v2, ?_⟩, ?_, ?_⟩, fun c hcm => ?_⟩
    · exact (sb.2 _ S.TIz).trans (hk _ _ S.TIz S.TITO S.TIi1 S.TIi2 hTI)
    · exact (sb.2 _ S.TOz).trans TO'
    · exact st1.1.at fun o q => (sb.2 _ (fun q' => S.zf1 (by rw [← q']; simp))).trans q
    · exact st2.1.at fun o q => (sb.2 _ (fun q' => S.zf2 (by rw [← q']; simp))).trans q
    · have hlt : c < s.heap.objs.size := by
        have e' : c = z ∨ c = TI ∨ c = TO ∨ c = i1 ∨ c = i2 := by simpa using hcm
        rcases e' with q | q | q | q | q
        · rw [q]; exact hzl
        · rw [q]; exact Heap.lt_size hTI
        · rw [q]; exact Heap.lt_size hTO
        · rw [q]; obtain ⟨_, e1, _⟩ := h1; exact Heap.lt_size e1
        · rw [q]; obtain ⟨_, e2, _⟩ := h2; exact Heap.lt_size e2
      rw [upd_ne (Nat.ne_of_lt hlt)]
      exact (hf c hcm).1
  done := by
    intro X hP hw hK hc i pins s σ H E I hf st hg
    subst hP hw hK
    obtain ⟨hz, hTI, ⟨x0, y0, hTO⟩, h1, h2⟩ := st
    obtain ⟨xs, ys, hqx, hqy, hx, hy⟩ := hg
    obtain ⟨its, rv, p, _⟩ := I.tuple hqx
    obtain ⟨its2, rv2, p2, _⟩ := I.list hqy
    have l1 := rv.length
    have l2 := rv2.length
    have e1 : i = its.toArray.size := by simp; omega
    have e2 : i = its2.toArray.size := by simp; omega
    exact wpAny_pyNext_zipD2_end S (Draws.tuple (prog := X.prog) (w := X.w) (A := X.A.in1) (I.ok.hd hc) i1 a ha its.toArray) (Draws.list (prog := X.prog) (w := X.w) (A := X.A.in1) (I.ok.hd hc) i2 b hb its2.toArray) hz hTI hTO ⟨h1, p⟩ ⟨h2, p2.isList⟩ (Nat.le_of_eq e1) (Nat.le_of_eq e2) (.inl e1)
      fun h' tk hk => ⟨rfl, I.turnedL (t' := tk) (ch := [z, TI, TO, i1, i2]) (fun c o hb q => hk c o (fun q' => hb (by simp [q'])) (fun q' => hb (by simp [q'])) (fun q' => hb (by simp [q'])) (fun q' => hb (by simp [q'])) q) hf⟩
  self := fun _ _ _ _ _ st h => wpAny_pyIter_zip st.1 h
def iZipM (K : PySem.W.Frag) (ta : TA) : TI := fun σ H R => ta σ H fun vs H1 => ∃ a b xs ys, vs = [.ref a, .ref b] ∧ SqT K H1 a xs ∧ SqL K H1 b ys ∧ R (ItzM K a b) H1
theorem pi_zipM {X : Cx} {e e2 : Expr} {ta : TA} {p pos tpos : Pos} {elts : List Expr} {kk : Nat} (hg : Gl X "zip") (hm : X.mg "zip" = none) (ha : PA X [e, e2] ta)
    (hs : starEach [e, e2] X.env = (false, eval e X.env) :: starEach [e2] X.env := by rfl) (hpl : (backTo pos (starEach [e2] X.env)).any (·.1) = false := by rfl) :
    PI X (.Tuple elts kk tpos) (.Call (.Name "zip" p) [e, e2] [] pos) (iZipM X.K ta) := by
  refine ⟨fun pins s σ H R I h => ?_⟩
  refine Call_ (ld_blt I hg hm PyProof.Rows.boot_zip (PyProof.Rows.callWith_type1 (thn (ha.run pos pins s σ H _ I h) fun us s1 ⟨vs, H1, I1, r1, q1⟩ => ?_) hs hpl))
  obtain ⟨a, b, xs, ys, ex, hqx, hqy, q⟩ := q1
  subst ex
  cases r1 with
  | cons r rr =>
    cases rr with
    | cons r' rr =>
      cases rr
      cases r
      cases r'
      obtain ⟨its, rv, p1, _⟩ := I1.tuple hqx
      obtain ⟨its2, rv2, p2, _⟩ := I1.list hqy
      have la : a < s1.heap.objs.size := p1.lt
      have lb : b < s1.heap.objs.size := p2.lt
      refine zip_begins2 (begins_tuple a its.toArray) (begins_list b its2.toArray) (show s1.heap.IsTuple a its.toArray from p1) p2.isList fun h' hz hTI hTO h1 h2 hsz hk => wpAny_pyIter_zip hz ?_
      have I2 : Inv X pins σ H1 { s1 with heap := h' } := I1.kept (t' := s1.toks) hk
      refine ⟨s1.heap.objs.size + 4, [s1.heap.objs.size + 4, s1.heap.objs.size + 2, s1.heap.objs.size + 3, s1.heap.objs.size, s1.heap.objs.size + 1], _, _, H1, rfl, I2,
        turn_zipM (zip_sep2 (fp1 := [a]) (fp2 := [b]) (fun c hc => by rw [List.mem_singleton.mp hc]; exact la) (fun c hc => by rw [List.mem_singleton.mp hc]; exact lb)) (Nat.ne_of_lt la) (Nat.ne_of_lt (Nat.lt_succ_of_lt lb)), ⟨hz, hTI, ⟨_, _, hTO⟩, ⟨_, h1, rfl, rfl⟩, ⟨_, h2, rfl, rfl⟩⟩, fun c hcm => ?_, q⟩
      have e' : c = s1.heap.objs.size + 4 ∨ c = s1.heap.objs.size + 2 ∨ c = s1.heap.objs.size + 3 ∨ c = s1.heap.objs.size ∨ c = s1.heap.objs.size + 1 := by simpa using hcm
      have hle : s1.heap.objs.size ≤ c := by
        rcases e' with z | z | z | z | z
        · rw [z]; exact Nat.le_add_right _ _
        · rw [z]; exact Nat.le_add_right _ _
        · rw [z]; exact Nat.le_add_right _ _
        · rw [z]; exact Nat.le_refl _
        · rw [z]; exact Nat.le_add_right _ _
      exact I1.fpOk hle (I1.hok.fresh hle)
theorem walk_zipM {K : PySem.W.Frag} {a b : Addr} {xs ys : List V} (hl : xs.length = ys.length) : Walk (ItzM K a b) xs.length (fun H => SqT K H a xs ∧ SqL K H b ys) (YPair (fun i => xs[i]?) (fun i => ys[i]?)) := by
  refine ⟨fun i _ hi q => ?_, fun _ q => ⟨xs, ys, q.1, q.2, rfl, hl.symm⟩, fun i H v H' _ q y => ?_⟩
  · have h2 : i < ys.length := by omega
    exact ⟨xs, ys, xs[i], ys[i], q.1, q.2, by simp [hi], by simp [h2]⟩
  · obtain ⟨T, x, z, h1, h2, h3, h4, h5⟩ := y
    exact ⟨T, x, z, h1, h2, h3, h4 xs q.1, h5 ys q.2⟩

/-! ### tuple[::-1] -/
section
variable {prog : Program} {w : World} {A : Around} {E : Value → Shared → Prop} {s : Shared}
theorem sliceApplied_rev {sl : Addr} {vl vu vs : Value} {n : Nat} {Q : Int × Int × Nat → Shared → Prop} (hs : s.heap.IsSliceOf sl vl vu vs) (pl : IsPart vl none) (pu : IsPart vu none) (ps : IsPart vs (some (-1)))
    (h : Q ((n : Int) - 1, -1, n) s) : wpAny (model prog w) A (Builtin.Slice.sliceApplied (.ref sl) (pure (n : Int))) Q E s := by
  obtain ⟨os, hos, hcs, hds⟩ := id hs
  unfold Builtin.Slice.sliceApplied Builtin.Slice.sliceFields
  refine wpAny_bind (wpAny_bind (wpAny_field hos hds (x := vl) rfl (wpAny_bind (wpAny_field hos hds (x := vu) rfl (wpAny_bind (wpAny_field hos hds (x := vs) rfl (wpAny_pure ?_)))))))
  refine wpAny_bind (HT.slicePart_ ps ?_)
  show wpAny _ _ (if ((-1 : Int) == 0) = true then _ else _) _ _ s
  rw [if_neg (by decide)]
  refine wpAny_bind (HT.slicePart_ pl (wpAny_bind (HT.slicePart_ pu (wpAny_bind (wpAny_pure ?_)))))
  show wpAny _ _ (pure (((n : Int) - 1), (-1 : Int), Builtin.Slice.slicePlaces ((n : Int) - 1) (-1) (-1))) _ _ s
  have e : Builtin.Slice.slicePlaces ((n : Int) - 1) (-1) (-1) = n := by
    unfold Builtin.Slice.slicePlaces
    have h1 : ¬ ((-1 : Int) > 0) := by omega
    have h2 : -(-1 : Int) = 1 := by decide
    simp only [h1, if_false, h2, Int.ediv_one]
    split <;> omega
  rw [e]
  exact wpAny_pure h
theorem fm_congr {α β : Type} {f : α → Option β} {g : α → β} : ∀ {l : List α}, (∀ m ∈ l, f m = some (g m)) → l.filterMap f = l.map g
  | [], _ => rfl
  | m :: l, h => by
    rw [List.filterMap_cons, h m List.mem_cons_self, List.map_cons, fm_congr fun x hx => h x (List.mem_cons_of_mem _ hx)]
theorem pick_rev (l : List Value) : ((List.range l.length).filterMap fun (m : Nat) => (l.toArray)[(((l.length : Int) - 1) + (m : Int) * (-1)).toNat]?) = l.reverse := by
  apply List.ext_getElem?
  intro j
  have hall : (List.range l.length).filterMap (fun (m : Nat) => (l.toArray)[(((l.length : Int) - 1) + (m : Int) * (-1)).toNat]?) = (List.range l.length).map (fun m => l.getD (l.length - 1 - m) .none) := by
    refine fm_congr fun m hm => ?_
    have hm := List.mem_range.mp hm
    have e : (((l.length : Int) - 1) + (m : Int) * (-1)).toNat = l.length - 1 - m := by omega
    rw [e]
    have hlt : l.length - 1 - m < l.length := by omega
    simp [hlt, List.getD_eq_getElem?_getD]
  rw [hall]
  by_cases hj : j < l.length
  · have hlt : l.length - 1 - j < l.length := by omega
    rw [List.getElem?_map, List.getElem?_range hj, List.getElem?_reverse hj]
    simp [hlt, List.getD_eq_getElem?_getD]
  · rw [List.getElem?_eq_none (by simp; omega), List.getElem?_eq_none (by simp; omega)]
theorem getItem_tuple_rev {t sl : Addr} {l : List Value} {vl vu vs : Value} {Q : Value → Shared → Prop} (ht : IsTup s.heap t l.toArray) (hs : s.heap.IsSliceOf sl vl vu vs) (pl : IsPart vl none) (pu : IsPart vu none) (ps : IsPart vs (some (-1)))
    (h : Q (.ref s.heap.objs.size) { s with heap := s.heap.push { cls := .type "tuple", data := .seq l.reverse.toArray } })
    (hsz : l.length ≤ sizeLine) : wpAny (model prog w) A (getItem (.ref t) (.ref sl)) Q E s := by
  have htake : sizeOk (.seq l.reverse.toArray) := by
    show l.reverse.toArray.size ≤ sizeLine
    rw [List.size_toArray, List.length_reverse]
    exact hsz
  obtain ⟨os, hos, hcs, hds⟩ := id hs
  have hTs : s.TypeIs (.ref sl) "slice" := ⟨os, hos, hcs⟩
  unfold getItem
  try with_reducible refine wpAny_holding ?_
  first | refine wpAny_bind (wpAny_pure ?_) | skip
  refine wpAny_bind (wpAny_sequenceKey ht.typeIs (by decide) ?_)
  refine wpAny_bind (wpAny_callSpecial?_slot (name := Str.ofString "__getitem__") ht.typeIs PyProof.Rows.slot_tuple_getitem
    (wpAny_call_entry PyProof.Rows.slot_tuple_getitem ht.typeIs entry_tuple_getitem ?_ (args_tuple_getitem _ _)))
  show wpAny _ _ (Builtin.Tuple.tupleItemsOf (.ref t) >>= _) _ _ s
  refine wpAny_bind (tupleItemsOf_ ht ?_)
  refine wpAny_bind (wpAny_typeOf hTs ?_)
  rw [if_pos (by decide)]
  refine wpAny_bind (sliceApplied_rev hs pl pu ps ?_)
  have hno : ¬ ((((l.toArray.size : Int) - 1) == 0 && (-1 : Int) == 1 && l.toArray.size == l.toArray.size) = true) := by
    intro q
    rw [Bool.and_eq_true, Bool.and_eq_true] at q
    exact absurd q.1.2 (by decide)
  show wpAny _ _ (if (((l.toArray.size : Int) - 1) == 0 && (-1 : Int) == 1 && l.toArray.size == l.toArray.size) = true then _ else _) _ _ s
  rw [if_neg hno]
  have ep : ((List.range l.toArray.size).filterMap fun (k : Nat) => (l.toArray)[(((l.toArray.size : Int) - 1) + (k : Int) * (-1)).toNat]?) = l.reverse := by
    rw [List.size_toArray]
    exact pick_rev l
  rw [ep]
  first
    | exact wpAny_bind (m := Builtin.Tuple.tupleExact _) (wpAny_newObj_type (wpAny_pure ⟨_, rfl, wpAny_pure h⟩) htake)
    | exact wpAny_bind (m := Builtin.Tuple.tupleExact _) (wpAny_newObj_type (wpAny_bind (wpAny_pure (wpAny_pure ⟨_, rfl, wpAny_pure h⟩))) htake)
    | exact wpAny_bind (wpAny_bind (m := Builtin.Tuple.tupleExact _) (wpAny_newObj_type (wpAny_pure (wpAny_pure ⟨_, rfl, wpAny_pure h⟩)) htake))
    | exact wpAny_bind (wpAny_bind (m := Builtin.Tuple.tupleExact _) (wpAny_newObj_type (wpAny_pure ⟨_, rfl, wpAny_pure h⟩) htake))
end
def tRevT (K : PySem.W.Frag) (te : TE) : TE := fun σ H Q => te σ H fun x H1 => ∃ a xs, x = .ref a ∧ SqT K H1 a xs ∧ ∀ p, H1 p = none → Q (.ref p) (upd H1 p (.tup xs.reverse))
theorem pe_revT {X : Cx} {e : Expr} {te : TE} {k : Nat} {p1 p2 p3 pos : Pos} (he : PE X e te) : PE X (.Subscript e (.Slice none none (some (.UnaryOp .USub (.Constant (.int 1) k p1) p2)) p3) pos) (tRevT X.K te) := by
  refine ⟨fun pins s σ H Q I h => ?_⟩
  refine Subscript_ (thn (he.run pins s σ H _ I h) fun v s1 ⟨x, H1, I1, r1, q1⟩ => ?_)
  obtain ⟨a, xs, ex, hx, q⟩ := q1
  subst ex
  cases r1
  have hst : PO X (some (.UnaryOp .USub (.Constant (.int 1) k p1) p2)) (tPart (tUn (rU fun i => .int (-i)) (tC (.int 1)))) := po_some (pe_un un_neg pe_int)
  refine wpAny_Slice (thn (po_none.run pins s1 σ H1 (fun o H2 => o = none ∧ H2 = H1) I1 ⟨rfl, rfl⟩) fun vl s2 ⟨l, H2, I2, pl, el, e2⟩ => ?_)
  subst el e2
  refine thn (po_none.run pins s2 σ H2 (fun o H3 => o = none ∧ H3 = H2) I2 ⟨rfl, rfl⟩) fun vu s3 ⟨u, H3, I3, pu, eu, e3⟩ => ?_
  subst eu e3
  refine thn (hst.run pins s3 σ H3 (fun o H4 => o = some (-1) ∧ H4 = H3) I3 ⟨1, rfl, -1, rfl, rfl, rfl⟩) fun vs s4 ⟨o, H4, I4, ps, eo, e4⟩ => ?_
  subst eo e4
  have I5 : Inv X pins σ H4 { s4 with heap := s4.heap.push { cls := .type "slice", data := .fields #[vl, vu, vs] } } := I4.kept (t' := s4.toks) fun b ob q => Heap.get?_push_of_some _ q
  obtain ⟨its, r, ht, hz⟩ := I5.tuple hx
  have hlen := r.length
  show wpAny (model X.prog X.w) X.A (subscriptTail e (.Slice none none (some (.UnaryOp .USub (.Constant (.int 1) k p1) p2)) p3) (.ref a) (.ref s4.heap.objs.size)) (EP X pins σ Q) X.xe { s4 with heap := s4.heap.push { cls := .type "slice", data := .fields #[vl, vu, vs] } }
  refine tail_any (ops := [.ref a, .ref s4.heap.objs.size]) ht.typeIs (PyProof.Rows.slot_tuple_getitem.lookup) ?_ (by with_unfolding_all rfl)
  refine getItem_tuple_rev ht (Heap.IsSliceOf.new _ vl vu vs) pl pu ps ?_ (by omega)
  refine ⟨.ref _, _, I5.laid (t' := s4.toks) (o := .tup xs.reverse) (fun b ob q => Heap.get?_push_of_some _ q) (Nat.le_refl _) ?_, rfl, q _ (I5.hok.fresh (Nat.le_refl _))⟩
  exact ⟨by rw [List.length_reverse]; exact hz, _, r.reverse, IsTup.new _ _⟩
end K27R
set_option maxHeartbeats 4000000
/-! K27RuleB: sorted of lists of ints, of a dict with tuple keys; != of lists by an own ==; bits of numbers that are not negative. -/
namespace K27R
open PySem PySem.Spec PyProof.Rows L2

/-! ### sorted -/
abbrev Row : Type := Addr × List Int
def sortRows (xs : List Row) : List Row := xs.mergeSort (fun p q => decide (p.2 ≤ q.2))
theorem each_refs : ∀ (xs : List Row), PySem.W.EachIs (fun (v : Value) (b : Row) => v = Value.ref b.1) (xs.map fun p => Value.ref p.1) xs
  | [] => .nil
  | p :: xs => .cons rfl (each_refs xs)
theorem refs_each : ∀ {out : List Value} {ys : List Row}, PySem.W.EachIs (fun (v : Value) (b : Row) => v = Value.ref b.1) out ys → out = ys.map fun p => Value.ref p.1
  | _, _, .nil => rfl
  | _, _, .cons h t => by rw [h, refs_each t]; rfl
theorem vals_refs_row {xs : List Row} {us : List Value} (r : Vals (xs.map fun p => V.ref p.1) us) : us = xs.map fun p => Value.ref p.1 := by
  induction xs generalizing us with
  | nil => cases r; rfl
  | cons p xs ih =>
    cases r with
    | cons h t => cases h; rw [ih t]; rfl
theorem row_vals : ∀ (xs : List Row), Vals (xs.map fun p => V.ref p.1) (xs.map fun p => Value.ref p.1)
  | [] => .nil
  | p :: xs => .cons rfl (row_vals xs)
theorem sortRows_perm (xs : List Row) : (sortRows xs).Perm xs := List.mergeSort_perm _ _
theorem dp_ints {K : PySem.W.Frag} {H : Hp} : ∀ (ns : List Int), DpAll K H (ns.map V.int) (ns.map PyData.int)
  | [] => .nil
  | n :: ns => .cons (.int n) (dp_ints ns)
section
variable {X : Cx}
theorem row_reads {pins : List (Addr × Obj)} {σ : L2.St} {H : Hp} {s : Shared} (I : Inv X pins σ H s) : ∀ (xs : List Row), (∀ p ∈ xs, SqL X.K H p.1 (p.2.map V.int)) →
    PySem.W.EachIs (fun (v : Value) (b : Row) => ∃ as, Reads s.heap v (PyData.list (b.2.map .int)) as) (xs.map fun p => Value.ref p.1) xs
  | [], _ => .nil
  | p :: xs, h => .cons (Dp.reads I (.list (p.2.map .int)) (.ref p.1) (.ref p.1) (.lst (h p List.mem_cons_self) (dp_ints p.2)) rfl) (row_reads I xs fun q hq => h q (List.mem_cons_of_mem _ hq))
theorem tup_reads {pins : List (Addr × Obj)} {σ : L2.St} {H : Hp} {s : Shared} (I : Inv X pins σ H s) : ∀ (xs : List Row), (∀ p ∈ xs, SqT X.K H p.1 (p.2.map V.int)) →
    PySem.W.EachIs (fun (v : Value) (b : Row) => ∃ as, Reads s.heap v (PyData.tuple (b.2.map .int)) as) (xs.map fun p => Value.ref p.1) xs
  | [], _ => .nil
  | p :: xs, h => .cons (Dp.reads I (.tuple (p.2.map .int)) (.ref p.1) (.ref p.1) (.tup (h p List.mem_cons_self) (dp_ints p.2)) rfl) (tup_reads I xs fun q hq => h q (List.mem_cons_of_mem _ hq))
theorem depth_list_ints (ns : List Int) : (PyData.list (ns.map .int)).depth = 1 := by
  rw [PyData.depth, PySem.W.depth_ints]
theorem depth_tuple_ints (ns : List Int) : (PyData.tuple (ns.map .int)).depth = 1 := by
  rw [PyData.depth, PySem.W.depth_ints]
theorem alike_list_ints (ns ms : List Int) : PySem.W.alike (PyData.list (ns.map .int)) (PyData.list (ms.map .int)) = true := by
  rw [PySem.W.alike]
  exact PySem.W.alike_ints ns ms
theorem alike_tuple_ints (ns ms : List Int) : PySem.W.alike (PyData.tuple (ns.map .int)) (PyData.tuple (ms.map .int)) = true := by
  rw [PySem.W.alike]
  exact PySem.W.alike_ints ns ms
theorem dataLe_tups : PySem.W.dataLe false (fun b : Row => PyData.tuple (b.2.map .int)) = fun p q => decide (p.2 ≤ q.2) := by
  have h := PySem.W.dataLe_rows (fun b : Row => b.2)
  rw [← h]
  rfl
/-- sorted(xs), xs a list of lists of ints: a new list, the same objects by their ints -/
def rSortRows (K : PySem.W.Frag) : List V → Hp → VK → Prop := fun vs H Q => ∃ (a : Addr) (xs : List Row), vs = [V.ref a] ∧ SqL K H a (xs.map fun p => V.ref p.1) ∧ (∀ p ∈ xs, SqL K H p.1 (p.2.map V.int)) ∧
  ∀ p, H p = none → Q (.ref p) (upd H p (.lst ((sortRows xs).map fun q => V.ref q.1)))
theorem cr_sortRows (hu : X.A.units + 64 < cLine) : CallR X (.builtin "sorted") (rSortRows X.K) := by
  intro pins s σ H vs us Q I r h
  obtain ⟨a, xs, rfl, hl, hk, q⟩ := h
  obtain ⟨its, rv, pl, hz⟩ := I.list hl
  rw [Vals.ref1 r]
  have hi := vals_refs_row rv
  subst hi
  have hz' : xs.length ≤ sizeLine := by rw [List.length_map] at hz; exact hz
  refine PySem.W.sorted_data (R := fun (v : Value) (b : Row) => v = Value.ref b.1) (enc := fun b : Row => PyData.list (b.2.map .int)) pl.isList (each_refs xs) (row_reads I xs hk) (PySem.W.AllAlike.of fun b b' => alike_list_ints b.2 b'.2)
    (PySem.W.Sortable.others fun b => ⟨(fun z => nomatch z), fun _ z => nomatch z⟩) hz' (fun b _ => by rw [depth_list_ints]; omega) fun out hout he => ?_
  rw [PySem.W.dataLe_rows (fun b : Row => b.2)] at he
  have hout2 := refs_each he
  obtain ⟨ep, he'⟩ := PyProof.Rows.sortedAll_at s.heap (xs.map fun p => Value.ref p.1) (List.toArray out)
  have hlen : ((sortRows xs).map fun q => V.ref q.1).length ≤ sizeLine := by
    rw [List.length_map, (sortRows_perm xs).length_eq]
    exact hz'
  refine ⟨.ref _, upd H (s.heap.objs.size + 1) (.lst ((sortRows xs).map fun q => V.ref q.1)), I.laid (t' := s.toks) (fun _ _ => PyProof.Rows.sortedAll_old) (Nat.le_succ _) ⟨hlen, out, ep, ?_, he'⟩, rfl, q _ (I.hok.fresh (Nat.le_succ _))⟩
  rw [hout2]
  exact row_vals _

/-- the keys of a dict with tuple keys, told as rows -/
def keyI : List Int → List Key := fun ns => ns.map Sum.inl
theorem keyI_kV (ns : List Int) : (keyI ns).map kV = ns.map V.int := by
  unfold keyI
  rw [List.map_map]
  rfl
/-- sorted(d), d a dict whose keys are tuples of ints (none empty): a new list of the key tuples -/
def rSortDT : List V → Hp → VK → Prop := fun vs H Q => ∃ (d : Addr) (ks : List (List Int)) (kvs : List (List Key × V)), vs = [V.ref d] ∧ Rd H d (.dT kvs) ∧ kvs.map (·.1) = ks.map keyI ∧ (∀ k ∈ ks, k ≠ []) ∧
  ∀ (p : Addr) (ys : List Row), H p = none → (ys.map (·.2)).Perm ks → ys.Pairwise (fun y z => y.2 ≤ z.2) → (∀ y ∈ ys, H y.1 = some (.tup (y.2.map V.int))) → Q (.ref p) (upd H p (.lst (ys.map fun y => V.ref y.1)))
theorem keys_rows {H : Hp} {kvs : List (List Key × V)} {bs : List Addr} (r : IsKeys H kvs bs) : ∀ {ks : List (List Int)}, kvs.map (·.1) = ks.map keyI →
    ∃ xs : List Row, bs = xs.map (·.1) ∧ ks = xs.map (·.2) ∧ ∀ p ∈ xs, H p.1 = some (.tup (p.2.map V.int)) := by
  unfold IsKeys at r
  induction r with
  | nil =>
    intro ks h
    cases ks with
    | nil => exact ⟨[], rfl, rfl, fun p hp => by cases hp⟩
    | cons k ks => cases h
  | cons h t ih =>
    intro ks hk
    cases ks with
    | nil => cases hk
    | cons k ks =>
      rw [List.map_cons, List.map_cons] at hk
      injection hk with h1 h2
      obtain ⟨xs, e1, e2, e3⟩ := ih h2
      rename_i p b _ _
      refine ⟨(b, k) :: xs, by rw [e1]; rfl, by rw [e2]; rfl, fun q hq => ?_⟩
      rcases List.mem_cons.mp hq with rfl | hq
      · show H b = some (.tup (k.map V.int))
        rw [← keyI_kV, ← h1]
        exact h
      · exact e3 q hq
theorem le_total_rows (a b : Row) : (decide (a.2 ≤ b.2) || decide (b.2 ≤ a.2)) = true := by
  rcases Std.Total.total (r := (· ≤ · : List Int → List Int → Prop)) a.2 b.2 with h | h
  · rw [decide_eq_true h]; rfl
  · rw [decide_eq_true h, Bool.or_true]
theorem sortRows_up (xs : List Row) : (sortRows xs).Pairwise (fun y z => y.2 ≤ z.2) := by
  have := List.pairwise_mergeSort (le := fun p q : Row => decide (p.2 ≤ q.2)) (fun a b c h1 h2 => decide_eq_true (List.le_trans (of_decide_eq_true h1) (of_decide_eq_true h2))) le_total_rows xs
  exact this.imp fun {a b} h => of_decide_eq_true h
theorem each_keys_of {xs : List Row} {R : Row → Prop} {ys : List Row} (p : ys.Perm xs) (h : ∀ x ∈ xs, R x) : ∀ y ∈ ys, R y := fun y hy => h y (p.mem_iff.mp hy)
theorem cr_sortDT (hc : X.calm = true) (hu : X.A.units + 64 < cLine) : CallR X (.builtin "sorted") rSortDT := by
  intro pins s σ H vs us Q I r q
  obtain ⟨d, ks, kvs, rfl, hd, hks, hne, q⟩ := q
  rw [Vals.ref1 r]
  obtain ⟨z, hs, kes, pr, o, es, ep, ho, hx, hdt, he, hn⟩ := (show ObjOk X.prog X.w H s.heap d (.dT kvs) from hd.ok I.hok)
  have l1 : es.size = kes.length := size_of_entries he
  have l2 : kvs.length = kes.length := Paired.length pr
  obtain ⟨xs, hbs, hxs, hT⟩ := keys_rows (isKeys_of pr) hks
  have lx : xs.length = kes.length := by
    have := congrArg List.length hbs
    rw [List.length_map, List.length_map] at this
    exact this.symm
  refine Calls.call_function_entry PyProof.Rows.kind_sorted PyProof.Rows.plain_sorted PyProof.Rows.entry_sorted (PyProof.Rows.args_sorted1 _) ?_
  unfold Builtin.«sorted»
  refine wpAny_bind (m := checkCount "sorted" 1 1 _) (wpAny_pure ?_)
  refine wpAny_bind (PySem.W.kdu_collect (A := X.A.in1) (kdl_raw hs hx hdt) (I.ok.hd hc) ho (by omega) fun h' tk acc hk it => ?_)
  have ea : acc.toList = xs.map fun p => Value.ref p.1 := by
    have hl : acc.toList.length = kes.length := by rw [Array.length_toList, it.1]; exact l1
    have e1 : acc.toList = kes.map fun x => Value.ref x.2.1 := by
      apply List.ext_getElem?
      intro j
      rw [List.getElem?_map]
      cases hj : acc.toList[j]? with
      | none =>
        have h1 := List.getElem?_eq_none_iff.mp hj
        rw [List.getElem?_eq_none (by omega)]
        rfl
      | some v =>
        obtain ⟨en, hen, hv⟩ := it.2 j v (by rw [← Array.getElem?_toList]; exact hj)
        have qe := entry_at he j
        rw [hen] at qe
        cases hb : kes[j]? with
        | none =>
          rw [hb] at qe
          exact nomatch (show some en = none from qe)
        | some b =>
          rw [hb] at qe
          have e2 : en = entryOfKey (tupleKind (mixKind X.prog X.w)) b := Option.some.inj qe
          rw [hv, e2]
          rfl
    rw [e1]
    have e2 := congrArg (List.map Value.ref) hbs
    rw [List.map_map, List.map_map] at e2
    exact e2
  have I1 : Inv X pins σ H { s with heap := h', toks := tk } := I.kept hk
  have hal : acc.toList.length ≤ sizeLine := by rw [ea, List.length_map]; omega
  refine wpAny_bind (wpAny_newList ?_ (by simpa using hal))
  have hoL : (h'.push (seqObj "list" acc.toList.toArray 0)).get? h'.objs.size = some (seqObj "list" acc.toList.toArray 0) := Heap.get?_push_size _ rfl
  show wpAny _ _ _ _ _ { s with heap := h'.push (seqObj "list" acc.toList.toArray 0), toks := tk }
  have hr1 := tup_reads I1 xs fun p hp => SqT.of (hT p hp)
  have hr2 : PySem.W.EachIs (fun (v : Value) (b : Row) => ∃ as, Reads (h'.push (seqObj "list" acc.toList.toArray 0)) v (PyData.tuple (b.2.map .int)) as ∧ h'.objs.size ∉ as) (xs.map fun p => Value.ref p.1) xs := by
    have key : ∀ {vs : List Value} {bs : List Row}, PySem.W.EachIs (fun (v : Value) (b : Row) => ∃ as, Reads h' v (PyData.tuple (b.2.map .int)) as) vs bs →
        PySem.W.EachIs (fun (v : Value) (b : Row) => ∃ as, Reads (h'.push (seqObj "list" acc.toList.toArray 0)) v (PyData.tuple (b.2.map .int)) as ∧ h'.objs.size ∉ as) vs bs := by
      intro vs bs e
      refine e.mono fun v b ⟨as, ra⟩ => ?_
      have nil : as = [] := by
        cases ra with
        | tuple h1 h2 h3 h4 =>
          have all : ∀ (ns : List Int) (us : List Value) (as : List Addr), ReadsAll h' us (ns.map PyData.int) as → as = [] := by
            intro ns
            induction ns with
            | nil => intro us as h; cases h; rfl
            | cons n ns ih =>
              intro us as h
              cases h with
              | cons a1 a2 =>
                cases a1
                rw [ih _ _ a2]
                rfl
          exact all _ _ _ h4
      refine ⟨as, PyProof.Rows.Reads.keeps (fun _ _ e => Heap.get?_push_of_some _ e) ra, ?_⟩
      rw [nil]
      exact List.not_mem_nil
    exact key hr1
  rw [ea] at hoL ⊢
  refine wpAny_bind (wpAny_holding (PySem.W.list_sort_data (s := { s with heap := h'.push (seqObj "list" (xs.map fun p => Value.ref p.1).toArray 0), toks := tk }) (R := fun (v : Value) (b : Row) => v = Value.ref b.1) (enc := fun b : Row => PyData.tuple (b.2.map .int)) hoL (each_refs xs) (by rw [ea] at hr2; exact hr2)
    (PySem.W.AllAlike.of fun b b' => alike_tuple_ints b.2 b'.2) (.inl fun dd hdd => ?_) (by omega) (fun b _ => by rw [depth_tuple_ints]; show X.A.units + 1 + 1 + 1 < cLine; omega) fun out hout hE => ?_))
  · obtain ⟨b, hb, rfl⟩ := List.mem_map.mp hdd
    have hbne : b.2 ≠ [] := hne b.2 (by rw [hxs]; exact List.mem_map.mpr ⟨b, hb, rfl⟩)
    cases hb2 : b.2 with
    | nil => exact absurd hb2 hbne
    | cons n ns => exact ⟨.int n, ns.map .int, by rw [List.map_cons]⟩
  · rw [dataLe_tups] at hE
    have hout2 := refs_each hE
    obtain ⟨e', he'⟩ := PyProof.Rows.sortedHeap_at (vs := xs.map fun p => Value.ref p.1) (out := out.toArray) hoL
    have hlen : ((sortRows xs).map fun q => V.ref q.1).length ≤ sizeLine := by
      rw [List.length_map, (sortRows_perm xs).length_eq]
      omega
    refine wpAny_pure ⟨_, rfl, .ref h'.objs.size, upd H h'.objs.size (.lst ((sortRows xs).map fun q => V.ref q.1)), I1.laid (t' := tk) (fun b u e => ?_) (Nat.le_refl _)
      (show ObjOk X.prog X.w _ _ _ (.lst ((sortRows xs).map fun q => V.ref q.1)) from ⟨hlen, out, e', by rw [hout2]; exact row_vals _, he'⟩), rfl, q _ _ (I1.hok.fresh (Nat.le_refl _)) ?_ (sortRows_up xs) (each_keys_of (sortRows_perm xs) hT)⟩
    · have hb : b < h'.objs.size := Heap.lt_size e
      rw [PyProof.Rows.sortedHeap_old (Nat.ne_of_lt hb) (by rw [size_push']; exact Nat.lt_succ_of_lt hb)]
      exact Heap.get?_push_of_some _ e
    · rw [hxs]
      exact (sortRows_perm xs).map _
end
end K27R

/-! ### != of two lists whose items are equal by the text's own == -/
namespace GQ
open PySem PySem.SeqAt
open AutoSeq1 (wpAny_loadPart')
open MeetsSeq MeetsSeq2 MeetsSeq3 SeqRoads2
section
variable {prog : Program} {w : World} {A : Around} {R : Result → Shared → Prop}
theorem ne_loopG (l b : Addr) (N : Nat) (I : Nat → Shared → Prop) (hl : ListI prog w A (fun e s' => R (.error e) s') l b N I)
    (fin : ∀ s, I N s → R (.ok (.ret (.bool false))) s) (k : Nat) :
    ∀ i : Nat, N - i = k → i ≤ N → ∀ s, I i s →
      wpAny (model prog w) A.in1 (Builtin.«list.__eq__.loop» ⟨[.ref l, .ref b, rawInt i, rawInt 3], []⟩) (FinOf prog w A R) (fun e s' => R (.error e) s') s := by
  induction k with
  | zero =>
    intro i hk hi s h
    obtain ⟨items, items2, n, n2, hl1, hb1, hs1, hs2, _⟩ := hl _ _ h
    have hi' : i = N := by omega
    have hR : R (.ok (.ret (.bool false))) s := fin s (hi' ▸ h)
    obtain ⟨hp, g, d, tk, os⟩ := s
    wp_walk using wpAny_loadPart' hl1, wpAny_loadPart' hb1
    have hi1 : items[((i : Nat) : Int).toNat]? = none := by simp; omega
    have hi2 : items2[((i : Nat) : Int).toNat]? = none := by simp; omega
    rw [hi1, hi2]
    wp_walk using wpAny_loadPart' hl1, wpAny_loadPart' hb1
    show R (.ok (.ret (.bool (items.size != items2.size)))) _
    rw [hs1, hs2]
    simpa using hR
  | succ k ih =>
    intro i hk hi s h
    obtain ⟨items, items2, n, n2, hl1, hb1, hs1, hs2, turn⟩ := hl _ _ h
    have hlt : i < items.size := by omega
    have hlt2 : i < items2.size := by omega
    have ht := turn hlt hlt2
    obtain ⟨hp, g, d, tk, os⟩ := s
    wp_walk using wpAny_loadPart' hl1, wpAny_loadPart' hb1
    have hi1 : items[((i : Nat) : Int).toNat]? = some items[i] := by simp [hlt]
    have hi2 : items2[((i : Nat) : Int).toNat]? = some items2[i] := by simp [hlt2]
    have hc : ((i : Int) + 1) = ((i + 1 : Nat) : Int) := by omega
    rw [hi1, hi2]
    refine wpAny_bind (wpAny_mono ht (fun r s2 h2 => ?_) fun _ _ x => x)
    obtain ⟨hr, h2⟩ := h2
    subst hr
    have hrec := ih (i + 1) (by omega) (by omega) s2 h2
    obtain ⟨hp2, g2, d2, tk2, os2⟩ := s2
    wp_walk
    rw [hc]
    exact ⟨plainId_quiet plain_eq_loop _, codeAny_builtin entry_eq_loop (by
      rw [Around.under_plainId plain_eq_loop _]
      exact hrec)⟩
theorem list_neG (l b : Addr) (N : Nat) (I : Nat → Shared → Prop) (hl : ListI prog w A (fun e s' => R (.error e) s') l b N I)
    (fin : ∀ s, I N s → R (.ok (.ret (.bool false))) s) {s : Shared} (h : I 0 s) :
    wpAny (model prog w) A.in1 (Builtin.«list.__ne__» ⟨[.ref l, .ref b], []⟩) (FinOf prog w A R) (fun e s' => R (.error e) s') s := by
  obtain ⟨items, items2, n, n2, hl1, hb1, hs1, hs2, _⟩ := hl _ _ h
  have hrec := ne_loopG (A := A) (R := R) l b N I hl fin _ 0 rfl (Nat.zero_le _) s h
  obtain ⟨hp, g, d, tk, os⟩ := s
  have f3 := AutoSeq1.sub_list_list
  have hne : ¬ (items.size != items2.size) = true := by simp [hs1, hs2]
  wp_walk using wpAny_loadPart' hl1, wpAny_loadPart' hb1
  exact ⟨plainId_quiet plain_eq_loop _, codeAny_builtin entry_eq_loop (by
    rw [Around.under_plainId plain_eq_loop _]
    exact hrec)⟩
end
section
variable {prog : Program} {w : World} {A : Around} {E : Value → Shared → Prop} {s : Shared}
theorem rcNe_listG {l b : Addr} {N : Nat} {Q : Value → Shared → Prop} (hu : A.units < cLine) (I : Nat → Shared → Prop) (hl : ListI prog w A E l b N I)
    (fin : ∀ s, I N s → Q (.bool false) s) (h : I 0 s) : wpAny (model prog w) A (richCompare .NotEq (.ref l) (.ref b)) Q E s := by
  obtain ⟨items, items2, n, n2, hl1, hb1, _, _, _⟩ := hl _ _ h
  refine wpAny_richCompare_same_room (op := .NotEq) ⟨_, hl1, rfl⟩ ⟨_, hb1, rfl⟩ F.slot_list_ne (call_here F.slot_list_ne ⟨_, hl1, rfl⟩ F.entry_list_ne (F.args_list_ne_2 _ _) ?_) hu
  exact list_neG (R := wants (fun v s' => v ≠ .notImplemented ∧ Q v s') E) l b N I hl (fun s' q => ⟨(fun x => nomatch x), fin s' q⟩) h
end
end GQ
namespace K27R
open PySem PySem.Spec PyProof.Rows L2
section
variable {X : Cx} {n : Nat} {D : Eqv}
/-- xs != ys of two lists, item by item equal: False -/
def rNeG (D : Eqv) : R2 := fun x y H Q => DList D x y H ∧ ∀ H', Ext H H' → Q (.bl false) H'
theorem op_neG (hD : Mon D) (h : EqG X n D) (hr : Room (n + 1) X.A) : OpR X (compareOp .NotEq) (rNeG D) := by
  intro pins s σ H x y v u Q I rx ry hq
  obtain ⟨d, q⟩ := hq
  show wpAny (model X.prog X.w) X.A (richCompare .NotEq v u) (EP X pins σ Q) X.xe s
  obtain ⟨a, b, xs, ys, rfl, rfl, ha, hb, p⟩ := d
  cases rx
  cases ry
  have sb : Sub X (n + 1) X.A := ⟨hr, rfl⟩
  refine GQ.rcNe_listG (N := xs.length) sb.room.units0 (fun _ s' => LoopI X pins σ H s') (fun i s' q => ?_) (fun s' q' => ?_) ⟨H, I, Ext.rfl'⟩
  · obtain ⟨H1, I1, e1⟩ := id q
    obtain ⟨z, its, k, r, e⟩ := I1.hok a _ (e1 _ _ ha)
    obtain ⟨z2, its2, k2, r2, e2⟩ := I1.hok b _ (e1 _ _ hb)
    refine ⟨its.toArray, its2.toArray, k, k2, e, e2, by rw [List.size_toArray, ← r.length], by rw [List.size_toArray, ← r2.length, ← p.1], fun h1 h2 => ?_⟩
    exact turnG hD h sb p r r2 i h1 h2 s' q
  · obtain ⟨H', I', e⟩ := q'
    exact ⟨.bl false, H', I', rfl, q H' e⟩
end

/-! ### bits of numbers that are not negative -/
theorem b_and (a b : Nat) : Builtin.bitAnd (a : Int) (b : Int) = ((a &&& b : Nat) : Int) := PySem.W.os_band a b
theorem b_or (a b : Nat) : Builtin.bitOr (a : Int) (b : Int) = ((a ||| b : Nat) : Int) := by
  rw [bitOr_nn (Int.natCast_nonneg a) (Int.natCast_nonneg b), Int.toNat_natCast, Int.toNat_natCast]
theorem or_add_and (a : Nat) : ∀ b : Nat, (a ||| b) = (a ^^^ b) + (a &&& b) := by
  induction a using Nat.strongRecOn with
  | ind a ih =>
    intro b
    by_cases ha : a = 0
    · subst ha
      simp
    · have h := ih (a / 2) (by omega) (b / 2)
      have d1 : (a ||| b) / 2 = a / 2 ||| b / 2 := Nat.or_div_two
      have d2 : (a ^^^ b) / 2 = a / 2 ^^^ b / 2 := Nat.xor_div_two
      have d3 : (a &&& b) / 2 = a / 2 &&& b / 2 := Nat.and_div_two
      have m : ∀ x : Nat, x % 2 = if x.testBit 0 then 1 else 0 := fun x => by
        rw [Nat.testBit_zero]
        by_cases hx : x % 2 = 1
        · rw [decide_eq_true hx, if_pos rfl, hx]
        · rw [decide_eq_false hx, if_neg Bool.false_ne_true]
          omega
      have m1 := m (a ||| b)
      have m2 := m (a ^^^ b)
      have m3 := m (a &&& b)
      rw [Nat.testBit_or] at m1
      rw [Nat.testBit_xor] at m2
      rw [Nat.testBit_and] at m3
      cases h1 : a.testBit 0 <;> cases h2 : b.testBit 0 <;> rw [h1, h2] at m1 m2 m3 <;> simp only [Bool.or_false, Bool.or_true, Bool.false_or, Bool.true_or, Bool.xor_false, Bool.xor_true, Bool.false_xor, Bool.true_xor, Bool.and_false, Bool.and_true, Bool.not_true, Bool.not_false, Bool.false_eq_true, if_false, if_true] at m1 m2 m3 <;> omega
theorem b_xor (a b : Nat) : Builtin.bitXor (a : Int) (b : Int) = ((a ^^^ b : Nat) : Int) := by
  show Builtin.bitOr (a : Int) (b : Int) - Builtin.bitAnd (a : Int) (b : Int) = _
  rw [b_or, b_and, or_add_and]
  omega
end K27R
set_option maxHeartbeats 4000000
/-! K27Base: the text by places, what the walk asks of the top (printed by gen_base.py). -/
namespace K27W
open PySem PySem.Spec L2 Evl
def top (i : Nat) : Stmt := PySem.Challenge.pw_owncontraries_k27_whole_fill_ups_listed.main.body.getD i (.Pass ⟨0, 0, 0, 0⟩)
abbrev sIsInteger : Stmt := top 13
abbrev sIsCount : Stmt := top 14
abbrev sIsList : Stmt := top 15
abbrev sIsPlaces : Stmt := top 16
abbrev sWantPlaces : Stmt := top 17
abbrev sWantAtMost : Stmt := top 18
abbrev sLeftOf : Stmt := top 22
abbrev sWithWord : Stmt := top 23
abbrev sPlainBasis : Stmt := top 24
abbrev sAllWords : Stmt := top 25
abbrev sToldRoom : Stmt := top 27
abbrev sRoomBy : Stmt := top 29
abbrev sWantRoom : Stmt := top 30
abbrev sWantWord : Stmt := top 31
abbrev sWeightOf : Stmt := top 34
abbrev sIsOdd : Stmt := top 35
abbrev sSpotsOf : Stmt := top 36
abbrev sAllOn : Stmt := top 37
abbrev sContraryBasis : Stmt := top 39
abbrev sOddTwo : Stmt := top 40
abbrev sAreStill : Stmt := top 41
abbrev sIsOwnRoom : Stmt := top 42
abbrev sWantStill : Stmt := top 43
abbrev sIsOwn : Stmt := top 44
abbrev sWithAll : Stmt := top 47
abbrev sFillNumber : Stmt := top 48
abbrev sClassWords : Stmt := top 49
abbrev sFillsOf : Stmt := top 50
abbrev sFillCount : Stmt := top 51
abbrev sFills : Stmt := top 52
abbrev sWantAlike : Stmt := top 54
abbrev sLiesIn : Stmt := top 55
abbrev sLawPot : Stmt := top 57
abbrev sLawDraw : Stmt := top 58
abbrev sLawPick : Stmt := top 59
abbrev sLawWeight : Stmt := top 60
abbrev sLawAreEven : Stmt := top 61
abbrev sLawPlain : Stmt := top 62
abbrev sLawSpan : Stmt := top 63
abbrev sLawContrary : Stmt := top 64
abbrev sLawStill : Stmt := top 65
abbrev sLawSequence : Stmt := top 66
abbrev sLawLed : Stmt := top 67
abbrev sLawPaired : Stmt := top 68
abbrev sLawOwnOver : Stmt := top 69
abbrev sLawListRight : Stmt := top 70
abbrev sLawRoomRight : Stmt := top 71
abbrev sLawRight : Stmt := top 72
abbrev sLawWhole : Stmt := top 73
abbrev sLaw : Stmt := top 74
abbrev s_tInit : Stmt := inClass (top 26) 0
abbrev s_rInit : Stmt := inClass (top 28) 0
abbrev s_rPlaces : Stmt := inClass (top 28) 1
abbrev s_rBasis : Stmt := inClass (top 28) 3
abbrev s_rHas : Stmt := inClass (top 28) 4
abbrev s_rEq : Stmt := inClass (top 28) 6
/-- a def of the top: where it stands, what its name means, how it binds -/
structure D1 (K : PySem.W.Frag) (mg : Str → Option Value) (x : Str) (st : Stmt) (ps : List Str) : Prop where
  ex : ∃ (f : Addr) (fd : FuncData), Fun K x x st f fd ∧ mg x = some (.ref f) ∧ Binds K fd ps []
/-- a method -/
structure M1 (K : PySem.W.Frag) (C : Addr) (x qual : Str) (st : Stmt) (ps : List Str) (f : Addr) : Prop where
  ex : ∃ (fd : FuncData), Fun K x qual st f fd ∧ Binds K fd ps []
/-- what the walk asks of the top -/
structure Txt (K : PySem.W.Frag) (mg : Str → Option Value) (CT CR fTI fRI gP pP fB fH fE : Addr) (aH : Addr) : Prop where
  iT : C8.InsC K CT
  mkT : Mk K CT fTI
  mgT : mg "Told" = some (.ref CT)
  nTp : NoAttr K CT "told_places"
  nTb : NoAttr K CT "told_basis"
  iR : C8.InsC K CR
  mkR : Mk K CR fRI
  mgR : mg "Room" = some (.ref CR)
  nRp : NoAttr K CR "own_places"
  nRb : NoAttr K CR "own_basis"
  prP : PropOf K CR "places" pP gP
  meB : Meth K CR "basis" fB
  meH : Meth K CR "has" fH
  eqF : PySem.W.findIn K (.ref CR) "__eq__" = some (some (.ref fE))
  eqI : PySem.W.isFn K (.ref fE) = true
  kIT : PySem.W.kitOne K (.type "int") (.ref CT) = some false
  cMP : ∃ t, mg "MOST_PLACES" = some (.int 24 t)
  cMW : ∃ t, mg "MOST_WORDS" = some (.int 48 t)
  cMF : ∃ t, mg "MOST_FILLS" = some (.int 135 t)
  cH : mg "HALVES" = some (.ref aH)
  hH : ∀ H, SqT K H aH ([0, 1, 1, 2, 1, 2, 2, 3, 1, 2, 2, 3, 2, 3, 3, 4].map V.int)
  z_isinstance : mg "isinstance" = none
  z_int : mg "int" = none
  z_bool : mg "bool" = none
  z_list : mg "list" = none
  z_tuple : mg "tuple" = none
  z_min : mg "min" = none
  z_sorted : mg "sorted" = none
  z_range : mg "range" = none
  z_enumerate : mg "enumerate" = none
  z_zip : mg "zip" = none
  z_sum : mg "sum" = none
  z_len : mg "len" = none
  z_abs : mg "abs" = none
  z_max : mg "max" = none
  z_divmod : mg "divmod" = none
  z_any : mg "any" = none
  z_all : mg "all" = none
  dIsInteger : D1 K mg "is_integer" sIsInteger ["value"]
  dIsCount : D1 K mg "is_count" sIsCount ["value"]
  dIsList : D1 K mg "is_list" sIsList ["value"]
  dIsPlaces : D1 K mg "is_places" sIsPlaces ["value"]
  dWantPlaces : D1 K mg "want_places" sWantPlaces ["value"]
  dWantAtMost : D1 K mg "want_at_most" sWantAtMost ["what", "limit", "number"]
  dLeftOf : D1 K mg "left_of" sLeftOf ["basis", "word"]
  dWithWord : D1 K mg "with_word" sWithWord ["basis", "word"]
  dPlainBasis : D1 K mg "plain_basis" sPlainBasis ["words"]
  dAllWords : D1 K mg "all_words" sAllWords ["basis"]
  dToldRoom : D1 K mg "told_room" sToldRoom ["places", "words"]
  dRoomBy : D1 K mg "room_by" sRoomBy ["places", "basis"]
  dWantRoom : D1 K mg "want_room" sWantRoom ["value"]
  dWantWord : D1 K mg "want_word" sWantWord ["room", "value"]
  dWeightOf : D1 K mg "weight_of" sWeightOf ["word"]
  dIsOdd : D1 K mg "is_odd" sIsOdd ["word"]
  dSpotsOf : D1 K mg "spots_of" sSpotsOf ["word"]
  dAllOn : D1 K mg "all_on" sAllOn ["places"]
  dContraryBasis : D1 K mg "contrary_basis" sContraryBasis ["places", "basis"]
  dOddTwo : D1 K mg "odd_two" sOddTwo ["basis"]
  dAreStill : D1 K mg "are_still" sAreStill ["basis"]
  dIsOwnRoom : D1 K mg "is_own_room" sIsOwnRoom ["room"]
  dWantStill : D1 K mg "want_still" sWantStill ["value"]
  dIsOwn : D1 K mg "is_own" sIsOwn ["room"]
  dWithAll : D1 K mg "with_all" sWithAll ["places", "basis"]
  dFillNumber : D1 K mg "fill_number" sFillNumber ["places", "dimension"]
  dClassWords : D1 K mg "class_words" sClassWords ["places", "basis"]
  dFillsOf : D1 K mg "fills_of" sFillsOf ["places", "basis"]
  dFillCount : D1 K mg "fill_count" sFillCount ["room"]
  dFills : D1 K mg "fills" sFills ["room"]
  dWantAlike : D1 K mg "want_alike" sWantAlike ["room", "other"]
  dLiesIn : D1 K mg "lies_in" sLiesIn ["room", "other"]
  dLawPot : D1 K mg "_law_pot" sLawPot ["_law_script", "_law_k"]
  dLawDraw : D1 K mg "_law_draw" sLawDraw ["_law_pot_here", "_law_many"]
  dLawPick : D1 K mg "_law_pick" sLawPick ["_law_pot_here", "_law_some"]
  dLawWeight : D1 K mg "_law_weight" sLawWeight ["_law_word"]
  dLawAreEven : D1 K mg "_law_are_even" sLawAreEven ["_law_one", "_law_other"]
  dLawPlain : D1 K mg "_law_plain" sLawPlain ["_law_words"]
  dLawSpan : D1 K mg "_law_span" sLawSpan ["_law_basis"]
  dLawContrary : D1 K mg "_law_contrary" sLawContrary ["_law_places", "_law_words"]
  dLawStill : D1 K mg "_law_still" sLawStill ["_law_pot_here", "_law_places", "_law_most"]
  dLawSequence : D1 K mg "_law_sequence" sLawSequence ["_law_pot_here", "_law_places"]
  dLawLed : D1 K mg "_law_led" sLawLed ["_law_word", "_law_sequence_here"]
  dLawPaired : D1 K mg "_law_paired" sLawPaired ["_law_pot_here", "_law_pairs", "_law_most"]
  dLawOwnOver : D1 K mg "_law_own_over" sLawOwnOver ["_law_places", "_law_words"]
  dLawListRight : D1 K mg "_law_list_right" sLawListRight ["_law_room", "_law_told"]
  dLawRoomRight : D1 K mg "_law_room_right" sLawRoomRight ["_law_places", "_law_words"]
  dLawRight : D1 K mg "_law_right" sLawRight ["_law_pot_here"]
  dLawWhole : D1 K mg "_law_whole" sLawWhole ["_law_pairs"]
  dLaw : D1 K mg "law" sLaw ["_law_script"]
  m_tInit : M1 K CT "__init__" "Told.__init__" s_tInit ["self", "places", "basis"] fTI
  m_rInit : M1 K CR "__init__" "Room.__init__" s_rInit ["self", "places", "words"] fRI
  m_rPlaces : M1 K CR "places" "Room.places" s_rPlaces ["self"] gP
  m_rBasis : M1 K CR "basis" "Room.basis" s_rBasis ["self"] fB
  m_rHas : M1 K CR "has" "Room.has" s_rHas ["self", "word"] fH
  m_rEq : M1 K CR "__eq__" "Room.__eq__" s_rEq ["self", "other"] fE
end K27W
set_option maxHeartbeats 4000000
/-! K27Help: numbers and words as values, operators upon them, promises' shapes. -/
namespace K27W
open PySem PySem.Spec L2 Evl
abbrev vI (n : Nat) : V := .int (n : Int)
abbrev vW (ws : List Nat) : List V := ws.map vI
abbrev toI (ws : List Nat) : List Int := ws.map Int.ofNat
theorem vW_toI (ws : List Nat) : vW ws = (toI ws).map V.int := by
  unfold vW toI
  rw [List.map_map]
  rfl
theorem vI_inj {n m : Nat} (h : vI n = vI m) : n = m := by
  injection h with h
  exact Int.ofNat.inj h
theorem vW_get {ws : List Nat} {i : Nat} {x : V} (h : (vW ws)[i]? = some x) : ∃ w, ws[i]? = some w ∧ x = vI w := by
  rw [List.getElem?_map] at h
  obtain ⟨w, h1, h2⟩ := Option.map_eq_some_iff.mp h
  exact ⟨w, h1, h2.symm⟩
theorem vW_len (ws : List Nat) : (vW ws).length = ws.length := List.length_map _
theorem lt_of_get {α : Type} {l : List α} {i : Nat} {x : α} (h : l[i]? = some x) : i < l.length := (List.getElem?_eq_some_iff.mp h).1
theorem mem_of_get {α : Type} {l : List α} {i : Nat} {x : α} (h : l[i]? = some x) : x ∈ l := List.mem_of_getElem? h
theorem take_succ_get {α : Type} {l : List α} {i : Nat} {x : α} (h : l[i]? = some x) : l.take (i + 1) = l.take i ++ [x] := by
  rw [List.take_succ, h]
  rfl
theorem foldl_take_succ {α β : Type} {f : β → α → β} {b : β} {l : List α} {i : Nat} {x : α} (h : l[i]? = some x) : (l.take (i + 1)).foldl f b = f ((l.take i).foldl f b) x := by
  rw [take_succ_get h, List.foldl_append]
  rfl
theorem sl_of {n : Nat} (h : n ≤ 10000000) : n ≤ sizeLine := Nat.le_trans h (by decide)
theorem sl_lt {n : Nat} (h : n ≤ 10000000) : n < sizeLine := Nat.lt_of_le_of_lt h (by decide)

/-! ### the promise of a def, found by its name -/
def Ok (P : Program) (w : World) (K : PySem.W.Frag) (mg : Str → Option Value) (base : Heap) (k : Nat) (x : Str) (ps : List Str) (sp : Sp) : Prop :=
  ∃ (f : Addr) (fd : FuncData), FnOk P w K mg base CX0 k f fd ps sp ∧ mg x = some (.ref f) ∧ PySem.W.keepIn K (.ref f) = true ∧ Binds K fd ps []
section
variable {P : Program} {w : World} {K : PySem.W.Frag} {mg : Str → Option Value} {base : Heap}
theorem ok_of {x : Str} {st : Stmt} {N ps : List Str} {k : Nat} {sp : Sp} (D : D1 K mg x st ps) (S : FnScope N ps (defScope st)) (len : ∀ vs H Q E, sp vs H Q E → vs.length = ps.length)
    (hbody : ∀ (f : Addr) (cdv : Value) (A : Around) (outer : List Env) (s : Shared) (H : Hp) (vs : List V) (Q : VK) (E : XK), Room k (A.deeper (PyProof.Rows.envOfC x (defScope st) s.heap.objs.size f cdv)) → sp vs H Q E →
      ∃ t, PSs (cxOf CX0 P w K mg base N x (defScope st) f cdv A outer s H E).nox (defBody st) t ∧ t { nx := fun _ H' => Q .non H', rt := Q } (start N vs) H) : Ok P w K mg base (k + 1) x ps sp := by
  obtain ⟨f, fd, F, m, b⟩ := D.ex
  exact ⟨f, fd, F.ok S len (hbody f), m, F.kp, b⟩
end

/-! ### operators -/
section
variable {X : Cx}
def rN2 (C : Nat → Nat → Prop) (g : Nat → Nat → Nat) : R2 := fun x y H Q => ∃ n m : Nat, x = vI n ∧ y = vI m ∧ C n m ∧ Q (vI (g n m)) H
theorem op_xorN : OpR X (binaryOp .BitXor) (rN2 (fun _ _ => True) fun n m => n ^^^ m) := by
  intro pins s σ H x y v u Q I rx ry h
  obtain ⟨n, m, rfl, rfl, _, q⟩ := h
  refine op_xor pins s σ H _ _ v u Q I rx ry ⟨n, m, rfl, rfl, ?_⟩
  dsimp only
  rw [K27R.b_xor]
  exact q
theorem op_andN : OpR X (binaryOp .BitAnd) (rN2 (fun _ _ => True) fun n m => n &&& m) := by
  intro pins s σ H x y v u Q I rx ry h
  obtain ⟨n, m, rfl, rfl, _, q⟩ := h
  refine op_and pins s σ H _ _ v u Q I rx ry ⟨n, m, rfl, rfl, ?_⟩
  dsimp only
  rw [K27R.b_and]
  exact q
theorem op_orN : OpR X (binaryOp .BitOr) (rN2 (fun _ _ => True) fun n m => n ||| m) := by
  intro pins s σ H x y v u Q I rx ry h
  obtain ⟨n, m, rfl, rfl, _, q⟩ := h
  refine op_or pins s σ H _ _ v u Q I rx ry ⟨n, m, rfl, rfl, ?_⟩
  dsimp only
  rw [K27R.b_or]
  exact q
theorem op_shrN : OpR X (binaryOp .RShift) (rN2 (fun _ _ => True) fun n m => n >>> m) := by
  intro pins s σ H x y v u Q I rx ry h
  obtain ⟨n, m, rfl, rfl, _, q⟩ := h
  refine op_shr pins s σ H _ _ v u Q I rx ry ⟨n, m, rfl, rfl, Int.natCast_nonneg _, ?_⟩
  have e : ((n : Int) / 2 ^ (m : Int).toNat) = ((n >>> m : Nat) : Int) := by
    rw [Int.toNat_natCast, Nat.shiftRight_eq_div_pow]
    rw [Int.natCast_ediv]
    congr 1
  dsimp only
  rw [e]
  exact q
theorem op_shlN : OpR X (binaryOp .LShift) (rN2 (fun n m => n < 2 ^ 60 ∧ m ≤ 1000) fun n m => n <<< m) := by
  intro pins s σ H x y v u Q I rx ry h
  obtain ⟨n, m, rfl, rfl, ⟨c1, c2⟩, q⟩ := h
  refine op_shl pins s σ H _ _ v u Q I rx ry ⟨n, m, rfl, rfl, ⟨Int.natCast_nonneg _, by omega, by rw [Int.natAbs_natCast]; exact Nat.lt_trans c1 (by decide)⟩, ?_⟩
  have e : ((n : Int) * 2 ^ (m : Int).toNat) = ((n <<< m : Nat) : Int) := by
    rw [Int.toNat_natCast, Nat.shiftLeft_eq, Int.natCast_mul]
    congr 1
  dsimp only
  rw [e]
  exact q
theorem op_addNN : OpR X (binaryOp .Add) (rN2 (fun _ _ => True) fun n m => n + m) := by
  intro pins s σ H x y v u Q I rx ry h
  obtain ⟨n, m, rfl, rfl, _, q⟩ := h
  refine op_add pins s σ H _ _ v u Q I rx ry ⟨n, m, rfl, rfl, ?_⟩
  have e : ((n : Int) + (m : Int)) = ((n + m : Nat) : Int) := rfl
  dsimp only
  rw [e]
  exact q
theorem op_subNN : OpR X (binaryOp .Sub) (rN2 (fun n m => m ≤ n) fun n m => n - m) := by
  intro pins s σ H x y v u Q I rx ry h
  obtain ⟨n, m, rfl, rfl, c, q⟩ := h
  refine op_sub pins s σ H _ _ v u Q I rx ry ⟨n, m, rfl, rfl, ?_⟩
  have e : ((n : Int) - (m : Int)) = ((n - m : Nat) : Int) := by omega
  dsimp only
  rw [e]
  exact q
theorem op_mulNN : OpR X (binaryOp .Mult) (rN2 (fun n _ => n < 2 ^ 60) fun n m => n * m) := by
  intro pins s σ H x y v u Q I rx ry h
  obtain ⟨n, m, rfl, rfl, c, q⟩ := h
  have c' : (n : Int) < 2 ^ 60 := by exact_mod_cast c
  refine op_mul pins s σ H _ _ v u Q I rx ry ⟨n, m, rfl, rfl, .inl ⟨by omega, by omega⟩, ?_⟩
  dsimp only
  rw [← Int.natCast_mul]
  exact q
theorem op_fdivNN : OpR X (binaryOp .FloorDiv) (rN2 (fun _ m => 0 < m ∧ m < 1000000) fun n m => n / m) := by
  intro pins s σ H x y v u Q I rx ry h
  obtain ⟨n, m, rfl, rfl, c, q⟩ := h
  refine op_fdiv pins s σ H _ _ v u Q I rx ry ⟨n, m, rfl, rfl, ⟨by omega, by omega⟩, ?_⟩
  dsimp only
  rw [← Int.natCast_ediv]
  exact q
theorem op_modNN : OpR X (binaryOp .Mod) (rN2 (fun _ m => 0 < m) fun n m => n % m) := by
  intro pins s σ H x y v u Q I rx ry h
  obtain ⟨n, m, rfl, rfl, c, q⟩ := h
  refine op_mod pins s σ H _ _ v u Q I rx ry ⟨n, m, rfl, rfl, by omega, ?_⟩
  dsimp only
  rw [← Int.natCast_emod]
  exact q
/-- comparisons -/
def rC2 (g : Nat → Nat → Bool) : R2 := fun x y H Q => ∃ n m : Nat, x = vI n ∧ y = vI m ∧ Q (.bl (g n m)) H
theorem op_eqN : OpR X (compareOp .Eq) (rC2 fun n m => decide (n = m)) := by
  intro pins s σ H x y v u Q I rx ry h
  obtain ⟨n, m, rfl, rfl, q⟩ := h
  refine op_eq pins s σ H _ _ v u Q I rx ry ⟨rfl, ?_⟩
  have e : decide (vI n = vI m) = decide (n = m) := by
    by_cases h : n = m
    · rw [decide_eq_true h, h]
      exact decide_eq_true rfl
    · rw [decide_eq_false h, decide_eq_false fun z => h (vI_inj z)]
  rw [e]
  exact q
theorem op_neN : OpR X (compareOp .NotEq) (rC2 fun n m => !decide (n = m)) := by
  intro pins s σ H x y v u Q I rx ry h
  obtain ⟨n, m, rfl, rfl, q⟩ := h
  refine op_ne pins s σ H _ _ v u Q I rx ry ⟨rfl, ?_⟩
  have e : decide (vI n = vI m) = decide (n = m) := by
    by_cases h : n = m
    · rw [decide_eq_true h, h]
      exact decide_eq_true rfl
    · rw [decide_eq_false h, decide_eq_false fun z => h (vI_inj z)]
  rw [e]
  exact q
theorem cmpN {op : CmpOp} {p : Int → Int → Bool} {g : Nat → Nat → Bool} (h : OpR X (compareOp op) (rI0 fun i j => .bl (p i j))) (e : ∀ n m : Nat, p n m = g n m) : OpR X (compareOp op) (rC2 g) := by
  intro pins s σ H x y v u Q I rx ry hq
  obtain ⟨n, m, rfl, rfl, q⟩ := hq
  refine h pins s σ H _ _ v u Q I rx ry ⟨n, m, rfl, rfl, ?_⟩
  dsimp only
  rw [e]
  exact q
theorem op_ltN : OpR X (compareOp .Lt) (rC2 fun n m => decide (n < m)) := cmpN op_lt fun n m => by simp
theorem op_leN : OpR X (compareOp .LtE) (rC2 fun n m => decide (n ≤ m)) := cmpN op_le fun n m => by simp
theorem op_gtN : OpR X (compareOp .Gt) (rC2 fun n m => decide (m < n)) := cmpN op_gt fun n m => by simp
theorem op_geN : OpR X (compareOp .GtE) (rC2 fun n m => decide (m ≤ n)) := cmpN op_ge fun n m => by simp
end
section
variable {K : PySem.W.Frag} {σ : L2.St} {H : Hp} {ta tb : TE}
theorem ev_n2 {C : Nat → Nat → Prop} {g : Nat → Nat → Nat} {n m : Nat} (ha : Ev ta σ H (vI n)) (hb : Ev tb σ H (vI m)) (c : C n m) : Ev (tOp (rN2 C g) ta tb) σ H (vI (g n m)) :=
  ev_op ha hb fun H1 _ _ q => ⟨n, m, rfl, rfl, c, q H1 (Ex.refl H1)⟩
theorem ev_c2 {g : Nat → Nat → Bool} {n m : Nat} (ha : Ev ta σ H (vI n)) (hb : Ev tb σ H (vI m)) : Ev (tOp (rC2 g) ta tb) σ H (.bl (g n m)) :=
  ev_op ha hb fun H1 _ _ q => ⟨n, m, rfl, rfl, q H1 (Ex.refl H1)⟩
theorem et_c2 {g : Nat → Nat → Bool} {n m : Nat} (ha : Ev ta σ H (vI n)) (hb : Ev tb σ H (vI m)) : EvT (tTest (tOp (rC2 g) ta tb)) σ H (g n m) := et_test (ev_c2 ha hb)
theorem ev_k (n : Nat) : Ev (tC (.int (n : Int))) σ H (vI n) := ev_c
theorem ev_min {n m : Nat} (ha : Ev ta σ H (vI n)) (hb : Ev tb σ H (vI m)) : Ev (tCB (fun xs H Q => ∃ i j, xs = [.int i, .int j] ∧ Q (.int (if j < i then j else i)) H) (tCons ta (tCons tb tNil))) σ H (vI (min n m)) :=
  ev_cb (ea_cons ha (ea_cons hb ea_nil)) fun H1 _ Q q => ⟨(n : Int), (m : Int), rfl, by
    have e : (if (m : Int) < (n : Int) then (m : Int) else (n : Int)) = ((min n m : Nat) : Int) := by
      by_cases h : m < n
      · rw [if_pos (by omega)]
        omega
      · rw [if_neg (by omega)]
        omega
    rw [e]
    exact q H1 (Ex.refl H1)⟩
end
/-! ### promises' shapes -/
/-- a value; a new list; a tuple that stands behind -/
def RetT (ws : List Nat) (H : Hp) (Q : VK) : Prop := ∀ p H2, Ex H H2 → H2 p = some (.tup (vW ws)) → Q (.ref p) H2
def RetN (ws : List Nat) (H : Hp) (Q : VK) : Prop := ∀ p H2, H p = none → Ex H H2 → H2 p = some (.lst (vW ws)) → Q (.ref p) H2
/-- what gives a tuple of these words, new or not -/
def EvW (te : TE) (σ : L2.St) (H : Hp) (ws : List Nat) : Prop := ∀ H1, Ex H H1 → ∀ Q : VK, (∀ p H2, Ex H1 H2 → H2 p = some (.tup (vW ws)) → Q (.ref p) H2) → te σ H1 Q
theorem ew_u {te : TE} {σ : L2.St} {H : Hp} {ws : List Nat} (h : EvU te σ H (vW ws)) : EvW te σ H ws := fun H1 e Q q => h H1 e Q fun p H2 _ e2 h2 => q p H2 e2 h2
theorem ew_v {te : TE} {σ : L2.St} {H : Hp} {ws : List Nat} {p : Addr} (h : Ev te σ H (.ref p)) (hp : H p = some (.tup (vW ws))) : EvW te σ H ws := fun H1 e Q q => h H1 e Q fun H2 e2 => q p H2 e2 (e2 _ _ (e _ _ hp))
theorem q_asgW {te : TE} {σ : L2.St} {H : Hp} {ws : List Nat} {D : Ends} {tz : TS} {i : Nat} (h : EvW te σ H ws) (k : ∀ p H1, Ex H H1 → H1 p = some (.tup (vW ws)) → tz D (σ.set i (some (.ref p))) H1) : tSeq (tAsg te (gName i)) tz D σ H :=
  h H (Ex.refl H) _ fun p H1 e h1 => k p H1 e h1
theorem s_asgW {te : TE} {σ : L2.St} {H : Hp} {ws : List Nat} {D : Ends} {i : Nat} (h : EvW te σ H ws) (k : ∀ p H1, Ex H H1 → H1 p = some (.tup (vW ws)) → D.nx (σ.set i (some (.ref p))) H1) : tAsg te (gName i) D σ H :=
  h H (Ex.refl H) _ fun p H1 e h1 => k p H1 e h1
theorem s_retW {te : TE} {σ : L2.St} {H : Hp} {ws : List Nat} {D : Ends} (h : EvW te σ H ws) (k : ∀ p H1, Ex H H1 → H1 p = some (.tup (vW ws)) → D.rt (.ref p) H1) : tRet te D σ H :=
  h H (Ex.refl H) _ fun p H1 e h1 => k p H1 e h1
theorem ew_call {sp : Sp} {dvs vs : List V} {E : XK} {ta : TA} {σ : L2.St} {H : Hp} {ws : List Nat} (h : EvA ta σ H vs) (hs : ∀ H1, Ex H H1 → ∀ Q : VK, RetT ws H1 Q → ∀ E : XK, sp (vs ++ dvs) H1 Q E) : EvW (tCall sp dvs E ta) σ H ws := fun H1 e Q q =>
  h H1 e _ fun H2 e2 => hs H2 (e.trans e2) Q (fun p H3 e3 h3 => q p H3 (e2.trans e3) h3) E
theorem el_callN {sp : Sp} {dvs vs : List V} {E : XK} {ta : TA} {σ : L2.St} {H : Hp} {ws : List Nat} (h : EvA ta σ H vs) (hs : ∀ H1, Ex H H1 → ∀ Q : VK, RetN ws H1 Q → ∀ E : XK, sp (vs ++ dvs) H1 Q E) : EvL (tCall sp dvs E ta) σ H (vW ws) := fun H1 e Q q =>
  h H1 e _ fun H2 e2 => hs H2 (e.trans e2) Q (fun p H3 hp e3 h3 => q p H3 (fresh_back e2 hp) (e2.trans e3) h3) E
theorem ev_callV {sp : Sp} {dvs vs : List V} {E : XK} {ta : TA} {σ : L2.St} {H : Hp} {z : V} (h : EvA ta σ H vs) (hs : ∀ H1, Ex H H1 → ∀ Q : VK, RetV z H1 Q → ∀ E : XK, sp (vs ++ dvs) H1 Q E) : Ev (tCall sp dvs E ta) σ H z :=
  ev_call h hs
end K27W
set_option maxHeartbeats 4000000
/-! K27Help2: comprehensions over words, calls of built-ins, as what they evaluate to. -/
namespace K27W
open PySem PySem.Spec L2 Evl
theorem given_gen {α : Type} (B : List α) (d : α) (p : α → Bool) (v : α → V) : given B.length (fun i => p (B.getD i d)) (fun i => v (B.getD i d)) = (B.filter p).map v := by
  unfold given
  have key : ∀ n, n ≤ B.length → ((List.range n).filter fun i => p (B.getD i d)).map (fun i => v (B.getD i d)) = ((B.take n).filter p).map v := by
    intro n
    induction n with
    | zero => intro _; rfl
    | succ n ih =>
      intro hn
      have hlt : n < B.length := hn
      have e : B.getD n d = B[n] := by rw [List.getD_eq_getElem?_getD, List.getElem?_eq_getElem hlt]; rfl
      rw [List.range_succ, List.filter_append, List.map_append, ih (by omega), List.take_succ, List.getElem?_eq_getElem hlt]
      show _ = (((B.take n) ++ [B[n]]).filter p).map v
      rw [List.filter_append, List.map_append]
      congr 1
      rw [List.filter_cons, List.filter_cons, e]
      cases p B[n]
      · rfl
      · show [v (B.getD n d)] = [v B[n]]
        rw [e]
  have := key B.length (Nat.le_refl _)
  rw [List.take_length] at this
  exact this
theorem getD_of {α : Type} {B : List α} {d : α} {i : Nat} {x : α} (h : B[i]? = some x) : B.getD i d = x := by
  rw [List.getD_eq_getElem?_getD, h]
  rfl
section
variable {K : PySem.W.Frag} {σ : L2.St} {H H' : Hp} {ta tb te tl : TE} {t u : TT} {x y z v : V}
theorem el_is {xs ys : List V} (h : EvL te σ H xs) (e : xs = ys) : EvL te σ H ys := by rw [← e]; exact h
theorem et_yes : EvT tYes σ H true := fun H1 _ _ q => q H1 (Ex.refl H1)
theorem vals_get {α : Type} {B : List α} {f : α → V} {i : Nat} {x : V} (h : (B.map f)[i]? = some x) : ∃ n, B[i]? = some n ∧ n ∈ B ∧ x = f n := by
  rw [List.getElem?_map] at h
  obtain ⟨n, h1, h2⟩ := Option.map_eq_some_iff.mp h
  exact ⟨n, h1, List.mem_of_getElem? h1, h2.symm⟩
/-- over a tuple whose items are told by B -/
theorem el_compT {α : Type} {a : Addr} {B : List α} {d : α} {f : α → V} {j : Nat} {vs : List Nat} (p : α → Bool) (g : α → V) (h : Ev tl σ H (.ref a)) (hx : SqT K H a (B.map f)) (hz : B.length ≤ 40000) (hw : ∀ x, wipe ((wipe σ vs).set j (some x)) vs = wipe σ vs)
    (ht : ∀ n H1, Ex H H1 → n ∈ B → EvT t ((wipe σ vs).set j (some (f n))) H1 (p n)) (he : ∀ n H1, Ex H H1 → n ∈ B → p n = true → Ev te ((wipe σ vs).set j (some (f n))) H1 (g n)) :
    EvL (tLc (iTup K tl) (gName j) t te vs) σ H ((B.filter p).map g) := by
  rw [← given_gen B d p g]
  intro H0 e Q q
  refine h H0 e _ fun H1 e1 => ⟨a, rfl, ⟨_, ex_t (e.trans e1) hx⟩, fun Dl hD => ?_⟩
  refine lc_tup (xs := B.map f) (Cw H1 (fun i => p (B.getD i d)) (fun i => g (B.getD i d)) Dl) ⟨hD, Ex.new hD, upd_same⟩ (fun i H' _ p => ex_t ((e.trans e1).trans p.2.1) hx) (fun i x H' hi pw => ?_) (fun H' p => q Dl H' (fresh_back e1 p.1) (e1.trans p.2.1) (by have := p.2.2; rw [List.length_map] at this; exact this))
  obtain ⟨n, hn, hm, rfl⟩ := vals_get hi
  have hlt := (List.getElem?_eq_some_iff.mp hn).1
  refine ⟨hw _, cw_turn pw (by omega) ?_ fun hf => ?_⟩
  · rw [getD_of hn]
    exact ht n H1 (e.trans e1) hm
  · rw [getD_of hn] at hf ⊢
    exact he n H1 (e.trans e1) hm hf
/-- over a list -/
theorem el_compL {α : Type} {a : Addr} {B : List α} {d : α} {f : α → V} {j : Nat} {vs : List Nat} (p : α → Bool) (g : α → V) (h : Ev tl σ H (.ref a)) (hx : SqL K H a (B.map f)) (hz : B.length ≤ 40000) (hw : ∀ x, wipe ((wipe σ vs).set j (some x)) vs = wipe σ vs)
    (ht : ∀ n H1, Ex H H1 → n ∈ B → EvT t ((wipe σ vs).set j (some (f n))) H1 (p n)) (he : ∀ n H1, Ex H H1 → n ∈ B → p n = true → Ev te ((wipe σ vs).set j (some (f n))) H1 (g n)) :
    EvL (tLc (iList K tl) (gName j) t te vs) σ H ((B.filter p).map g) := by
  rw [← given_gen B d p g]
  intro H0 e Q q
  refine h H0 e _ fun H1 e1 => ⟨a, rfl, ⟨_, ex_l (e.trans e1) hx⟩, fun Dl hD => ?_⟩
  refine lc_list (xs := B.map f) (Cw H1 (fun i => p (B.getD i d)) (fun i => g (B.getD i d)) Dl) ⟨hD, Ex.new hD, upd_same⟩ (fun i H' _ p => ex_l ((e.trans e1).trans p.2.1) hx) (fun i x H' hi pw => ?_) (fun H' p => q Dl H' (fresh_back e1 p.1) (e1.trans p.2.1) (by have := p.2.2; rw [List.length_map] at this; exact this))
  obtain ⟨n, hn, hm, rfl⟩ := vals_get hi
  have hlt := (List.getElem?_eq_some_iff.mp hn).1
  refine ⟨hw _, cw_turn pw (by omega) ?_ fun hf => ?_⟩
  · rw [getD_of hn]
    exact ht n H1 (e.trans e1) hm
  · rw [getD_of hn] at hf ⊢
    exact he n H1 (e.trans e1) hm hf
/-- over a list that is made for it -/
theorem el_compNL {α : Type} {B : List α} {d : α} {f : α → V} {j : Nat} {vs : List Nat} (p : α → Bool) (g : α → V) (h : EvL tl σ H (B.map f)) (hz : B.length ≤ 40000) (hw : ∀ x, wipe ((wipe σ vs).set j (some x)) vs = wipe σ vs)
    (ht : ∀ n H1, Ex H H1 → n ∈ B → EvT t ((wipe σ vs).set j (some (f n))) H1 (p n)) (he : ∀ n H1, Ex H H1 → n ∈ B → p n = true → Ev te ((wipe σ vs).set j (some (f n))) H1 (g n)) :
    EvL (tLc (iList K tl) (gName j) t te vs) σ H ((B.filter p).map g) := by
  rw [← given_gen B d p g]
  intro H0 e Q q
  refine h H0 e _ fun a H1 ha e1 hx => ⟨a, rfl, ⟨_, sq_of hx⟩, fun Dl hD => ?_⟩
  refine lc_list (xs := B.map f) (Cw H1 (fun i => p (B.getD i d)) (fun i => g (B.getD i d)) Dl) ⟨hD, Ex.new hD, upd_same⟩ (fun i H' _ p => sq_of (p.2.1 a _ hx)) (fun i x H' hi pw => ?_) (fun H' p => q Dl H' (fresh_back e1 p.1) (e1.trans p.2.1) (by have := p.2.2; rw [List.length_map] at this; exact this))
  obtain ⟨n, hn, hm, rfl⟩ := vals_get hi
  have hlt := (List.getElem?_eq_some_iff.mp hn).1
  refine ⟨hw _, cw_turn pw (by omega) ?_ fun hf => ?_⟩
  · rw [getD_of hn]
    exact ht n H1 (e.trans e1) hm
  · rw [getD_of hn] at hf ⊢
    exact he n H1 (e.trans e1) hm hf
/-- over range(n) -/
theorem el_compR {n : Nat} {j : Nat} {vs : List Nat} {ta : TA} (p : Nat → Bool) (g : Nat → V) (h : EvA ta σ H [vI n]) (hz : n ≤ 40000) (hw : ∀ x, wipe ((wipe σ vs).set j (some x)) vs = wipe σ vs)
    (ht : ∀ i H1, Ex H H1 → i < n → EvT t ((wipe σ vs).set j (some (vI i))) H1 (p i)) (he : ∀ i H1, Ex H H1 → i < n → p i = true → Ev te ((wipe σ vs).set j (some (vI i))) H1 (g i)) :
    EvL (tLc (iRng1 ta) (gName j) t te vs) σ H (((List.range n).filter p).map g) := by
  have := el_lcR1 (te := te) (t := t) (n := (n : Int)) p g h ⟨Int.natCast_nonneg _, by omega⟩ hw (fun i H1 e hi => ht i H1 e (by omega)) (fun i H1 e hi hf => he i H1 e (by omega) hf)
  rw [Int.toNat_natCast] at this
  exact this
theorem filter_yes {α : Type} (B : List α) : B.filter (fun _ => true) = B := List.filter_eq_self.mpr fun _ _ => rfl
/-- list + list, both made on the way -/
theorem el_cat {xs ys : List V} (ha : EvL ta σ H xs) (hb : EvL tb σ H ys) (hz : xs.length + ys.length ≤ 10000000) : EvL (tOp rCat ta tb) σ H (xs ++ ys) := fun H1 e Q q =>
  ha H1 e _ fun p H2 hp e2 h2 => hb H2 (e.trans e2) _ fun r H3 hr e3 h3 => ⟨p, r, xs, ys, rfl, rfl, e3 _ _ h2, h3, sl_of hz, fun l hl => q l _ (fresh_back (e2.trans e3) hl) ((e2.trans e3).trans (Ex.new hl)) upd_same⟩
theorem el_catV {a : Addr} {xs ys : List V} (ha : Ev ta σ H (.ref a)) (hx : H a = some (.lst xs)) (hb : EvL tb σ H ys) (hz : xs.length + ys.length ≤ 10000000) : EvL (tOp rCat ta tb) σ H (xs ++ ys) := fun H1 e Q q =>
  ha H1 e _ fun H2 e2 => hb H2 (e.trans e2) _ fun r H3 hr e3 h3 => ⟨a, r, xs, ys, rfl, rfl, e3 _ _ (e2 _ _ (e _ _ hx)), h3, sl_of hz, fun l hl => q l _ (fresh_back (e2.trans e3) hl) ((e2.trans e3).trans (Ex.new hl)) upd_same⟩
/-- sorted(xs, reverse=True) of a list made on the way -/
theorem toI_perm {ns : List Int} {ws : List Nat} (h : ns.Perm (toI ws)) : ∃ vs : List Nat, vs.Perm ws ∧ ns = toI vs := by
  refine ⟨ns.map Int.toNat, ?_, ?_⟩
  · have := h.map Int.toNat
    unfold toI at this
    rw [List.map_map] at this
    have e : (Int.toNat ∘ Int.ofNat) = id := by funext n; rfl
    rw [e, List.map_id] at this
    exact this
  · unfold toI
    rw [List.map_map]
    conv => lhs; rw [← List.map_id ns]
    refine List.map_congr_left fun n hn => ?_
    have := h.mem_iff.mp hn
    obtain ⟨m, _, rfl⟩ := List.mem_map.mp this
    rfl
theorem el_sortedD {ws : List Nat} (h : EvL ta σ H (vW ws)) : EvL (tCKw (rSortedKw K true [.bl true]) (tCons ta tNil) (tCons (tC (.bl true)) tNil)) σ H (vW (K27.sortD ws)) := fun H1 e Q q =>
  h H1 e _ fun p H2 hp e2 h2 => ⟨p, toI ws, rfl, rfl, by rw [← vW_toI]; exact sq_of h2, fun ns' r hperm hord hr => by
    obtain ⟨vs, hv, rfl⟩ := toI_perm hperm
    have ord : vs.Pairwise (· ≥ ·) := by
      have h3 : (toI vs).Pairwise (· ≥ ·) := hord
      unfold toI at h3
      rw [List.pairwise_map] at h3
      exact h3.imp fun {a b} z => by
        have z' : (Int.ofNat b) ≤ (Int.ofNat a) := z
        exact Int.ofNat_le.mp z'
    have e3 : vs = K27.sortD ws := K27.sortD_of hv ord
    refine q r _ (fresh_back e2 hr) (e2.trans (Ex.new hr)) ?_
    rw [upd_same, ← vW_toI, e3]⟩
theorem el_sortedDV {ws : List Nat} {a : Addr} (h : Ev ta σ H (.ref a)) (hx : SqL K H a (vW ws)) : EvL (tCKw (rSortedKw K true [.bl true]) (tCons ta tNil) (tCons (tC (.bl true)) tNil)) σ H (vW (K27.sortD ws)) := fun H1 e Q q =>
  h H1 e _ fun H2 e2 => ⟨a, toI ws, rfl, rfl, by rw [← vW_toI]; exact ex_l (e.trans e2) hx, fun ns' r hperm hord hr => by
    obtain ⟨vs, hv, rfl⟩ := toI_perm hperm
    have ord : vs.Pairwise (· ≥ ·) := by
      have h3 : (toI vs).Pairwise (· ≥ ·) := hord
      unfold toI at h3
      rw [List.pairwise_map] at h3
      exact h3.imp fun {a b} z => by
        have z' : (Int.ofNat b) ≤ (Int.ofNat a) := z
        exact Int.ofNat_le.mp z'
    have e3 : vs = K27.sortD ws := K27.sortD_of hv ord
    refine q r _ (fresh_back e2 hr) (e2.trans (Ex.new hr)) ?_
    rw [upd_same, ← vW_toI, e3]⟩
/-- tuple(xs) of a list made on the way, of a list -/
theorem eu_tupleL {xs : List V} (h : EvL ta σ H xs) : EvU (tCB (fun xs H Q => ∃ p ys, xs = [.ref p] ∧ ((SqL K H p ys ∧ ∀ l, H l = none → Q (.ref l) (upd H l (.tup ys))) ∨ (SqT K H p ys ∧ Q (.ref p) H))) (tCons ta tNil)) σ H xs := fun H1 e Q q =>
  h H1 e _ fun p H2 hp e2 h2 => ⟨p, xs, rfl, .inl ⟨sq_of h2, fun l hl => q l _ (fresh_back e2 hl) (e2.trans (Ex.new hl)) upd_same⟩⟩
theorem eu_tupleV {xs : List V} {a : Addr} (h : Ev ta σ H (.ref a)) (hx : SqL K H a xs) : EvU (tCB (fun xs H Q => ∃ p ys, xs = [.ref p] ∧ ((SqL K H p ys ∧ ∀ l, H l = none → Q (.ref l) (upd H l (.tup ys))) ∨ (SqT K H p ys ∧ Q (.ref p) H))) (tCons ta tNil)) σ H xs := fun H1 e Q q =>
  h H1 e _ fun H2 e2 => ⟨a, xs, rfl, .inl ⟨ex_l (e.trans e2) hx, fun l hl => q l _ (fresh_back e2 hl) (e2.trans (Ex.new hl)) upd_same⟩⟩
/-- list(xs) of a list or a tuple -/
theorem el_listV {xs : List V} {a : Addr} (h : Ev ta σ H (.ref a)) (hx : SqL K H a xs ∨ SqT K H a xs) : EvL (tCB (fun xs H Q => ∃ p ys, xs = [.ref p] ∧ (SqL K H p ys ∨ SqT K H p ys) ∧ ∀ l, H l = none → Q (.ref l) (upd H l (.lst ys))) (tCons ta tNil)) σ H xs := fun H1 e Q q =>
  h H1 e _ fun H2 e2 => ⟨a, xs, rfl, hx.imp (ex_l (e.trans e2)) (ex_t (e.trans e2)), fun l hl => q l _ (fresh_back e2 hl) (e2.trans (Ex.new hl)) upd_same⟩
/-- len -/
abbrev rLenQ (K : PySem.W.Frag) : List V → Hp → VK → Prop := fun xs H Q => ∃ p ys, xs = [.ref p] ∧ (SqL K H p ys ∨ SqT K H p ys) ∧ Q (.int ys.length) H
theorem ev_lenV {xs : List V} {a : Addr} (h : Ev ta σ H (.ref a)) (hx : SqL K H a xs ∨ SqT K H a xs) : Ev (tCB (rLenQ K) (tCons ta tNil)) σ H (vI xs.length) := fun H1 e Q q =>
  h H1 e _ fun H2 e2 => ⟨a, xs, rfl, hx.imp (ex_l (e.trans e2)) (ex_t (e.trans e2)), q H2 e2⟩
/-- the reversed tuple -/
theorem eu_rev {xs : List V} {a : Addr} (h : Ev ta σ H (.ref a)) (hx : SqT K H a xs) : EvU (K27R.tRevT K ta) σ H xs.reverse := fun H1 e Q q =>
  h H1 e _ fun H2 e2 => ⟨a, xs, rfl, ex_t (e.trans e2) hx, fun p hp => q p _ (fresh_back e2 hp) (e2.trans (Ex.new hp)) upd_same⟩
/-- for over a tuple made on the way -/
theorem q_forNT {D : Ends} {g : TG} {tu tz : TS} {xs : List V} (h : EvU tl σ H xs) (Pv : Addr → Nat → L2.St → Hp → Prop) (h0 : ∀ p H1, H p = none → Ex H H1 → H1 p = some (.tup xs) → Pv p 0 σ H1) (hl : ∀ p i σ' H', i ≤ xs.length → Pv p i σ' H' → SqT K H' p xs)
    (hs : ∀ p i x σ' H', xs[i]? = some x → Pv p i σ' H' → g x σ' H' fun σ2 H2 => tu { D with nx := Pv p (i + 1), ct := Pv p (i + 1), bk := tz D } σ2 H2) (hd : ∀ p σ' H', Pv p xs.length σ' H' → tz D σ' H') : tSeq (tFor (iTup K tl) g tu) tz D σ H :=
  h H (Ex.refl H) _ fun p H1 hp e h1 => ⟨p, rfl, ⟨_, st_of h1⟩, for_tup (Pv p) (h0 p H1 hp e h1) (hl p) (hs p) (hd p)⟩
/-- for over what a call gives as a tuple -/
theorem q_forW {D : Ends} {g : TG} {tu tz : TS} {ws : List Nat} (h : EvW tl σ H ws) (Pv : Addr → Nat → L2.St → Hp → Prop) (h0 : ∀ p H1, Ex H H1 → H1 p = some (.tup (vW ws)) → Pv p 0 σ H1) (hl : ∀ p i σ' H', i ≤ ws.length → Pv p i σ' H' → SqT K H' p (vW ws))
    (hs : ∀ p i x σ' H', (vW ws)[i]? = some x → Pv p i σ' H' → g x σ' H' fun σ2 H2 => tu { D with nx := Pv p (i + 1), ct := Pv p (i + 1), bk := tz D } σ2 H2) (hd : ∀ p σ' H', Pv p ws.length σ' H' → tz D σ' H') : tSeq (tFor (iTup K tl) g tu) tz D σ H :=
  h H (Ex.refl H) _ fun p H1 e h1 => ⟨p, rfl, ⟨_, st_of h1⟩, for_tup (xs := vW ws) (Pv p) (h0 p H1 e h1) (fun i σ' H' hi pp => hl p i σ' H' (by rw [vW_len] at hi; exact hi) pp) (hs p) (fun σ' H' pp => hd p σ' H' (by rw [vW_len] at pp; exact pp))⟩
end
end K27W
set_option maxHeartbeats 4000000
/-! K27RuleC: a call with keywords alone; a comprehension that makes lists. -/
namespace K27W
open PySem PySem.Spec L2 Evl
section
variable {X : Cx} {CX : CXT} {k n : Nat} {f : Addr} {fd : FuncData} {ps ks : List Str} {sp : Sp} {E : XK} {x : Str} {p pos : Pos} {kws : List Keyword} {tk : TA} {g : List Value → List Value → List Value} {gV : List V → List V → List V}
theorem pe_callN0 (F : FnOk X.prog X.w X.K X.mg X.base CX k f fd ps sp) (hr : Room k X.A) (hg : Gl X x) (hm : X.mg x = some (.ref f)) (hk : PySem.W.keepIn X.K (.ref f) = true) (hb : KBn X.K fd ps 0 ks g gV) (hx : Passes CX X E)
    (hkw : PK X kws tk) (hall : (backToKw pos (keywordEach kws X.env)).all (·.1.isSome) = true := by rfl) (hks : (backToKw pos (keywordEach kws X.env)).filterMap (·.1) = ks := by rfl)
    (hdb : (x == ("__debug__" : Str)) = false := by decide)
    (hpl : ((backTo pos (starEach [] X.env)).any (·.1) || (backToKw pos (keywordEach kws X.env)).any (·.1.isNone)) = false := by rfl) :
    PE X (.Call (.Name x p) [] kws pos) (tCallN 0 ks.length sp gV E tNil tk) := by
  refine ⟨fun pins s σ H Q I h => ?_⟩
  refine wpAny_Call_Name_kw (ld_glob I hg hm ?_ hdb)
  refine PySem.W.callWith_KW0 (h₀ := X.base) I.ok.mod.kin hk hall (thn (hkw.run pos pins s σ H _ I h) fun ws s2 ⟨zs, H2, I2, rz, q2⟩ => ⟨I2.kIn, ?_⟩) hpl
  rw [hks]
  obtain ⟨l1, l2, q3⟩ := q2
  exact run_fnN (us := []) (vs := []) F hr hb hx I2 .nil rz l1 l2 q3
end
theorem kbn_one {K : PySem.W.Frag} {x qual p : Str} {st : Stmt} {f : Addr} {fd : FuncData} (F : L2.Fun K x qual st f fd)
    (h : ∀ (kV doc pm : Value) (an : Option Addr) (cdv ct v : Value), bindArgs (PySem.W.fnOf x qual (defArgs st) (defBody st) (defScope st) .none kV doc pm an cdv ct) ⟨[], [(p, v)]⟩ = pure [(p, v)]) : KBn K fd [p] 0 [p] (fun _ ws => ws) (fun _ zs => zs) := by
  obtain ⟨oc, od, kV, doc, pm, an, cdv, ct, osl, rfl, lk, hcd⟩ := F.ex
  refine ⟨fun s us ws X l1 l2 => ?_, fun r1 r2 => r2⟩
  obtain rfl : us = [] := List.length_eq_zero_iff.mp l1
  obtain ⟨v, rfl⟩ : ∃ v, ws = [v] := by
    match ws, l2 with
    | [v], _ => exact ⟨v, rfl⟩
  exact .of_eq (h kV doc pm an cdv ct v)
theorem kbn_fills {K : PySem.W.Frag} {f : Addr} {fd : FuncData} (F : L2.Fun K "fills" "fills" sFills f fd) : KBn K fd ["room"] 0 ["room"] (fun _ ws => ws) (fun _ zs => zs) :=
  kbn_one F fun kV doc pm an cdv ct v => by first | rfl | kernel_rfl
/-- the promise of a def that is called by its keyword, too -/
def OkF (P : Program) (w : World) (K : PySem.W.Frag) (mg : Str → Option Value) (base : Heap) (k : Nat) (x p : Str) (sp : Sp) : Prop :=
  ∃ (f : Addr) (fd : FuncData), FnOk P w K mg base CX0 k f fd [p] sp ∧ mg x = some (.ref f) ∧ PySem.W.keepIn K (.ref f) = true ∧ Binds K fd [p] [] ∧ KBn K fd [p] 0 [p] (fun _ ws => ws) (fun _ zs => zs)
theorem OkF.ok {P : Program} {w : World} {K : PySem.W.Frag} {mg : Str → Option Value} {base : Heap} {k : Nat} {x p : Str} {sp : Sp} (h : OkF P w K mg base k x p sp) : Ok P w K mg base k x [p] sp := by
  obtain ⟨f, fd, a, b, c, d, _⟩ := h
  exact ⟨f, fd, a, b, c, d⟩
theorem okf_of {P : Program} {w : World} {K : PySem.W.Frag} {mg : Str → Option Value} {base : Heap} {x p : Str} {st : Stmt} {N : List Str} {k : Nat} {sp : Sp} (D : D1 K mg x st [p]) (hkb : ∀ {f fd}, L2.Fun K x x st f fd → KBn K fd [p] 0 [p] (fun _ ws => ws) (fun _ zs => zs)) (S : FnScope N [p] (defScope st)) (len : ∀ vs H Q E, sp vs H Q E → vs.length = [p].length)
    (hbody : ∀ (f : Addr) (cdv : Value) (A : Around) (outer : List Env) (s : Shared) (H : Hp) (vs : List V) (Q : VK) (E : XK), Room k (A.deeper (PyProof.Rows.envOfC x (defScope st) s.heap.objs.size f cdv)) → sp vs H Q E →
      ∃ t, PSs (cxOf CX0 P w K mg base N x (defScope st) f cdv A outer s H E).nox (defBody st) t ∧ t { nx := fun _ H' => Q .non H', rt := Q } (start N vs) H) : OkF P w K mg base (k + 1) x p sp := by
  obtain ⟨f, fd, F, m, b⟩ := D.ex
  exact ⟨f, fd, F.ok S len (hbody f), m, F.kp, b, hkb F⟩
end K27W
set_option maxHeartbeats 4000000
/-! K27P1: left_of, with_word, plain_basis, all_words. -/
namespace K27W
open PySem PySem.Spec L2 Evl
section
variable {P : Program} {w : World} {K : PySem.W.Frag} {mg : Str → Option Value} {base : Heap} {CT CR fTI fRI gP pP fB fH fE aH : Addr}

def spLeftOf : Sp := fun vs H Q _ => ∃ (b : Addr) (B : List Nat) (w : Nat), vs = [.ref b, vI w] ∧ H b = some (.tup (vW B)) ∧ RetV (vI (K27.red B w)) H Q
theorem scLeftOf : FnScope ["basis", "word", "one"] ["basis", "word"] (defScope sLeftOf) := ⟨rfl, rfl, rfl, by decide +kernel, rfl, by decide +kernel, by decide +kernel⟩
theorem ok_left_of (T : Txt K mg CT CR fTI fRI gP pP fB fH fE aH) : Ok P w K mg base 1 "left_of" ["basis", "word"] spLeftOf := by
  refine ok_of T.dLeftOf scLeftOf (fun vs H Q E h => ?_) (fun f cdv A outer s H vs Q E hr h => ?_)
  · obtain ⟨b, B, w, rfl, _⟩ := h
    rfl
  · obtain ⟨b, B, w0, rfl, hb, k⟩ := h
    refine ⟨_, pss_cons (ps_for PassesOwn.never rfl (pi_tup (pv 0)) (pg_name (i := 2) scLeftOf.nd rfl (Or.inl rfl))
        (pss_one (ps_set (i := 1) scLeftOf.nd rfl (Or.inl rfl) (pe_callB (call_min2 rfl) (by rfl) T.z_min PyProof.Rows.boot_min (pa_cons (pv 1) (pa_cons (pe_op op_xorN (pv 1) (pv 2)) pa_nil))))))
      (pss_one (ps_ret (pv 1))), ?_⟩
    refine q_forT (a := b) (xs := vW B) (ev_var rfl) (SqT.of hb) (fun i σ' H' => ∃ v, σ' = [some (.ref b), some (vI (K27.red (B.take i) w0)), v] ∧ Ex H H') (fun H1 e => ⟨none, rfl, e⟩) (fun i σ' H' _ ⟨v, _, e⟩ => ex_t e (SqT.of hb)) ?_ ?_
    · rintro i x σ' H' hx ⟨v, rfl, e⟩
      obtain ⟨c, hc, rfl⟩ := vW_get hx
      refine s_asg (v := vI (K27.red (B.take (i + 1)) w0)) ?_ fun H1 e1 => ⟨_, rfl, e.trans e1⟩
      have er : K27.red (B.take (i + 1)) w0 = min (K27.red (B.take i) w0) (K27.red (B.take i) w0 ^^^ c) := foldl_take_succ hc
      rw [er]
      exact ev_min (ev_var rfl) (ev_n2 (ev_var rfl) (ev_var rfl) True.intro)
    · rintro σ' H' ⟨v, rfl, e⟩
      refine s_ret (ev_var rfl) fun H1 e1 => ?_
      rw [vW_len, List.take_length]
      exact k _ (e.trans e1)

/-! ### with_word -/
def spWithWord : Sp := fun vs H Q _ => ∃ (b : Addr) (B : List Nat) (w : Nat), vs = [.ref b, vI w] ∧ H b = some (.tup (vW B)) ∧ B.length ≤ 100 ∧ RetT (K27.extB B w) H Q
theorem scWithWord : FnScope ["basis", "word", "left", "one"] ["basis", "word"] (defScope sWithWord) := ⟨rfl, rfl, rfl, by decide +kernel, rfl, by decide +kernel, by decide +kernel⟩
theorem sp_left {b : Addr} {B : List Nat} {n : Nat} {H : Hp} (hb : H b = some (.tup (vW B))) {σ : L2.St} {t1 t2 : TE} (h1 : Ev t1 σ H (.ref b)) (h2 : Ev t2 σ H (vI n)) {E : XK} : Ev (tCall spLeftOf [] E (tCons t1 (tCons t2 tNil))) σ H (vI (K27.red B n)) :=
  ev_callV (ea_cons h1 (ea_cons h2 ea_nil)) fun H1 e Q q E => ⟨b, B, n, rfl, e _ _ hb, q⟩
theorem ok_with_word (T : Txt K mg CT CR fTI fRI gP pP fB fH fE aH) : Ok P w K mg base 2 "with_word" ["basis", "word"] spWithWord := by
  obtain ⟨fL, fdL, GL, mL, kL, bL⟩ := ok_left_of (P := P) (w := w) (base := base) T
  refine ok_of T.dWithWord scWithWord (fun vs H Q E h => ?_) (fun f cdv A outer s H vs Q E hr h => ?_)
  · obtain ⟨b, B, w, rfl, _⟩ := h
    rfl
  · obtain ⟨b, B, w0, rfl, hb, hlen, k⟩ := h
    refine ⟨_, pss_cons (ps_set (i := 2) scWithWord.nd rfl (Or.inr rfl) (pe_call GL hr rfl mL kL bL .nil pass0 (pa_cons (pv 0) (pa_cons (pv 1) pa_nil))))
      (pss_cons (ps_if (pt_cmpR op_eqN (pv 2) pe_int (nomark _)) (pss_one (ps_ret (pv 0))) pss_nil)
      (pss_one (ps_ret (pe_callTy call_tuple_of (by rfl) T.z_tuple PyProof.Rows.boot_tuple (pa_cons (pe_callBK (cr_sortedRev (b := true)) (by rfl) T.z_sorted PyProof.Rows.boot_sorted
        (pa_cons (pe_op op_cat (pe_lc (own := [("one", 3)]) (g := gName 3) (tt := tYes) rfl scWithWord.nd (pi_tup (pv 0)) (blkOk_by (own := [("one", 3)]) (N := ["basis", "word", "left", "one"]) (sc := defScope sWithWord) (by decide +kernel))
            (fun _ _ _ _ _ => pg_name (i := 3) scWithWord.nd rfl (Or.inl rfl)) (fun _ _ _ _ _ => pts_nil)
            (fun _ _ _ _ _ => pe_callB (call_min2 rfl) (by rfl) T.z_min PyProof.Rows.boot_min (pa_cons (pv 3) (pa_cons (pe_op op_xorN (pv 3) (pv 2)) pa_nil))))
          (pe_lst (pa_cons (pv 2) pa_nil))) pa_nil) (pk_cons pe_bl pk_nil)) pa_nil))))), ?_⟩
    refine q_asg (v := vI (K27.red B w0)) (sp_left hb (ev_var rfl) (ev_var rfl)) fun H1 e1 => ?_
    refine q_when (b := decide (K27.red B w0 = 0)) (et_c2 (ev_var rfl) (ev_k 0)) (fun hz H2 e2 => ?_) (fun hz H2 e2 => ?_)
    · refine s_ret (ev_var rfl) fun H3 e3 => ?_
      refine k b H3 ((e1.trans e2).trans e3) ?_
      have ez : K27.extB B w0 = B := if_pos (of_decide_eq_true hz)
      rw [ez]
      exact ((e1.trans e2).trans e3) _ _ hb
    · have ez : K27.extB B w0 = K27.sortD (K27.extU B (K27.red B w0)) := if_neg (of_decide_eq_false hz)
      have hb2 := (e1.trans e2) _ _ hb
      refine s_retW (ws := K27.extB B w0) (ew_u ?_) fun p H3 e3 h3 => k p H3 ((e1.trans e2).trans e3) h3
      rw [ez]
      refine eu_tupleL (el_sortedD ?_)
      refine el_is (el_cat (xs := vW (B.map fun o => min o (o ^^^ K27.red B w0))) (ys := [vI (K27.red B w0)]) ?_ (el_lst (ea_cons (ev_var rfl) ea_nil) (by show 1 ≤ 100000; decide)) (by rw [vW_len, List.length_map]; show B.length + 1 ≤ _; omega)) ?_
      · have hc := el_compT (K := K) (σ := start ["basis", "word", "left", "one"] [.ref b, vI w0] |>.set 2 (some (vI (K27.red B w0)))) (H := H2) (tl := tVar 0) (te := tCB (fun xs H Q => ∃ i j, xs = [.int i, .int j] ∧ Q (.int (if j < i then j else i)) H) (tCons (tVar 3) (tCons (tOp (rN2 (fun _ _ => True) fun n m => n ^^^ m) (tVar 3) (tVar 2)) tNil))) (t := tYes)
          (a := b) (B := B) (d := 0) (f := vI) (j := 3) (vs := [3]) (fun _ => true) (fun o => vI (min o (o ^^^ K27.red B w0))) (ev_var rfl) (SqT.of hb2) (by omega) (fun _ => rfl) (fun _ _ _ _ => et_yes) (fun n H3 _ _ _ => ev_min (ev_var rfl) (ev_n2 (ev_var rfl) (ev_var rfl) True.intro))
        rw [filter_yes] at hc
        unfold vW
        rw [List.map_map]
        exact hc
      · unfold K27.extU vW
        rw [List.map_append]
        rfl
/-! ### plain_basis -/
theorem extB_len_le (B : List Nat) (w : Nat) : (K27.extB B w).length ≤ B.length + 1 := by
  unfold K27.extB
  split
  · omega
  · rw [(K27.sortD_perm _).length_eq]
    unfold K27.extU
    rw [List.length_append, List.length_map, List.length_singleton]
    exact Nat.le_refl _
theorem foldl_len_le : ∀ (ws B : List Nat), (ws.foldl K27.extB B).length ≤ B.length + ws.length
  | [], B => Nat.le_refl _
  | w :: ws, B => by
    have h1 := foldl_len_le ws (K27.extB B w)
    have h2 := extB_len_le B w
    show (ws.foldl K27.extB (K27.extB B w)).length ≤ _
    rw [List.length_cons]
    omega
theorem sp_with {b : Addr} {B : List Nat} {n : Nat} {H : Hp} (hb : H b = some (.tup (vW B))) (hl : B.length ≤ 100) {σ : L2.St} {t1 t2 : TE} (h1 : Ev t1 σ H (.ref b)) (h2 : Ev t2 σ H (vI n)) {E : XK} : EvW (tCall spWithWord [] E (tCons t1 (tCons t2 tNil))) σ H (K27.extB B n) :=
  ew_call (ea_cons h1 (ea_cons h2 ea_nil)) fun H1 e Q q E => ⟨b, B, n, rfl, e _ _ hb, hl, q⟩
def spPlain : Sp := fun vs H Q _ => ∃ (b : Addr) (ws : List Nat), vs = [.ref b] ∧ SqL K H b (vW ws) ∧ ws.length ≤ 99 ∧ RetT (K27.plainOf ws) H Q
theorem scPlain : FnScope ["words", "found", "word"] ["words"] (defScope sPlainBasis) := ⟨rfl, rfl, rfl, by decide +kernel, rfl, by decide +kernel, by decide +kernel⟩
theorem ok_plain (T : Txt K mg CT CR fTI fRI gP pP fB fH fE aH) : Ok P w K mg base 3 "plain_basis" ["words"] (spPlain (K := K)) := by
  obtain ⟨fW, fdW, GW, mW, kW, bW⟩ := ok_with_word (P := P) (w := w) (base := base) T
  refine ok_of T.dPlainBasis scPlain (fun vs H Q E h => ?_) (fun f cdv A outer s H vs Q E hr h => ?_)
  · obtain ⟨b, ws, rfl, _⟩ := h
    rfl
  · obtain ⟨b, ws, rfl, hb, hlen, k⟩ := h
    refine ⟨_, pss_cons (ps_set (i := 1) scPlain.nd rfl (Or.inl rfl) (pe_tup pa_nil))
      (pss_cons (ps_for PassesOwn.never rfl (pi_list (pv 0)) (pg_name (i := 2) scPlain.nd rfl (Or.inl rfl))
        (pss_one (ps_set (i := 1) scPlain.nd rfl (Or.inl rfl) (pe_call GW hr rfl mW kW bW .nil pass0 (pa_cons (pv 1) (pa_cons (pv 2) pa_nil))))))
      (pss_one (ps_ret (pv 1)))), ?_⟩
    refine q_asgU (xs := []) (eu_tup ea_nil (by decide)) fun p H1 _ e1 h1 => ?_
    refine q_forL (a := b) (xs := vW ws) (ev_var rfl) (ex_l e1 hb) (fun i σ' H' => ∃ q v, σ' = [some (.ref b), some (.ref q), v] ∧ Ex H H' ∧ H' q = some (.tup (vW ((ws.take i).foldl K27.extB [])))) (fun H2 e2 => ⟨p, none, rfl, e1.trans e2, e2 _ _ h1⟩) (fun i σ' H' _ ⟨q, v, _, e, _⟩ => ex_l e hb) ?_ ?_
    · rintro i x σ' H' hx ⟨q, v, rfl, e, hq⟩
      obtain ⟨c, hc, rfl⟩ := vW_get hx
      have hl : ((ws.take i).foldl K27.extB []).length ≤ 100 := by
        have := foldl_len_le (ws.take i) []
        have h3 : (ws.take i).length ≤ ws.length := by rw [List.length_take]; omega
        simp only [List.length_nil] at this
        omega
      refine s_asgW (ws := (ws.take (i + 1)).foldl K27.extB []) ?_ fun r H2 e2 h2 => ⟨r, _, rfl, e.trans e2, h2⟩
      rw [foldl_take_succ hc]
      exact sp_with hq hl (ev_var rfl) (ev_var rfl)
    · rintro σ' H' ⟨q, v, rfl, e, hq⟩
      refine s_ret (ev_var rfl) fun H2 e2 => ?_
      refine k q H2 (e.trans e2) ?_
      rw [vW_len, List.take_length] at hq
      exact e2 _ _ hq
/-! ### all_words -/
def spAllWords : Sp := fun vs H Q _ => ∃ (b : Addr) (B : List Nat), vs = [.ref b] ∧ H b = some (.tup (vW B)) ∧ B.length ≤ 14 ∧ RetN (K27.allW B) H Q
theorem scAllWords : FnScope ["basis", "found", "one", "word"] ["basis"] (defScope sAllWords) := ⟨rfl, rfl, rfl, by decide +kernel, rfl, by decide +kernel, by decide +kernel⟩
theorem ok_all_words (T : Txt K mg CT CR fTI fRI gP pP fB fH fE aH) : Ok P w K mg base 1 "all_words" ["basis"] spAllWords := by
  refine ok_of T.dAllWords scAllWords (fun vs H Q E h => ?_) (fun f cdv A outer s H vs Q E hr h => ?_)
  · obtain ⟨b, B, rfl, _⟩ := h
    rfl
  · obtain ⟨b, B, rfl, hb, hlen, k⟩ := h
    refine ⟨_, pss_cons (ps_set (i := 1) scAllWords.nd rfl (Or.inl rfl) (pe_lst (pa_cons pe_int pa_nil)))
      (pss_cons (ps_for PassesOwn.never rfl (pi_tup (K27R.pe_revT (pv 0))) (pg_name (i := 2) scAllWords.nd rfl (Or.inr rfl))
        (pss_one (ps_set (i := 1) scAllWords.nd rfl (Or.inl rfl) (pe_op op_cat (pv 1) (pe_lc (own := [("word", 3)]) (g := gName 3) (tt := tYes) rfl scAllWords.nd (pi_list (pv 1)) (blkOk_by (own := [("word", 3)]) (N := ["basis", "found", "one", "word"]) (sc := defScope sAllWords) (by decide +kernel))
            (fun _ _ _ _ _ => pg_name (i := 3) scAllWords.nd rfl (Or.inl rfl)) (fun _ _ _ _ _ => pts_nil)
            (fun _ _ _ _ _ => pe_op op_xorN (pv 3) (pv 2)))))))
      (pss_one (ps_ret (pv 1)))), ?_⟩
    refine q_asgL (xs := [vI 0]) (el_lst (ea_cons (ev_k 0) ea_nil) (by show 1 ≤ 100000; decide)) fun p H1 hp e1 h1 => ?_
    have hb1 := e1 _ _ hb
    refine q_forNT (xs := (vW B).reverse) (eu_rev (ev_var rfl) (SqT.of hb1)) (fun r i σ' H' => ∃ q v, σ' = [some (.ref b), some (.ref q), v, none] ∧ Ex H H' ∧ H q = none ∧ H' r = some (.tup (vW B).reverse) ∧ H' q = some (.lst (vW (K27.allW (B.reverse.take i).reverse))))
      (fun r H2 hr e2 h2 => ⟨p, none, rfl, e1.trans e2, hp, h2, e2 _ _ h1⟩) (fun r i σ' H' _ ⟨q, v, _, _, _, h, _⟩ => SqT.of h) ?_ ?_
    · rintro r i x σ' H' hx ⟨q, v, rfl, e, hq0, hr', hq⟩
      have hx' : (vW B.reverse)[i]? = some x := by
        unfold vW
        rw [List.map_reverse]
        exact hx
      obtain ⟨c, hc, rfl⟩ := vW_get hx'
      have hi : i < B.reverse.length := (List.getElem?_eq_some_iff.mp hc).1
      rw [List.length_reverse] at hi
      generalize hL : K27.allW (B.reverse.take i).reverse = L at hq
      have hLl : L.length ≤ 16384 := by
        rw [← hL, K27.allW_len, List.length_reverse, List.length_take, List.length_reverse]
        exact Nat.le_trans (Nat.pow_le_pow_right (by decide) (by omega : min i B.length ≤ 14)) (by decide)
      have eL : K27.allW (B.reverse.take (i + 1)).reverse = L ++ L.map (fun w => w ^^^ c) := by
        rw [take_succ_get hc, List.reverse_append]
        show K27.allW (c :: (B.reverse.take i).reverse) = _
        show K27.allW (B.reverse.take i).reverse ++ (K27.allW (B.reverse.take i).reverse).map (fun w => w ^^^ c) = _
        rw [hL]
      refine s_asgL (xs := vW (L ++ L.map (fun w => w ^^^ c))) ?_ fun z H2 hz e2 h2 => ⟨z, _, rfl, e.trans e2, fresh_back e hz, e2 _ _ hr', by rw [eL]; exact h2⟩
      refine el_is (el_catV (xs := vW L) (ys := vW (L.map (fun w => w ^^^ c))) (ev_var rfl) hq ?_ (by rw [vW_len, vW_len, List.length_map]; omega)) ?_
      · have hcm := el_compL (K := K) (σ := [some (.ref b), some (.ref q), some (vI c), none]) (H := H') (tl := tVar 1) (te := tOp (rN2 (fun _ _ => True) fun n m => n ^^^ m) (tVar 3) (tVar 2)) (t := tYes)
          (a := q) (B := L) (d := 0) (f := vI) (j := 3) (vs := [3]) (fun _ => true) (fun o => vI (o ^^^ c)) (ev_var rfl) (SqL.of hq) (by omega) (fun _ => rfl) (fun _ _ _ _ => et_yes) (fun n H3 _ _ _ => ev_n2 (ev_var rfl) (ev_var rfl) True.intro)
        rw [filter_yes] at hcm
        unfold vW
        rw [List.map_map]
        exact hcm
      · unfold vW
        rw [List.map_append]
    · rintro r σ' H' ⟨q, v, rfl, e, hq0, hr', hq⟩
      refine s_ret (ev_var rfl) fun H2 e2 => ?_
      refine k q H2 hq0 (e.trans e2) ?_
      have eB : (B.reverse.take (vW B).reverse.length).reverse = B := by
        rw [List.length_reverse, vW_len, ← List.length_reverse (as := B), List.take_length, List.reverse_reverse]
      rw [eB] at hq
      exact e2 _ _ hq
end
end K27W
set_option maxHeartbeats 4000000
/-! K27P2: checks of what is passed, Told, Room. -/
namespace K27W
open PySem PySem.Spec L2 Evl

/-! ### objects -/
theorem ktb : ¬ (("told_places" : Str) = "told_basis") := by decide +kernel
theorem krb : ¬ (("own_places" : Str) = "own_basis") := by decide +kernel
def tf (n : Nat) (b : Addr) : List (Str × V) := putF "told_basis" (.ref b) (putF "told_places" (vI n) [])
def rf (n : Nat) (b : Addr) : List (Str × V) := putF "own_basis" (.ref b) (putF "own_places" (vI n) [])
theorem tf_p (n : Nat) (b : Addr) : (tf n b).lookup ("told_places" : Str) = some (vI n) := by
  unfold tf
  rw [lookup_putF, if_neg ktb, lookup_putF, if_pos rfl]
theorem tf_b (n : Nat) (b : Addr) : (tf n b).lookup ("told_basis" : Str) = some (.ref b) := by
  unfold tf
  rw [lookup_putF, if_pos rfl]
theorem rf_p (n : Nat) (b : Addr) : (rf n b).lookup ("own_places" : Str) = some (vI n) := by
  unfold rf
  rw [lookup_putF, if_neg krb, lookup_putF, if_pos rfl]
theorem rf_b (n : Nat) (b : Addr) : (rf n b).lookup ("own_basis" : Str) = some (.ref b) := by
  unfold rf
  rw [lookup_putF, if_pos rfl]
theorem rf_no (n : Nat) (b : Addr) {m : Str} (h1 : ¬ m = "own_basis") (h2 : ¬ m = "own_places") : (rf n b).lookup m = none := by
  unfold rf
  rw [lookup_putF, if_neg h1, lookup_putF, if_neg h2]
  rfl
/-- a Told, a Room stands at p: n places, the plain basis B -/
structure ToldAt (C : Addr) (H : Hp) (p : Addr) (n : Nat) (B : List Nat) : Prop where
  ex : ∃ (dx b : Addr), H p = some (.ins C dx (tf n b)) ∧ H b = some (.tup (vW B))
structure RoomAt (C : Addr) (H : Hp) (p : Addr) (n : Nat) (B : List Nat) : Prop where
  ex : ∃ (dx b : Addr), H p = some (.ins C dx (rf n b)) ∧ H b = some (.tup (vW B))
theorem ToldAt.mono {C : Addr} {H H' : Hp} {p : Addr} {n : Nat} {B : List Nat} (h : ToldAt C H p n B) (e : Ex H H') : ToldAt C H' p n B := by
  obtain ⟨dx, b, h1, h2⟩ := h.ex
  exact ⟨dx, b, e _ _ h1, e _ _ h2⟩
theorem RoomAt.mono {C : Addr} {H H' : Hp} {p : Addr} {n : Nat} {B : List Nat} (h : RoomAt C H p n B) (e : Ex H H') : RoomAt C H' p n B := by
  obtain ⟨dx, b, h1, h2⟩ := h.ex
  exact ⟨dx, b, e _ _ h1, e _ _ h2⟩
section
variable {K : PySem.W.Frag} {σ : L2.St} {H : Hp} {ta : TE} {C : Addr} {f : Str}
theorem ev_fld {a dx : Addr} {fs : List (Str × V)} {v : V} (h : Ev ta σ H (.ref a)) (ho : H a = some (.ins C dx fs)) (hc : Cls K C) (hn : NoAttr K C f) (hl : fs.lookup f = some v) : Ev (tFld K ta f) σ H v := fun H1 e Q q =>
  h H1 e _ fun H2 e2 => ⟨a, C, dx, fs, v, rfl, e2 _ _ (e _ _ ho), hc, hn, hl, q H2 e2⟩
end
/-- a method's promise -/
def OkM (P : Program) (w : World) (K : PySem.W.Frag) (mg : Str → Option Value) (base : Heap) (k : Nat) (f : Addr) (ps : List Str) (sp : Sp) : Prop :=
  ∃ fd : FuncData, FnOk P w K mg base CX0 k f fd ps sp ∧ Binds K fd ps []
section
variable {P : Program} {w : World} {K : PySem.W.Frag} {mg : Str → Option Value} {base : Heap} {CT CR fTI fRI gP pP fB fH fE aH : Addr}
theorem okm_of {C f : Addr} {x qual : Str} {st : Stmt} {N ps : List Str} {k : Nat} {sp : Sp} (D : M1 K C x qual st ps f) (S : FnScope N ps (defScope st)) (len : ∀ vs H Q E, sp vs H Q E → vs.length = ps.length)
    (hbody : ∀ (cdv : Value) (A : Around) (outer : List Env) (s : Shared) (H : Hp) (vs : List V) (Q : VK) (E : XK), Room k (A.deeper (PyProof.Rows.envOfC qual (defScope st) s.heap.objs.size f cdv)) → sp vs H Q E →
      ∃ t, PSs (cxOf CX0 P w K mg base N qual (defScope st) f cdv A outer s H E).nox (defBody st) t ∧ t { nx := fun _ H' => Q .non H', rt := Q } (start N vs) H) : OkM P w K mg base (k + 1) f ps sp := by
  obtain ⟨fd, F, b⟩ := D.ex
  exact ⟨fd, F.ok S len hbody, b⟩

/-! ### is_integer, is_count -/
def spIsInt : Sp := fun vs H Q _ => ∃ n : Nat, vs = [vI n] ∧ RetV (.bl true) H Q
theorem scIsInt : FnScope ["value"] ["value"] (defScope sIsInteger) := ⟨rfl, rfl, rfl, by decide +kernel, rfl, by decide +kernel, by decide +kernel⟩
theorem isi_int {σ : L2.St} {H : Hp} {ta tb : TE} {n : Nat} {c : String} {b : Bool} (ha : Ev ta σ H (vI n)) (hb : Ev tb σ H (.ty c)) (hk : kitB "int" c = some b) : Ev (tCB (rIsi K) (tCons ta (tCons tb tNil))) σ H (.bl b) :=
  ev_cb (ea_cons ha (ea_cons hb ea_nil)) fun H1 _ Q q => ⟨vI n, .ty c, .type "int", .type c, b, rfl, .ty c, .base (.int _), kit_ty hk, q H1 (Ex.refl H1)⟩
theorem ok_is_integer (T : Txt K mg CT CR fTI fRI gP pP fB fH fE aH) : Ok P w K mg base 1 "is_integer" ["value"] spIsInt := by
  refine ok_of T.dIsInteger scIsInt (fun vs H Q E h => ?_) (fun f cdv A outer s H vs Q E hr h => ?_)
  · obtain ⟨n, rfl, _⟩ := h
    rfl
  · obtain ⟨n, rfl, k⟩ := h
    refine ⟨_, pss_one (ps_ret (pe_and (pe_callB call_isi (by rfl) T.z_isinstance PyProof.Rows.boot_isinstance (pa_cons (pv 0) (pa_cons (pe_bltn (v := .ty "int") (by rfl) T.z_int PyProof.Rows.boot_int rfl) pa_nil)))
      (pe_one (pe_not (pe_callB call_isi (by rfl) T.z_isinstance PyProof.Rows.boot_isinstance (pa_cons (pv 0) (pa_cons (pe_bltn (v := .ty "bool") (by rfl) T.z_bool PyProof.Rows.boot_bool rfl) pa_nil))))))), ?_⟩
    refine s_ret (v := .bl true) (ev_is (ev_andV (a := true) (b := true) (isi_int (ev_var rfl) ev_c (by decide +kernel)) fun _ => ev_is (ev_notV (a := false) (isi_int (ev_var rfl) ev_c (by decide +kernel))) rfl) rfl) k
def spIsCount : Sp := spIsInt
theorem scIsCount : FnScope ["value"] ["value"] (defScope sIsCount) := ⟨rfl, rfl, rfl, by decide +kernel, rfl, by decide +kernel, by decide +kernel⟩
theorem sp_isint {σ : L2.St} {H : Hp} {ta : TE} {n : Nat} (ha : Ev ta σ H (vI n)) {E : XK} : Ev (tCall spIsInt [] E (tCons ta tNil)) σ H (.bl true) := ev_callV (ea_cons ha ea_nil) fun H1 e Q q E => ⟨n, rfl, q⟩
theorem ok_is_count (T : Txt K mg CT CR fTI fRI gP pP fB fH fE aH) : Ok P w K mg base 2 "is_count" ["value"] spIsInt := by
  obtain ⟨f1, fd1, G1, m1, k1, b1⟩ := ok_is_integer (P := P) (w := w) (base := base) T
  refine ok_of T.dIsCount scIsCount (fun vs H Q E h => ?_) (fun f cdv A outer s H vs Q E hr h => ?_)
  · obtain ⟨n, rfl, _⟩ := h
    rfl
  · obtain ⟨n, rfl, k⟩ := h
    refine ⟨_, pss_one (ps_ret (pe_and (pe_call G1 hr rfl m1 k1 b1 .nil pass0 (pa_cons (pv 0) pa_nil)) (pe_one (pe_cmpR op_geN (pv 0) pe_int (nomark _))))), ?_⟩
    refine s_ret (v := .bl true) (ev_is (ev_andV (a := true) (sp_isint (ev_var rfl)) fun _ => ev_c2 (ev_var rfl) (ev_k 0)) ?_) k
    rw [decide_eq_true (Nat.zero_le n)]
    rfl
/-! ### is_list -/
def spIsList : Sp := fun vs H Q _ => ∃ (a : Addr) (xs : List V), vs = [.ref a] ∧ H a = some (.lst xs) ∧ RetV (.bl true) H Q
theorem scIsList : FnScope ["value"] ["value"] (defScope sIsList) := ⟨rfl, rfl, rfl, by decide +kernel, rfl, by decide +kernel, by decide +kernel⟩
theorem ok_is_list (T : Txt K mg CT CR fTI fRI gP pP fB fH fE aH) : Ok P w K mg base 1 "is_list" ["value"] spIsList := by
  refine ok_of T.dIsList scIsList (fun vs H Q E h => ?_) (fun f cdv A outer s H vs Q E hr h => ?_)
  · obtain ⟨a, xs, rfl, _⟩ := h
    rfl
  · obtain ⟨a, xs, rfl, ha, k⟩ := h
    refine ⟨_, pss_one (ps_ret (pe_callB call_isiT (by rfl) T.z_isinstance PyProof.Rows.boot_isinstance (pa_cons (pv 0) (pa_cons (pe_tup (pa_cons (pe_bltn (v := .ty "list") (by rfl) T.z_list PyProof.Rows.boot_list rfl) (pa_cons (pe_bltn (v := .ty "tuple") (by rfl) T.z_tuple PyProof.Rows.boot_tuple rfl) pa_nil))) pa_nil)))), ?_⟩
    refine ⟨_, rfl, by show 2 ≤ sizeLine; decide, fun p hp => ?_⟩
    have e : Ex H (upd H p (.tup [.ty "list", .ty "tuple"])) := Ex.new hp
    exact ⟨.ref a, p, [.ty "list", .ty "tuple"], .type "list", [.type "list", .type "tuple"], true, rfl, upd_same, .cons (.ty _) (.cons (.ty _) .nil), .base (.lst (e _ _ ha)), kitAny_cons (kit_ty (b := "list") (r := true) (by decide +kernel)) (fun z => nomatch z) (fun _ => rfl), k _ e⟩
/-! ### is_places, want_places -/
def spIsPlaces : Sp := fun vs H Q _ => ∃ n : Nat, vs = [vI n] ∧ (1 ≤ n ∧ n ≤ 24) ∧ RetV (.bl true) H Q
theorem scIsPlaces : FnScope ["value"] ["value"] (defScope sIsPlaces) := ⟨rfl, rfl, rfl, by decide +kernel, rfl, by decide +kernel, by decide +kernel⟩
theorem sp_iscount {σ : L2.St} {H : Hp} {ta : TE} {n : Nat} (ha : Ev ta σ H (vI n)) {E : XK} : Ev (tCall spIsInt [] E (tCons ta tNil)) σ H (.bl true) := sp_isint ha
theorem ok_is_places (T : Txt K mg CT CR fTI fRI gP pP fB fH fE aH) : Ok P w K mg base 3 "is_places" ["value"] spIsPlaces := by
  obtain ⟨f1, fd1, G1, m1, k1, b1⟩ := ok_is_count (P := P) (w := w) (base := base) T
  obtain ⟨tk, mP⟩ := T.cMP
  refine ok_of T.dIsPlaces scIsPlaces (fun vs H Q E h => ?_) (fun f cdv A outer s H vs Q E hr h => ?_)
  · obtain ⟨n, rfl, _⟩ := h
    rfl
  · obtain ⟨n, rfl, ⟨h1, h2⟩, k⟩ := h
    refine ⟨_, pss_one (ps_ret (pe_and (pe_call G1 hr rfl m1 k1 b1 .nil pass0 (pa_cons (pv 0) pa_nil)) (pe_one (pe_chain op_leN op_leN pe_int (pv 0) (pe_glob (v := vI 24) (by rfl) mP ⟨_, rfl⟩))))), ?_⟩
    refine s_ret (v := .bl true) (ev_is (ev_andV (a := true) (b := true) (sp_isint (ev_var rfl)) fun _ => ?_) rfl) k
    intro H1 e Q1 q
    refine ⟨_, rfl, 1, n, rfl, rfl, true, by dsimp only; rw [decide_eq_true h1], ?_⟩
    refine iteT ?_
    refine ⟨n, 24, rfl, rfl, ?_⟩
    dsimp only
    rw [decide_eq_true h2]
    exact q H1 (Ex.refl H1)
def spWantPlaces : Sp := fun vs H Q _ => ∃ n : Nat, vs = [vI n] ∧ (1 ≤ n ∧ n ≤ 24) ∧ RetV .non H Q
theorem scWantPlaces : FnScope ["value"] ["value"] (defScope sWantPlaces) := ⟨rfl, rfl, rfl, by decide +kernel, rfl, by decide +kernel, by decide +kernel⟩
theorem ok_want_places (T : Txt K mg CT CR fTI fRI gP pP fB fH fE aH) : Ok P w K mg base 4 "want_places" ["value"] spWantPlaces := by
  obtain ⟨f1, fd1, G1, m1, k1, b1⟩ := ok_is_places (P := P) (w := w) (base := base) T
  refine ok_of T.dWantPlaces scWantPlaces (fun vs H Q E h => ?_) (fun f cdv A outer s H vs Q E hr h => ?_)
  · obtain ⟨n, rfl, _⟩ := h
    rfl
  · obtain ⟨n, rfl, hn, k⟩ := h
    refine ⟨_, pss_one (ps_if (pt_not (pt_val (pe_call G1 hr rfl m1 k1 b1 .nil pass0 (pa_cons (pv 0) pa_nil)))) (pss_one ps_never) pss_nil), ?_⟩
    refine s_when (b := false) (et_is (et_not (a := true) (et_B (ev_callV (ea_cons (ev_var rfl) ea_nil) fun H1 e Q q E => ⟨n, rfl, hn, q⟩))) rfl) (fun z => nomatch z) fun _ H1 e1 => k H1 e1
/-! ### want_at_most -/
def spWantMost : Sp := fun vs H Q _ => ∃ (z : V) (l n : Nat), vs = [z, vI l, vI n] ∧ n ≤ l ∧ RetV .non H Q
theorem scWantMost : FnScope ["what", "limit", "number"] ["what", "limit", "number"] (defScope sWantAtMost) := ⟨rfl, rfl, rfl, by decide +kernel, rfl, by decide +kernel, by decide +kernel⟩
theorem ok_want_most (T : Txt K mg CT CR fTI fRI gP pP fB fH fE aH) : Ok P w K mg base 1 "want_at_most" ["what", "limit", "number"] spWantMost := by
  refine ok_of T.dWantAtMost scWantMost (fun vs H Q E h => ?_) (fun f cdv A outer s H vs Q E hr h => ?_)
  · obtain ⟨z, l, n, rfl, _⟩ := h
    rfl
  · obtain ⟨z, l, n, rfl, hn, k⟩ := h
    refine ⟨_, pss_one (ps_if (pt_cmpR op_gtN (pv 2) (pv 1) (nomark _)) (pss_one ps_never) pss_nil), ?_⟩
    refine s_when (b := decide (l < n)) (et_c2 (ev_var rfl) (ev_var rfl)) (fun z => ?_) fun _ H1 e1 => k H1 e1
    have := of_decide_eq_true z
    omega
/-! ### want_room, want_word -/
def spWantRoom (CR : Addr) : Sp := fun vs H Q _ => ∃ (p : Addr) (n : Nat) (B : List Nat), vs = [.ref p] ∧ RoomAt CR H p n B ∧ RetV .non H Q
theorem scWantRoom : FnScope ["value"] ["value"] (defScope sWantRoom) := ⟨rfl, rfl, rfl, by decide +kernel, rfl, by decide +kernel, by decide +kernel⟩
theorem isi_room {σ : L2.St} {H : Hp} {ta : TE} {p : Addr} {n : Nat} {B : List Nat} (ha : Ev ta σ H (.ref p)) (hp : RoomAt CR H p n B) :
    Ev (tCB (fun xs H Q => ∃ a dx fs, xs = [.ref a, .ref CR] ∧ H a = some (.ins CR dx fs) ∧ Q (.bl true) H) (tCons ta (tCons (tC (.ref CR)) tNil))) σ H (.bl true) :=
  ev_cb (ea_cons ha (ea_cons ev_c ea_nil)) fun H1 e Q q => by
    obtain ⟨dx, b, h1, h2⟩ := hp.ex
    exact ⟨p, dx, _, rfl, e _ _ h1, q H1 (Ex.refl H1)⟩
theorem ok_want_room (T : Txt K mg CT CR fTI fRI gP pP fB fH fE aH) : Ok P w K mg base 1 "want_room" ["value"] (spWantRoom CR) := by
  refine ok_of T.dWantRoom scWantRoom (fun vs H Q E h => ?_) (fun f cdv A outer s H vs Q E hr h => ?_)
  · obtain ⟨p, n, B, rfl, _⟩ := h
    rfl
  · obtain ⟨p, n, B, rfl, hp, k⟩ := h
    refine ⟨_, pss_one (ps_if (pt_not (pt_val (pe_callB (C8.call_isC T.iR) (by rfl) T.z_isinstance PyProof.Rows.boot_isinstance (pa_cons (pv 0) (pa_cons (pe_glob (v := .ref CR) (by rfl) T.mgR rfl) pa_nil))))) (pss_one ps_never) pss_nil), ?_⟩
    refine s_when (b := false) (et_is (et_not (a := true) (et_B (isi_room (ev_var rfl) hp))) rfl) (fun z => nomatch z) fun _ H1 e1 => k H1 e1
theorem shr_zero {w n : Nat} (h : w < 2 ^ n) : w >>> n = 0 := by
  rw [Nat.shiftRight_eq_div_pow]
  exact Nat.div_eq_of_lt h
def spWantWord (CR : Addr) : Sp := fun vs H Q _ => ∃ (p : Addr) (n : Nat) (B : List Nat) (x : Nat), vs = [.ref p, vI x] ∧ RoomAt CR H p n B ∧ x < 2 ^ n ∧ RetV .non H Q
theorem scWantWord : FnScope ["room", "value"] ["room", "value"] (defScope sWantWord) := ⟨rfl, rfl, rfl, by decide +kernel, rfl, by decide +kernel, by decide +kernel⟩
theorem ok_want_word (T : Txt K mg CT CR fTI fRI gP pP fB fH fE aH) : Ok P w K mg base 3 "want_word" ["room", "value"] (spWantWord CR) := by
  obtain ⟨f1, fd1, G1, m1, k1, b1⟩ := ok_is_count (P := P) (w := w) (base := base) T
  refine ok_of T.dWantWord scWantWord (fun vs H Q E h => ?_) (fun f cdv A outer s H vs Q E hr h => ?_)
  · obtain ⟨p, n, B, x, rfl, _⟩ := h
    rfl
  · obtain ⟨p, n, B, x, rfl, hp, hx, k⟩ := h
    obtain ⟨dx, b, h1, h2⟩ := hp.ex
    refine ⟨_, pss_one (ps_if (PW.pt (pw_or (pt_not (pt_val (pe_call G1 hr rfl m1 k1 b1 .nil pass0 (pa_cons (pv 1) pa_nil)))) (pw_or1 (pt_cmpR op_neN (pe_op op_shrN (pv 1) (pe_fld (pv 0) rfl)) pe_int (nomark _))))) (pss_one ps_never) pss_nil), ?_⟩
    refine s_when (b := false) (et_is (et_or (a := false) (b := false) (et_is (et_not (a := true) (et_B (sp_isint (ev_var rfl)))) rfl) fun _ => et_is (et_c2 (ev_n2 (ev_var rfl) (ev_fld (ev_var rfl) h1 T.iR.cl T.nRp (rf_p n b)) True.intro) (ev_k 0)) ?_) rfl) (fun z => nomatch z) fun _ H1 e1 => k H1 e1
    rw [shr_zero hx]
    rfl
end
end K27W
set_option maxHeartbeats 4000000
/-! K27P3: Told and Room made, Room's methods. -/
namespace K27W
open PySem PySem.Spec L2 Evl
section
variable {P : Program} {w : World} {K : PySem.W.Frag} {mg : Str → Option Value} {base : Heap} {CT CR fTI fRI gP pP fB fH fE aH : Addr}
/-! ### Told(..) -/
def spTInit (CT : Addr) : Sp := fun vs H Q _ => ∃ (p dx b : Addr) (n : Nat), vs = [.ref p, vI n, .ref b] ∧ H p = some (.ins CT dx []) ∧ ∀ H', H' p = some (.ins CT dx (tf n b)) → (∀ a o, a ≠ p → H a = some o → H' a = some o) → Q .non H'
theorem scTInit : FnScope ["self", "places", "basis"] ["self", "places", "basis"] (defScope s_tInit) := ⟨rfl, rfl, rfl, by decide +kernel, rfl, by decide +kernel, by decide +kernel⟩
theorem ok_tInit (T : Txt K mg CT CR fTI fRI gP pP fB fH fE aH) : OkM P w K mg base 1 fTI ["self", "places", "basis"] (spTInit CT) := by
  refine okm_of T.m_tInit scTInit (fun vs H Q E h => ?_) (fun cdv A outer s H vs Q E hr h => ?_)
  · obtain ⟨p, dx, b, n, rfl, _⟩ := h
    rfl
  · obtain ⟨p, dx, b, n, rfl, hp, k⟩ := h
    refine ⟨_, pss_cons (ps_fld (pv 0) (pv 1) rfl) (pss_one (ps_fld (pv 0) (pv 2) rfl)), ?_⟩
    refine ⟨_, rfl, _, rfl, p, CT, dx, [], rfl, hp, T.iT.cl, T.nTp, (by show 0 < 1000; decide), _, rfl, _, rfl, p, CT, dx, _, rfl, upd_same, T.iT.cl, T.nTb, (by show 1 < 1000; decide), ?_⟩
    refine k _ upd_same fun a o ha e => ?_
    rw [upd_ne ha, upd_ne ha]
    exact e
/-- a new object is made by a promise that fills it alone -/
def EvNew (te : TE) (σ : L2.St) (H : Hp) (Pr : Addr → Hp → Prop) : Prop := ∀ H1, Ex H H1 → ∀ Q : VK, (∀ p H2, H1 p = none → Ex H1 H2 → Pr p H2 → Q (.ref p) H2) → te σ H1 Q
theorem new_told {σ : L2.St} {H : Hp} {ta tb : TE} {n : Nat} {b : Addr} {B : List Nat} {E : XK} (ha : Ev ta σ H (vI n)) (hb : Ev tb σ H (.ref b)) (hB : H b = some (.tup (vW B))) :
    EvNew (tMake CT (spTInit CT) [] E (tCons ta (tCons tb tNil))) σ H (fun p H2 => ToldAt CT H2 p n B) := fun H1 e Q q =>
  ea_cons ha (ea_cons hb ea_nil) H1 e _ fun H2 e2 x dx nx ndx ne => ⟨x, dx, b, n, rfl, upd_same, fun H' h1 h2 => ⟨rfl, by
    have ex : Ex H2 H' := fun a o hao => h2 a o (ne_of_none hao nx) (by rw [upd_ne (ne_of_none hao nx), upd_ne (ne_of_none hao ndx)]; exact hao)
    exact q x H' (fresh_back e2 nx) (e2.trans ex) ⟨dx, b, h1, ex _ _ (e2 _ _ (e _ _ hB))⟩⟩⟩
/-- what gives a tuple on the way -/
theorem new_toldW {σ : L2.St} {H : Hp} {ta tb : TE} {n : Nat} {B : List Nat} {E : XK} (ha : Ev ta σ H (vI n)) (hb : EvW tb σ H B) :
    EvNew (tMake CT (spTInit CT) [] E (tCons ta (tCons tb tNil))) σ H (fun p H2 => ToldAt CT H2 p n B) := fun H1 e Q q =>
  ha H1 e _ fun H2 e2 => hb H2 (e.trans e2) _ fun b H3 e3 hB x dx nx ndx ne => ⟨x, dx, b, n, rfl, upd_same, fun H' h1 h2 => ⟨rfl, by
    have ex : Ex H3 H' := fun a o hao => h2 a o (ne_of_none hao nx) (by rw [upd_ne (ne_of_none hao nx), upd_ne (ne_of_none hao ndx)]; exact hao)
    exact q x H' (fresh_back (e2.trans e3) nx) ((e2.trans e3).trans ex) ⟨dx, b, h1, ex _ _ hB⟩⟩⟩

/-! ### told_room -/
def spToldRoom (CT : Addr) : Sp := fun vs H Q _ => ∃ (n : Nat) (B : List Nat),
  ((∃ t, vs = [.ref t, .non] ∧ ToldAt CT H t n B) ∨ (∃ (a : Addr) (ws : List Nat), vs = [vI n, .ref a] ∧ H a = some (.lst (vW ws)) ∧ (1 ≤ n ∧ n ≤ 24) ∧ ws.length ≤ 48 ∧ (∀ w ∈ ws, w < 2 ^ n) ∧ B = K27.plainOf ws)) ∧
  ∀ p H', Ex H H' → ToldAt CT H' p n B → Q (.ref p) H'
theorem scToldRoom : FnScope ["places", "words", "position", "word"] ["places", "words"] (defScope sToldRoom) := ⟨rfl, rfl, rfl, by decide +kernel, rfl, by decide +kernel, by decide +kernel⟩
theorem ok_told_room (T : Txt K mg CT CR fTI fRI gP pP fB fH fE aH) : Ok P w K mg base 5 "told_room" ["places", "words"] (spToldRoom CT) := by
  obtain ⟨fWP, fdWP, GWP, mWP, kWP, bWP⟩ := ok_want_places (P := P) (w := w) (base := base) T
  obtain ⟨fIL, fdIL, GIL, mIL, kIL, bIL⟩ := ok_is_list (P := P) (w := w) (base := base) T
  obtain ⟨fIC, fdIC, GIC, mIC, kIC, bIC⟩ := ok_is_count (P := P) (w := w) (base := base) T
  obtain ⟨fPB, fdPB, GPB, mPB, kPB, bPB⟩ := ok_plain (P := P) (w := w) (base := base) T
  obtain ⟨fdTI, GTI, bTI⟩ := ok_tInit (P := P) (w := w) (base := base) T
  obtain ⟨tk, mMW⟩ := T.cMW
  refine ok_of T.dToldRoom scToldRoom (fun vs H Q E h => ?_) (fun f cdv A outer s H vs Q E hr h => ?_)
  · obtain ⟨n, B, (⟨t, rfl, _⟩ | ⟨a, ws, rfl, _⟩), _⟩ := h
    · rfl
    · rfl
  · refine ⟨_, pss_cons (ps_if (pt_val (pe_callB call_isi (by rfl) T.z_isinstance PyProof.Rows.boot_isinstance (pa_cons (pv 0) (pa_cons (pe_glob (v := .ref CT) (by rfl) T.mgT rfl) pa_nil)))) (pss_one (ps_ret (pv 0))) pss_nil)
      (pss_cons (ps_expr (pe_call GWP (hr.mono (by decide)) rfl mWP kWP bWP .nil pass0 (pa_cons (pv 0) pa_nil)))
      (pss_cons (ps_if (PW.pt (pw_or (pt_not (pt_val (pe_call GIL (hr.mono (by decide)) rfl mIL kIL bIL .nil pass0 (pa_cons (pv 1) pa_nil)))) (pw_or1 (pt_cmpR op_gtN (pe_callB call_len_seq (by rfl) T.z_len PySem.boot_len (pa_cons (pv 1) pa_nil)) (pe_glob (v := vI 48) (by rfl) mMW ⟨_, rfl⟩) (nomark _))))) (pss_one ps_never) pss_nil)
      (pss_cons (ps_for PassesOwn.never rfl (pi_enum (by rfl) T.z_enumerate (pa_cons (pv 1) pa_nil)) (pg_tup rfl (pgs_cons (pg_name (i := 2) scToldRoom.nd rfl (Or.inl rfl)) (pgs_cons (pg_name (i := 3) scToldRoom.nd rfl (Or.inl rfl)) pgs_nil)))
        (pss_one (ps_if (PW.pt (pw_or (pt_not (pt_val (pe_call GIC (hr.mono (by decide)) rfl mIC kIC bIC .nil pass0 (pa_cons (pv 3) pa_nil)))) (pw_or1 (pt_cmpR op_neN (pe_op op_shrN (pv 3) (pv 0)) pe_int (nomark _))))) (pss_one ps_never) pss_nil)))
      (pss_one (ps_ret (pe_make T.mkT GTI (hr.mono (by decide)) rfl T.mgT bTI .nil pass0 (pa_cons (pv 0) (pa_cons (pe_call GPB (hr.mono (by decide)) rfl mPB kPB bPB .nil pass0 (pa_cons (pv 1) pa_nil)) pa_nil)))))))), ?_⟩
    obtain ⟨n, B, (⟨t, rfl, ht⟩ | ⟨a, ws, rfl, ha, hn, hl, hws, rfl⟩), k⟩ := h
    · obtain ⟨dx, b, h1, h2⟩ := ht.ex
      refine q_when (b := true) (et_B (ev_cb (ea_cons (ev_var rfl) (ea_cons ev_c ea_nil)) fun H1 e Q q => ⟨.ref t, .ref CT, .ref CT, .ref CT, true, rfl, .own CT, .base (.ins (e _ _ h1) T.iT.cl T.iT.ha T.iT.hn T.iT.htk T.iT.hm), T.iT.me, q H1 (Ex.refl H1)⟩)) (fun _ H1 e1 => ?_) (fun z => nomatch z)
      exact s_ret (ev_var rfl) fun H2 e2 => k t H2 (e1.trans e2) (ht.mono (e1.trans e2))
    · refine q_when (b := false) (et_B (ev_cb (ea_cons (ev_var rfl) (ea_cons ev_c ea_nil)) fun H1 e Q q => ⟨vI n, .ref CT, .type "int", .ref CT, false, rfl, .own CT, .base (.int _), T.kIT, q H1 (Ex.refl H1)⟩)) (fun z => nomatch z) (fun _ H1 e1 => ?_)
      refine q_drop (v := .non) (ev_callV (ea_cons (ev_var rfl) ea_nil) fun H2 e2 Q q E => ⟨n, rfl, hn, q⟩) fun H2 e2 => ?_
      have ha2 := (e1.trans e2) _ _ ha
      refine q_when (b := false) (et_is (et_or (a := false) (b := false) (et_is (et_not (a := true) (et_B (ev_callV (ea_cons (ev_var rfl) ea_nil) fun H3 e3 Q q E => ⟨a, _, rfl, e3 _ _ ha2, q⟩))) rfl) fun _ => et_is (et_c2 (ev_lenV (ev_var rfl) (.inl (SqL.of ha2))) ev_c) ?_) rfl) (fun z => nomatch z) (fun _ H3 e3 => ?_)
      · rw [vW_len]
        exact decide_eq_false (by omega)
      · have ha3 := e3 _ _ ha2
        refine ⟨_, rfl, a, vW ws, rfl, SqL.of ha3, for_it (walk_enum (xs := vW ws)) (fun i σ' H' => ∃ u v, σ' = [some (vI n), some (.ref a), u, v] ∧ Ex H3 H') ⟨none, none, rfl, Ex.refl _⟩ (fun i σ' H' _ ⟨u, v, _, e⟩ => SqL.of (e _ _ ha3)) ?_ ?_⟩
        · rintro i x σ' H' H'' hi ⟨u, v, rfl, e⟩ ⟨Tt, x1, y1, rfl, hT, rfl, hx1, hy1⟩
          obtain ⟨c, hc, rfl⟩ := vW_get hy1
          cases hx1
          refine ⟨Tt, _, rfl, SqT.of upd_same, rfl, _, _, rfl, _, _, rfl, rfl, ?_⟩
          have hcl : c < 2 ^ n := hws c (List.mem_of_getElem? hc)
          have e' : Ex H3 (upd H' Tt (.tup [.int (i : Nat), vI c])) := e.trans (Ex.new hT)
          refine s_when (b := false) (et_is (et_or (a := false) (b := false) (et_is (et_not (a := true) (et_B (sp_isint (ev_var rfl)))) rfl) fun _ => et_is (et_c2 (ev_n2 (ev_var rfl) (ev_var rfl) True.intro) (ev_k 0)) ?_) rfl) (fun z => nomatch z) fun _ H4 e4 => ⟨_, _, rfl, e'.trans e4⟩
          rw [shr_zero hcl]
          rfl
        · rintro σ' H' ⟨u, v, rfl, e⟩
          have ha4 := e _ _ ha3
          have := new_toldW (CT := CT) (σ := [some (vI n), some (.ref a), u, v]) (H := H') (E := E0) (ta := tVar 0) (tb := tCall (spPlain (K := K)) [] E0 (tCons (tVar 1) tNil)) (n := n) (B := K27.plainOf ws) (ev_var rfl) (ew_call (ea_cons (ev_var rfl) ea_nil) fun H5 e5 Q q E => ⟨a, ws, rfl, SqL.of (e5 _ _ ha4), by omega, q⟩)
          exact this H' (Ex.refl _) _ fun p H5 _ e5 h5 => k p H5 (((e1.trans e2).trans e3).trans (e.trans e5)) h5

/-! ### Room(..) -/
def spRInit (CT CR : Addr) : Sp := fun vs H Q _ => ∃ (p dx : Addr) (n : Nat) (B : List Nat) (x y : V), vs = [.ref p, x, y] ∧ H p = some (.ins CR dx []) ∧
  ((∃ t, x = .ref t ∧ y = .non ∧ ToldAt CT H t n B) ∨ (∃ (a : Addr) (ws : List Nat), x = vI n ∧ y = .ref a ∧ H a = some (.lst (vW ws)) ∧ (1 ≤ n ∧ n ≤ 24) ∧ ws.length ≤ 48 ∧ (∀ w ∈ ws, w < 2 ^ n) ∧ B = K27.plainOf ws)) ∧
  ∀ H' b, H' p = some (.ins CR dx (rf n b)) → H' b = some (.tup (vW B)) → (∀ a o, a ≠ p → H a = some o → H' a = some o) → Q .non H'
theorem scRInit : FnScope ["self", "places", "words", "told"] ["self", "places", "words"] (defScope s_rInit) := ⟨rfl, rfl, rfl, by decide +kernel, rfl, by decide +kernel, by decide +kernel⟩
theorem ok_rInit (T : Txt K mg CT CR fTI fRI gP pP fB fH fE aH) : OkM P w K mg base 6 fRI ["self", "places", "words"] (spRInit CT CR) := by
  obtain ⟨fTR, fdTR, GTR, mTR, kTR, bTR⟩ := ok_told_room (P := P) (w := w) (base := base) T
  refine okm_of T.m_rInit scRInit (fun vs H Q E h => ?_) (fun cdv A outer s H vs Q E hr h => ?_)
  · obtain ⟨p, dx, n, B, x, y, rfl, _⟩ := h
    rfl
  · obtain ⟨p, dx, n, B, x, y, rfl, hp, hc, k⟩ := h
    refine ⟨_, pss_cons (ps_set (i := 3) scRInit.nd rfl (Or.inl rfl) (pe_call GTR hr rfl mTR kTR bTR .nil pass0 (pa_cons (pv 1) (pa_cons (pv 2) pa_nil))))
      (pss_cons (ps_fld (pv 0) (pe_fld (pv 3) rfl) rfl) (pss_one (ps_fld (pv 0) (pe_fld (pv 3) rfl) rfl))), ?_⟩
    refine ⟨_, rfl, _, rfl, n, B, ?_, fun t H1 e1 ht => ?_⟩
    · rcases hc with ⟨t, rfl, rfl, ht⟩ | ⟨a, ws, rfl, rfl, h⟩
      · exact .inl ⟨t, rfl, ht⟩
      · exact .inr ⟨a, ws, rfl, h⟩
    · obtain ⟨dt, b, h1, h2⟩ := ht.ex
      have hp1 := e1 _ _ hp
      have ntp : t ≠ p := ne_of h1 hp1 (by intro z; injection z with _ _ z; have q := tf_p n b; rw [z] at q; cases q)
      have nbp : b ≠ p := ne_of h2 hp1 (by intro z; cases z)
      refine ⟨_, rfl, t, CT, dt, _, _, rfl, h1, T.iT.cl, T.nTp, tf_p n b, _, rfl, p, CR, dx, [], rfl, hp1, T.iR.cl, T.nRp, (by show 0 < 1000; decide), ?_⟩
      refine ⟨_, rfl, t, CT, dt, _, _, rfl, by rw [upd_ne ntp]; exact h1, T.iT.cl, T.nTb, tf_b n b, _, rfl, p, CR, dx, _, rfl, upd_same, T.iR.cl, T.nRb, (by show 1 < 1000; decide), ?_⟩
      refine k _ b upd_same (by rw [upd_ne nbp, upd_ne nbp]; exact h2) fun a o ha e => ?_
      rw [upd_ne ha, upd_ne ha]
      exact e1 _ _ e

/-- a Room made of what is handed on; of words -/
theorem new_room {σ : L2.St} {H : Hp} {ta tb : TE} {n : Nat} {t : Addr} {B : List Nat} {E : XK} (ha : EvNew ta σ H (fun p H2 => ToldAt CT H2 p n B)) (hb : ∀ H1, Ev tb σ H1 .non) :
    EvNew (tMake CR (spRInit CT CR) [] E (tCons ta (tCons tb tNil))) σ H (fun p H2 => RoomAt CR H2 p n B) := fun H1 e Q q =>
  ha H1 e _ fun t H2 ht e2 h2 => hb H2 H2 (Ex.refl _) _ fun H3 e3 x dx nx ndx ne => ⟨x, dx, n, B, _, _, rfl, upd_same, .inl ⟨t, rfl, rfl, by
    have e4 : Ex H3 (upd (upd H3 dx (.own x)) x (.ins CR dx [])) := fun a o hao => by rw [upd_ne (ne_of_none hao nx), upd_ne (ne_of_none hao ndx)]; exact hao
    exact (h2.mono e3).mono e4⟩, fun H' b h1 hB h3 => ⟨rfl, by
    have ex : Ex H3 H' := fun a o hao => h3 a o (ne_of_none hao nx) (by rw [upd_ne (ne_of_none hao nx), upd_ne (ne_of_none hao ndx)]; exact hao)
    exact q x H' (fresh_back (e2.trans e3) nx) ((e2.trans e3).trans ex) ⟨dx, b, h1, hB⟩⟩⟩
theorem new_roomL {σ : L2.St} {H : Hp} {ta tb : TE} {n : Nat} {ws : List Nat} {E : XK} (ha : Ev ta σ H (vI n)) (hb : EvL tb σ H (vW ws)) (hn : 1 ≤ n ∧ n ≤ 24) (hl : ws.length ≤ 48) (hw : ∀ w ∈ ws, w < 2 ^ n) :
    EvNew (tMake CR (spRInit CT CR) [] E (tCons ta (tCons tb tNil))) σ H (fun p H2 => RoomAt CR H2 p n (K27.plainOf ws)) := fun H1 e Q q =>
  ha H1 e _ fun H2 e2 => hb H2 (e.trans e2) _ fun a H3 hna e3 h3 x dx nx ndx ne => ⟨x, dx, n, K27.plainOf ws, _, _, rfl, upd_same, .inr ⟨a, ws, rfl, rfl, by rw [upd_ne (ne_of_none h3 nx), upd_ne (ne_of_none h3 ndx)]; exact h3, hn, hl, hw, rfl⟩, fun H' b h1 hB h4 => ⟨rfl, by
    have ex : Ex H3 H' := fun c o hao => h4 c o (ne_of_none hao nx) (by rw [upd_ne (ne_of_none hao nx), upd_ne (ne_of_none hao ndx)]; exact hao)
    exact q x H' (fresh_back (e2.trans e3) nx) ((e2.trans e3).trans ex) ⟨dx, b, h1, hB⟩⟩⟩
theorem new_roomV {σ : L2.St} {H : Hp} {ta tb : TE} {n : Nat} {a : Addr} {ws : List Nat} {E : XK} (ha : Ev ta σ H (vI n)) (hb : Ev tb σ H (.ref a)) (hA : H a = some (.lst (vW ws))) (hn : 1 ≤ n ∧ n ≤ 24) (hl : ws.length ≤ 48) (hw : ∀ w ∈ ws, w < 2 ^ n) :
    EvNew (tMake CR (spRInit CT CR) [] E (tCons ta (tCons tb tNil))) σ H (fun p H2 => RoomAt CR H2 p n (K27.plainOf ws)) := fun H1 e Q q =>
  ha H1 e _ fun H2 e2 => hb H2 (e.trans e2) _ fun H3 e3 x dx nx ndx ne => ⟨x, dx, n, K27.plainOf ws, _, _, rfl, upd_same, .inr ⟨a, ws, rfl, rfl, by
    have h3 := ((e.trans e2).trans e3) _ _ hA
    rw [upd_ne (ne_of_none h3 nx), upd_ne (ne_of_none h3 ndx)]; exact h3, hn, hl, hw, rfl⟩, fun H' b h1 hB h4 => ⟨rfl, by
    have ex : Ex H3 H' := fun c o hao => h4 c o (ne_of_none hao nx) (by rw [upd_ne (ne_of_none hao nx), upd_ne (ne_of_none hao ndx)]; exact hao)
    exact q x H' (fresh_back (e2.trans e3) nx) ((e2.trans e3).trans ex) ⟨dx, b, h1, hB⟩⟩⟩

/-! ### room_by -/
def spRoomBy (CR : Addr) : Sp := fun vs H Q _ => ∃ (n : Nat) (b : Addr) (B : List Nat), vs = [vI n, .ref b] ∧ H b = some (.tup (vW B)) ∧ ∀ p H', H p = none → Ex H H' → RoomAt CR H' p n B → Q (.ref p) H'
theorem scRoomBy : FnScope ["places", "basis"] ["places", "basis"] (defScope sRoomBy) := ⟨rfl, rfl, rfl, by decide +kernel, rfl, by decide +kernel, by decide +kernel⟩
theorem ok_room_by (T : Txt K mg CT CR fTI fRI gP pP fB fH fE aH) : Ok P w K mg base 8 "room_by" ["places", "basis"] (spRoomBy CR) := by
  obtain ⟨fdTI, GTI, bTI⟩ := ok_tInit (P := P) (w := w) (base := base) T
  obtain ⟨fdRI, GRI, bRI⟩ := ok_rInit (P := P) (w := w) (base := base) T
  refine ok_of T.dRoomBy scRoomBy (fun vs H Q E h => ?_) (fun f cdv A outer s H vs Q E hr h => ?_)
  · obtain ⟨n, b, B, rfl, _⟩ := h
    rfl
  · obtain ⟨n, b, B, rfl, hb, k⟩ := h
    refine ⟨_, pss_one (ps_ret (pe_make T.mkR GRI (hr.mono (by decide)) rfl T.mgR bRI .nil pass0 (pa_cons (pe_make T.mkT GTI (hr.mono (by decide)) rfl T.mgT bTI .nil pass0 (pa_cons (pv 0) (pa_cons (pv 1) pa_nil))) (pa_cons pe_non pa_nil)))), ?_⟩
    have := new_room (CT := CT) (CR := CR) (t := 0) (σ := [some (vI n), some (.ref b)]) (H := H) (E := E0) (tb := tC .non) (new_told (CT := CT) (E := E0) (ta := tVar 0) (tb := tVar 1) (ev_var rfl) (ev_var rfl) hb) (fun _ => ev_c)
    exact this H (Ex.refl _) _ fun p H2 hp e2 h2 => k p H2 hp e2 h2

/-! ### Room's methods -/
def spBasis (CR : Addr) : Sp := fun vs H Q _ => ∃ (p : Addr) (n : Nat) (B : List Nat), vs = [.ref p] ∧ RoomAt CR H p n B ∧ RetN B H Q
theorem scBasis : FnScope ["self"] ["self"] (defScope s_rBasis) := ⟨rfl, rfl, rfl, by decide +kernel, rfl, by decide +kernel, by decide +kernel⟩
theorem ok_basis (T : Txt K mg CT CR fTI fRI gP pP fB fH fE aH) : OkM P w K mg base 1 fB ["self"] (spBasis CR) := by
  refine okm_of T.m_rBasis scBasis (fun vs H Q E h => ?_) (fun cdv A outer s H vs Q E hr h => ?_)
  · obtain ⟨p, n, B, rfl, _⟩ := h
    rfl
  · obtain ⟨p, n, B, rfl, hp, k⟩ := h
    obtain ⟨dx, b, h1, h2⟩ := hp.ex
    refine ⟨_, pss_one (ps_ret (pe_callTy call_list_of (by rfl) T.z_list PyProof.Rows.boot_list (pa_cons (pe_fld (pv 0) rfl) pa_nil))), ?_⟩
    exact s_retL (xs := vW B) (el_listV (ev_fld (ev_var rfl) h1 T.iR.cl T.nRb (rf_b n b)) (.inr (SqT.of h2))) k
def spHas (CR : Addr) : Sp := fun vs H Q _ => ∃ (p : Addr) (n : Nat) (B : List Nat) (x : Nat), vs = [.ref p, vI x] ∧ RoomAt CR H p n B ∧ x < 2 ^ n ∧ RetV (.bl (decide (K27.red B x = 0))) H Q
theorem scHas : FnScope ["self", "word"] ["self", "word"] (defScope s_rHas) := ⟨rfl, rfl, rfl, by decide +kernel, rfl, by decide +kernel, by decide +kernel⟩
theorem ok_has (T : Txt K mg CT CR fTI fRI gP pP fB fH fE aH) : OkM P w K mg base 4 fH ["self", "word"] (spHas CR) := by
  obtain ⟨fL, fdL, GL, mL, kL, bL⟩ := ok_left_of (P := P) (w := w) (base := base) T
  obtain ⟨fW, fdW, GW, mW, kW, bW⟩ := ok_want_word (P := P) (w := w) (base := base) T
  refine okm_of T.m_rHas scHas (fun vs H Q E h => ?_) (fun cdv A outer s H vs Q E hr h => ?_)
  · obtain ⟨p, n, B, x, rfl, _⟩ := h
    rfl
  · obtain ⟨p, n, B, x, rfl, hp, hx, k⟩ := h
    obtain ⟨dx, b, h1, h2⟩ := hp.ex
    refine ⟨_, pss_cons (ps_expr (pe_call GW hr rfl mW kW bW .nil pass0 (pa_cons (pv 0) (pa_cons (pv 1) pa_nil))))
      (pss_one (ps_ret (pe_cmpR op_eqN (pe_call GL (hr.mono (by decide)) rfl mL kL bL .nil pass0 (pa_cons (pe_fld (pv 0) rfl) (pa_cons (pv 1) pa_nil))) pe_int (nomark _)))), ?_⟩
    refine q_drop (v := .non) (ev_callV (ea_cons (ev_var rfl) (ea_cons (ev_var rfl) ea_nil)) fun H2 e2 Q q E => ⟨p, n, B, x, rfl, hp.mono e2, hx, q⟩) fun H1 e1 => ?_
    refine s_ret (v := .bl (decide (K27.red B x = 0))) (ev_c2 (sp_left (e1 _ _ h2) (ev_fld (ev_var rfl) (e1 _ _ h1) T.iR.cl T.nRb (rf_b n b)) (ev_var rfl)) (ev_k 0)) fun H2 e2 => k H2 (e1.trans e2)
/-- the property places -/
def spPlacesP (CR : Addr) : Sp := fun vs H Q _ => ∃ (p : Addr) (n : Nat) (B : List Nat), vs = [.ref p] ∧ RoomAt CR H p n B ∧ RetV (vI n) H Q
theorem scPlacesP : FnScope ["self"] ["self"] (defScope s_rPlaces) := ⟨rfl, rfl, rfl, by decide +kernel, rfl, by decide +kernel, by decide +kernel⟩
theorem ok_places (T : Txt K mg CT CR fTI fRI gP pP fB fH fE aH) : OkM P w K mg base 1 gP ["self"] (spPlacesP CR) := by
  refine okm_of T.m_rPlaces scPlacesP (fun vs H Q E h => ?_) (fun cdv A outer s H vs Q E hr h => ?_)
  · obtain ⟨p, n, B, rfl, _⟩ := h
    rfl
  · obtain ⟨p, n, B, rfl, hp, k⟩ := h
    obtain ⟨dx, b, h1, h2⟩ := hp.ex
    refine ⟨_, pss_one (ps_ret (pe_fld (pv 0) rfl)), ?_⟩
    exact s_ret (ev_fld (ev_var rfl) h1 T.iR.cl T.nRp (rf_p n b)) k
/-! ### == of Rooms that are equal -/
def RR (CR : Addr) (a b : Addr) (H : Hp) : Prop := ∃ n B, RoomAt CR H a n B ∧ RoomAt CR H b n B
theorem scEq : FnScope ["self", "other"] ["self", "other"] (defScope s_rEq) := ⟨rfl, rfl, rfl, by decide +kernel, rfl, by decide +kernel, by decide +kernel⟩
theorem dp_vW {H : Hp} : ∀ (ws : List Nat), DpAll K H (vW ws) (ws.map fun n : Nat => PyData.int (n : Int))
  | [] => .nil
  | n :: ws => .cons (.int n) (dp_vW ws)
theorem ints_lay : ∀ (ws : List Nat), PyData.canLayAll0 (ws.map fun n : Nat => PyData.int (n : Int)) = true
  | [] => by simp [PyData.canLayAll0]
  | n :: ws => by simp [PyData.canLayAll0, PyData.canLay0, ints_lay ws]
theorem ints_depth : ∀ (ws : List Nat), PyData.depthAll (ws.map fun n : Nat => PyData.int (n : Int)) = 0
  | [] => by simp [PyData.depthAll]
  | n :: ws => by simp [PyData.depthAll, PyData.depth, ints_depth ws]
theorem tupD_shaped (ws : List Nat) : SeqAt.shaped (.tuple (ws.map fun n : Nat => PyData.int (n : Int))) = true := by
  show (PyData.canLay0 (.tuple (ws.map fun n : Nat => PyData.int (n : Int))) && decide (PyData.depth (.tuple (ws.map fun n : Nat => PyData.int (n : Int))) ≤ 64)) = true
  rw [Bool.and_eq_true]
  exact ⟨by simp only [PyData.canLay0]; exact ints_lay ws, decide_eq_true (by simp only [PyData.depth]; rw [ints_depth]; decide)⟩
theorem listD_shaped (ws : List Nat) : SeqAt.shaped (.list (ws.map fun n : Nat => PyData.int (n : Int))) = true := by
  show (PyData.canLay0 (.list (ws.map fun n : Nat => PyData.int (n : Int))) && decide (PyData.depth (.list (ws.map fun n : Nat => PyData.int (n : Int))) ≤ 64)) = true
  rw [Bool.and_eq_true]
  exact ⟨by simp only [PyData.canLay0]; exact ints_lay ws, decide_eq_true (by simp only [PyData.depth]; rw [ints_depth]; decide)⟩
theorem ok_eq (T : Txt K mg CT CR fTI fRI gP pP fB fH fE aH) : OkM P w K mg base 1 fE ["self", "other"] (spEq (RR CR)) := by
  refine okm_of T.m_rEq scEq (fun vs H Q E h => ?_) (fun cdv A outer s H vs Q E hr h => ?_)
  · obtain ⟨a, b, rfl, _⟩ := h
    rfl
  · obtain ⟨a, b, rfl, ⟨n, B, ha, hb⟩, k⟩ := h
    obtain ⟨dx, c, h1, h2⟩ := ha.ex
    obtain ⟨dy, d, h3, h4⟩ := hb.ex
    refine ⟨_, pss_cons (ps_if (pt_not (pt_val (pe_callB (C8.call_isC T.iR) (by rfl) T.z_isinstance PyProof.Rows.boot_isinstance (pa_cons (pv 1) (pa_cons (pe_glob (v := .ref CR) (by rfl) T.mgR rfl) pa_nil))))) (pss_one (ps_ret pe_bl)) pss_nil)
      (pss_one (ps_ret (pe_and (pe_cmpR op_eqN (pe_fld (pv 0) rfl) (pe_fld (pv 1) rfl) (nomark _)) (pe_one (pe_cmpR (op_eqD hr.units) (pe_fld (pv 0) rfl) (pe_fld (pv 1) rfl) (nomark _)))))), ?_⟩
    refine q_when (b := false) (et_is (et_not (a := true) (et_B (isi_room (ev_var rfl) hb))) rfl) (fun z => nomatch z) fun _ H1 e1 => ?_
    refine s_ret (v := .bl true) (ev_is (ev_andV (a := true) (b := true) (ev_is (ev_c2 (ev_fld (ev_var rfl) (e1 _ _ h1) T.iR.cl T.nRp (rf_p n c)) (ev_fld (ev_var rfl) (e1 _ _ h3) T.iR.cl T.nRp (rf_p n d))) (by rw [decide_eq_true rfl])) fun _ => ?_) rfl) fun H2 e2 => k H2 (e1.trans e2)
    refine ev_op (ev_fld (ev_var rfl) (e1 _ _ h1) T.iR.cl T.nRb (rf_b n c)) (ev_fld (ev_var rfl) (e1 _ _ h3) T.iR.cl T.nRb (rf_b n d)) fun H2 e2 Q q => ?_
    refine ⟨_, _, .tup (SqT.of ((e1.trans e2) _ _ h2)) (dp_vW B), .tup (SqT.of ((e1.trans e2) _ _ h4)) (dp_vW B), tupD_shaped B, tupD_shaped B, ?_⟩
    rw [SeqAt.eqv_refl _ (by simp only [PyData.canLay0]; exact ints_lay B)]
    exact q H2 (Ex.refl _)
end
end K27W
set_option maxHeartbeats 4000000
/-! K27P4: weight_of, is_odd, spots_of, all_on, contrary_basis, odd_two, are_still, is_own_room, want_still, is_own. -/
namespace K27W
open PySem PySem.Spec L2 Evl
/-! ### places of a list; a comprehension over pairs -/
theorem atI_nat {xs : List V} {j : Nat} {v : V} (h : xs[j]? = some v) : atI xs (j : Int) = some v := by
  unfold atI
  rw [ixN_nat (lt_of_get h)]
  exact h
theorem atI_lastV {ws : List Nat} {z : Nat} (h : ws[ws.length - 1]? = some z) : atI (vW ws) (-1) = some (vI z) := by
  have hl := lt_of_get h
  unfold atI ixN
  rw [if_neg (by decide), vW_len, if_pos (by omega)]
  show (vW ws)[((-1 : Int) + (ws.length : Int)).toNat]? = some (vI z)
  have e : ((-1 : Int) + (ws.length : Int)).toNat = ws.length - 1 := by omega
  rw [e, List.getElem?_map, h]
  rfl
abbrev gPair (K : PySem.W.Frag) (j1 j2 : Nat) : TG := gTup K 2 (gCons (gName j1) (gCons (gName j2) gNil))
theorem Cw.new {H1 H' : Hp} {f : Nat → Bool} {v : Nat → V} {Dl T : Addr} {i : Nat} {o : HO} (p : Cw H1 f v Dl i H') (h : H' T = none) : Cw H1 f v Dl i (upd H' T o) :=
  ⟨p.1, p.2.1.trans (Ex.new h), by rw [upd_ne (ne_of_none p.2.2 h)]; exact p.2.2⟩
section
variable {K : PySem.W.Frag} {σ : L2.St} {H : Hp} {te tl : TE} {t : TT} {ta : TA}
theorem lc_pair {J : It} {n : Nat} {G : Hp → Prop} {xs ys : Nat → Option V} (w : Walk J n G (YPair xs ys)) {H1 : Hp} {vs : List Nat} {j1 j2 : Nat} {fb : Nat → Bool} {fv : Nat → V} {Dl : Addr} {Qd : Hp → Prop} (hn : n ≤ 40000) (hD : H1 Dl = none) (hG : ∀ H', Ex H1 H' → G H')
    (hw : ∀ x y, wipe (((wipe σ vs).set j1 (some x)).set j2 (some y)) vs = wipe σ vs)
    (ht : ∀ i x y, i < n → xs i = some x → ys i = some y → EvT t (((wipe σ vs).set j1 (some x)).set j2 (some y)) H1 (fb i))
    (he : ∀ i x y, i < n → xs i = some x → ys i = some y → fb i = true → Ev te (((wipe σ vs).set j1 (some x)).set j2 (some y)) H1 (fv i))
    (q : ∀ H', Ex H1 H' → H' Dl = some (.lst (given n fb fv)) → Qd H') :
    ∃ W : Nat → Nat → Hp → Prop, (∃ m, W 0 m (upd H1 Dl (.lst []))) ∧ ∀ i m H, W i m H →
      (J.stop i H ∧ Qd H) ∨ (J.go i H ∧ ∃ Nx : Hp → Prop, (∀ H', Nx H' → ∃ m', m' < m ∧ W (i + 1) m' H') ∧ ∀ x H', J.yld i H x H' → gPair K j1 j2 x (wipe σ vs) H' fun σ2 H2 => wipe σ2 vs = wipe σ vs ∧ t σ2 H2 fun b H3 =>
        if b = true then te σ2 H3 fun y H4 => ∃ acc, H4 Dl = some (.lst acc) ∧ acc.length < sizeLine ∧ Nx (upd H4 Dl (.lst (acc ++ [y]))) else Nx H3) := by
  refine lc_it w (Cw H1 fb fv Dl) ⟨hD, Ex.new hD, upd_same⟩ (fun i H' _ p => hG H' p.2.1) (fun i v H' H'' hi p y => ?_) (fun H' p => q H' p.2.1 p.2.2)
  obtain ⟨T, x, z, rfl, hT, rfl, h1, h2⟩ := y
  refine ⟨T, _, rfl, SqT.of upd_same, rfl, _, _, rfl, _, _, rfl, rfl, hw _ _, ?_⟩
  exact cw_turn (Cw.new p hT) (by omega) (ht i x z hi h1 h2) (fun hf => he i x z hi h1 h2 hf)
/-- over zip(tuple, list), both told by B -/
theorem el_compZ {α : Type} {a b : Addr} {B : List α} {d : α} {f1 f2 : α → V} {j1 j2 : Nat} {vs : List Nat} (p : α → Bool) (g : α → V) (h : EvA ta σ H [.ref a, .ref b]) (hx : SqT K H a (B.map f1)) (hy : SqL K H b (B.map f2)) (hz : B.length ≤ 40000)
    (hw : ∀ x y, wipe (((wipe σ vs).set j1 (some x)).set j2 (some y)) vs = wipe σ vs)
    (ht : ∀ n H1, Ex H H1 → n ∈ B → EvT t (((wipe σ vs).set j1 (some (f1 n))).set j2 (some (f2 n))) H1 (p n)) (he : ∀ n H1, Ex H H1 → n ∈ B → p n = true → Ev te (((wipe σ vs).set j1 (some (f1 n))).set j2 (some (f2 n))) H1 (g n)) :
    EvL (tLc (K27R.iZipM K ta) (gPair K j1 j2) t te vs) σ H ((B.filter p).map g) := by
  rw [← given_gen B d p g]
  intro H0 e Q q
  refine h H0 e _ fun H1 e1 => ⟨a, b, _, _, rfl, ex_t (e.trans e1) hx, ex_l (e.trans e1) hy, fun Dl hD => ?_⟩
  have hl : (B.map f1).length = (B.map f2).length := by rw [List.length_map, List.length_map]
  have key : ∀ i x y, i < (B.map f1).length → (B.map f1)[i]? = some x → (B.map f2)[i]? = some y → ∃ n, B.getD i d = n ∧ n ∈ B ∧ x = f1 n ∧ y = f2 n := by
    intro i x y hi h1 h2
    obtain ⟨n, hn, hm, rfl⟩ := vals_get h1
    obtain ⟨n', hn', _, rfl⟩ := vals_get h2
    have : n' = n := Option.some.inj (hn'.symm.trans hn)
    subst this
    exact ⟨_, getD_of hn, hm, rfl, rfl⟩
  refine lc_pair (K27R.walk_zipM (K := K) (a := a) (b := b) hl) (fb := fun i => p (B.getD i d)) (fv := fun i => g (B.getD i d)) (by rw [List.length_map]; omega) hD (fun H' e' => ⟨ex_t ((e.trans e1).trans e') hx, ex_l ((e.trans e1).trans e') hy⟩) hw (fun i x y hi h1 h2 => ?_) (fun i x y hi h1 h2 hf => ?_) (fun H' e' h' => q Dl H' (fresh_back e1 hD) (e1.trans e') (by rw [List.length_map] at h'; exact h'))
  · obtain ⟨n, en, hm, rfl, rfl⟩ := key i x y hi h1 h2
    rw [en]
    exact ht n H1 (e.trans e1) hm
  · obtain ⟨n, en, hm, rfl, rfl⟩ := key i x y hi h1 h2
    rw [en] at hf ⊢
    exact he n H1 (e.trans e1) hm hf
end
section
variable {P : Program} {w : World} {K : PySem.W.Frag} {mg : Str → Option Value} {base : Heap} {CT CR fTI fRI gP pP fB fH fE aH : Addr}
/-! ### weight_of, is_odd, spots_of, all_on -/
def spWeight : Sp := fun vs H Q _ => ∃ n : Nat, vs = [vI n] ∧ n < 2 ^ 24 ∧ RetV (vI (K27.wt n)) H Q
theorem scWeight : FnScope ["word", "low"] ["word"] (defScope sWeightOf) := ⟨rfl, rfl, rfl, by decide +kernel, rfl, by decide +kernel, by decide +kernel⟩
theorem halves_get {i : Nat} (h : i < 16) : K27.halves[i]? = some (K27.hv i) := by
  have h' : i < K27.halves.length := h
  unfold K27.hv
  rw [List.getD_eq_getElem?_getD, List.getElem?_eq_getElem h']
  rfl
theorem ev_hal {σ : L2.St} {H : Hp} {ti : TE} {i : Nat} (hH : ∀ H, SqT K H aH ([0, 1, 1, 2, 1, 2, 2, 3, 1, 2, 2, 3, 2, 3, 3, 4].map V.int)) (h : Ev ti σ H (vI i)) (hi : i < 16) : Ev (tOp (rIxT K) (tC (.ref aH)) ti) σ H (vI (K27.hv i)) :=
  ev_op ev_c h (rv_ixT (xs := vW K27.halves) (hH H) (atI_nat (by rw [List.getElem?_map, halves_get hi]; rfl)))
theorem ok_weight (T : Txt K mg CT CR fTI fRI gP pP fB fH fE aH) : Ok P w K mg base 1 "weight_of" ["word"] spWeight := by
  refine ok_of T.dWeightOf scWeight (fun vs H Q E h => ?_) (fun f cdv A outer s H vs Q E hr h => ?_)
  · obtain ⟨n, rfl, _⟩ := h
    rfl
  · obtain ⟨n, rfl, hn, k⟩ := h
    refine ⟨_, pss_cons (ps_set (i := 1) scWeight.nd rfl (Or.inl rfl) (pe_op op_addNN (pe_op op_addNN
        (pe_ix ix_tup (pe_glob (v := .ref aH) (by rfl) T.cH rfl) (pe_op op_andN (pv 0) pe_int) (fun _ _ => rfl))
        (pe_ix ix_tup (pe_glob (v := .ref aH) (by rfl) T.cH rfl) (pe_op op_andN (pe_op op_shrN (pv 0) pe_int) pe_int) (fun _ _ => rfl)))
        (pe_ix ix_tup (pe_glob (v := .ref aH) (by rfl) T.cH rfl) (pe_op op_andN (pe_op op_shrN (pv 0) pe_int) pe_int) (fun _ _ => rfl))))
      (pss_one (ps_ret (pe_op op_addNN (pe_op op_addNN (pe_op op_addNN (pv 1)
        (pe_ix ix_tup (pe_glob (v := .ref aH) (by rfl) T.cH rfl) (pe_op op_andN (pe_op op_shrN (pv 0) pe_int) pe_int) (fun _ _ => rfl)))
        (pe_ix ix_tup (pe_glob (v := .ref aH) (by rfl) T.cH rfl) (pe_op op_andN (pe_op op_shrN (pv 0) pe_int) pe_int) (fun _ _ => rfl)))
        (pe_ix ix_tup (pe_glob (v := .ref aH) (by rfl) T.cH rfl) (pe_op op_shrN (pv 0) pe_int) (fun _ _ => rfl))))), ?_⟩
    have nib : ∀ {σ : L2.St} {H : Hp} (j : Nat), σ[0]? = some (some (vI n)) → Ev (tOp (rIxT K) (tC (.ref aH)) (tOp (rN2 (fun _ _ => True) fun n m => n &&& m) (tOp (rN2 (fun _ _ => True) fun n m => n >>> m) (tVar 0) (tC (.int (j : Int)))) (tC (.int ((15 : Nat) : Int))))) σ H (vI (K27.hv ((n >>> j) &&& 15))) := by
      intro σ H j h0
      exact ev_hal T.hH (ev_n2 (ev_n2 (ev_var h0) (ev_k j) True.intro) (ev_k 15) True.intro) (K27.nib_lt _ _)
    refine q_asg (v := vI (K27.hv (n &&& 15) + K27.hv ((n >>> 4) &&& 15) + K27.hv ((n >>> 8) &&& 15))) ?_ fun H1 e1 => ?_
    · exact ev_n2 (ev_n2 (ev_hal T.hH (ev_n2 (ev_var rfl) (ev_k 15) True.intro) (Nat.lt_of_le_of_lt Nat.and_le_right (by decide))) (nib 4 rfl) True.intro) (nib 8 rfl) True.intro
    · refine s_ret (v := vI (K27.wt n)) ?_ fun H2 e2 => k H2 (e1.trans e2)
      refine ev_n2 (ev_n2 (ev_n2 (ev_var rfl) (nib 12 rfl) True.intro) (nib 16 rfl) True.intro) (ev_hal T.hH (ev_n2 (ev_var rfl) (ev_k 20) True.intro) ?_) True.intro
      rw [Nat.shiftRight_eq_div_pow]
      omega
def spIsOdd : Sp := fun vs H Q _ => ∃ n : Nat, vs = [vI n] ∧ n < 2 ^ 24 ∧ RetV (.bl (K27.par n)) H Q
theorem scIsOdd : FnScope ["word"] ["word"] (defScope sIsOdd) := ⟨rfl, rfl, rfl, by decide +kernel, rfl, by decide +kernel, by decide +kernel⟩
theorem ok_is_odd (T : Txt K mg CT CR fTI fRI gP pP fB fH fE aH) : Ok P w K mg base 2 "is_odd" ["word"] spIsOdd := by
  obtain ⟨f1, fd1, G1, m1, k1, b1⟩ := ok_weight (P := P) (w := w) (base := base) T
  refine ok_of T.dIsOdd scIsOdd (fun vs H Q E h => ?_) (fun f cdv A outer s H vs Q E hr h => ?_)
  · obtain ⟨n, rfl, _⟩ := h
    rfl
  · obtain ⟨n, rfl, hn, k⟩ := h
    refine ⟨_, pss_one (ps_ret (pe_cmpR op_eqN (pe_op op_andN (pe_call G1 hr rfl m1 k1 b1 .nil pass0 (pa_cons (pv 0) pa_nil)) pe_int) pe_int (nomark _))), ?_⟩
    refine s_ret (v := .bl (K27.par n)) (ev_is (ev_c2 (ev_n2 (ev_callV (ea_cons (ev_var rfl) ea_nil) fun H1 e Q q E => ⟨n, rfl, hn, q⟩) (ev_k 1) True.intro) (ev_k 1)) ?_) k
    rw [K27.wt_par hn]
def spSpots : Sp := fun vs H Q _ => ∃ n : Nat, vs = [vI n] ∧ RetN (K27.spots n) H Q
theorem scSpots : FnScope ["word", "place"] ["word"] (defScope sSpotsOf) := ⟨rfl, rfl, rfl, by decide +kernel, rfl, by decide +kernel, by decide +kernel⟩
theorem ok_spots (T : Txt K mg CT CR fTI fRI gP pP fB fH fE aH) : Ok P w K mg base 1 "spots_of" ["word"] spSpots := by
  obtain ⟨tk, mP⟩ := T.cMP
  refine ok_of T.dSpotsOf scSpots (fun vs H Q E h => ?_) (fun f cdv A outer s H vs Q E hr h => ?_)
  · obtain ⟨n, rfl, _⟩ := h
    rfl
  · obtain ⟨n, rfl, k⟩ := h
    refine ⟨_, pss_one (ps_ret (pe_lc (own := [("place", 1)]) (g := gName 1) rfl scSpots.nd (pi_range1 (by rfl) T.z_range (pa_cons (pe_glob (v := vI 24) (by rfl) mP ⟨_, rfl⟩) pa_nil)) (blkOk_by (own := [("place", 1)]) (N := ["word", "place"]) (sc := defScope sSpotsOf) (by decide +kernel))
            (fun _ _ _ _ _ => pg_name (i := 1) scSpots.nd rfl (Or.inl rfl)) (fun _ _ _ _ _ => pts_one (pt_cmpR op_eqN (pe_op op_andN (pe_op op_shrN (pv 0) (pv 1)) pe_int) pe_int (nomark _)))
            (fun _ _ _ _ _ => pv 1))), ?_⟩
    refine s_retL (xs := vW (K27.spots n)) (el_compR (n := 24) (fun p => n.testBit p) vI (ea_cons (ev_k 24) ea_nil) (by decide) (fun _ => rfl) (fun i H1 e hi => ?_) (fun i H1 e hi hf => ev_var rfl)) k
    refine et_is (et_c2 (ev_n2 (ev_n2 (ev_var rfl) (ev_var rfl) True.intro) (ev_k 1) True.intro) (ev_k 1)) ?_
    exact K27.bit_dec n i
def spAllOn : Sp := fun vs H Q _ => ∃ n : Nat, vs = [vI n] ∧ n ≤ 24 ∧ RetV (vI (K27.ones n)) H Q
theorem scAllOn : FnScope ["places"] ["places"] (defScope sAllOn) := ⟨rfl, rfl, rfl, by decide +kernel, rfl, by decide +kernel, by decide +kernel⟩
theorem one_shl (n : Nat) : 1 <<< n = 2 ^ n := Nat.one_shiftLeft n
theorem ok_all_on (T : Txt K mg CT CR fTI fRI gP pP fB fH fE aH) : Ok P w K mg base 1 "all_on" ["places"] spAllOn := by
  refine ok_of T.dAllOn scAllOn (fun vs H Q E h => ?_) (fun f cdv A outer s H vs Q E hr h => ?_)
  · obtain ⟨n, rfl, _⟩ := h
    rfl
  · obtain ⟨n, rfl, hn, k⟩ := h
    refine ⟨_, pss_one (ps_ret (pe_op op_subNN (pe_op op_shlN pe_int (pv 0)) pe_int)), ?_⟩
    refine s_ret (v := vI (K27.ones n)) (ev_is (ev_n2 (ev_n2 (ev_k 1) (ev_var rfl) ⟨by decide, by omega⟩) (ev_k 1) ?_) ?_) k
    · rw [one_shl]
      exact Nat.two_pow_pos n
    · rw [one_shl]
/-! ### contrary_basis -/
theorem q_forN {D : Ends} {tu tz : TS} {σ : L2.St} {H : Hp} {ta : TA} {j n : Nat} (h : EvA ta σ H [vI n]) (hn : n ≤ 100000) (Pv : Nat → L2.St → Hp → Prop) (h0 : ∀ H1, Ex H H1 → Pv 0 σ H1)
    (hs : ∀ (i : Nat) σ' H', i < n → Pv i σ' H' → tu { D with nx := Pv (i + 1), ct := Pv (i + 1), bk := tz D } (σ'.set j (some (vI i))) H') (hd : ∀ σ' H', Pv n σ' H' → tz D σ' H') : tSeq (tFor (iRng1 ta) (gName j) tu) tz D σ H :=
  q_forR1 (n := (n : Int)) h ⟨Int.natCast_nonneg _, by omega⟩ Pv h0 (fun i σ' H' hi p => hs i σ' H' (by omega) p) (fun σ' H' p => hd σ' H' (by rw [Int.toNat_natCast] at p; exact p))
theorem eqV_vI (n m : Nat) : eqV (vI n) (vI m) = decide (n = m) := by
  show ((n : Int) == (m : Int)) = decide (n = m)
  by_cases h : n = m
  · rw [h, decide_eq_true rfl]
    exact beq_self_eq_true _
  · rw [decide_eq_false h]
    exact beq_eq_false_iff_ne.mpr fun z => h (Int.ofNat.inj z)
theorem inV_vW (x : Nat) (L : List Nat) : inV (vI x) (vW L) = decide (x ∈ L) := by
  induction L with
  | nil => rfl
  | cons y L ih =>
    have e : inV (vI x) (vW (y :: L)) = (eqV (vI y) (vI x) || inV (vI x) (vW L)) := rfl
    rw [e, ih, eqV_vI]
    by_cases h : y = x
    · subst h
      rw [decide_eq_true rfl, decide_eq_true (List.mem_cons_self : y ∈ y :: L)]
      rfl
    · rw [decide_eq_false h, Bool.false_or]
      congr 1
      rw [List.mem_cons]
      exact propext ⟨fun z => .inr z, fun z => z.elim (fun z => absurd z.symm h) id⟩
theorem flat_vW (L : List Nat) : (vW L).all flatV = true := by
  rw [List.all_eq_true]
  intro v hv
  obtain ⟨n, _, rfl⟩ := List.mem_map.mp hv
  rfl
theorem toI_sum : ∀ ws : List Nat, (toI ws).sum = ((ws.sum : Nat) : Int)
  | [] => rfl
  | w :: ws => by
    show Int.ofNat w + (toI ws).sum = _
    rw [toI_sum ws, List.sum_cons, Int.natCast_add]
    rfl
theorem ev_sumV {σ : L2.St} {H : Hp} {ta : TE} {a : Addr} {ws : List Nat} (h : Ev ta σ H (.ref a)) (hx : SqL K H a (vW ws)) : Ev (tCB (rSum K) (tCons ta tNil)) σ H (vI ws.sum) := fun H1 e Q q =>
  h H1 e _ fun H2 e2 => ⟨a, toI ws, rfl, by rw [← vW_toI]; exact ex_l (e.trans e2) hx, by rw [toI_sum]; exact q H2 e2⟩
theorem high_iff (B : List Nat) (p : Nat) : decide (1 <<< p ∈ B.map fun b => 1 <<< K27.hi b) = !decide (p ∉ B.map K27.hi) := by
  have key : 1 <<< p ∈ (B.map fun b => 1 <<< K27.hi b) ↔ p ∈ B.map K27.hi := by
    rw [List.mem_map, List.mem_map]
    constructor
    · rintro ⟨b, hb, e⟩
      rw [one_shl, one_shl] at e
      exact ⟨b, hb, (Nat.pow_right_inj (by decide)).mp e⟩
    · rintro ⟨b, hb, e⟩
      exact ⟨b, hb, by rw [e]⟩
  by_cases h : p ∈ B.map K27.hi
  · rw [decide_eq_true (key.mpr h), decide_eq_false (fun z => z h)]
    rfl
  · rw [decide_eq_false (fun z => h (key.mp z)), decide_eq_true h]
    rfl
theorem taken_sum (B : List Nat) (p : Nat) : ((B.filter fun b => b.testBit p).map fun b => 1 <<< K27.hi b).sum + 1 <<< p = K27.ctrW B p := by
  unfold K27.ctrW K27.setW K27.ctrE
  rw [List.map_map, one_shl]
  congr 2
  refine List.map_congr_left fun b _ => ?_
  rw [one_shl]
  rfl
def genTo (B : List Nat) (i : Nat) : List Nat := ((List.range i).filter fun p => decide (p ∉ B.map K27.hi)).map (K27.ctrW B)
theorem genTo_len (B : List Nat) (i : Nat) : (genTo B i).length ≤ i := by
  unfold genTo
  rw [List.length_map]
  refine Nat.le_trans (List.length_filter_le _ _) ?_
  rw [List.length_range]
  exact Nat.le_refl _
theorem genTo_yes {B : List Nat} {i : Nat} (h : decide (i ∉ B.map K27.hi) = true) : genTo B (i + 1) = genTo B i ++ [K27.ctrW B i] := by
  unfold genTo
  rw [List.range_succ, List.filter_append, List.map_append, List.filter_cons, if_pos h]
  rfl
theorem genTo_no {B : List Nat} {i : Nat} (h : decide (i ∉ B.map K27.hi) = false) : genTo B (i + 1) = genTo B i := by
  unfold genTo
  rw [List.range_succ, List.filter_append, List.map_append, List.filter_cons, if_neg (by rw [h]; exact Bool.false_ne_true)]
  exact List.append_nil _
def spContrary : Sp := fun vs H Q _ => ∃ (n : Nat) (b : Addr) (B : List Nat), vs = [vI n, .ref b] ∧ H b = some (.tup (vW B)) ∧ n ≤ 24 ∧ B.length ≤ 24 ∧ (∀ x ∈ B, x ≠ 0 ∧ x < 2 ^ 24) ∧ RetT (K27.ctr n B) H Q
theorem scContrary : FnScope ["places", "basis", "highs", "found", "place", "word", "taken", "one", "high"] ["places", "basis"] (defScope sContraryBasis) := ⟨rfl, rfl, rfl, by decide +kernel, rfl, by decide +kernel, by decide +kernel⟩
abbrev nContrary : List Str := ["places", "basis", "highs", "found", "place", "word", "taken", "one", "high"]
theorem ok_contrary (T : Txt K mg CT CR fTI fRI gP pP fB fH fE aH) : Ok P w K mg base 4 "contrary_basis" ["places", "basis"] spContrary := by
  obtain ⟨fS, fdS, GS, mS, kS, bS⟩ := ok_spots (P := P) (w := w) (base := base) T
  obtain ⟨fP, fdP, GP, mP, kP, bP⟩ := ok_plain (P := P) (w := w) (base := base) T
  refine ok_of T.dContraryBasis scContrary (fun vs H Q E h => ?_) (fun f cdv A outer s H vs Q E hr h => ?_)
  · obtain ⟨n, b, B, rfl, _⟩ := h
    rfl
  · obtain ⟨n, b, B, rfl, hb, hn, hl, hB, k⟩ := h
    refine ⟨_, pss_cons (ps_setLc (i := 2) (own := [("word", 5)]) (g := gName 5) (tt := tYes) rfl scContrary.nd rfl rfl (sw_true rfl rfl rfl (by decide +kernel)) (pi_tup (pv 1)) (blkOk_by (own := [("word", 5)]) (N := nContrary) (sc := defScope sContraryBasis) (by decide +kernel))
            (fun _ _ _ _ _ => pg_name (i := 5) scContrary.nd rfl (Or.inl rfl)) (fun _ _ _ _ _ => pts_nil)
            (fun _ _ _ _ _ => pe_op op_shlN pe_int (pe_ix (r := rIxL K) ix_list (pe_call GS (hr.mono (by decide)) rfl mS kS bS .nil pass0 (pa_cons (pv 5) pa_nil)) (pe_un un_neg pe_int) (fun _ _ => rfl))))
      (pss_cons (ps_set (i := 3) scContrary.nd rfl (Or.inl rfl) (pe_lst pa_nil))
      (pss_cons (ps_for PassesOwn.never rfl (pi_range1 (by rfl) T.z_range (pa_cons (pv 0) pa_nil)) (pg_name (i := 4) scContrary.nd rfl (Or.inr rfl))
        (pss_cons (ps_set (i := 5) scContrary.nd rfl (Or.inl rfl) (pe_op op_shlN pe_int (pv 4)))
        (pss_one (ps_if (pt_cmpR op_notIn_seq (pv 5) (pv 2) rfl)
          (pss_cons (ps_setLc (i := 6) (own := [("one", 7), ("high", 8)]) (g := gPair K 7 8) rfl scContrary.nd rfl rfl (sw_true rfl rfl rfl (by decide +kernel)) (K27R.pi_zipM (by rfl) T.z_zip (pa_cons (pv 1) (pa_cons (pv 2) pa_nil))) (blkOk_by (own := [("one", 7), ("high", 8)]) (N := nContrary) (sc := defScope sContraryBasis) (by decide +kernel))
            (fun _ _ _ _ _ => pg_tup rfl (pgs_cons (pg_name (i := 7) scContrary.nd rfl (Or.inl rfl)) (pgs_cons (pg_name (i := 8) scContrary.nd rfl (Or.inl rfl)) pgs_nil)))
            (fun _ _ _ _ _ => pts_one (pt_cmpR op_eqN (pe_op op_andN (pe_op op_shrN (pv 7) (pv 4)) pe_int) pe_int (nomark _)))
            (fun _ _ _ _ _ => pv 8))
          (pss_one (ps_expr (pe_bm PySem.F.plainAttrs_list PySem.F.slot_list_append PySem.F.type_list_append mt_append (pv 3) (pa_cons (pe_op op_addNN (pe_callB (cr_sum rfl) (by rfl) T.z_sum PyProof.Rows.boot_sum (pa_cons (pv 6) pa_nil)) (pv 5)) pa_nil))))) pss_nil))))
      (pss_one (ps_ret (pe_call GP (hr.mono (by decide)) rfl mP kP bP .nil pass0 (pa_cons (pv 3) pa_nil)))))), ?_⟩
    have hB24 : ∀ x ∈ B, K27.hi x < 24 := fun x hx => (Nat.log2_lt (hB x hx).1).mpr (hB x hx).2
    refine q_asgL (xs := vW (B.map fun b => 1 <<< K27.hi b)) ?_ fun p H1 hp e1 h1 => ?_
    · have hcm := el_compT (K := K) (σ := start nContrary [vI n, .ref b]) (H := H) (tl := tVar 1) (te := tOp (rN2 (fun n m => n < 2 ^ 60 ∧ m ≤ 1000) fun n m => n <<< m) (tC (.int ((1 : Nat) : Int))) (tOp (rIxL K) (tCall spSpots [] E0 (tCons (tVar 5) tNil)) (tUn (rU fun i => .int (-i)) (tC (.int 1))))) (t := tYes)
          (a := b) (B := B) (d := 0) (f := vI) (j := 5) (vs := [5]) (fun _ => true) (fun b => vI (1 <<< K27.hi b)) (ev_var rfl) (SqT.of hb) (by omega) (fun _ => rfl) (fun _ _ _ _ => et_yes) (fun x H3 e3 hx _ => by
            refine ev_n2 (ev_k 1) (ev_opL1 (xs := vW (K27.spots x)) (y := .int (-1)) (el_callN (ea_cons (ev_var rfl) ea_nil) fun H4 e4 Q q E => ⟨x, rfl, q⟩) (fun _ _ => ev_un ev_c ru_neg) (fun p H4 h4 e4 => rv_ixL (SqL.of h4) (atI_lastV (K27.spots_last (hB x hx).1 (hB x hx).2)))) ⟨by decide, ?_⟩
            have := hB24 x hx
            omega)
      rw [filter_yes] at hcm
      unfold vW
      rw [List.map_map]
      exact hcm
    have hb1 := e1 _ _ hb
    refine q_asgL (xs := []) (el_lst ea_nil (by show 0 ≤ 100000; decide)) fun r H2 hr2 e2 h2 => ?_
    refine q_forN (n := n) (ea_cons (ev_var rfl) ea_nil) (by omega) (fun i σ' H' => ∃ v4 v5 v6, σ' = [some (vI n), some (.ref b), some (.ref p), some (.ref r), v4, v5, v6, none, none] ∧ Ex H1 H' ∧ H' r = some (.lst (vW (genTo B i))))
      (fun H3 e3 => ⟨none, none, none, rfl, e2.trans e3, e3 _ _ h2⟩) ?_ ?_
    · rintro i σ' H' hi ⟨v4, v5, v6, rfl, e, hr'⟩
      refine q_asg (v := vI (1 <<< i)) (ev_n2 (ev_k 1) (ev_var rfl) ⟨by decide, by omega⟩) fun H3 e3 => ?_
      have e' := e.trans e3
      have hr3 := e3 _ _ hr'
      refine s_when (b := decide (i ∉ B.map K27.hi)) (et_is (et_test (ev_op (ev_var rfl) (ev_var rfl) (rv_niL (SqL.of (e' _ _ h1)) rfl (flat_vW _)))) ?_) (fun hz H4 e4 => ?_) (fun hz H4 e4 => ?_)
      · rw [inV_vW, high_iff, Bool.not_not]
      · have e4' := e'.trans e4
        refine q_asgL (xs := vW ((B.filter fun x => x.testBit i).map fun x => 1 <<< K27.hi x)) ?_ fun t H5 ht e5 h5 => ?_
        · have hcz := el_compZ (K := K) (σ := [some (vI n), some (.ref b), some (.ref p), some (.ref r), some (vI i), some (vI (1 <<< i)), v6, none, none]) (H := H4) (ta := tCons (tVar 1) (tCons (tVar 2) tNil)) (te := tVar 8) (t := tTest (tOp (rC2 fun n m => decide (n = m)) (tOp (rN2 (fun _ _ => True) fun n m => n &&& m) (tOp (rN2 (fun _ _ => True) fun n m => n >>> m) (tVar 7) (tVar 4)) (tC (.int ((1 : Nat) : Int)))) (tC (.int ((1 : Nat) : Int)))))
            (a := b) (b := p) (B := B) (d := 0) (f1 := vI) (f2 := fun x => vI (1 <<< K27.hi x)) (j1 := 7) (j2 := 8) (vs := [7, 8]) (fun x => x.testBit i) (fun x => vI (1 <<< K27.hi x)) (ea_cons (ev_var rfl) (ea_cons (ev_var rfl) ea_nil)) (SqT.of (e4' _ _ hb1))
            (SqL.of (by have := e4' _ _ h1; unfold vW at this; rw [List.map_map] at this; exact this)) (by omega) (fun _ _ => rfl) (fun x H6 e6 hx => et_is (et_c2 (ev_n2 (ev_n2 (ev_var rfl) (ev_var rfl) True.intro) (ev_k 1) True.intro) (ev_k 1)) (K27.bit_dec x i)) (fun x H6 e6 hx _ => ev_var rfl)
          unfold vW
          rw [List.map_map]
          exact hcz
        · have hr5 := e5 _ _ (e4 _ _ hr3)
          refine s_app (xs := vW (genTo B i)) (v := vI (K27.ctrW B i)) hr5 (ev_var rfl) (ev_is (ev_n2 (ev_sumV (ev_var rfl) (SqL.of h5)) (ev_var rfl) True.intro) ?_) ?_ fun H6 e6 => ?_
          · rw [taken_sum]
          · rw [vW_len]
            have := genTo_len B i
            omega
          · refine ⟨_, _, _, rfl, Ex.mut ((e4'.trans e5).trans e6) hr2, ?_⟩
            rw [upd_same, genTo_yes hz]
            unfold vW
            rw [List.map_append]
            rfl
      · refine ⟨_, _, _, rfl, e'.trans e4, ?_⟩
        rw [genTo_no hz]
        exact e4 _ _ hr3
    · rintro σ' H' ⟨v4, v5, v6, rfl, e, hr'⟩
      have hl2 := genTo_len B n
      refine s_retW (ws := K27.ctr n B) (ew_call (ea_cons (ev_var rfl) ea_nil) fun H3 e3 Q q E => ⟨r, genTo B n, rfl, SqL.of (e3 _ _ hr'), by omega, q⟩) fun z H3 e3 h3 => k z H3 ((e1.trans e).trans e3) h3
/-! ### odd_two and on -/
theorem s_forW {σ : L2.St} {H : Hp} {tl : TE} {ws : List Nat} {D : Ends} {g : TG} {tu : TS} (h : EvW tl σ H ws) (Pv : Addr → Nat → L2.St → Hp → Prop) (h0 : ∀ p H1, Ex H H1 → H1 p = some (.tup (vW ws)) → Pv p 0 σ H1) (hl : ∀ p i σ' H', i ≤ ws.length → Pv p i σ' H' → SqT K H' p (vW ws))
    (hs : ∀ p i x σ' H', (vW ws)[i]? = some x → Pv p i σ' H' → g x σ' H' fun σ2 H2 => tu { D with nx := Pv p (i + 1), ct := Pv p (i + 1), bk := D.nx } σ2 H2) (hd : ∀ p σ' H', Pv p ws.length σ' H' → D.nx σ' H') : tFor (iTup K tl) g tu D σ H :=
  h H (Ex.refl H) _ fun p H1 e h1 => ⟨p, rfl, ⟨_, st_of h1⟩, for_tup (xs := vW ws) (Pv p) (h0 p H1 e h1) (fun i σ' H' hi pp => hl p i σ' H' (by rw [vW_len] at hi; exact hi) pp) (hs p) (fun σ' H' pp => hd p σ' H' (by rw [vW_len] at pp; exact pp))⟩
theorem cutV_take (B : List Nat) (j : Nat) : cutV (vW B) none (some (j : Int)) = vW (B.take j) := by
  unfold cutV
  rw [HT.sIx_none, HT.sIx_nat, List.drop_zero, Nat.sub_zero]
  unfold vW
  rw [List.map_take, List.length_map]
  by_cases h : j ≤ B.length
  · rw [Nat.min_eq_left h]
  · rw [Nat.min_eq_right (by omega), List.take_of_length_le (by rw [List.length_map]; exact Nat.le_refl _), List.take_of_length_le (by rw [List.length_map]; omega)]
theorem ew_upto {σ : L2.St} {H : Hp} {te th : TE} {a : Addr} {B : List Nat} {j : Nat} (h : Ev te σ H (.ref a)) (hj : Ev th σ H (vI j)) (hB : H a = some (.tup (vW B))) : EvW (tSl (rSlA K) te tNoPart (tPart th)) σ H (B.take j) := fun H1 e Q q =>
  h H1 e _ fun H2 e2 => hj H2 (e.trans e2) _ fun H3 e3 => ⟨_, rfl, a, vW B, rfl, SqT.of (e3 _ _ (e2 _ _ (e _ _ hB))), fun hw => by
    refine q a H3 (e2.trans e3) ?_
    have h3 := (e2.trans e3) _ _ (e _ _ hB)
    have hz : B.take j = B := by
      have h2 := hw.2
      rw [HT.sIx_nat, vW_len] at h2
      exact List.take_of_length_le (by omega)
    rw [hz]
    exact h3, fun _ p hp => q p _ ((e2.trans e3).trans (Ex.new hp)) (by rw [upd_same, cutV_take])⟩
def spOddTwo : Sp := fun vs H Q _ => ∃ (b : Addr) (B : List Nat), vs = [.ref b] ∧ H b = some (.tup (vW B)) ∧ (∀ x ∈ B, x < 2 ^ 24) ∧ K27.Still B ∧ RetV .non H Q
theorem scOddTwo : FnScope ["basis", "at", "word", "other"] ["basis"] (defScope sOddTwo) := ⟨rfl, rfl, rfl, by decide +kernel, rfl, by decide +kernel, by decide +kernel⟩
theorem ok_odd_two (T : Txt K mg CT CR fTI fRI gP pP fB fH fE aH) : Ok P w K mg base 3 "odd_two" ["basis"] spOddTwo := by
  obtain ⟨f1, fd1, G1, m1, k1, b1⟩ := ok_is_odd (P := P) (w := w) (base := base) T
  refine ok_of T.dOddTwo scOddTwo (fun vs H Q E h => ?_) (fun f cdv A outer s H vs Q E hr h => ?_)
  · obtain ⟨b, B, rfl, _⟩ := h
    rfl
  · obtain ⟨b, B, rfl, hb, hB, hS, k⟩ := h
    refine ⟨_, pss_cons (ps_for PassesOwn.never rfl (K27R.pi_enumT (by rfl) T.z_enumerate (pa_cons (pv 0) pa_nil)) (pg_tup rfl (pgs_cons (pg_name (i := 1) scOddTwo.nd rfl (Or.inl rfl)) (pgs_cons (pg_name (i := 2) scOddTwo.nd rfl (Or.inl rfl)) pgs_nil)))
        (pss_one (ps_for PassesOwn.never rfl (pi_tup (pe_slice sl_tupA (pv 0) po_none (po_some (pe_op op_addNN (pv 1) pe_int)))) (pg_name (i := 3) scOddTwo.nd rfl (Or.inl rfl))
          (pss_one (ps_if (pt_val (pe_call G1 hr rfl m1 k1 b1 .nil pass0 (pa_cons (pe_op op_andN (pv 2) (pv 3)) pa_nil))) (pss_one (ps_ret (pe_tup (pa_cons (pv 3) (pa_cons (pv 2) pa_nil))))) pss_nil)))))
      (pss_one (ps_ret pe_non)), ?_⟩
    refine ⟨_, rfl, b, vW B, rfl, SqT.of hb, for_it (K27R.walk_enumT (xs := vW B)) (fun i σ' H' => ∃ u v x, σ' = [some (.ref b), u, v, x] ∧ Ex H H') ⟨none, none, none, rfl, Ex.refl _⟩ (fun i σ' H' _ ⟨u, v, x, _, e⟩ => SqT.of (e _ _ hb)) ?_ ?_⟩
    · rintro i x σ' H' H'' hi ⟨u, v, x3, rfl, e⟩ ⟨Tt, x1, y1, rfl, hT, rfl, hx1, hy1⟩
      obtain ⟨c, hc, rfl⟩ := vW_get hy1
      cases hx1
      refine ⟨Tt, _, rfl, SqT.of upd_same, rfl, _, _, rfl, _, _, rfl, rfl, ?_⟩
      have e' : Ex H (upd H' Tt (.tup [.int (i : Nat), vI c])) := e.trans (Ex.new hT)
      refine s_forW (ws := B.take (i + 1)) (ew_upto (ev_var rfl) (ev_n2 (ev_var rfl) (ev_k 1) True.intro) (e' _ _ hb)) (fun r j σ' H2 => ∃ x, σ' = [some (.ref b), some (.int (i : Nat)), some (vI c), x] ∧ Ex H H2 ∧ H2 r = some (.tup (vW (B.take (i + 1))))) (fun r H2 e2 h2 => ⟨x3, rfl, e'.trans e2, h2⟩) (fun r j σ' H2 _ ⟨x, _, _, h⟩ => SqT.of h) ?_ ?_
      · rintro r j x σ' H2 hx ⟨x4, rfl, e2, h2⟩
        obtain ⟨o, ho, rfl⟩ := vW_get hx
        have hcB := mem_of_get hc
        have hoB : o ∈ B := List.mem_of_mem_take (mem_of_get ho)
        refine s_when (b := false) (et_B (ev_is (ev_callV (vs := [vI (c &&& o)]) (z := .bl (K27.par (c &&& o))) (ea_cons (ev_n2 (ev_var rfl) (ev_var rfl) True.intro) ea_nil) fun H3 e3 Q q E => ⟨c &&& o, rfl, Nat.lt_of_le_of_lt Nat.and_le_left (hB c hcB), q⟩) ?_)) (fun z => nomatch z) fun _ H3 e3 => ⟨_, rfl, e2.trans e3, e3 _ _ h2⟩
        have := hS c hcB o hoB
        unfold K27.dot at this
        rw [this]
      · rintro r σ' H2 ⟨x, rfl, e2, _⟩
        exact ⟨_, _, _, rfl, e2⟩
    · rintro σ' H' ⟨u, v, x, rfl, e⟩
      show tRet (tC V.non) { nx := fun _ H' => Q .non H', rt := Q } [some (.ref b), u, v, x] H'
      exact s_ret (v := .non) ev_c fun H1 e1 => k H1 (e.trans e1)
theorem ev_isN {σ : L2.St} {H : Hp} {ta : TE} {x : V} (h : Ev ta σ H x) : Ev (tIsN ta) σ H (.bl (decide (x = .non))) := fun H1 e Q q => h H1 e _ fun H2 e2 => q H2 e2
def spStill : Sp := fun vs H Q _ => ∃ (b : Addr) (B : List Nat), vs = [.ref b] ∧ H b = some (.tup (vW B)) ∧ (∀ x ∈ B, x < 2 ^ 24) ∧ K27.Still B ∧ RetV (.bl true) H Q
theorem scStill : FnScope ["basis"] ["basis"] (defScope sAreStill) := ⟨rfl, rfl, rfl, by decide +kernel, rfl, by decide +kernel, by decide +kernel⟩
theorem ok_are_still (T : Txt K mg CT CR fTI fRI gP pP fB fH fE aH) : Ok P w K mg base 4 "are_still" ["basis"] spStill := by
  obtain ⟨f1, fd1, G1, m1, k1, b1⟩ := ok_odd_two (P := P) (w := w) (base := base) T
  refine ok_of T.dAreStill scStill (fun vs H Q E h => ?_) (fun f cdv A outer s H vs Q E hr h => ?_)
  · obtain ⟨b, B, rfl, _⟩ := h
    rfl
  · obtain ⟨b, B, rfl, hb, hB, hS, k⟩ := h
    refine ⟨_, pss_one (ps_ret (pe_cmp (pc_isN (pe_call G1 hr rfl m1 k1 b1 .nil pass0 (pa_cons (pv 0) pa_nil))) rfl)), ?_⟩
    exact s_ret (v := .bl true) (ev_isN (x := .non) (ev_callV (ea_cons (ev_var rfl) ea_nil) fun H1 e Q q E => ⟨b, B, rfl, e _ _ hb, hB, hS, q⟩)) k
/-- a Room whose words are still -/
structure StillAt (CR : Addr) (H : Hp) (p : Addr) (n : Nat) (B : List Nat) : Prop where
  at_ : RoomAt CR H p n B
  lt : ∀ x ∈ B, x < 2 ^ 24
  still : K27.Still B
def spOwn (CR : Addr) : Sp := fun vs H Q _ => ∃ (p : Addr) (n : Nat) (B : List Nat), vs = [.ref p] ∧ StillAt CR H p n B ∧ 2 * B.length = n ∧ RetV (.bl true) H Q
theorem scOwnRoom : FnScope ["room"] ["room"] (defScope sIsOwnRoom) := ⟨rfl, rfl, rfl, by decide +kernel, rfl, by decide +kernel, by decide +kernel⟩
theorem ok_is_own_room (T : Txt K mg CT CR fTI fRI gP pP fB fH fE aH) : Ok P w K mg base 5 "is_own_room" ["room"] (spOwn CR) := by
  obtain ⟨f1, fd1, G1, m1, k1, b1⟩ := ok_are_still (P := P) (w := w) (base := base) T
  refine ok_of T.dIsOwnRoom scOwnRoom (fun vs H Q E h => ?_) (fun f cdv A outer s H vs Q E hr h => ?_)
  · obtain ⟨p, n, B, rfl, _⟩ := h
    rfl
  · obtain ⟨p, n, B, rfl, hS, hn, k⟩ := h
    obtain ⟨dx, b, h1, h2⟩ := hS.at_.ex
    refine ⟨_, pss_one (ps_ret (pe_and (pe_cmpR op_eqN (pe_op op_mulNN pe_int (pe_callB call_len_seq (by rfl) T.z_len PySem.boot_len (pa_cons (pe_fld (pv 0) rfl) pa_nil))) (pe_fld (pv 0) rfl) (nomark _)) (pe_one (pe_call G1 hr rfl m1 k1 b1 .nil pass0 (pa_cons (pe_fld (pv 0) rfl) pa_nil))))), ?_⟩
    refine s_ret (v := .bl true) (ev_is (ev_andV (a := true) (b := true) (ev_is (ev_c2 (ev_n2 (ev_k 2) (ev_lenV (ev_fld (ev_var rfl) h1 T.iR.cl T.nRb (rf_b n b)) (.inr (SqT.of h2))) (by decide)) (ev_fld (ev_var rfl) h1 T.iR.cl T.nRp (rf_p n b))) ?_) fun _ => ?_) rfl) k
    · rw [vW_len, decide_eq_true hn]
    · exact ev_callV (ea_cons (ev_fld (ev_var rfl) h1 T.iR.cl T.nRb (rf_b n b)) ea_nil) fun H1 e Q q E => ⟨b, B, rfl, e _ _ h2, hS.lt, hS.still, q⟩
def spWantStill (CR : Addr) : Sp := fun vs H Q _ => ∃ (p : Addr) (n : Nat) (B : List Nat), vs = [.ref p] ∧ StillAt CR H p n B ∧ RetV .non H Q
theorem scWantStill : FnScope ["value"] ["value"] (defScope sWantStill) := ⟨rfl, rfl, rfl, by decide +kernel, rfl, by decide +kernel, by decide +kernel⟩
theorem ok_want_still (T : Txt K mg CT CR fTI fRI gP pP fB fH fE aH) : Ok P w K mg base 5 "want_still" ["value"] (spWantStill CR) := by
  obtain ⟨f1, fd1, G1, m1, k1, b1⟩ := ok_are_still (P := P) (w := w) (base := base) T
  obtain ⟨f2, fd2, G2, m2, k2, b2⟩ := ok_want_room (P := P) (w := w) (base := base) T
  refine ok_of T.dWantStill scWantStill (fun vs H Q E h => ?_) (fun f cdv A outer s H vs Q E hr h => ?_)
  · obtain ⟨p, n, B, rfl, _⟩ := h
    rfl
  · obtain ⟨p, n, B, rfl, hS, k⟩ := h
    obtain ⟨dx, b, h1, h2⟩ := hS.at_.ex
    refine ⟨_, pss_cons (ps_expr (pe_call G2 (hr.mono (by decide)) rfl m2 k2 b2 .nil pass0 (pa_cons (pv 0) pa_nil)))
      (pss_one (ps_if (pt_not (pt_val (pe_call G1 hr rfl m1 k1 b1 .nil pass0 (pa_cons (pe_fld (pv 0) rfl) pa_nil)))) (pss_one ps_never) pss_nil)), ?_⟩
    refine q_drop (v := .non) (ev_callV (ea_cons (ev_var rfl) ea_nil) fun H2 e2 Q q E => ⟨p, n, B, rfl, hS.at_.mono e2, q⟩) fun H1 e1 => ?_
    refine s_when (b := false) (et_is (et_not (a := true) (et_B (ev_callV (ea_cons (ev_fld (ev_var rfl) (e1 _ _ h1) T.iR.cl T.nRb (rf_b n b)) ea_nil) fun H2 e Q q E => ⟨b, B, rfl, e _ _ (e1 _ _ h2), hS.lt, hS.still, q⟩))) rfl) (fun z => nomatch z) fun _ H2 e2 => k H2 (e1.trans e2)
theorem scIsOwn : FnScope ["room"] ["room"] (defScope sIsOwn) := ⟨rfl, rfl, rfl, by decide +kernel, rfl, by decide +kernel, by decide +kernel⟩
theorem StillAt.mono {H H' : Hp} {p : Addr} {n : Nat} {B : List Nat} (h : StillAt CR H p n B) (e : Ex H H') : StillAt CR H' p n B := ⟨h.at_.mono e, h.lt, h.still⟩
theorem ok_is_own (T : Txt K mg CT CR fTI fRI gP pP fB fH fE aH) : Ok P w K mg base 6 "is_own" ["room"] (spOwn CR) := by
  obtain ⟨f1, fd1, G1, m1, k1, b1⟩ := ok_is_own_room (P := P) (w := w) (base := base) T
  obtain ⟨f2, fd2, G2, m2, k2, b2⟩ := ok_want_room (P := P) (w := w) (base := base) T
  refine ok_of T.dIsOwn scIsOwn (fun vs H Q E h => ?_) (fun f cdv A outer s H vs Q E hr h => ?_)
  · obtain ⟨p, n, B, rfl, _⟩ := h
    rfl
  · obtain ⟨p, n, B, rfl, hS, hn, k⟩ := h
    refine ⟨_, pss_cons (ps_expr (pe_call G2 (hr.mono (by decide)) rfl m2 k2 b2 .nil pass0 (pa_cons (pv 0) pa_nil)))
      (pss_one (ps_ret (pe_call G1 hr rfl m1 k1 b1 .nil pass0 (pa_cons (pv 0) pa_nil)))), ?_⟩
    refine q_drop (v := .non) (ev_callV (ea_cons (ev_var rfl) ea_nil) fun H2 e2 Q q E => ⟨p, n, B, rfl, hS.at_.mono e2, q⟩) fun H1 e1 => ?_
    exact s_ret (v := .bl true) (ev_callV (ea_cons (ev_var rfl) ea_nil) fun H2 e2 Q q E => ⟨p, n, B, rfl, (hS.mono e1).mono e2, hn, q⟩) fun H2 e2 => k H2 (e1.trans e2)
end
end K27W
set_option maxHeartbeats 4000000
/-! K27P5: with_all, fill_number, class_words. -/
namespace K27W
open PySem PySem.Spec L2 Evl
section
variable {P : Program} {w : World} {K : PySem.W.Frag} {mg : Str → Option Value} {base : Heap} {CT CR fTI fRI gP pP fB fH fE aH : Addr}
def spWithAll : Sp := fun vs H Q _ => ∃ (n : Nat) (b : Addr) (B : List Nat), vs = [vI n, .ref b] ∧ H b = some (.tup (vW B)) ∧ n ≤ 24 ∧ B.length ≤ 100 ∧ RetT (K27.extB B (K27.ones n)) H Q
theorem scWithAll : FnScope ["places", "basis"] ["places", "basis"] (defScope sWithAll) := ⟨rfl, rfl, rfl, by decide +kernel, rfl, by decide +kernel, by decide +kernel⟩
theorem ok_with_all (T : Txt K mg CT CR fTI fRI gP pP fB fH fE aH) : Ok P w K mg base 3 "with_all" ["places", "basis"] spWithAll := by
  obtain ⟨f1, fd1, G1, m1, k1, b1⟩ := ok_with_word (P := P) (w := w) (base := base) T
  obtain ⟨f2, fd2, G2, m2, k2, b2⟩ := ok_all_on (P := P) (w := w) (base := base) T
  refine ok_of T.dWithAll scWithAll (fun vs H Q E h => ?_) (fun f cdv A outer s H vs Q E hr h => ?_)
  · obtain ⟨n, b, B, rfl, _⟩ := h
    rfl
  · obtain ⟨n, b, B, rfl, hb, hn, hl, k⟩ := h
    refine ⟨_, pss_one (ps_ret (pe_call G1 hr rfl m1 k1 b1 .nil pass0 (pa_cons (pv 1) (pa_cons (pe_call G2 (hr.mono (by decide)) rfl m2 k2 b2 .nil pass0 (pa_cons (pv 0) pa_nil)) pa_nil)))), ?_⟩
    exact s_retW (ws := K27.extB B (K27.ones n)) (sp_with hb hl (ev_var rfl) (ev_callV (ea_cons (ev_var rfl) ea_nil) fun H1 e Q q E => ⟨n, rfl, hn, q⟩)) k
def spFillNumber : Sp := fun vs H Q _ => ∃ (n d : Nat), vs = [vI n, vI d] ∧ d ≤ n / 2 ∧ n / 2 ≤ d + 4 ∧ RetV (vI (K27.fillN (n / 2 - d))) H Q
theorem scFillNumber : FnScope ["places", "dimension", "found", "step"] ["places", "dimension"] (defScope sFillNumber) := ⟨rfl, rfl, rfl, by decide +kernel, rfl, by decide +kernel, by decide +kernel⟩
theorem fillN_lt : ∀ i, i ≤ 4 → K27.fillN i < 2 ^ 60 := by decide
theorem q_forN1 {D : Ends} {tu tz : TS} {σ : L2.St} {H : Hp} {ta : TA} {j n : Nat} (h : EvA ta σ H [vI 1, vI (n + 1)]) (hn : n ≤ 10000) (Pv : Nat → L2.St → Hp → Prop) (h0 : ∀ H1, Ex H H1 → Pv 0 σ H1)
    (hs : ∀ (i : Nat) σ' H', i < n → Pv i σ' H' → tu { D with nx := Pv (i + 1), ct := Pv (i + 1), bk := tz D } (σ'.set j (some (vI (i + 1)))) H') (hd : ∀ σ' H', Pv n σ' H' → tz D σ' H') : tSeq (tFor (iRng2 ta) (gName j) tu) tz D σ H :=
  q_forR2 (lo := 1) (n := ((n + 1 : Nat) : Int)) h ⟨by omega, by omega, by omega, by omega⟩ Pv h0 (fun i σ' H' hi p => by
    have e : ((1 : Int) + (i : Int)) = ((i + 1 : Nat) : Int) := by omega
    rw [e]
    exact hs i σ' H' (by omega) p) (fun σ' H' p => hd σ' H' (by
    have e : (((n + 1 : Nat) : Int) - 1).toNat = n := by omega
    rw [e] at p
    exact p))
theorem ok_fill_number (T : Txt K mg CT CR fTI fRI gP pP fB fH fE aH) : Ok P w K mg base 1 "fill_number" ["places", "dimension"] spFillNumber := by
  refine ok_of T.dFillNumber scFillNumber (fun vs H Q E h => ?_) (fun f cdv A outer s H vs Q E hr h => ?_)
  · obtain ⟨n, d, rfl, _⟩ := h
    rfl
  · obtain ⟨n, d, rfl, hd, hd4, k⟩ := h
    refine ⟨_, pss_cons (ps_set (i := 2) scFillNumber.nd rfl (Or.inl rfl) pe_int)
      (pss_cons (ps_for PassesOwn.never rfl (pi_range2 (by rfl) T.z_range (pa_cons pe_int (pa_cons (pe_op op_addNN (pe_op op_subNN (pe_op op_fdivNN (pv 0) pe_int) (pv 1)) pe_int) pa_nil))) (pg_name (i := 3) scFillNumber.nd rfl (Or.inl rfl))
        (pss_one (ps_set (i := 2) scFillNumber.nd rfl (Or.inl rfl) (pe_op op_mulNN (pv 2) (pe_op op_addNN (pe_op op_shlN pe_int (pv 3)) pe_int)))))
      (pss_one (ps_ret (pv 2)))), ?_⟩
    refine q_asg (v := vI 1) (ev_k 1) fun H1 e1 => ?_
    refine q_forN1 (n := n / 2 - d) (ea_cons (ev_k 1) (ea_cons (ev_n2 (ev_n2 (ev_n2 (ev_var rfl) (ev_k 2) ⟨by decide, by decide⟩) (ev_var rfl) hd) (ev_k 1) True.intro) ea_nil)) (by omega) (fun i σ' H' => ∃ v, σ' = [some (vI n), some (vI d), some (vI (K27.fillN i)), v] ∧ Ex H H') (fun H2 e2 => ⟨none, rfl, e1.trans e2⟩) ?_ ?_
    · rintro i σ' H' hi ⟨v, rfl, e⟩
      refine s_asg (v := vI (K27.fillN (i + 1))) ?_ fun H2 e2 => ⟨_, rfl, e.trans e2⟩
      refine ev_is (ev_n2 (ev_var rfl) (ev_n2 (ev_n2 (ev_k 1) (ev_var rfl) ⟨by decide, by omega⟩) (ev_k 1) True.intro) (fillN_lt i (by omega))) ?_
      rw [one_shl]
      rfl
    · rintro σ' H' ⟨v, rfl, e⟩
      exact s_ret (ev_var rfl) fun H2 e2 => k H2 (e.trans e2)
/-! ### class_words -/
def spClass : Sp := fun vs H Q _ => ∃ (n : Nat) (b : Addr) (B : List Nat), vs = [vI n, .ref b] ∧ H b = some (.tup (vW B)) ∧ K27.Base n B ∧ n ≤ 12 ∧ RetN (K27.classW n B) H Q
theorem scClass : FnScope ["places", "basis", "some", "here", "word"] ["places", "basis"] (defScope sClassWords) := ⟨rfl, rfl, rfl, by decide +kernel, rfl, by decide +kernel, by decide +kernel⟩
theorem Base.len {n : Nat} {B : List Nat} (h : K27.Base n B) : 2 * B.length ≤ n := by
  have := (K27.cls_facts h).2.2
  omega
theorem plain_lt24 {n : Nat} {B : List Nat} (h : ∀ b ∈ B, b < 2 ^ n) (hn : n ≤ 24) : ∀ b ∈ B, b < 2 ^ 24 := fun b hb => Nat.lt_of_lt_of_le (h b hb) (Nat.pow_le_pow_right (by decide) hn)
def clsAt (n : Nat) (B : List Nat) (i : Nat) : List Nat × List Nat := ((K27.ctr n B).take i).foldl K27.clsStep ([], B)
theorem clsAt_len (n : Nat) (B : List Nat) : ∀ i, (clsAt n B i).1.length ≤ i ∧ (clsAt n B i).2.length ≤ B.length + i
  | 0 => ⟨Nat.le_refl _, Nat.le_refl _⟩
  | i + 1 => by
    have ih := clsAt_len n B i
    by_cases h : i < (K27.ctr n B).length
    · have e : clsAt n B (i + 1) = K27.clsStep (clsAt n B i) (K27.ctr n B)[i] := foldl_take_succ (List.getElem?_eq_getElem h)
      rw [e]
      unfold K27.clsStep
      split
      · omega
      · have := extB_len_le (clsAt n B i).2 (K27.ctr n B)[i]
        refine ⟨?_, ?_⟩
        · show ((clsAt n B i).1 ++ [_]).length ≤ _
          rw [List.length_append, List.length_singleton]
          omega
        · show (K27.extB _ _).length ≤ _
          omega
    · have e : clsAt n B (i + 1) = clsAt n B i := by
        unfold clsAt
        rw [List.take_of_length_le (by omega), List.take_of_length_le (by omega)]
      rw [e]
      omega
theorem cut1 (xs : List V) : cutV xs (some 1) none = xs.tail := by
  unfold cutV
  rw [HT.sIx_none]
  have e : HT.sIx xs.length 0 (some 1) = min 1 xs.length := HT.sIx_nat _ _ 1
  rw [e]
  cases xs with
  | nil => rfl
  | cons x xs =>
    rw [Nat.min_eq_left (by rw [List.length_cons]; omega)]
    show (xs.take _) = xs
    exact List.take_of_length_le (by rw [List.length_cons]; omega)
theorem el_slN {σ : L2.St} {H : Hp} {te : TE} {tl th : TO} {xs : List V} {lo hi : Option Int} (h : EvL te σ H xs) (h1 : EvO tl σ H lo) (h2 : EvO th σ H hi) : EvL (tSl (rSlL K) te tl th) σ H (cutV xs lo hi) := fun H1 e _ q =>
  h H1 e _ fun a H2 ha e2 hs => h1 H2 (e.trans e2) _ fun H3 e3 => h2 H3 ((e.trans e2).trans e3) _ fun H4 e4 => ⟨a, xs, rfl, SqL.of ((e3.trans e4) _ _ hs), fun p hp => q p _ (fresh_back ((e2.trans e3).trans e4) hp) (((e2.trans e3).trans e4).trans (Ex.new hp)) upd_same⟩
theorem q_parL {σ : L2.St} {H : Hp} {ta tb : TE} {xs : List V} {v : V} {i j : Nat} {D : Ends} {tz : TS} (h1 : EvL ta σ H xs) (h2 : Ev tb σ H v) (k : ∀ p H1, H p = none → Ex H H1 → H1 p = some (.lst xs) → tz D ((σ.set i (some (.ref p))).set j (some v)) H1) : tSeq (tPar i j (tCons ta (tCons tb tNil))) tz D σ H :=
  h1 H (Ex.refl H) _ fun p H1 hp e1 hx => h2 H1 e1 _ fun H2 e2 => ⟨_, _, rfl, k p H2 hp (e1.trans e2) (e2 _ _ hx)⟩
theorem el_callU {σ : L2.St} {H : Hp} {ta : TE} {xs : List V} {sp : Sp} {E : XK} {ws : List Nat} (h : EvU ta σ H xs) (hs : ∀ p H1, Ex H H1 → H1 p = some (.tup xs) → ∀ Q : VK, RetN ws H1 Q → ∀ E : XK, sp [.ref p] H1 Q E) : EvL (tCall sp [] E (tCons ta tNil)) σ H (vW ws) := fun H1 e Q q =>
  h H1 e _ fun p H2 hp e2 h2 => hs p H2 (e.trans e2) h2 Q (fun r H3 hr e3 h3 => q r H3 (fresh_back e2 hr) (e2.trans e3) h3) E
theorem ok_class (T : Txt K mg CT CR fTI fRI gP pP fB fH fE aH) : Ok P w K mg base 5 "class_words" ["places", "basis"] spClass := by
  obtain ⟨fC, fdC, GC, mC, kC, bC⟩ := ok_contrary (P := P) (w := w) (base := base) T
  obtain ⟨fL, fdL, GL, mL, kL, bL⟩ := ok_left_of (P := P) (w := w) (base := base) T
  obtain ⟨fW, fdW, GW, mW, kW, bW⟩ := ok_with_word (P := P) (w := w) (base := base) T
  obtain ⟨fA, fdA, GA, mA, kA, bA⟩ := ok_all_words (P := P) (w := w) (base := base) T
  refine ok_of T.dClassWords scClass (fun vs H Q E h => ?_) (fun f cdv A outer s H vs Q E hr h => ?_)
  · obtain ⟨n, b, B, rfl, _⟩ := h
    rfl
  · obtain ⟨n, b, B, rfl, hb, hB, hn, k⟩ := h
    refine ⟨_, pss_cons (ps_par (i := 2) (j := 3) rfl scClass.nd rfl rfl (by decide) rfl rfl (pa_cons (pe_lst pa_nil) (pa_cons (pv 1) pa_nil)) rfl)
      (pss_cons (ps_for PassesOwn.never rfl (pi_tup (pe_call GC hr rfl mC kC bC .nil pass0 (pa_cons (pv 0) (pa_cons (pv 1) pa_nil)))) (pg_name (i := 4) scClass.nd rfl (Or.inl rfl))
        (pss_one (ps_if (pt_cmpR op_neN (pe_call GL (hr.mono (by decide)) rfl mL kL bL .nil pass0 (pa_cons (pv 3) (pa_cons (pv 4) pa_nil))) pe_int (nomark _))
          (pss_cons (ps_expr (pe_bm PySem.F.plainAttrs_list PySem.F.slot_list_append PySem.F.type_list_append mt_append (pv 2) (pa_cons (pv 4) pa_nil)))
          (pss_one (ps_set (i := 3) scClass.nd rfl (Or.inl rfl) (pe_call GW (hr.mono (by decide)) rfl mW kW bW .nil pass0 (pa_cons (pv 3) (pa_cons (pv 4) pa_nil)))))) pss_nil)))
      (pss_one (ps_ret (pe_slice sl_list (pe_call GA (hr.mono (by decide)) rfl mA kA bA .nil pass0 (pa_cons (pe_callTy call_tuple_of (by rfl) T.z_tuple PyProof.Rows.boot_tuple (pa_cons (pv 2) pa_nil)) pa_nil)) (po_some pe_int) po_none)))), ?_⟩
    have hlen := Base.len hB
    have hcl := (K27.cls_facts hB).2.2
    have hctr := K27.ctr_len hB.plain.1 hB.lt
    refine q_parL (el_lst ea_nil (by show 0 ≤ 100000; decide)) (ev_var rfl) fun so H1 hso e1 h1 => ?_
    refine q_forW (ws := K27.ctr n B) (ew_call (ea_cons (ev_var rfl) (ea_cons (ev_var rfl) ea_nil)) fun H2 e2 Q q E => ⟨n, b, B, rfl, e2 _ _ (e1 _ _ hb), hB.le, by omega, fun x hx => ⟨hB.plain.1.1 x hx, plain_lt24 hB.lt hB.le x hx⟩, q⟩)
      (fun r i σ' H' => ∃ hp v, σ' = [some (vI n), some (.ref b), some (.ref so), some (.ref hp), v] ∧ Ex H H' ∧ H' r = some (.tup (vW (K27.ctr n B))) ∧ H' so = some (.lst (vW (clsAt n B i).1)) ∧ H' hp = some (.tup (vW (clsAt n B i).2)))
      (fun r H2 e2 h2 => ⟨b, none, rfl, e1.trans e2, h2, e2 _ _ h1, e2 _ _ (e1 _ _ hb)⟩) (fun r i σ' H' _ ⟨hp, v, _, _, h, _⟩ => SqT.of h) ?_ ?_
    · rintro r i x σ' H' hx ⟨hp, v, rfl, e, hr', hs', hh'⟩
      obtain ⟨c, hc, rfl⟩ := vW_get hx
      have hil := lt_of_get hc
      have es : clsAt n B (i + 1) = K27.clsStep (clsAt n B i) c := foldl_take_succ hc
      obtain ⟨l1, l2⟩ := clsAt_len n B i
      refine s_when (b := !decide (K27.red (clsAt n B i).2 c = 0)) (et_c2 (sp_left hh' (ev_var rfl) (ev_var rfl)) (ev_k 0)) (fun hz H2 e2 => ?_) (fun hz H2 e2 => ?_)
      · have ez : clsAt n B (i + 1) = ((clsAt n B i).1 ++ [c], K27.extB (clsAt n B i).2 c) := by
          rw [es]
          exact if_neg fun z => by rw [decide_eq_true z] at hz; cases hz
        refine q_app (e2 _ _ hs') (ev_var rfl) (ev_var rfl) (by rw [vW_len]; omega) fun H3 e3 => ?_
        have ne : ∀ {a : Addr} {ws : List Nat}, H3 a = some (.tup (vW ws)) → upd H3 so (.lst (vW (clsAt n B i).1 ++ [vI c])) a = some (.tup (vW ws)) := fun {a ws} ha => by
          have : a ≠ so := ne_of ha (e3 _ _ (e2 _ _ hs')) (by intro z; cases z)
          rw [upd_ne this]
          exact ha
        refine s_asgW (ws := K27.extB (clsAt n B i).2 c) (sp_with (ne ((e2.trans e3) _ _ hh')) (by omega) (ev_var rfl) (ev_var rfl)) fun t H4 e4 h4 => ?_
        rw [ez]
        refine ⟨_, _, rfl, (Ex.mut ((e.trans e2).trans e3) hso).trans e4, e4 _ _ (ne ((e2.trans e3) _ _ hr')), ?_, h4⟩
        have h5 := e4 so _ upd_same
        rw [h5]
        unfold vW
        rw [List.map_append]
        rfl
      · have ez : clsAt n B (i + 1) = clsAt n B i := by
          rw [es]
          exact if_pos (by
            by_cases z : K27.red (clsAt n B i).2 c = 0
            · exact z
            · rw [decide_eq_false z] at hz
              cases hz)
        rw [ez]
        exact ⟨_, _, rfl, e.trans e2, e2 _ _ hr', e2 _ _ hs', e2 _ _ hh'⟩
    · rintro r σ' H' ⟨hp, v, rfl, e, hr', hs', hh'⟩
      have ec : (clsAt n B (K27.ctr n B).length).1 = K27.cls n B := by
        unfold clsAt
        rw [List.take_length]
        rfl
      rw [ec] at hs'
      refine s_retL (xs := vW (K27.classW n B)) (el_is (el_slN (xs := vW (K27.allW (K27.cls n B))) (el_callU (eu_tupleV (ev_var rfl) (SqL.of hs')) fun p H2 e2 h2 Q q E => ⟨p, K27.cls n B, rfl, h2, by omega, q⟩) (eo_some (i := 1) ev_c) eo_none) ?_) fun p H2 hp2 e2 h2 => k p H2 (fresh_back e hp2) (e.trans e2) h2
      rw [cut1]
      unfold vW K27.classW
      rw [List.map_tail]
end
end K27W
set_option maxHeartbeats 4000000
/-! K27P6: fills_of. -/
namespace K27W
open PySem PySem.Spec L2 Evl
theorem nd1 {α : Type} (x : α) : [x].Nodup := List.pairwise_singleton _ _
theorem toNat_toI (ws : List Nat) : (toI ws).map Int.toNat = ws := by
  unfold toI
  rw [List.map_map]
  have e : (Int.toNat ∘ Int.ofNat) = id := by funext n; rfl
  rw [e, List.map_id]
theorem toI_inj {a b : List Nat} (h : toI a = toI b) : a = b := by
  rw [← toNat_toI a, h, toNat_toI]
theorem keyI_inj {a b : List Int} (h : K27R.keyI a = K27R.keyI b) : a = b := by
  have : (K27R.keyI a).map kV = (K27R.keyI b).map kV := by rw [h]
  rw [K27R.keyI_kV, K27R.keyI_kV] at this
  have h2 := congrArg (List.map fun v : V => match v with | .int i => i | _ => 0) this
  rw [List.map_map, List.map_map] at h2
  have e : ((fun v : V => match v with | .int i => i | _ => 0) ∘ V.int) = id := by funext n; rfl
  rw [e, List.map_id, List.map_id] at h2
  exact h2
/-- the sorted list of the fill-ups -/
structure IsFills (n : Nat) (B : List Nat) (m : Nat) (L : List (List Nat)) : Prop where
  up : L.Pairwise (fun a b => toI a ≤ toI b)
  nodup : L.Nodup
  mem : ∀ C, C ∈ L ↔ K27.Lev n B m C
theorem up_unique {L M : List (List Nat)} (hl : L.Pairwise (fun a b => toI a ≤ toI b)) (hm : M.Pairwise (fun a b => toI a ≤ toI b)) (nl : L.Nodup) (nm : M.Nodup) (h : ∀ C, C ∈ L ↔ C ∈ M) : L = M := by
  have p : L.Perm M := (List.perm_ext_iff_of_nodup nl nm).mpr h
  refine p.eq_of_pairwise (fun a b _ _ h1 h2 => toI_inj (List.le_antisymm h1 h2)) hl hm
theorem IsFills.unique {n : Nat} {B : List Nat} {m : Nat} {L M : List (List Nat)} (h : IsFills n B m L) (k : IsFills n B m M) : L = M :=
  up_unique h.up k.up h.nodup k.nodup fun C => (h.mem C).trans (k.mem C).symm
/-! ### the dict of found bases -/
def addK (ks : List (List Nat)) (C : List Nat) : List (List Nat) := if C ∈ ks then ks else ks ++ [C]
theorem mem_addK {ks : List (List Nat)} {C X : List Nat} : X ∈ addK ks C ↔ X ∈ ks ∨ X = C := by
  unfold addK
  split
  · rename_i h
    exact ⟨.inl, fun z => z.elim id fun z => by rw [z]; exact h⟩
  · rw [List.mem_append, List.mem_singleton]
theorem addK_nodup {ks : List (List Nat)} {C : List Nat} (h : ks.Nodup) : (addK ks C).Nodup := by
  unfold addK
  split
  · exact h
  · rename_i hc
    exact List.nodup_append.mpr ⟨h, (nd1 _), fun a ha b hb => by
      rw [List.mem_singleton] at hb
      rw [hb]
      exact fun z => hc (z ▸ ha)⟩
abbrev keyN (C : List Nat) : List Key := K27R.keyI (toI C)
theorem keyN_inj {C D : List Nat} (h : keyN C = keyN D) : C = D := toI_inj (keyI_inj h)
theorem put_keys {kvs : List (List Key × V)} {ks : List (List Nat)} {C : List Nat} {v : V} (h : kvs.map (·.1) = ks.map keyN) : (putK kvs (keyN C) v).map (·.1) = (addK ks C).map keyN := by
  have key : (kvs.any fun kv => decide (kv.1 = keyN C)) = decide (C ∈ ks) := by
    have e : (kvs.any fun kv => decide (kv.1 = keyN C)) = (kvs.map (·.1)).any fun k => decide (k = keyN C) := by
      rw [List.any_map]
      rfl
    rw [e, h, List.any_map]
    by_cases hc : C ∈ ks
    · rw [decide_eq_true hc, List.any_eq_true]
      exact ⟨C, hc, decide_eq_true rfl⟩
    · rw [decide_eq_false hc, List.any_eq_false]
      intro x hx z
      exact hc (keyN_inj (of_decide_eq_true z) ▸ hx)
  unfold putK addK
  rw [key]
  by_cases hc : C ∈ ks
  · rw [if_pos (decide_eq_true hc), if_pos hc, List.map_map, ← h]
    refine List.map_congr_left fun kv _ => ?_
    show (if kv.1 = keyN C then (kv.1, v) else kv).1 = kv.1
    split <;> rfl
  · rw [if_neg (by rw [decide_eq_false hc]; exact Bool.false_ne_true), if_neg hc, List.map_append, List.map_append, h]
    rfl
structure DState (H : Hp) (d : Addr) (N : Nat) (S : List Nat → Prop) : Prop where
  ex : ∃ (kvs : List (List Key × V)) (ks : List (List Nat)), H d = some (.dT kvs) ∧ kvs.map (·.1) = ks.map keyN ∧ ks.Nodup ∧ (∀ C, C ∈ ks ↔ S C) ∧ kvs.length ≤ N
theorem DState.mono {H H' : Hp} {d : Addr} {N : Nat} {S : List Nat → Prop} (h : DState H d N S) (e : Ex H H') : DState H' d N S := by
  obtain ⟨kvs, ks, h1, h2⟩ := h.ex
  exact ⟨kvs, ks, e _ _ h1, h2⟩
theorem DState.as {H : Hp} {d : Addr} {N M : Nat} {S S' : List Nat → Prop} (h : DState H d N S) (hm : N ≤ M) (hs : ∀ C, S C ↔ S' C) : DState H d M S' := by
  obtain ⟨kvs, ks, h1, h2, h3, h4, h5⟩ := h.ex
  exact ⟨kvs, ks, h1, h2, h3, fun C => (h4 C).trans (hs C), Nat.le_trans h5 hm⟩
theorem DState.put {H : Hp} {d b : Addr} {N : Nat} {S : List Nat → Prop} {C : List Nat} (h : DState H d N S) (hb : H b = some (.tup (vW C))) (hN : N ≤ 1000000) :
    ∃ o, DPut H d (.ref b) (.bl true) (upd H d o) ∧ DState (upd H d o) d (N + 1) (fun X => S X ∨ X = C) := by
  obtain ⟨kvs, ks, h1, h2, h3, h4, h5⟩ := h.ex
  refine ⟨.dT (putK kvs (keyN C) (.bl true)), DPut.t h1 (by rw [K27R.keyI_kV, ← vW_toI]; exact hb) (sl_lt (by omega)), ⟨_, addK ks C, upd_same, put_keys h2, addK_nodup h3, fun X => ?_, ?_⟩⟩
  · rw [mem_addK, h4]
  · have := length_putK kvs (keyN C) (.bl true)
    omega
/-- a list of tuples of words -/
structure RowsAt (H : Hp) (p : Addr) (L : List (List Nat)) : Prop where
  ex : ∃ rows : List (Addr × List Nat), rows.map (·.2) = L ∧ H p = some (.lst (rows.map fun r => V.ref r.1)) ∧ ∀ r ∈ rows, H r.1 = some (.tup (vW r.2))
theorem RowsAt.mono {H H' : Hp} {p : Addr} {L : List (List Nat)} (h : RowsAt H p L) (e : Ex H H') : RowsAt H' p L := by
  obtain ⟨rows, h1, h2, h3⟩ := h.ex
  exact ⟨rows, h1, e _ _ h2, fun r hr => e _ _ (h3 r hr)⟩
/-- what sorted(later) gives -/
theorem sorted_rows {H : Hp} {ks : List (List Nat)} {ys : List K27R.Row} {p : Addr} (hp : H p = none) (perm : (ys.map (·.2)).Perm (ks.map toI)) (up : ys.Pairwise (fun y z => y.2 ≤ z.2)) (hy : ∀ y ∈ ys, H y.1 = some (.tup (y.2.map V.int))) (nd : ks.Nodup) :
    ∃ L : List (List Nat), RowsAt (upd H p (.lst (ys.map fun y => V.ref y.1))) p L ∧ L.Pairwise (fun a b => toI a ≤ toI b) ∧ L.Nodup ∧ (∀ C, C ∈ L ↔ C ∈ ks) ∧ L.length = ks.length := by
  have hk : ∀ y ∈ ys, toI (y.2.map Int.toNat) = y.2 := by
    intro y h
    have hm := perm.mem_iff.mp (List.mem_map_of_mem (f := fun y : K27R.Row => y.2) h)
    obtain ⟨C, _, e⟩ := List.mem_map.mp hm
    rw [← e, toNat_toI]
  have p2 : (ys.map fun y => y.2.map Int.toNat).Perm ks := by
    have := perm.map (List.map Int.toNat)
    rw [List.map_map, List.map_map] at this
    have e : (List.map Int.toNat ∘ toI) = id := by
      funext C
      exact toNat_toI C
    rw [e, List.map_id] at this
    exact this
  refine ⟨ys.map fun y => y.2.map Int.toNat, ⟨ys.map fun y => (y.1, y.2.map Int.toNat), ?_, ?_, ?_⟩, ?_, p2.nodup_iff.mpr nd, fun C => p2.mem_iff, p2.length_eq⟩
  · rw [List.map_map]
    rfl
  · rw [upd_same, List.map_map]
    rfl
  · intro r hr
    obtain ⟨y, hy', rfl⟩ := List.mem_map.mp hr
    have h1 := hy y hy'
    show upd H p _ y.1 = _
    rw [upd_ne (ne_of_none h1 hp), h1, vW_toI, hk y hy']
  · rw [List.pairwise_map]
    refine List.Pairwise.imp_of_mem (fun {a b} ha hb h => ?_) up
    rw [hk a ha, hk b hb]
    exact h
section
variable {P : Program} {w : World} {K : PySem.W.Frag} {mg : Str → Option Value} {base : Heap} {CT CR fTI fRI gP pP fB fH fE aH : Addr}
def spFillsOf : Sp := fun vs H Q _ => ∃ (n : Nat) (b : Addr) (B : List Nat) (m : Nat), vs = [vI n, .ref b] ∧ H b = some (.tup (vW B)) ∧ K27.Base n B ∧ n ≤ 12 ∧ n = 2 * (B.length + m) ∧ m ≤ 2 ∧
  ∀ p H2 L, H p = none → Ex H H2 → RowsAt H2 p L → IsFills n B m L → L.length ≤ 256 → Q (.ref p) H2
theorem scFillsOf : FnScope ["places", "basis", "found", "step", "later", "one", "word"] ["places", "basis"] (defScope sFillsOf) := ⟨rfl, rfl, rfl, by decide +kernel, rfl, by decide +kernel, by decide +kernel⟩
theorem ok_fills_of (T : Txt K mg CT CR fTI fRI gP pP fB fH fE aH) : Ok P w K mg base 6 "fills_of" ["places", "basis"] spFillsOf := by
  obtain ⟨fC, fdC, GC, mC, kC, bC⟩ := ok_class (P := P) (w := w) (base := base) T
  obtain ⟨fW, fdW, GW, mW, kW, bW⟩ := ok_with_word (P := P) (w := w) (base := base) T
  refine ok_of T.dFillsOf scFillsOf (fun vs H Q E h => ?_) (fun f cdv A outer s H vs Q E hr h => ?_)
  · obtain ⟨n, b, B, m, rfl, _⟩ := h
    rfl
  · obtain ⟨n, b, B, m, rfl, hb, hB, hn, hm, hm2, k⟩ := h
    refine ⟨_, pss_cons (ps_set (i := 2) scFillsOf.nd rfl (Or.inl rfl) (pe_lst (pa_cons (pv 1) pa_nil)))
      (pss_cons (ps_for PassesOwn.never rfl (pi_range1 (by rfl) T.z_range (pa_cons (pe_op op_subNN (pe_op op_fdivNN (pv 0) pe_int) (pe_callB call_len_seq (by rfl) T.z_len PySem.boot_len (pa_cons (pv 1) pa_nil))) pa_nil)) (pg_name (i := 3) scFillsOf.nd rfl (Or.inl rfl))
        (pss_cons (ps_set (i := 4) scFillsOf.nd rfl (Or.inl rfl) pe_dnewT)
        (pss_cons (ps_for PassesOwn.never rfl (pi_list (pv 2)) (pg_name (i := 5) scFillsOf.nd rfl (Or.inl rfl))
          (pss_one (ps_for PassesOwn.never rfl (pi_list (pe_call GC hr rfl mC kC bC .nil pass0 (pa_cons (pv 0) (pa_cons (pv 5) pa_nil)))) (pg_name (i := 6) scFillsOf.nd rfl (Or.inl rfl))
            (pss_one (ps_dput (Nat.lt_of_le_of_lt (Nat.add_le_add_left (by decide) _) hr.units) (pv 4) (pe_call GW (hr.mono (by decide)) rfl mW kW bW .nil pass0 (pa_cons (pv 5) (pa_cons (pv 6) pa_nil))) pe_bl rfl)))))
        (pss_one (ps_set (i := 2) scFillsOf.nd rfl (Or.inl rfl) (pe_callB (K27R.cr_sortDT rfl hr.units) (by rfl) T.z_sorted PyProof.Rows.boot_sorted (pa_cons (pv 4) pa_nil)))))))
      (pss_one (ps_ret (pv 2)))), ?_⟩
    refine q_asgL (xs := [.ref b]) (el_lst (ea_cons (ev_var rfl) ea_nil) (by show 1 ≤ 100000; decide)) fun p0 H1 hp0 e1 h1 => ?_
    refine q_forN (n := m) (ea_cons (ev_is (ev_n2 (ev_n2 (ev_var rfl) (ev_k 2) ⟨by decide, by decide⟩) (ev_lenV (ev_var rfl) (.inr (SqT.of (e1 _ _ hb)))) ?_) ?_) ea_nil) (by omega)
      (fun i σ' H' => ∃ fp v3 v4 v5 v6, σ' = [some (vI n), some (.ref b), some (.ref fp), v3, v4, v5, v6] ∧ Ex H H' ∧ H fp = none ∧ ∃ L, RowsAt H' fp L ∧ IsFills n B i L ∧ L.length ≤ 16 ^ i) ?_ ?_ ?_
    · rw [vW_len]
      omega
    · rw [vW_len]
      have : n / 2 - B.length = m := by omega
      rw [this]
    · intro H2 e2
      refine ⟨p0, none, none, none, none, rfl, e1.trans e2, hp0, [B], ⟨[(b, B)], rfl, e2 _ _ h1, fun r hr => ?_⟩, ⟨List.pairwise_singleton _ _, (nd1 _), fun C => ?_⟩, Nat.le_refl _⟩
      · rw [List.mem_singleton] at hr
        rw [hr]
        exact (e1.trans e2) _ _ hb
      · rw [List.mem_singleton]
        exact (K27.Lev.zero hB).symm
    · rintro i σ' H' hi ⟨fp, v3, v4, v5, v6, rfl, e, hfp, L, hL, hF, hLl⟩
      have hLl2 : L.length ≤ 16 := Nat.le_trans hLl (Nat.pow_le_pow_right (by decide) (by omega : i ≤ 1))
      obtain ⟨rows, hrL, hfp', hrows⟩ := hL.ex
      have hrl : rows.length = L.length := by rw [← hrL, List.length_map]
      intro d hd
      have e' : Ex H' (upd H' d (.dT [])) := Ex.new hd
      refine s_forL (a := fp) (xs := rows.map fun r => V.ref r.1) (D := _) (ev_var rfl) (SqL.of (e' _ _ hfp')) (fun j σ' H2 => ∃ v5 v6, σ' = [some (vI n), some (.ref b), some (.ref fp), some (vI i), some (.ref d), v5, v6] ∧ Ex H' H2 ∧ DState H2 d (16 * j) (fun C => ∃ D ∈ L.take j, K27.Lev n D 1 C))
        (fun H2 e2 => ⟨v5, v6, rfl, e'.trans e2, ⟨[], [], e2 _ _ upd_same, rfl, List.nodup_nil, fun C => ⟨fun z => (by cases z), fun ⟨D, z, _⟩ => (by cases z)⟩, Nat.le_refl _⟩⟩) (fun j σ' H2 _ ⟨_, _, _, e2, _⟩ => SqL.of (e2 _ _ hfp')) ?_ ?_
      · rintro j x σ' H2 hx ⟨v5, v6, rfl, e2, hD⟩
        obtain ⟨r, hr1, hr2, rfl⟩ := vals_get hx
        have hjl : L[j]? = some r.2 := by
          rw [← hrL, List.getElem?_map, hr1]
          rfl
        have hj16 : j < 16 := Nat.lt_of_lt_of_le (lt_of_get hjl) hLl2
        have hlev : K27.Lev n B i r.2 := (hF.mem r.2).mp (mem_of_get hjl)
        have hBr : K27.Base n r.2 := hB.ext hlev
        have hcl := (K27.cls_facts hBr).2.2
        have hlen := hlev.len
        have hcw : (K27.classW n r.2).length ≤ 15 := by
          rw [K27.classW_len]
          have : 2 ^ (K27.cls n r.2).length ≤ 2 ^ 4 := Nat.pow_le_pow_right (by decide) (by omega)
          omega
        have hr2' := e2 _ _ (hrows r hr2)
        refine s_forNL (xs := vW (K27.classW n r.2)) (el_callN (ea_cons (ev_var rfl) (ea_cons (ev_var rfl) ea_nil)) fun H3 e3 Q q E => ⟨n, r.1, r.2, rfl, e3 _ _ hr2', hBr, hn, q⟩)
          (fun cp k' σ' H3 => ∃ v6, σ' = [some (vI n), some (.ref b), some (.ref fp), some (vI i), some (.ref d), some (.ref r.1), v6] ∧ Ex H' H3 ∧ H3 cp = some (.lst (vW (K27.classW n r.2))) ∧ DState H3 d (16 * j + k') (fun C => (∃ D ∈ L.take j, K27.Lev n D 1 C) ∨ ∃ w ∈ (K27.classW n r.2).take k', K27.extB r.2 w = C))
          (fun cp H3 hcp e3 h3 => ⟨v6, rfl, e2.trans e3, h3, (hD.mono e3).as (Nat.le_refl _) fun C => ⟨.inl, fun z => z.elim id fun ⟨w, z, _⟩ => by cases z⟩⟩) (fun cp k' σ' H3 _ ⟨_, _, _, h3, _⟩ => SqL.of h3) ?_ ?_
        · rintro cp k' x σ' H3 hx3 ⟨v6, rfl, e3, h3, hD3⟩
          obtain ⟨c, hc, rfl⟩ := vW_get hx3
          have hk15 : k' < 15 := Nat.lt_of_lt_of_le (lt_of_get hc) hcw
          refine ⟨_, rfl, ?_⟩
          refine (sp_with (e3 _ _ (hrows r hr2)) (by omega) (ev_var rfl) (ev_var rfl)) H3 (Ex.refl _) _ fun t H4 e4 h4 => ?_
          obtain ⟨o, hput, hst⟩ := (hD3.mono e4).put h4 (by omega)
          refine ⟨d, _, rfl, hput, _, rfl, Ex.mut (e3.trans e4) hd, ?_, hst.as (by omega) fun X => ?_⟩
          · have h5 := e4 _ _ h3
            obtain ⟨kvs, ks, hdd, _⟩ := (hD3.mono e4).ex
            rw [upd_ne (ne_of h5 hdd (by intro z; cases z))]
            exact h5
          · rw [take_succ_get hc]
            constructor
            · rintro ((z | ⟨w, hw, z⟩) | z)
              · exact .inl z
              · exact .inr ⟨w, List.mem_append_left _ hw, z⟩
              · exact .inr ⟨c, List.mem_append_right _ (List.mem_singleton.mpr rfl), z.symm⟩
            · rintro (z | ⟨w, hw, z⟩)
              · exact .inl (.inl z)
              · rcases List.mem_append.mp hw with hw | hw
                · exact .inl (.inr ⟨w, hw, z⟩)
                · rw [List.mem_singleton] at hw
                  subst hw
                  exact .inr z.symm
        · rintro cp σ' H3 ⟨v6, rfl, e3, h3, hD3⟩
          rw [vW_len] at hD3
          refine ⟨_, _, rfl, e3, hD3.as (by omega) fun X => ?_⟩
          rw [take_succ_get hjl, List.take_length]
          constructor
          · rintro (⟨D, hD, z⟩ | ⟨w, hw, z⟩)
            · exact ⟨D, List.mem_append_left _ hD, z⟩
            · exact ⟨r.2, List.mem_append_right _ (List.mem_singleton.mpr rfl), (K27.lev_one hBr).mpr ⟨w, hw, z⟩⟩
          · rintro ⟨D, hD, z⟩
            rcases List.mem_append.mp hD with hD | hD
            · exact .inl ⟨D, hD, z⟩
            · rw [List.mem_singleton] at hD
              subst hD
              exact .inr ((K27.lev_one hBr).mp z)
      · rintro σ' H2 ⟨v5, v6, rfl, e2, hD⟩
        obtain ⟨kvs, ks, hdd, hk, hnd, hmem, hlen⟩ := hD.ex
        rw [List.length_map, hrl] at hmem hlen
        rw [List.take_length] at hmem
        have hmem' : ∀ C, C ∈ ks ↔ K27.Lev n B (i + 1) C := fun C => by
          rw [hmem, K27.lev_succ hB]
          constructor
          · rintro ⟨D, hD, z⟩
            exact ⟨D, (hF.mem D).mp hD, z⟩
          · rintro ⟨D, hD, z⟩
            exact ⟨D, (hF.mem D).mpr hD, z⟩
        have hkl : ks.length ≤ 16 ^ (i + 1) := by
          have := congrArg List.length hk
          rw [List.length_map, List.length_map] at this
          rw [Nat.pow_succ]
          omega
        refine ⟨_, rfl, d, ks.map toI, kvs, rfl, Or.inl hdd, by rw [hk, List.map_map]; rfl, fun q hq => ?_, fun p ys hp perm up hy => ?_⟩
        · obtain ⟨C, hC, rfl⟩ := List.mem_map.mp hq
          have := ((hmem' C).mp hC).len
          intro z
          have z2 := congrArg List.length z
          unfold toI at z2
          rw [List.length_map] at z2
          simp only [List.length_nil] at z2
          omega
        · obtain ⟨L', hR, hup, hn', hm', hl'⟩ := sorted_rows hp perm up hy hnd
          exact ⟨p, _, _, _, _, rfl, (e.trans e2).trans (Ex.new hp), fresh_back (e.trans e2) hp, L', hR, ⟨hup, hn', fun C => (hm' C).trans (hmem' C)⟩, by rw [hl']; exact hkl⟩
    · rintro σ' H' ⟨fp, v3, v4, v5, v6, rfl, e, hfp, L, hL, hF, hLl⟩
      refine s_ret (ev_var rfl) fun H2 e2 => ?_
      exact k fp H2 L hfp (e.trans e2) (hL.mono e2) hF (Nat.le_trans hLl (Nat.pow_le_pow_right (by decide) hm2))
end
end K27W
set_option maxHeartbeats 4000000
/-! K27P7: fill_count, fills, want_alike, lies_in. -/
namespace K27W
open PySem PySem.Spec L2 Evl
/-- what a still room here is like -/
structure Good (n : Nat) (B : List Nat) : Prop where
  plain : K27.Plain B
  still : K27.Still B
  lt : ∀ b ∈ B, b < 2 ^ n
  n1 : 1 ≤ n
  n12 : n ≤ 12
  room : n % 2 = 0 → n / 2 ≤ (K27.extB B (K27.ones n)).length + 2
theorem Good.base {n : Nat} {B : List Nat} (h : Good n B) (ev : n % 2 = 0) : K27.Base n (K27.extB B (K27.ones n)) := by
  have hn := h.n12
  have hs := K27.extB_same h.plain.1 (K27.ones n)
  refine ⟨K27.extB_plain h.plain _, (K27.Still.cons h.still (fun b hb => ?_) (K27.dot_ones_ones ev (by omega))).same hs, K27.extB_lt h.plain.1 h.lt (K27.ones_lt n), (hs _).mpr (K27.gen_mem List.mem_cons_self), ev, by omega⟩
  rw [K27.dot_comm, K27.dot_ones (h.lt b hb), ← K27.dot_self]
  exact h.still b hb b hb
theorem Good.half {n : Nat} {B : List Nat} (h : Good n B) (ev : n % 2 = 0) : n = 2 * ((K27.extB B (K27.ones n)).length + (n / 2 - (K27.extB B (K27.ones n)).length)) := by
  have := Base.len (h.base ev)
  omega
def fcnt (n : Nat) (B : List Nat) : Nat := if n % 2 = 1 then 0 else K27.fillN (n / 2 - (K27.extB B (K27.ones n)).length)
def Fl (n : Nat) (B : List Nat) (L : List (List Nat)) : Prop := (n % 2 = 1 ∧ L = []) ∨ (n % 2 = 0 ∧ IsFills n (K27.extB B (K27.ones n)) (n / 2 - (K27.extB B (K27.ones n)).length) L)
theorem Fl.len {n : Nat} {B : List Nat} {L : List (List Nat)} (h : Good n B) (f : Fl n B L) : L.length = fcnt n B := by
  unfold fcnt
  rcases f with ⟨o, rfl⟩ | ⟨o, f⟩
  · rw [if_pos o]
    rfl
  · rw [if_neg (by omega)]
    exact K27.count_fills _ (h.base o) (h.half o) f.nodup f.mem
theorem Fl.unique {n : Nat} {B : List Nat} {L M : List (List Nat)} (f : Fl n B L) (g : Fl n B M) : L = M := by
  rcases f with ⟨o, rfl⟩ | ⟨o, f⟩
  · rcases g with ⟨_, rfl⟩ | ⟨o', _⟩
    · rfl
    · omega
  · rcases g with ⟨o', _⟩ | ⟨_, g⟩
    · omega
    · exact f.unique g
/-- a list of Rooms -/
structure RoomsAt (C : Addr) (H : Hp) (p : Addr) (n : Nat) (L : List (List Nat)) : Prop where
  ex : ∃ rs : List (Addr × List Nat), rs.map (·.2) = L ∧ H p = some (.lst (rs.map fun r => V.ref r.1)) ∧ ∀ r ∈ rs, RoomAt C H r.1 n r.2
theorem RoomsAt.mono {C : Addr} {H H' : Hp} {p : Addr} {n : Nat} {L : List (List Nat)} (h : RoomsAt C H p n L) (e : Ex H H') : RoomsAt C H' p n L := by
  obtain ⟨rows, h1, h2, h3⟩ := h.ex
  exact ⟨rows, h1, e _ _ h2, fun r hr => (h3 r hr).mono e⟩
theorem RoomAt.upd_lst {C : Addr} {H : Hp} {p d : Addr} {n : Nat} {B : List Nat} {xs : List V} {o : HO} (h : RoomAt C H p n B) (hd : H d = some (.lst xs)) : RoomAt C (upd H d o) p n B := by
  obtain ⟨dx, b, h1, h2⟩ := h.ex
  exact ⟨dx, b, by rw [upd_ne (ne_of h1 hd (by intro z; cases z))]; exact h1, by rw [upd_ne (ne_of h2 hd (by intro z; cases z))]; exact h2⟩
section
variable {K : PySem.W.Frag} {σ : L2.St} {H : Hp} {te tl : TE} {CR : Addr}
theorem ev_lenW {ws : List Nat} (h : EvW te σ H ws) : Ev (tCB (rLenQ K) (tCons te tNil)) σ H (vI ws.length) := fun H1 e Q q =>
  h H1 e _ fun p H2 e2 h2 => ⟨p, vW ws, rfl, .inr (SqT.of h2), by rw [vW_len]; exact q H2 e2⟩
theorem q_pair {ta : TA} {x y : V} {i j : Nat} {D : Ends} {tz : TS} (h : EvA ta σ H [x, y]) (k : ∀ H1, Ex H H1 → tz D ((σ.set i (some x)).set j (some y)) H1) : tSeq (tAsg (tTup ta) (gPair K i j)) tz D σ H := by
  show tTup ta σ H (fun x H1 => gPair K i j x σ H1 (tz D))
  exact eu_tup h (by show 2 ≤ 100000; decide) H (Ex.refl H) _ fun t H1 _ e1 ht1 => ⟨t, _, rfl, SqT.of ht1, rfl, _, _, rfl, _, _, rfl, rfl, k H1 e1⟩
theorem el_rooms {j n : Nat} {vs : List Nat} {Ff : List (List Nat) → Prop} (h : ∀ H1, Ex H H1 → ∀ Q : VK, (∀ p H2 L, H1 p = none → Ex H1 H2 → RowsAt H2 p L → Ff L → L.length ≤ 256 → Q (.ref p) H2) → tl σ H1 Q)
    (hw : ∀ x, wipe ((wipe σ vs).set j (some x)) vs = wipe σ vs) (he : ∀ a C H1, Ex H H1 → H1 a = some (.tup (vW C)) → EvNew te ((wipe σ vs).set j (some (.ref a))) H1 (fun p H2 => RoomAt CR H2 p n C)) :
    ∀ H1, Ex H H1 → ∀ Q : VK, (∀ p H2 L, H1 p = none → Ex H1 H2 → RoomsAt CR H2 p n L → Ff L → Q (.ref p) H2) → tLc (iList K tl) (gName j) tYes te vs σ H1 Q := by
  intro H0 e Q q
  refine h H0 e _ fun a H1 L ha e1 hL hF hLl => ?_
  obtain ⟨rows, hrL, haR, hrows⟩ := hL.ex
  refine ⟨a, rfl, ⟨_, sq_of haR⟩, fun Dl hD => ?_⟩
  refine lc_list (xs := rows.map fun r => V.ref r.1) (fun i H' => Ex H1 H' ∧ ∃ rs : List (Addr × List Nat), rs.map (·.2) = L.take i ∧ H' Dl = some (.lst (rs.map fun r => V.ref r.1)) ∧ ∀ r ∈ rs, RoomAt CR H' r.1 n r.2)
    ⟨Ex.new hD, [], rfl, upd_same, fun r hr => by cases hr⟩ (fun i H' _ p => sq_of (p.1 a _ haR)) (fun i x H' hi pw => ?_) (fun H' p => ?_)
  · obtain ⟨r, hr1, hr2, rfl⟩ := vals_get hi
    obtain ⟨e', rs, h1, h2, h3⟩ := pw
    have hil : L[i]? = some r.2 := by
      rw [← hrL, List.getElem?_map, hr1]
      rfl
    refine ⟨hw _, ?_⟩
    show te ((wipe σ vs).set j (some (.ref r.1))) H' fun y H4 => ∃ acc, H4 Dl = some (.lst acc) ∧ acc.length < sizeLine ∧ (Ex H1 (upd H4 Dl (.lst (acc ++ [y]))) ∧ ∃ rs : List (Addr × List Nat), rs.map (·.2) = L.take (i + 1) ∧ (upd H4 Dl (.lst (acc ++ [y]))) Dl = some (.lst (rs.map fun r => V.ref r.1)) ∧ ∀ r ∈ rs, RoomAt CR (upd H4 Dl (.lst (acc ++ [y]))) r.1 n r.2)
    have hrr := hrows r hr2
    refine he r.1 r.2 H' ((e.trans e1).trans e') (e' _ _ hrr) H' (Ex.refl _) _ fun p H4 hp e4 h4 => ?_
    have hl : rs.length ≤ L.length := by
      have := congrArg List.length h1
      rw [List.length_map, List.length_take] at this
      omega
    have h5 := e4 _ _ h2
    refine ⟨_, h5, sl_lt (by rw [List.length_map]; omega), Ex.mut (e'.trans e4) hD, rs ++ [(p, r.2)], ?_, ?_, fun x hx => ?_⟩
    · rw [List.map_append, h1, take_succ_get hil]
      rfl
    · rw [upd_same, List.map_append]
      rfl
    · rcases List.mem_append.mp hx with hx | hx
      · exact ((h3 x hx).mono e4).upd_lst h5
      · rw [List.mem_singleton] at hx
        rw [hx]
        exact h4.upd_lst h5
  · obtain ⟨e', rs, h1, h2, h3⟩ := p
    have hrl : rows.length = L.length := by rw [← hrL, List.length_map]
    rw [List.length_map, hrl, List.take_length] at h1
    exact q Dl H' L (fresh_back e1 hD) (e1.trans e') ⟨rs, h1, h2, h3⟩ hF
end
section
variable {P : Program} {w : World} {K : PySem.W.Frag} {mg : Str → Option Value} {base : Heap} {CT CR fTI fRI gP pP fB fH fE aH : Addr}
def spFillCount (CR : Addr) : Sp := fun vs H Q _ => ∃ (p : Addr) (n : Nat) (B : List Nat), vs = [.ref p] ∧ RoomAt CR H p n B ∧ Good n B ∧ RetV (vI (fcnt n B)) H Q
theorem scFillCount : FnScope ["room", "places"] ["room"] (defScope sFillCount) := ⟨rfl, rfl, rfl, by decide +kernel, rfl, by decide +kernel, by decide +kernel⟩
theorem and_one (n : Nat) : decide (n &&& 1 = 1) = decide (n % 2 = 1) := by
  rw [Nat.and_one_is_mod]
theorem Good.len {n : Nat} {B : List Nat} (h : Good n B) : B.length ≤ 24 := by
  have h1 := K27.ctr_len h.plain.1 h.lt
  have h2 := h.n12
  omega
theorem Good.still_at {H : Hp} {p : Addr} {n : Nat} {B : List Nat} (h : Good n B) (a : RoomAt CR H p n B) : StillAt CR H p n B := ⟨a, plain_lt24 h.lt (by have := h.n12; omega), h.still⟩
theorem ok_fill_count (T : Txt K mg CT CR fTI fRI gP pP fB fH fE aH) : Ok P w K mg base 6 "fill_count" ["room"] (spFillCount CR) := by
  obtain ⟨f1, fd1, G1, m1, k1, b1⟩ := ok_want_still (P := P) (w := w) (base := base) T
  obtain ⟨f2, fd2, G2, m2, k2, b2⟩ := ok_fill_number (P := P) (w := w) (base := base) T
  obtain ⟨f3, fd3, G3, m3, k3, b3⟩ := ok_with_all (P := P) (w := w) (base := base) T
  refine ok_of T.dFillCount scFillCount (fun vs H Q E h => ?_) (fun f cdv A outer s H vs Q E hr h => ?_)
  · obtain ⟨p, n, B, rfl, _⟩ := h
    rfl
  · obtain ⟨p, n, B, rfl, hp, hg, k⟩ := h
    obtain ⟨dx, b, h1, h2⟩ := hp.ex
    refine ⟨_, pss_cons (ps_expr (pe_call G1 hr rfl m1 k1 b1 .nil pass0 (pa_cons (pv 0) pa_nil)))
      (pss_cons (ps_set (i := 1) scFillCount.nd rfl (Or.inl rfl) (pe_fld (pv 0) rfl))
      (pss_cons (ps_if (pt_cmpR op_eqN (pe_op op_andN (pv 1) pe_int) pe_int (nomark _)) (pss_one (ps_ret pe_int)) pss_nil)
      (pss_one (ps_ret (pe_call G2 (hr.mono (by decide)) rfl m2 k2 b2 .nil pass0 (pa_cons (pv 1) (pa_cons (pe_callB call_len_seq (by rfl) T.z_len PySem.boot_len (pa_cons (pe_call G3 (hr.mono (by decide)) rfl m3 k3 b3 .nil pass0 (pa_cons (pv 1) (pa_cons (pe_fld (pv 0) rfl) pa_nil))) pa_nil)) pa_nil))))))), ?_⟩
    refine q_drop (v := .non) (ev_callV (ea_cons (ev_var rfl) ea_nil) fun H2 e2 Q q E => ⟨p, n, B, rfl, (hg.still_at hp).mono e2, q⟩) fun H1 e1 => ?_
    refine q_asg (v := vI n) (ev_fld (ev_var rfl) (e1 _ _ h1) T.iR.cl T.nRp (rf_p n b)) fun H2 e2 => ?_
    have e12 := e1.trans e2
    refine q_when (b := decide (n % 2 = 1)) (et_is (et_c2 (ev_n2 (ev_var rfl) (ev_k 1) True.intro) (ev_k 1)) (and_one n)) (fun hz H3 e3 => ?_) (fun hz H3 e3 => ?_)
    · have ez : fcnt n B = 0 := if_pos (of_decide_eq_true hz)
      rw [ez] at k
      exact s_ret (v := vI 0) (ev_k 0) fun H4 e4 => k H4 ((e12.trans e3).trans e4)
    · have hodd : ¬ n % 2 = 1 := of_decide_eq_false hz
      have ez : fcnt n B = K27.fillN (n / 2 - (K27.extB B (K27.ones n)).length) := if_neg hodd
      rw [ez] at k
      have e13 := e12.trans e3
      have hb := Base.len (hg.base (by omega))
      have hr2 := hg.room (by omega)
      have hn12 := hg.n12
      have hl := hg.len
      exact s_ret (ev_callV (ea_cons (ev_var rfl) (ea_cons (ev_lenW (ew_call (ea_cons (ev_var rfl) (ea_cons (ev_fld (ev_var rfl) (e13 _ _ h1) T.iR.cl T.nRb (rf_b n b)) ea_nil)) fun H4 e4 Q q E => ⟨n, b, B, rfl, e4 _ _ (e13 _ _ h2), by omega, by omega, q⟩)) ea_nil)) fun H4 e4 Q q E => ⟨n, _, rfl, by omega, by omega, q⟩) fun H4 e4 => k H4 (e13.trans e4)
/-! ### fills -/
def spFills (CR : Addr) : Sp := fun vs H Q _ => ∃ (p : Addr) (n : Nat) (B : List Nat), vs = [.ref p] ∧ RoomAt CR H p n B ∧ Good n B ∧ ∀ q H2 L, H q = none → Ex H H2 → RoomsAt CR H2 q n L → Fl n B L → Q (.ref q) H2
theorem scFills : FnScope ["room", "many", "places", "basis"] ["room"] (defScope sFills) := ⟨rfl, rfl, rfl, by decide +kernel, rfl, by decide +kernel, by decide +kernel⟩
theorem fillN_pos : ∀ i, 0 < K27.fillN i
  | 0 => by decide
  | i + 1 => Nat.mul_pos (fillN_pos i) (Nat.succ_pos _)
theorem fillN_2 : ∀ i, i ≤ 2 → K27.fillN i ≤ 135 := by decide
theorem ok_fillsF (T : Txt K mg CT CR fTI fRI gP pP fB fH fE aH) : OkF P w K mg base 9 "fills" "room" (spFills CR) := by
  obtain ⟨f1, fd1, G1, m1, k1, b1⟩ := ok_fill_count (P := P) (w := w) (base := base) T
  obtain ⟨f2, fd2, G2, m2, k2, b2⟩ := ok_want_most (P := P) (w := w) (base := base) T
  obtain ⟨f3, fd3, G3, m3, k3, b3⟩ := ok_with_all (P := P) (w := w) (base := base) T
  obtain ⟨f4, fd4, G4, m4, k4, b4⟩ := ok_fills_of (P := P) (w := w) (base := base) T
  obtain ⟨f5, fd5, G5, m5, k5, b5⟩ := ok_room_by (P := P) (w := w) (base := base) T
  obtain ⟨tk, mMF⟩ := T.cMF
  refine okf_of T.dFills kbn_fills scFills (fun vs H Q E h => ?_) (fun f cdv A outer s H vs Q E hr h => ?_)
  · obtain ⟨p, n, B, rfl, _⟩ := h
    rfl
  · obtain ⟨p, n, B, rfl, hp, hg, k⟩ := h
    obtain ⟨dx, b, h1, h2⟩ := hp.ex
    refine ⟨_, pss_cons (ps_asg (pe_tup (pa_cons (pe_call G1 (hr.mono (by decide)) rfl m1 k1 b1 .nil pass0 (pa_cons (pv 0) pa_nil)) (pa_cons (pe_fld (pv 0) rfl) pa_nil))) (pg_tup rfl (pgs_cons (pg_name (i := 1) scFills.nd rfl (Or.inl rfl)) (pgs_cons (pg_name (i := 2) scFills.nd rfl (Or.inr rfl)) pgs_nil))))
      (pss_cons (ps_expr (pe_call G2 (hr.mono (by decide)) rfl m2 k2 b2 .nil pass0 (pa_cons pe_str (pa_cons (pe_glob (v := vI 135) (by rfl) mMF ⟨_, rfl⟩) (pa_cons (pv 1) pa_nil)))))
      (pss_cons (ps_if (pt_cmpR op_eqN (pv 1) pe_int (nomark _)) (pss_one (ps_ret (pe_lst pa_nil))) pss_nil)
      (pss_one (ps_ret (pe_lc (own := [("basis", 3)]) (g := gName 3) (tt := tYes) rfl scFills.nd (pi_list (pe_call G4 (hr.mono (by decide)) rfl m4 k4 b4 .nil pass0 (pa_cons (pv 2) (pa_cons (pe_call G3 (hr.mono (by decide)) rfl m3 k3 b3 .nil pass0 (pa_cons (pv 2) (pa_cons (pe_fld (pv 0) rfl) pa_nil))) pa_nil)))) (blkOk_by (own := [("basis", 3)]) (N := ["room", "many", "places", "basis"]) (sc := defScope sFills) (by decide +kernel))
            (fun _ _ _ _ _ => pg_name (i := 3) scFills.nd rfl (Or.inl rfl)) (fun _ _ _ _ _ => pts_nil)
            (fun _ _ _ _ _ => pe_call G5 hr rfl m5 k5 b5 .nil pass0 (pa_cons (pv 2) (pa_cons (pv 3) pa_nil)))))))), ?_⟩
    refine q_pair (x := vI (fcnt n B)) (y := vI n) (ea_cons (ev_callV (ea_cons (ev_var rfl) ea_nil) fun H2 e2 Q q E => ⟨p, n, B, rfl, hp.mono e2, hg, q⟩) (ea_cons (ev_fld (ev_var rfl) h1 T.iR.cl T.nRp (rf_p n b)) ea_nil)) fun H1 e1 => ?_
    have hn12 := hg.n12
    have hl := hg.len
    refine q_drop (v := .non) (ev_callV (ea_cons ev_c (ea_cons (ev_k 135) (ea_cons (ev_var rfl) ea_nil))) fun H2 e2 Q q E => ⟨_, 135, fcnt n B, rfl, ?_, q⟩) fun H2 e2 => ?_
    · unfold fcnt
      split
      · omega
      · have hb := hg.room (by omega)
        exact fillN_2 _ (by omega)
    have e12 := e1.trans e2
    refine q_when (b := decide (fcnt n B = 0)) (et_c2 (ev_var rfl) (ev_k 0)) (fun hz H3 e3 => ?_) (fun hz H3 e3 => ?_)
    · have hz' : fcnt n B = 0 := of_decide_eq_true hz
      have hodd : n % 2 = 1 := by
        unfold fcnt at hz'
        split at hz'
        · assumption
        · have := fillN_pos (n / 2 - (K27.extB B (K27.ones n)).length)
          omega
      refine s_retL (xs := []) (el_lst ea_nil (by show 0 ≤ 100000; decide)) fun q H4 hq e4 h4 => ?_
      exact k q H4 [] (fresh_back (e12.trans e3) hq) ((e12.trans e3).trans e4) ⟨[], rfl, h4, fun r hr => by cases hr⟩ (.inl ⟨hodd, rfl⟩)
    · have hz' : ¬ fcnt n B = 0 := of_decide_eq_false hz
      have hev : n % 2 = 0 := by
        unfold fcnt at hz'
        split at hz'
        · exact absurd rfl hz'
        · omega
      have e13 := e12.trans e3
      have hb := hg.base hev
      have hroom := hg.room hev
      have hh := hg.half hev
      have hf : ∀ H4, Ex H3 H4 → ∀ Q : VK, (∀ q H5 L, H4 q = none → Ex H4 H5 → RoomsAt CR H5 q n L → IsFills n (K27.extB B (K27.ones n)) (n / 2 - (K27.extB B (K27.ones n)).length) L → Q (.ref q) H5) →
          tLc (iList K (tCall spFillsOf [] E0 (tCons (tVar 2) (tCons (tCall spWithAll [] E0 (tCons (tVar 2) (tCons (tFld K (tVar 0) "own_basis") tNil))) tNil)))) (gName 3) tYes (tCall (spRoomBy CR) [] E0 (tCons (tVar 2) (tCons (tVar 3) tNil))) [3] [some (.ref p), some (vI (fcnt n B)), some (vI n), none] H4 Q := by
        refine el_rooms (σ := [some (.ref p), some (vI (fcnt n B)), some (vI n), none]) (H := H3) (fun H4 e4 Q q => ?_) (fun _ => rfl) (fun a C H4 e4 h4 H5 e5 Q q => ?_)
        · refine ⟨_, rfl, ?_⟩
          refine (ew_call (σ := [some (.ref p), some (vI (fcnt n B)), some (vI n), none]) (H := H3) (ws := K27.extB B (K27.ones n)) (sp := spWithAll) (dvs := []) (E := E0) (ea_cons (ev_var rfl) (ea_cons (ev_fld (ev_var rfl) (e13 _ _ h1) T.iR.cl T.nRb (rf_b n b)) ea_nil)) fun H5 e5 Q q E => ⟨n, b, B, rfl, e5 _ _ (e13 _ _ h2), by omega, by omega, q⟩) H4 e4 _ fun t H5 e5 h5 => ?_
          refine ⟨n, t, _, _, rfl, h5, hb, hn12, hh, by omega, fun q2 H6 L hq2 e6 hL hF hLl => ?_⟩
          exact q q2 H6 L (fresh_back e5 hq2) (e5.trans e6) hL hF hLl
        · refine ⟨_, rfl, _, rfl, n, a, C, rfl, e5 _ _ h4, fun p2 H6 hp2 e6 h6 => q p2 H6 hp2 e6 h6⟩
      exact hf H3 (Ex.refl _) _ fun q H4 L hq e4 hR hF => k q H4 L (fresh_back e13 hq) (e13.trans e4) hR (.inr ⟨hev, hF⟩)
theorem ok_fills (T : Txt K mg CT CR fTI fRI gP pP fB fH fE aH) : Ok P w K mg base 9 "fills" ["room"] (spFills CR) := (ok_fillsF T).ok
/-! ### want_alike, lies_in -/
def spWantAlike (CR : Addr) : Sp := fun vs H Q _ => ∃ (p q : Addr) (n : Nat) (B C : List Nat), vs = [.ref p, .ref q] ∧ RoomAt CR H p n B ∧ RoomAt CR H q n C ∧ RetV .non H Q
theorem scWantAlike : FnScope ["room", "other"] ["room", "other"] (defScope sWantAlike) := ⟨rfl, rfl, rfl, by decide +kernel, rfl, by decide +kernel, by decide +kernel⟩
theorem ok_want_alike (T : Txt K mg CT CR fTI fRI gP pP fB fH fE aH) : Ok P w K mg base 2 "want_alike" ["room", "other"] (spWantAlike CR) := by
  obtain ⟨f1, fd1, G1, m1, k1, b1⟩ := ok_want_room (P := P) (w := w) (base := base) T
  refine ok_of T.dWantAlike scWantAlike (fun vs H Q E h => ?_) (fun f cdv A outer s H vs Q E hr h => ?_)
  · obtain ⟨p, q, n, B, C, rfl, _⟩ := h
    rfl
  · obtain ⟨p, q, n, B, C, rfl, hp, hq, k⟩ := h
    obtain ⟨dx, b, h1, h2⟩ := hp.ex
    obtain ⟨dy, c, h3, h4⟩ := hq.ex
    refine ⟨_, pss_cons (ps_expr (pe_call G1 hr rfl m1 k1 b1 .nil pass0 (pa_cons (pv 0) pa_nil)))
      (pss_cons (ps_expr (pe_call G1 hr rfl m1 k1 b1 .nil pass0 (pa_cons (pv 1) pa_nil)))
      (pss_one (ps_if (pt_cmpR op_neN (pe_fld (pv 0) rfl) (pe_fld (pv 1) rfl) (nomark _)) (pss_one ps_never) pss_nil))), ?_⟩
    refine q_drop (v := .non) (ev_callV (ea_cons (ev_var rfl) ea_nil) fun H2 e2 Q q E => ⟨p, n, B, rfl, hp.mono e2, q⟩) fun H1 e1 => ?_
    refine q_drop (v := .non) (ev_callV (ea_cons (ev_var rfl) ea_nil) fun H2 e2 Q q' E => ⟨q, n, C, rfl, (hq.mono e1).mono e2, q'⟩) fun H2 e2 => ?_
    refine s_when (b := false) (et_is (et_c2 (ev_fld (ev_var rfl) ((e1.trans e2) _ _ h1) T.iR.cl T.nRp (rf_p n b)) (ev_fld (ev_var rfl) ((e1.trans e2) _ _ h3) T.iR.cl T.nRp (rf_p n c))) (by rw [decide_eq_true rfl]; rfl)) (fun z => nomatch z) fun _ H3 e3 => k H3 ((e1.trans e2).trans e3)
def spLiesIn (CR : Addr) : Sp := fun vs H Q _ => ∃ (p q : Addr) (n : Nat) (B C : List Nat), vs = [.ref p, .ref q] ∧ RoomAt CR H p n B ∧ RoomAt CR H q n C ∧ K27.Rd C ∧ (∀ b ∈ B, b ∈ K27.allW C) ∧ B.length ≤ 24 ∧ RetV (.bl true) H Q
theorem scLiesIn : FnScope ["room", "other", "word"] ["room", "other"] (defScope sLiesIn) := ⟨rfl, rfl, rfl, by decide +kernel, rfl, by decide +kernel, by decide +kernel⟩
theorem ev_all {σ : L2.St} {H : Hp} {te : TE} {bs : List Bool} (h : EvL te σ H (bs.map V.bl)) : Ev (tCB (rAll K) (tCons te tNil)) σ H (.bl (bs.all id)) := fun H1 e Q q =>
  h H1 e _ fun p H2 _ e2 h2 => ⟨p, bs, rfl, SqL.of h2, q H2 e2⟩
theorem ev_any {σ : L2.St} {H : Hp} {te : TE} {bs : List Bool} (h : EvL te σ H (bs.map V.bl)) : Ev (tCB (rAny K) (tCons te tNil)) σ H (.bl (bs.any id)) := fun H1 e Q q =>
  h H1 e _ fun p H2 _ e2 h2 => ⟨p, bs, rfl, SqL.of h2, q H2 e2⟩
theorem ok_lies_in (T : Txt K mg CT CR fTI fRI gP pP fB fH fE aH) : Ok P w K mg base 3 "lies_in" ["room", "other"] (spLiesIn CR) := by
  obtain ⟨f1, fd1, G1, m1, k1, b1⟩ := ok_want_alike (P := P) (w := w) (base := base) T
  obtain ⟨fL, fdL, GL, mL, kL, bL⟩ := ok_left_of (P := P) (w := w) (base := base) T
  refine ok_of T.dLiesIn scLiesIn (fun vs H Q E h => ?_) (fun f cdv A outer s H vs Q E hr h => ?_)
  · obtain ⟨p, q, n, B, C, rfl, _⟩ := h
    rfl
  · obtain ⟨p, q, n, B, C, rfl, hp, hq, hC, hB, hl, k⟩ := h
    obtain ⟨dx, b, h1, h2⟩ := hp.ex
    obtain ⟨dy, c, h3, h4⟩ := hq.ex
    refine ⟨_, pss_cons (ps_expr (pe_call G1 hr rfl m1 k1 b1 .nil pass0 (pa_cons (pv 0) (pa_cons (pv 1) pa_nil))))
      (pss_one (ps_ret (pe_callB (cr_all rfl) (by rfl) T.z_all PyProof.Rows.boot_all (pa_cons (pe_lc (own := [("word", 2)]) (g := gName 2) (tt := tYes) rfl scLiesIn.nd (pi_tup (pe_fld (pv 0) rfl)) (blkOk_by (own := [("word", 2)]) (N := ["room", "other", "word"]) (sc := defScope sLiesIn) (by decide +kernel))
            (fun _ _ _ _ _ => pg_name (i := 2) scLiesIn.nd rfl (Or.inl rfl)) (fun _ _ _ _ _ => pts_nil)
            (fun _ _ _ _ _ => pe_cmpR op_eqN (pe_call GL (hr.mono (by decide)) rfl mL kL bL .nil pass0 (pa_cons (show PE _ _ (tFld K (tVar 1) "own_basis") from pe_fld (pv 1) rfl) (pa_cons (pv 2) pa_nil))) pe_int (nomark _))) pa_nil)))), ?_⟩
    refine q_drop (v := .non) (ev_callV (ea_cons (ev_var rfl) (ea_cons (ev_var rfl) ea_nil)) fun H2 e2 Q q' E => ⟨p, q, n, B, C, rfl, hp.mono e2, hq.mono e2, q'⟩) fun H1 e1 => ?_
    have hc := el_compT (K := K) (σ := [some (.ref p), some (.ref q), none]) (H := H1) (tl := tFld K (tVar 0) "own_basis") (te := tOp (rC2 fun n m => decide (n = m)) (tCall spLeftOf [] E0 (tCons (tFld K (tVar 1) "own_basis") (tCons (tVar 2) tNil))) (tC (.int ((0 : Nat) : Int)))) (t := tYes)
      (a := b) (B := B) (d := 0) (f := vI) (j := 2) (vs := [2]) (fun _ => true) (fun x => .bl (decide (K27.red C x = 0))) (ev_fld (ev_var rfl) (e1 _ _ h1) T.iR.cl T.nRb (rf_b n b)) (SqT.of (e1 _ _ h2)) (by omega) (fun _ => rfl) (fun _ _ _ _ => et_yes)
      (fun x H3 e3 _ _ => ev_c2 (sp_left (e3 _ _ (e1 _ _ h4)) (ev_fld (ev_var rfl) (e3 _ _ (e1 _ _ h3)) T.iR.cl T.nRb (rf_b n c)) (ev_var rfl)) (ev_k 0))
    rw [filter_yes] at hc
    refine s_ret (v := .bl true) (ev_is (ev_all (bs := B.map fun x => decide (K27.red C x = 0)) (el_is hc ?_)) ?_) fun H2 e2 => k H2 (e1.trans e2)
    · rw [List.map_map]
      rfl
    · congr 1
      rw [List.all_eq_true]
      intro z hz
      obtain ⟨x, hx, rfl⟩ := List.mem_map.mp hz
      exact decide_eq_true ((K27.red_iff hC).mpr (hB x hx))
end
end K27W
set_option maxHeartbeats 4000000
/-! K27L1: _law_pot, _law_draw, _law_pick, _law_weight, _law_are_even. -/
namespace K27W
open PySem PySem.Spec L2 Evl
/-! ### the pot -/
structure PotAt (a : Addr) (H : Hp) : Prop where
  ex : ∃ x y : Nat, H a = some (.lst [vI x, vI y]) ∧ y < 2 ^ 31
def ExA (a : Addr) (H H' : Hp) : Prop := ∀ b o, b ≠ a → H b = some o → H' b = some o
theorem ExA.refl (a : Addr) (H : Hp) : ExA a H H := fun _ _ _ h => h
theorem ExA.trans {a : Addr} {H H1 H2 : Hp} (h : ExA a H H1) (k : ExA a H1 H2) : ExA a H H2 := fun b o hb e => k b o hb (h b o hb e)
theorem ex_pot {H H' : Hp} (e : Ex H H') (a : Addr) : ExA a H H' := fun b o _ h => e b o h
theorem PotAt.mono {a : Addr} {H H' : Hp} (p : PotAt a H) (e : Ex H H') : PotAt a H' := by
  obtain ⟨x, y, h, hy⟩ := p.ex
  exact ⟨x, y, e _ _ h, hy⟩
theorem ExA.set {a : Addr} {H H' : Hp} {o : HO} (h : ExA a H H') : ExA a H (upd H' a o) := fun b u hb e => by
  rw [upd_ne hb]
  exact h b u hb e
theorem ExA.back {a b : Addr} {H H' : Hp} (e : ExA a H H') (hb : b ≠ a) (h : H' b = none) : H b = none := by
  cases hh : H b with
  | none => rfl
  | some o => rw [e b o hb hh] at h; cases h
/-- when the pot is not yet there, all that was there stands -/
theorem ExA.ex {a : Addr} {H H1 H2 : Hp} (e : Ex H H1) (ha : H a = none) (e2 : ExA a H1 H2) : Ex H H2 := fun b o h => by
  by_cases hb : b = a
  · subst hb
    rw [ha] at h
    cases h
  · exact e2 b o hb (e b o h)
theorem PotAt.some {a : Addr} {H : Hp} (p : PotAt a H) : ∃ xs, H a = some (.lst xs) := by
  obtain ⟨x, y, h, _⟩ := p.ex
  exact ⟨_, h⟩
section
variable {P : Program} {w : World} {K : PySem.W.Frag} {mg : Str → Option Value} {base : Heap} {CT CR fTI fRI gP pP fB fH fE aH : Addr}
/-! ### _law_pot -/
def spPot : Sp := fun vs H Q _ => ∃ (a : Addr) (ns : List Int), vs = [.ref a, vI 0] ∧ SqL K H a (ns.map V.int) ∧ ∀ p H2, H p = none → Ex H H2 → PotAt p H2 → Q (.ref p) H2
theorem scPot : FnScope ["_law_script", "_law_k", "_law_cell"] ["_law_script", "_law_k"] (defScope sLawPot) := ⟨rfl, rfl, rfl, by decide +kernel, rfl, by decide +kernel, by decide +kernel⟩
section
variable {σ : L2.St} {H : Hp} {ta tb te : TE}
theorem ev_int1 {n : Nat} (h : Ev ta σ H (vI n)) : Ev (tCB (fun xs H Q => (∃ i, xs = [.int i] ∧ Q (.int i) H) ∨ ∃ k, xs = [.bl k] ∧ Q (.int (if k then 1 else 0)) H) (tCons ta tNil)) σ H (vI n) := fun H1 e Q q =>
  h H1 e _ fun H2 e2 => .inl ⟨_, rfl, q H2 e2⟩
theorem ev_abs {i : Int} (h : Ev ta σ H (.int i)) : Ev (tCB (fun xs H Q => ∃ i, xs = [.int i] ∧ Q (.int (if i < 0 then -i else i)) H) (tCons ta tNil)) σ H (vI i.natAbs) := fun H1 e Q q =>
  h H1 e _ fun H2 e2 => ⟨i, rfl, by
    have e : (if i < 0 then -i else i) = ((i.natAbs : Nat) : Int) := by
      by_cases h : i < 0
      · rw [if_pos h]; omega
      · rw [if_neg h]; omega
    rw [e]
    exact q H2 e2⟩
theorem ev_cut {n : Nat} {c : Int} (h : Ev ta σ H (.int c)) (hc : c = (n : Int) - 1000000000000000000) : Ev (tCB rMax2 (tCons (tC (.int 0)) (tCons ta tNil))) σ H (vI (n - 1000000000000000000)) := fun H1 e Q q =>
  ev_max2 ev_c h H1 e Q fun H2 e2 => by
    have e : (if c > 0 then c else 0) = ((n - 1000000000000000000 : Nat) : Int) := by
      by_cases h : c > 0
      · rw [if_pos h]; omega
      · rw [if_neg h]; omega
    rw [e]
    exact q H2 e2
end
theorem ok_pot (T : Txt K mg CT CR fTI fRI gP pP fB fH fE aH) : Ok P w K mg base 1 "_law_pot" ["_law_script", "_law_k"] (spPot (K := K)) := by
  refine ok_of T.dLawPot scPot (fun vs H Q E h => ?_) (fun f cdv A outer s H vs Q E hr h => ?_)
  · obtain ⟨a, ns, rfl, _⟩ := h
    rfl
  · obtain ⟨a, ns, rfl, ha, k⟩ := h
    refine ⟨_, pss_cons (ps_set (i := 2) scPot.nd rfl (Or.inl rfl) (pe_ifExp (pt_cmpR op_ltN (pv 1) (pe_callB call_len_seq (by rfl) T.z_len PySem.boot_len (pa_cons (pv 0) pa_nil)) (nomark _))
        (pe_callB call_abs (by rfl) T.z_abs PyProof.Rows.boot_abs (pa_cons (pe_ix ix_list (pv 0) (pv 1) (fun _ _ => rfl)) pa_nil)) (pe_op op_addNN (pe_op op_mulNN pe_int (pv 1)) pe_int)))
      (pss_one (ps_ret (pe_lst (pa_cons (pe_callB (call_max2 rfl) (by rfl) T.z_max PyProof.Rows.boot_max (pa_cons pe_int (pa_cons (pe_op op_sub (pv 2) (pe_op op_pow pe_int pe_int)) pa_nil)))
        (pa_cons (pe_op op_addNN (pe_op op_modNN (pe_callTy call_int1 (by rfl) T.z_int PyProof.Rows.boot_int (pa_cons (pe_op op_addNN (pe_op op_addNN (pe_op op_mulNN (pe_op op_modNN (pe_callTy call_int1 (by rfl) T.z_int PyProof.Rows.boot_int (pa_cons (pv 2) pa_nil)) pe_int) pe_int) (pe_op op_mulNN pe_int (pv 1))) pe_int) pa_nil)) pe_int) pe_int) pa_nil))))), ?_⟩
    have hcell : ∃ c : Nat, Ev (tIf (tTest (tOp (rC2 fun n m => decide (n < m)) (tVar 1) (tCB (rLenQ K) (tCons (tVar 0) tNil)))) (tCB (fun xs H Q => ∃ i, xs = [.int i] ∧ Q (.int (if i < 0 then -i else i)) H) (tCons (tOp (rIxL K) (tVar 0) (tVar 1)) tNil)) (tOp (rN2 (fun _ _ => True) fun n m => n + m) (tOp (rN2 (fun n _ => n < 2 ^ 60) fun n m => n * m) (tC (.int ((449 : Nat) : Int))) (tVar 1)) (tC (.int ((409 : Nat) : Int))))) [some (.ref a), some (vI 0), none] H (vI c) := by
      by_cases hl : 0 < ns.length
      · have h0 : (ns.map V.int)[0]? = some (.int ns[0]) := by
          rw [List.getElem?_map, List.getElem?_eq_getElem hl]
          rfl
        refine ⟨(ns[0]).natAbs, ev_if (b := true) (et_is (et_c2 (ev_var rfl) (ev_lenV (ev_var rfl) (.inl ha))) ?_) (fun _ => ev_abs (ev_op (ev_var rfl) (ev_var rfl) (rv_ixL ha (atI_nat h0)))) (fun z => nomatch z)⟩
        rw [List.length_map]
        exact decide_eq_true hl
      · refine ⟨409, ev_if (b := false) (et_is (et_c2 (ev_var rfl) (ev_lenV (ev_var rfl) (.inl ha))) ?_) (fun z => nomatch z) (fun _ => ev_n2 (g := fun n m => n + m) (n := 449 * 0) (ev_n2 (C := fun n _ => n < 2 ^ 60) (g := fun n m => n * m) (n := 449) (m := 0) (ev_k 449) (ev_var rfl) (by decide)) (ev_k 409) True.intro)⟩
        rw [List.length_map]
        exact decide_eq_false hl
    obtain ⟨c, hc⟩ := hcell
    refine q_asg hc fun H1 e1 => ?_
    refine s_retL (xs := [vI (c - 1000000000000000000), vI ((c % 2147483549 * 48271 + 7823 * 0 + 31) % 2147483563 + 1)]) (el_lst (ea_cons (ev_cut (ev_op (ev_var rfl) (ev_op ev_c ev_c (rv_I (by show CPow 10 18; exact ⟨by decide, by decide, by decide⟩))) rv_I0) rfl) (ea_cons ?_ ea_nil)) (by show 2 ≤ 100000; decide)) fun p H2 hp e2 h2 => k p H2 (fresh_back e1 hp) (e1.trans e2) ⟨_, _, h2, ?_⟩
    · refine ev_n2 (ev_n2 (ev_int1 (ev_n2 (ev_n2 (ev_n2 (ev_n2 (ev_int1 (ev_var rfl)) (ev_k 2147483549) (by decide)) (ev_k 48271) ?_) (ev_n2 (ev_k 7823) (ev_var rfl) (by decide)) True.intro) (ev_k 31) True.intro)) (ev_k 2147483563) (by decide)) (ev_k 1) True.intro
      have := Nat.mod_lt c (by decide : 0 < 2147483549)
      omega
    · have := Nat.mod_lt (c % 2147483549 * 48271 + 7823 * 0 + 31) (by decide : 0 < 2147483563)
      omega
/-! ### _law_draw -/
def spDraw : Sp := fun vs H Q _ => ∃ (a : Addr) (m : Nat), vs = [.ref a, vI m] ∧ PotAt a H ∧ 1 ≤ m ∧ m ≤ 1000000 ∧ ∀ d H2, d < m → ExA a H H2 → PotAt a H2 → Q (vI d) H2
theorem scDraw : FnScope ["_law_pot_here", "_law_many", "_law_digit"] ["_law_pot_here", "_law_many"] (defScope sLawDraw) := ⟨rfl, rfl, rfl, by decide +kernel, rfl, by decide +kernel, by decide +kernel⟩
theorem ok_draw (T : Txt K mg CT CR fTI fRI gP pP fB fH fE aH) : Ok P w K mg base 1 "_law_draw" ["_law_pot_here", "_law_many"] spDraw := by
  refine ok_of T.dLawDraw scDraw (fun vs H Q E h => ?_) (fun f cdv A outer s H vs Q E hr h => ?_)
  · obtain ⟨a, m, rfl, _⟩ := h
    rfl
  · obtain ⟨a, m, rfl, hp, hm1, hm2, k⟩ := h
    obtain ⟨x, y, ha, hy⟩ := hp.ex
    refine ⟨_, pss_cons (ps_if (pt_cmpR op_gtN (pe_ix ix_list (pv 0) pe_int (fun _ _ => rfl)) pe_int (nomark _))
        (pss_cons (ps_asg (pe_callB call_divmod (by rfl) T.z_divmod PyProof.Rows.boot_divmod (pa_cons (pe_ix ix_list (pv 0) pe_int (fun _ _ => rfl)) (pa_cons (pv 1) pa_nil))) (pg_tup rfl (pgs_cons (pg_sub (pv 0) pe_int set_list) (pgs_cons (pg_name (i := 2) scDraw.nd rfl (Or.inl rfl)) pgs_nil))))
        (pss_one (ps_ret (pv 2)))) pss_nil)
      (pss_cons (ps_asg (pe_op op_modNN (pe_callTy call_int1 (by rfl) T.z_int PyProof.Rows.boot_int (pa_cons (pe_op op_addNN (pe_op op_mulNN (pe_ix ix_list (pv 0) pe_int (fun _ _ => rfl)) pe_int) pe_int) pa_nil)) pe_int) (pg_sub (pv 0) pe_int set_list))
      (pss_one (ps_ret (pe_op op_modNN (pe_callTy call_int1 (by rfl) T.z_int PyProof.Rows.boot_int (pa_cons (pe_op op_fdivNN (pe_op op_modNN (pe_callTy call_int1 (by rfl) T.z_int PyProof.Rows.boot_int (pa_cons (pe_op op_mulNN (pe_ix ix_list (pv 0) pe_int (fun _ _ => rfl)) (pe_ix ix_list (pv 0) pe_int (fun _ _ => rfl))) pa_nil)) pe_int) pe_int) pa_nil)) (pv 1))))), ?_⟩
    have ix0 : ∀ {σ : L2.St} {H : Hp} {x y : Nat}, σ[0]? = some (some (.ref a)) → H a = some (.lst [vI x, vI y]) → Ev (tOp (rIxL K) (tVar 0) (tC (.int 0))) σ H (vI x) := fun h0 hH => ev_op (ev_var h0) ev_c (rv_ixL (SqL.of hH) rfl)
    have ix1 : ∀ {σ : L2.St} {H : Hp} {x y : Nat}, σ[0]? = some (some (.ref a)) → H a = some (.lst [vI x, vI y]) → Ev (tOp (rIxL K) (tVar 0) (tC (.int 1))) σ H (vI y) := fun h0 hH => ev_op (ev_var h0) ev_c (rv_ixL (SqL.of hH) rfl)
    refine q_when (b := decide (0 < x)) (et_c2 (ix0 rfl ha) (ev_k 0)) (fun hz H1 e1 => ?_) (fun hz H1 e1 => ?_)
    · refine (ix0 rfl ha) H1 e1 _ fun H2 e2 => ?_
      refine ⟨_, rfl, x, m, rfl, ⟨by omega, by omega⟩, fun t ht => ?_⟩
      have e3 : Ex H (upd H2 t (.tup [.int ((x : Int) / (m : Int)), .int ((x : Int) % (m : Int))])) := (e1.trans e2).trans (Ex.new ht)
      have ha3 := e3 _ _ ha
      refine ⟨t, _, rfl, SqT.of upd_same, rfl, _, _, rfl, ⟨_, rfl, ?_⟩⟩
      refine ⟨a, _, 0, 0, rfl, rfl, ha3, rfl, _, _, rfl, rfl, ?_⟩
      have hmod : ((x : Int) % (m : Int)) = ((x % m : Nat) : Int) := (Int.natCast_emod x m).symm
      have hdiv : ((x : Int) / (m : Int)) = ((x / m : Nat) : Int) := (Int.natCast_ediv x m).symm
      refine s_ret (v := vI (x % m)) (ev_is (ev_var rfl) (by rw [hmod])) fun H4 e4 => ?_
      refine k _ H4 (Nat.mod_lt _ hm1) ((ExA.set (ex_pot e3 a)).trans (ex_pot e4 a)) (PotAt.mono ⟨x / m, y, ?_, hy⟩ e4)
      rw [upd_same, hdiv]
      rfl
    · have ha1 := e1 _ _ ha
      refine s_setL (D := _) (j := 1) (v := vI ((y * 39373 + 7823) % 2147483587)) ha1 (ev_n2 (ev_int1 (ev_n2 (ev_n2 (ix1 rfl ha1) (ev_k 39373) (by omega)) (ev_k 7823) True.intro)) (ev_k 2147483587) (by decide)) (ev_var rfl) ev_c (by show 1 < 2; decide) fun H2 e2 => ?_
      have hy2 := Nat.mod_lt (y * 39373 + 7823) (by decide : 0 < 2147483587)
      generalize hyy : (y * 39373 + 7823) % 2147483587 = y2 at hy2
      have ha2 : upd H2 a (.lst ([vI x, vI y].set 1 (vI y2))) a = some (.lst [vI x, vI y2]) := upd_same
      refine s_ret (v := vI (y2 * y2 % 2147483563 / 19 % m)) (ev_n2 (ev_int1 (ev_n2 (ev_n2 (ev_int1 (ev_n2 (ix1 rfl ha2) (ix1 rfl ha2) (by omega))) (ev_k 2147483563) (by decide)) (ev_k 19) ⟨by decide, by decide⟩)) (ev_var rfl) hm1) fun H3 e3 => ?_
      exact k _ H3 (Nat.mod_lt _ hm1) ((ExA.set (ex_pot (e1.trans e2) a)).trans (ex_pot e3 a)) (PotAt.mono ⟨x, y2, ha2, by omega⟩ e3)
/-- a draw on the way -/
theorem te_draw {σ : L2.St} {H : Hp} {ta tb : TE} {a : Addr} {m : Nat} {E : XK} {Q : VK} (h1 : Ev ta σ H (.ref a)) (h2 : Ev tb σ H (vI m)) (hp : PotAt a H) (hm : 1 ≤ m ∧ m ≤ 1000000) (k : ∀ d H2, d < m → ExA a H H2 → PotAt a H2 → Q (vI d) H2) : tCall spDraw [] E (tCons ta (tCons tb tNil)) σ H Q :=
  ea_cons h1 (ea_cons h2 ea_nil) H (Ex.refl H) _ fun H1 e1 => ⟨a, m, rfl, hp.mono e1, hm.1, hm.2, fun d H2 hd e2 p2 => k d H2 hd ((ex_pot e1 a).trans e2) p2⟩
/-! ### _law_pick -/
def spPick : Sp := fun vs H Q _ => ∃ (a b : Addr) (ws : List Nat), vs = [.ref a, .ref b] ∧ PotAt a H ∧ b ≠ a ∧ H b = some (.lst (vW ws)) ∧ 1 ≤ ws.length ∧ ws.length ≤ 1000000 ∧ ∀ x H2, x ∈ ws → ExA a H H2 → PotAt a H2 → Q (vI x) H2
theorem scPick : FnScope ["_law_pot_here", "_law_some"] ["_law_pot_here", "_law_some"] (defScope sLawPick) := ⟨rfl, rfl, rfl, by decide +kernel, rfl, by decide +kernel, by decide +kernel⟩
theorem ok_pick (T : Txt K mg CT CR fTI fRI gP pP fB fH fE aH) : Ok P w K mg base 2 "_law_pick" ["_law_pot_here", "_law_some"] spPick := by
  obtain ⟨f1, fd1, G1, m1, k1, b1⟩ := ok_draw (P := P) (w := w) (base := base) T
  refine ok_of T.dLawPick scPick (fun vs H Q E h => ?_) (fun f cdv A outer s H vs Q E hr h => ?_)
  · obtain ⟨a, b, ws, rfl, _⟩ := h
    rfl
  · obtain ⟨a, b, ws, rfl, hp, hne, hb, hl1, hl2, k⟩ := h
    refine ⟨_, pss_one (ps_ret (pe_ix ix_list (pv 1) (pe_call G1 hr rfl m1 k1 b1 .nil pass0 (pa_cons (pv 0) (pa_cons (pe_callB call_len_seq (by rfl) T.z_len PySem.boot_len (pa_cons (pv 1) pa_nil)) pa_nil))) (fun _ _ => rfl))), ?_⟩
    refine ⟨_, rfl, ?_⟩
    refine te_draw (m := ws.length) (ev_var rfl) (ev_is (ev_lenV (ev_var rfl) (.inl (SqL.of hb))) (by rw [vW_len])) hp ⟨hl1, hl2⟩ fun d H2 hd e2 p2 => ?_
    refine ⟨b, vW ws, (d : Int), vI ws[d], rfl, rfl, SqL.of (e2 _ _ hne hb), atI_nat ?_, k _ H2 (List.getElem_mem hd) e2 p2⟩
    rw [List.getElem?_map, List.getElem?_eq_getElem hd]
    rfl
/-- a pick on the way -/
theorem te_pick {σ : L2.St} {H : Hp} {ta tb : TE} {a b : Addr} {ws : List Nat} {E : XK} {Q : VK} (h1 : Ev ta σ H (.ref a)) (h2 : Ev tb σ H (.ref b)) (hp : PotAt a H) (hne : b ≠ a) (hb : H b = some (.lst (vW ws))) (hm : 1 ≤ ws.length ∧ ws.length ≤ 1000000) (k : ∀ x H2, x ∈ ws → ExA a H H2 → PotAt a H2 → Q (vI x) H2) : tCall spPick [] E (tCons ta (tCons tb tNil)) σ H Q :=
  ea_cons h1 (ea_cons h2 ea_nil) H (Ex.refl H) _ fun H1 e1 => ⟨a, b, ws, rfl, hp.mono e1, hne, e1 _ _ hb, hm.1, hm.2, fun x H2 hx e2 p2 => k x H2 hx ((ex_pot e1 a).trans e2) p2⟩
/-! ### _law_weight, _law_are_even -/
def spLWeight : Sp := fun vs H Q _ => ∃ n : Nat, vs = [vI n] ∧ n < 2 ^ 24 ∧ RetV (vI (K27.cnt 24 n)) H Q
theorem scLWeight : FnScope ["_law_word", "_law_found"] ["_law_word"] (defScope sLawWeight) := ⟨rfl, rfl, rfl, by decide +kernel, rfl, by decide +kernel, by decide +kernel⟩
theorem q_par2 {σ : L2.St} {H : Hp} {ta tb : TE} {u v : V} {i j : Nat} {D : Ends} {tz : TS} (h1 : Ev ta σ H u) (h2 : Ev tb σ H v) (k : ∀ H1, Ex H H1 → tz D ((σ.set i (some u)).set j (some v)) H1) : tSeq (tPar i j (tCons ta (tCons tb tNil))) tz D σ H :=
  h1 H (Ex.refl H) _ fun H1 e1 => h2 H1 e1 _ fun H2 e2 => ⟨_, _, rfl, k H2 (e1.trans e2)⟩
theorem s_par2 {σ : L2.St} {H : Hp} {ta tb : TE} {u v : V} {i j : Nat} {D : Ends} (h1 : Ev ta σ H u) (h2 : Ev tb σ H v) (k : ∀ H1, Ex H H1 → D.nx ((σ.set i (some u)).set j (some v)) H1) : tPar i j (tCons ta (tCons tb tNil)) D σ H :=
  h1 H (Ex.refl H) _ fun H1 e1 => h2 H1 e1 _ fun H2 e2 => ⟨_, _, rfl, k H2 (e1.trans e2)⟩
theorem ok_lweight (T : Txt K mg CT CR fTI fRI gP pP fB fH fE aH) : Ok P w K mg base 1 "_law_weight" ["_law_word"] spLWeight := by
  refine ok_of T.dLawWeight scLWeight (fun vs H Q E h => ?_) (fun f cdv A outer s H vs Q E hr h => ?_)
  · obtain ⟨n, rfl, _⟩ := h
    rfl
  · obtain ⟨n, rfl, hn, k⟩ := h
    refine ⟨_, pss_cons (ps_set (i := 1) scLWeight.nd rfl (Or.inl rfl) pe_int)
      (pss_cons (ps_while PassesOwn.never (pt_cmpR op_gtN (pv 0) pe_int (nomark _)) (pss_one (ps_par (i := 1) (j := 0) rfl scLWeight.nd rfl rfl (by decide) rfl rfl (pa_cons (pe_op op_addNN (pv 1) (pe_op op_andN (pv 0) pe_int)) (pa_cons (pe_op op_shrN (pv 0) pe_int) pa_nil)) rfl)))
      (pss_one (ps_ret (pv 1)))), ?_⟩
    refine q_asg (v := vI 0) (ev_k 0) fun H1 e1 => ?_
    refine q_while (fun m σ' H' => ∃ x f : Nat, σ' = [some (vI x), some (vI f)] ∧ f + K27.cnt m x = K27.cnt 24 n ∧ x < 2 ^ m ∧ Ex H H') 24 ⟨n, 0, rfl, Nat.zero_add _, hn, e1⟩ ?_
    rintro m σ' H' ⟨x, f, rfl, hf, hx, e⟩
    refine ⟨decide (0 < x), et_c2 (ev_var rfl) (ev_k 0), fun hz H2 e2 => ?_, fun hz H2 e2 => ?_⟩
    · have hx0 : 0 < x := of_decide_eq_true hz
      cases m with
      | zero => omega
      | succ m =>
        refine ⟨fun σ' H' => ∃ x f : Nat, σ' = [some (vI x), some (vI f)] ∧ f + K27.cnt m x = K27.cnt 24 n ∧ x < 2 ^ m ∧ Ex H H', fun σ2 H3 h3 => ⟨m, Nat.lt_succ_self m, h3⟩, ?_⟩
        refine s_par2 (u := vI (f + (x &&& 1))) (v := vI (x >>> 1)) (ev_n2 (ev_var rfl) (ev_n2 (ev_var rfl) (ev_k 1) True.intro) True.intro) (ev_n2 (ev_var rfl) (ev_k 1) True.intro) fun H3 e3 => ⟨x >>> 1, f + (x &&& 1), rfl, ?_, ?_, (e.trans e2).trans e3⟩
        · have : K27.cnt (m + 1) x = K27.cnt m (x >>> 1) + (x &&& 1) := rfl
          omega
        · rw [Nat.shiftRight_eq_div_pow]
          rw [Nat.pow_succ] at hx
          omega
    · have hx0 : x = 0 := by
        have := of_decide_eq_false hz
        omega
      subst hx0
      rw [K27.cnt_zero] at hf
      refine s_ret (v := vI (K27.cnt 24 n)) (ev_is (ev_var rfl) ?_) fun H3 e3 => k H3 ((e.trans e2).trans e3)
      rw [← hf]
      rfl
def spLEven : Sp := fun vs H Q _ => ∃ n m : Nat, vs = [vI n, vI m] ∧ n < 2 ^ 24 ∧ RetV (.bl (!K27.dot n m)) H Q
theorem scLEven : FnScope ["_law_one", "_law_other"] ["_law_one", "_law_other"] (defScope sLawAreEven) := ⟨rfl, rfl, rfl, by decide +kernel, rfl, by decide +kernel, by decide +kernel⟩
theorem mod2_dec (x : Nat) : decide (x % 2 = 0) = !decide (x % 2 = 1) := by
  by_cases h : x % 2 = 1
  · rw [decide_eq_true h, decide_eq_false (by omega)]
    rfl
  · rw [decide_eq_false h, decide_eq_true (by omega)]
    rfl
theorem ok_leven (T : Txt K mg CT CR fTI fRI gP pP fB fH fE aH) : Ok P w K mg base 2 "_law_are_even" ["_law_one", "_law_other"] spLEven := by
  obtain ⟨f1, fd1, G1, m1, k1, b1⟩ := ok_lweight (P := P) (w := w) (base := base) T
  refine ok_of T.dLawAreEven scLEven (fun vs H Q E h => ?_) (fun f cdv A outer s H vs Q E hr h => ?_)
  · obtain ⟨n, m, rfl, _⟩ := h
    rfl
  · obtain ⟨n, m, rfl, hn, k⟩ := h
    refine ⟨_, pss_one (ps_ret (pe_cmpR op_eqN (pe_op op_modNN (pe_call G1 hr rfl m1 k1 b1 .nil pass0 (pa_cons (pe_op op_andN (pv 0) (pv 1)) pa_nil)) pe_int) pe_int (nomark _))), ?_⟩
    refine s_ret (v := .bl (!K27.dot n m)) (ev_is (ev_c2 (ev_n2 (ev_callV (ea_cons (ev_n2 (ev_var rfl) (ev_var rfl) True.intro) ea_nil) fun H1 e Q q E => ⟨n &&& m, rfl, Nat.lt_of_le_of_lt Nat.and_le_left hn, q⟩) (ev_k 2) (by decide)) (ev_k 0)) ?_) k
    rw [mod2_dec, K27.cnt_par]
    rfl
end
end K27W
set_option maxHeartbeats 4000000
/-! K27L2: _law_plain, _law_span, _law_contrary, _law_still. -/
namespace K27W
open PySem PySem.Spec L2 Evl
section
variable {P : Program} {w : World} {K : PySem.W.Frag} {mg : Str → Option Value} {base : Heap} {CT CR fTI fRI gP pP fB fH fE aH : Addr}
/-! ### _law_plain -/
def spLPlain : Sp := fun vs H Q _ => ∃ (b : Addr) (ws : List Nat), vs = [.ref b] ∧ H b = some (.lst (vW ws)) ∧ ws.length ≤ 99 ∧ RetN (K27.plainOf ws) H Q
abbrev nLPlain : List Str := ["_law_words", "_law_found", "_law_word", "_law_here", "_law_one"]
theorem scLPlain : FnScope nLPlain ["_law_words"] (defScope sLawPlain) := ⟨rfl, rfl, rfl, by decide +kernel, rfl, by decide +kernel, by decide +kernel⟩
theorem stepU_len (B : List Nat) (w : Nat) : (K27.stepU B w).length ≤ B.length + 1 := by
  unfold K27.stepU
  split
  · omega
  · unfold K27.extU
    rw [List.length_append, List.length_map, List.length_singleton]
    exact Nat.le_refl _
theorem foldlU_len : ∀ (ws B : List Nat), (ws.foldl K27.stepU B).length ≤ B.length + ws.length
  | [], B => Nat.le_refl _
  | w :: ws, B => by
    have h1 := foldlU_len ws (K27.stepU B w)
    have h2 := stepU_len B w
    show (ws.foldl K27.stepU (K27.stepU B w)).length ≤ _
    rw [List.length_cons]
    omega
theorem s_forLV {σ : L2.St} {H : Hp} {tl : TE} {a : Addr} {ws : List Nat} {D : Ends} {tu : TS} {g : TG} (h : Ev tl σ H (.ref a)) (hx : SqL K H a (vW ws)) (Pv : Nat → L2.St → Hp → Prop) (h0 : ∀ H1, Ex H H1 → Pv 0 σ H1) (hl : ∀ i σ' H', Pv i σ' H' → SqL K H' a (vW ws))
    (hs : ∀ i c σ' H', ws[i]? = some c → Pv i σ' H' → g (vI c) σ' H' fun σ2 H2 => tu { D with nx := Pv (i + 1), ct := Pv (i + 1), bk := D.nx } σ2 H2) (hd : ∀ σ' H', Pv ws.length σ' H' → D.nx σ' H') : tFor (iList K tl) g tu D σ H :=
  s_forL h hx Pv h0 (fun i σ' H' _ p => hl i σ' H' p) (fun i x σ' H' hx p => by
    obtain ⟨c, hc, rfl⟩ := vW_get hx
    exact hs i c σ' H' hc p) (fun σ' H' p => hd σ' H' (by rw [vW_len] at p; exact p))
theorem q_forLV {σ : L2.St} {H : Hp} {tl : TE} {a : Addr} {ws : List Nat} {D : Ends} {tu tz : TS} {g : TG} (h : Ev tl σ H (.ref a)) (hx : SqL K H a (vW ws)) (Pv : Nat → L2.St → Hp → Prop) (h0 : ∀ H1, Ex H H1 → Pv 0 σ H1) (hl : ∀ i σ' H', Pv i σ' H' → SqL K H' a (vW ws))
    (hs : ∀ i c σ' H', ws[i]? = some c → Pv i σ' H' → g (vI c) σ' H' fun σ2 H2 => tu { D with nx := Pv (i + 1), ct := Pv (i + 1), bk := tz D } σ2 H2) (hd : ∀ σ' H', Pv ws.length σ' H' → tz D σ' H') : tSeq (tFor (iList K tl) g tu) tz D σ H :=
  s_forLV (D := { D with nx := tz D }) h hx Pv h0 hl hs hd
theorem ok_lplain (T : Txt K mg CT CR fTI fRI gP pP fB fH fE aH) : Ok P w K mg base 1 "_law_plain" ["_law_words"] spLPlain := by
  refine ok_of T.dLawPlain scLPlain (fun vs H Q E h => ?_) (fun f cdv A outer s H vs Q E hr h => ?_)
  · obtain ⟨b, ws, rfl, _⟩ := h
    rfl
  · obtain ⟨b, ws, rfl, hb, hlen, k⟩ := h
    refine ⟨_, pss_cons (ps_set (i := 1) scLPlain.nd rfl (Or.inl rfl) (pe_lst pa_nil))
      (pss_cons (ps_for PassesOwn.never rfl (pi_list (pv 0)) (pg_name (i := 2) scLPlain.nd rfl (Or.inl rfl))
        (pss_cons (ps_set (i := 3) scLPlain.nd rfl (Or.inr rfl) (pv 2))
        (pss_cons (ps_for PassesOwn.never rfl (pi_list (pv 1)) (pg_name (i := 4) scLPlain.nd rfl (Or.inl rfl))
          (pss_one (ps_set (i := 3) scLPlain.nd rfl (Or.inr rfl) (pe_callB (call_min2 rfl) (by rfl) T.z_min PyProof.Rows.boot_min (pa_cons (pv 3) (pa_cons (pe_op op_xorN (pv 3) (pv 4)) pa_nil))))))
        (pss_one (ps_if (pt_cmpR op_gtN (pv 3) pe_int (nomark _))
          (pss_one (ps_set (i := 1) scLPlain.nd rfl (Or.inl rfl) (pe_op op_cat (pe_lc (own := [("_law_one", 4)]) (g := gName 4) (tt := tYes) rfl scLPlain.nd (pi_list (pv 1)) (blkOk_by (own := [("_law_one", 4)]) (N := nLPlain) (sc := defScope sLawPlain) (by decide +kernel))
            (fun _ _ _ _ _ => pg_name (i := 4) scLPlain.nd rfl (Or.inl rfl)) (fun _ _ _ _ _ => pts_nil)
            (fun _ _ _ _ _ => pe_callB (call_min2 rfl) (by rfl) T.z_min PyProof.Rows.boot_min (pa_cons (pv 4) (pa_cons (pe_op op_xorN (pv 4) (pv 3)) pa_nil))))
            (pe_lst (pa_cons (pv 3) pa_nil))))) pss_nil)))))
      (pss_one (ps_ret (pe_callBK (cr_sortedRev (b := true)) (by rfl) T.z_sorted PyProof.Rows.boot_sorted (pa_cons (pv 1) pa_nil) (pk_cons pe_bl pk_nil))))), ?_⟩
    refine q_asgL (xs := []) (el_lst ea_nil (by show 0 ≤ 100000; decide)) fun p0 H1 hp0 e1 h1 => ?_
    refine q_forLV (a := b) (ws := ws) (ev_var rfl) (SqL.of (e1 _ _ hb)) (fun i σ' H' => ∃ q v2 v3 v4, σ' = [some (.ref b), some (.ref q), v2, v3, v4] ∧ Ex H H' ∧ H' q = some (.lst (vW ((ws.take i).foldl K27.stepU []))))
      (fun H2 e2 => ⟨p0, none, none, none, rfl, e1.trans e2, e2 _ _ h1⟩) (fun i σ' H' ⟨_, _, _, _, _, e, _⟩ => SqL.of (e _ _ hb)) ?_ ?_
    · rintro i c σ' H' hc ⟨q, v2, v3, v4, rfl, e, hq⟩
      have hll : ((ws.take i).foldl K27.stepU []).length ≤ 99 := by
        have h1 := foldlU_len (ws.take i) []
        have h2 : (ws.take i).length ≤ ws.length := by rw [List.length_take]; omega
        simp only [List.length_nil] at h1
        omega
      have es : (ws.take (i + 1)).foldl K27.stepU [] = K27.stepU ((ws.take i).foldl K27.stepU []) c := foldl_take_succ hc
      generalize (ws.take i).foldl K27.stepU [] = F at hq hll es
      refine q_asg (v := vI c) (ev_var rfl) fun H2 e2 => ?_
      refine q_forLV (a := q) (ws := F) (ev_var rfl) (SqL.of (e2 _ _ hq)) (fun j σ' H3 => ∃ v4, σ' = [some (.ref b), some (.ref q), some (vI c), some (vI (K27.red (F.take j) c)), v4] ∧ Ex H' H3)
        (fun H3 e3 => ⟨v4, rfl, e2.trans e3⟩) (fun j σ' H3 ⟨_, _, e3⟩ => SqL.of (e3 _ _ hq)) ?_ ?_
      · rintro j o σ' H3 ho ⟨v4, rfl, e3⟩
        refine s_asg (v := vI (K27.red (F.take (j + 1)) c)) ?_ fun H4 e4 => ⟨_, rfl, e3.trans e4⟩
        have er : K27.red (F.take (j + 1)) c = min (K27.red (F.take j) c) (K27.red (F.take j) c ^^^ o) := foldl_take_succ ho
        rw [er]
        exact ev_min (ev_var rfl) (ev_n2 (ev_var rfl) (ev_var rfl) True.intro)
      · rintro σ' H3 ⟨v4, rfl, e3⟩
        rw [List.take_length]
        refine s_when (b := decide (0 < K27.red F c)) (et_c2 (ev_var rfl) (ev_k 0)) (fun hz H4 e4 => ?_) (fun hz H4 e4 => ?_)
        · have hz' : K27.red F c ≠ 0 := Nat.ne_of_gt (of_decide_eq_true hz)
          have e6 : K27.stepU F c = K27.extU F (K27.red F c) := if_neg hz'
          have hq4 := (e3.trans e4) _ _ hq
          refine s_asgL (xs := vW ((ws.take (i + 1)).foldl K27.stepU [])) ?_ fun r H5 hr5 e5 h5 => ⟨r, _, _, _, rfl, ((e.trans e3).trans e4).trans e5, h5⟩
          rw [es, e6]
          refine el_is (el_cat (xs := vW (F.map fun o => min o (o ^^^ K27.red F c))) (ys := [vI (K27.red F c)]) ?_ (el_lst (ea_cons (ev_var rfl) ea_nil) (by show 1 ≤ 100000; decide)) (by rw [vW_len, List.length_map]; show F.length + 1 ≤ _; omega)) ?_
          · have hcm := el_compL (K := K) (σ := [some (.ref b), some (.ref q), some (vI c), some (vI (K27.red F c)), v4]) (H := H4) (tl := tVar 1) (te := tCB (fun xs H Q => ∃ i j, xs = [.int i, .int j] ∧ Q (.int (if j < i then j else i)) H) (tCons (tVar 4) (tCons (tOp (rN2 (fun _ _ => True) fun n m => n ^^^ m) (tVar 4) (tVar 3)) tNil))) (t := tYes)
              (a := q) (B := F) (d := 0) (f := vI) (j := 4) (vs := [4]) (fun _ => true) (fun o => vI (min o (o ^^^ K27.red F c))) (ev_var rfl) (SqL.of hq4) (by omega) (fun _ => rfl) (fun _ _ _ _ => et_yes) (fun n H3 _ _ _ => ev_min (ev_var rfl) (ev_n2 (ev_var rfl) (ev_var rfl) True.intro))
            rw [filter_yes] at hcm
            unfold vW
            rw [List.map_map]
            exact hcm
          · unfold K27.extU vW
            rw [List.map_append]
            rfl
        · have hz' : K27.red F c = 0 := by
            have := of_decide_eq_false hz
            omega
          have e6 : K27.stepU F c = F := if_pos hz'
          refine ⟨q, _, _, _, rfl, (e.trans e3).trans e4, ?_⟩
          rw [es, e6]
          exact (e3.trans e4) _ _ hq
    · rintro σ' H' ⟨q, v2, v3, v4, rfl, e, hq⟩
      rw [List.take_length] at hq
      refine s_retL (xs := vW (K27.plainOf ws)) ?_ fun r H2 hr2 e2 h2 => k r H2 (fresh_back e hr2) (e.trans e2) h2
      rw [← K27.plU_sort]
      exact el_sortedDV (ev_var rfl) (SqL.of hq)
/-! ### _law_span -/
def spLSpan : Sp := fun vs H Q _ => ∃ (b : Addr) (B : List Nat), vs = [.ref b] ∧ H b = some (.lst (vW B)) ∧ B.length ≤ 14 ∧ RetN (K27.allW B.reverse) H Q
abbrev nLSpan : List Str := ["_law_basis", "_law_found", "_law_word", "_law_one"]
theorem scLSpan : FnScope nLSpan ["_law_basis"] (defScope sLawSpan) := ⟨rfl, rfl, rfl, by decide +kernel, rfl, by decide +kernel, by decide +kernel⟩
theorem ok_lspan (T : Txt K mg CT CR fTI fRI gP pP fB fH fE aH) : Ok P w K mg base 1 "_law_span" ["_law_basis"] spLSpan := by
  refine ok_of T.dLawSpan scLSpan (fun vs H Q E h => ?_) (fun f cdv A outer s H vs Q E hr h => ?_)
  · obtain ⟨b, B, rfl, _⟩ := h
    rfl
  · obtain ⟨b, B, rfl, hb, hlen, k⟩ := h
    refine ⟨_, pss_cons (ps_set (i := 1) scLSpan.nd rfl (Or.inl rfl) (pe_lst (pa_cons pe_int pa_nil)))
      (pss_cons (ps_for PassesOwn.never rfl (pi_list (pv 0)) (pg_name (i := 2) scLSpan.nd rfl (Or.inr rfl))
        (pss_one (ps_set (i := 1) scLSpan.nd rfl (Or.inl rfl) (pe_op op_cat (pv 1) (pe_lc (own := [("_law_one", 3)]) (g := gName 3) (tt := tYes) rfl scLSpan.nd (pi_list (pv 1)) (blkOk_by (own := [("_law_one", 3)]) (N := nLSpan) (sc := defScope sLawSpan) (by decide +kernel))
            (fun _ _ _ _ _ => pg_name (i := 3) scLSpan.nd rfl (Or.inl rfl)) (fun _ _ _ _ _ => pts_nil)
            (fun _ _ _ _ _ => pe_op op_xorN (pv 3) (pv 2)))))))
      (pss_one (ps_ret (pv 1)))), ?_⟩
    refine q_asgL (xs := [vI 0]) (el_lst (ea_cons (ev_k 0) ea_nil) (by show 1 ≤ 100000; decide)) fun p H1 hp e1 h1 => ?_
    refine q_forLV (a := b) (ws := B) (ev_var rfl) (SqL.of (e1 _ _ hb)) (fun i σ' H' => ∃ q v, σ' = [some (.ref b), some (.ref q), v, none] ∧ Ex H H' ∧ H q = none ∧ H' q = some (.lst (vW (K27.allW (B.take i).reverse))))
      (fun H2 e2 => ⟨p, none, rfl, e1.trans e2, hp, e2 _ _ h1⟩) (fun i σ' H' ⟨_, _, _, e, _⟩ => SqL.of (e _ _ hb)) ?_ ?_
    · rintro i c σ' H' hc ⟨q, v, rfl, e, hq0, hq⟩
      have hi : i < B.length := lt_of_get hc
      generalize hL : K27.allW (B.take i).reverse = L at hq
      have hLl : L.length ≤ 16384 := by
        rw [← hL, K27.allW_len, List.length_reverse, List.length_take]
        exact Nat.le_trans (Nat.pow_le_pow_right (by decide) (by omega : min i B.length ≤ 14)) (by decide)
      have eL : K27.allW (B.take (i + 1)).reverse = L ++ L.map (fun w => w ^^^ c) := by
        rw [take_succ_get hc, List.reverse_append]
        show K27.allW (B.take i).reverse ++ (K27.allW (B.take i).reverse).map (fun w => w ^^^ c) = _
        rw [hL]
      refine s_asgL (xs := vW (L ++ L.map (fun w => w ^^^ c))) ?_ fun z H2 hz e2 h2 => ⟨z, _, rfl, e.trans e2, fresh_back e hz, by rw [eL]; exact h2⟩
      refine el_is (el_catV (xs := vW L) (ys := vW (L.map (fun w => w ^^^ c))) (ev_var rfl) hq ?_ (by rw [vW_len, vW_len, List.length_map]; omega)) ?_
      · have hcm := el_compL (K := K) (σ := [some (.ref b), some (.ref q), some (vI c), none]) (H := H') (tl := tVar 1) (te := tOp (rN2 (fun _ _ => True) fun n m => n ^^^ m) (tVar 3) (tVar 2)) (t := tYes)
          (a := q) (B := L) (d := 0) (f := vI) (j := 3) (vs := [3]) (fun _ => true) (fun o => vI (o ^^^ c)) (ev_var rfl) (SqL.of hq) (by omega) (fun _ => rfl) (fun _ _ _ _ => et_yes) (fun n H3 _ _ _ => ev_n2 (ev_var rfl) (ev_var rfl) True.intro)
        rw [filter_yes] at hcm
        unfold vW
        rw [List.map_map]
        exact hcm
      · unfold vW
        rw [List.map_append]
    · rintro σ' H' ⟨q, v, rfl, e, hq0, hq⟩
      rw [List.take_length] at hq
      refine s_ret (ev_var rfl) fun H2 e2 => ?_
      exact k q H2 hq0 (e.trans e2) (e2 _ _ hq)
/-! ### _law_contrary -/
def conL (n : Nat) (ws : List Nat) : List Nat := (List.range (2 ^ n)).filter fun x => ws.all fun o => !K27.dot x o
theorem mem_conL {n x : Nat} {ws : List Nat} : x ∈ conL n ws ↔ x < 2 ^ n ∧ ∀ o ∈ ws, K27.dot x o = false := by
  unfold conL
  rw [List.mem_filter, List.mem_range, List.all_eq_true]
  simp only [Bool.not_eq_true']
theorem conL_len (n : Nat) (ws : List Nat) : (conL n ws).length ≤ 2 ^ n := by
  refine Nat.le_trans (List.length_filter_le _ _) ?_
  rw [List.length_range]
  exact Nat.le_refl _
theorem p12 {n : Nat} (h : n ≤ 12) : 2 ^ n ≤ 4096 := Nat.le_trans (Nat.pow_le_pow_right (by decide) h) (by decide)
def spLCon : Sp := fun vs H Q _ => ∃ (n : Nat) (b : Addr) (ws : List Nat), vs = [vI n, .ref b] ∧ H b = some (.lst (vW ws)) ∧ n ≤ 12 ∧ ws.length ≤ 99 ∧ RetN (conL n ws) H Q
abbrev nLCon : List Str := ["_law_places", "_law_words", "_law_word", "_law_one"]
theorem scLCon : FnScope nLCon ["_law_places", "_law_words"] (defScope sLawContrary) := ⟨rfl, rfl, rfl, by decide +kernel, rfl, by decide +kernel, by decide +kernel⟩
/-- the block of the outer comprehension -/
def conScope : Scope := { kind := .function, names := [(".0", .local), ("_law_word", .cell), ("all", .globalImplicit), ("_law_words", .cell)], isGenerator := false, isCoroutine := false }
theorem ok_lcontrary (T : Txt K mg CT CR fTI fRI gP pP fB fH fE aH) : Ok P w K mg base 3 "_law_contrary" ["_law_places", "_law_words"] spLCon := by
  obtain ⟨f1, fd1, G1, m1, k1, b1⟩ := ok_leven (P := P) (w := w) (base := base) T
  refine ok_of T.dLawContrary scLCon (fun vs H Q E h => ?_) (fun f cdv A outer s H vs Q E hr h => ?_)
  · obtain ⟨n, b, ws, rfl, _⟩ := h
    rfl
  · obtain ⟨n, b, ws, rfl, hb, hn, hlen, k⟩ := h
    refine ⟨_, pss_one (ps_ret (pe_lc (own := [("_law_word", 2)]) (g := gName 2) rfl scLCon.nd (pi_range1 (by rfl) T.z_range (pa_cons (pe_op op_shlN pe_int (pv 0)) pa_nil)) (blkOk_by (own := [("_law_word", 2)]) (N := nLCon) (sc := defScope sLawContrary) (by decide +kernel))
            (fun _ _ _ _ _ => pg_name (i := 2) scLCon.nd rfl (Or.inr rfl))
            (fun _ _ _ _ _ => pts_one (pt_val (pe_callB (r := rAll K) (cr_all rfl) (by rfl) T.z_all PyProof.Rows.boot_all (pa_cons (pe_lc (wi := iList K (tVar 1)) (own := [("_law_one", 3)]) (g := gName 3) (tt := tYes) rfl scLCon.nd (pi_list (pv 1)) (blkOk_by (own := [("_law_one", 3)]) (N := nLCon) (sc := conScope) (by decide +kernel))
              (fun _ _ _ _ _ => pg_name (i := 3) scLCon.nd rfl (Or.inl rfl)) (fun _ _ _ _ _ => pts_nil)
              (fun _ _ _ _ _ => pe_call G1 hr rfl m1 k1 b1 .nil pass0 (pa_cons (pv 2) (pa_cons (pv 3) pa_nil)))) pa_nil))))
            (fun _ _ _ _ _ => pv 2))), ?_⟩
    have h12 := p12 hn
    refine s_retL (xs := vW (conL n ws)) (el_compR (n := 2 ^ n) (fun x => ws.all fun o => !K27.dot x o) vI (ea_cons (ev_is (ev_n2 (ev_k 1) (ev_var rfl) ⟨(show 1 < 2 ^ 60 by decide), (show n ≤ 1000 by omega)⟩) (by rw [one_shl])) ea_nil) (by omega) (fun _ => rfl) (fun i H1 e hi => ?_) (fun i H1 e hi hf => ev_var rfl)) k
    have hcm := el_compL (K := K) (σ := [some (vI n), some (.ref b), some (vI i), none]) (H := H1) (tl := tVar 1) (te := tCall spLEven [] E0 (tCons (tVar 2) (tCons (tVar 3) tNil))) (t := tYes)
      (a := b) (B := ws) (d := 0) (f := vI) (j := 3) (vs := [3]) (fun _ => true) (fun o => .bl (!K27.dot i o)) (ev_var rfl) (SqL.of (e _ _ hb)) (by omega) (fun _ => rfl) (fun _ _ _ _ => et_yes) (fun o H3 e3 _ _ => ev_callV (ea_cons (ev_var rfl) (ea_cons (ev_var rfl) ea_nil)) fun H4 e4 Q q E => ⟨i, o, rfl, by omega, q⟩)
    rw [filter_yes] at hcm
    refine et_B (ev_is (ev_all (bs := ws.map fun o => !K27.dot i o) (el_is hcm ?_)) ?_)
    · rw [List.map_map]
      rfl
    · rw [List.all_map]
      rfl
end
end K27W
set_option maxHeartbeats 4000000
/-! K27L3: _law_still, _law_sequence, _law_led, _law_paired. -/
namespace K27W
open PySem PySem.Spec L2 Evl
/-! ### loops over draws -/
def taC (vs : List V) : TA := fun _ H Q => Q vs H
theorem ea_taC {vs : List V} {σ : L2.St} {H : Hp} : EvA (taC vs) σ H vs := fun H1 _ _ q => q H1 (Ex.refl H1)
theorem q_forDraw {σ : L2.St} {H : Hp} {ta tb : TE} {a : Addr} {m j : Nat} {E : XK} {D : Ends} {tu tz : TS} (h1 : Ev ta σ H (.ref a)) (h2 : Ev tb σ H (vI m)) (hp : PotAt a H) (hm : 1 ≤ m ∧ m ≤ 10000) (Pv : Nat → Nat → L2.St → Hp → Prop)
    (h0 : ∀ d H2, d < m → ExA a H H2 → PotAt a H2 → Pv d 0 σ H2) (hs : ∀ d i σ' H', d < m → i < d → Pv d i σ' H' → tu { D with nx := Pv d (i + 1), ct := Pv d (i + 1), bk := tz D } (σ'.set j (some (vI i))) H') (hd : ∀ d σ' H', d < m → Pv d d σ' H' → tz D σ' H') :
    tSeq (tFor (iRng1 (tCons (tCall spDraw [] E (tCons ta (tCons tb tNil))) tNil)) (gName j) tu) tz D σ H :=
  te_draw h1 h2 hp ⟨hm.1, by omega⟩ fun d H2 hd' e2 p2 => q_forN (ta := taC [vI d]) (σ := σ) (H := H2) (n := d) ea_taC (by omega) (Pv d) (fun H3 e3 => h0 d H3 hd' (e2.trans (ex_pot e3 a)) (p2.mono e3)) (fun i σ' H' hi p => hs d i σ' H' hd' hi p) (fun σ' H' p => hd d σ' H' hd' p)
theorem ExA.mut {a b : Addr} {H H' : Hp} {o : HO} (e : ExA a H H') (h : H b = none) : ExA a H (upd H' b o) := fun c u hc hu => by
  rw [upd_ne (ne_of_none hu h)]
  exact e c u hc hu
theorem PotAt.upd {a b : Addr} {H : Hp} {o : HO} (p : PotAt a H) (h : b ≠ a) : PotAt a (upd H b o) := by
  obtain ⟨x, y, h1, h2⟩ := p.ex
  exact ⟨x, y, by rw [upd_ne (Ne.symm h)]; exact h1, h2⟩
theorem PotAt.ne {a b : Addr} {H : Hp} (p : PotAt a H) (h : H b = none) : b ≠ a := fun z => by
  obtain ⟨x, y, h1, _⟩ := p.ex
  rw [z, h1] at h
  cases h
section
variable {P : Program} {w : World} {K : PySem.W.Frag} {mg : Str → Option Value} {base : Heap} {CT CR fTI fRI gP pP fB fH fE aH : Addr}
/-! ### _law_still -/
/-- a new list of still words, drawn -/
def RetS (a : Addr) (n m : Nat) (H : Hp) (Q : VK) : Prop := ∀ p H2 ws, H p = none → ExA a H H2 → PotAt a H2 → H2 p = some (.lst (vW ws)) → ws.length ≤ m → (∀ x ∈ ws, x < 2 ^ n) → K27.Still ws → Q (.ref p) H2
def spLStill : Sp := fun vs H Q _ => ∃ (a : Addr) (n m : Nat), vs = [.ref a, vI n, vI m] ∧ PotAt a H ∧ n ≤ 12 ∧ m ≤ 10 ∧ RetS a n m H Q
abbrev nLStill : List Str := ["_law_pot_here", "_law_places", "_law_most", "_law_found", "_law_turn", "_law_left", "_law_word"]
theorem scLStill : FnScope nLStill ["_law_pot_here", "_law_places", "_law_most"] (defScope sLawStill) := ⟨rfl, rfl, rfl, by decide +kernel, rfl, by decide +kernel, by decide +kernel⟩
theorem ok_lstill (T : Txt K mg CT CR fTI fRI gP pP fB fH fE aH) : Ok P w K mg base 4 "_law_still" ["_law_pot_here", "_law_places", "_law_most"] spLStill := by
  obtain ⟨f1, fd1, G1, m1, k1, b1⟩ := ok_draw (P := P) (w := w) (base := base) T
  obtain ⟨f2, fd2, G2, m2, k2, b2⟩ := ok_pick (P := P) (w := w) (base := base) T
  obtain ⟨f3, fd3, G3, m3, k3, b3⟩ := ok_lcontrary (P := P) (w := w) (base := base) T
  obtain ⟨f4, fd4, G4, m4, k4, b4⟩ := ok_lweight (P := P) (w := w) (base := base) T
  refine ok_of T.dLawStill scLStill (fun vs H Q E h => ?_) (fun f cdv A outer s H vs Q E hr h => ?_)
  · obtain ⟨a, n, m, rfl, _⟩ := h
    rfl
  · obtain ⟨a, n, m, rfl, hp, hn, hm, k⟩ := h
    refine ⟨_, pss_cons (ps_set (i := 3) scLStill.nd rfl (Or.inl rfl) (pe_lst pa_nil))
      (pss_cons (ps_for PassesOwn.never rfl (pi_range1 (by rfl) T.z_range (pa_cons (pe_call G1 (hr.mono (by decide)) rfl m1 k1 b1 .nil pass0 (pa_cons (pv 0) (pa_cons (pe_op op_addNN (pv 2) pe_int) pa_nil))) pa_nil)) (pg_name (i := 4) scLStill.nd rfl (Or.inl rfl))
        (pss_cons (ps_setLc (i := 5) (own := [("_law_word", 6)]) (g := gName 6) rfl scLStill.nd rfl rfl (sw_true rfl rfl rfl (by decide +kernel)) (pi_list (pe_call G3 hr rfl m3 k3 b3 .nil pass0 (pa_cons (pv 1) (pa_cons (pv 3) pa_nil)))) (blkOk_by (own := [("_law_word", 6)]) (N := nLStill) (sc := defScope sLawStill) (by decide +kernel))
            (fun _ _ _ _ _ => pg_name (i := 6) scLStill.nd rfl (Or.inl rfl)) (fun _ _ _ _ _ => pts_one (pt_cmpR op_eqN (pe_op op_modNN (pe_call G4 (hr.mono (by decide)) rfl m4 k4 b4 .nil pass0 (pa_cons (pv 6) pa_nil)) pe_int) pe_int (nomark _)))
            (fun _ _ _ _ _ => pv 6))
        (pss_one (ps_expr (pe_bm PySem.F.plainAttrs_list PySem.F.slot_list_append PySem.F.type_list_append mt_append (pv 3) (pa_cons (pe_call G2 (hr.mono (by decide)) rfl m2 k2 b2 .nil pass0 (pa_cons (pv 0) (pa_cons (pv 5) pa_nil))) pa_nil))))))
      (pss_one (ps_ret (pv 3)))), ?_⟩
    refine q_asgL (xs := []) (el_lst ea_nil (by show 0 ≤ 100000; decide)) fun fo H1 hfo e1 h1 => ?_
    have hne : fo ≠ a := hp.ne hfo
    refine q_forDraw (a := a) (m := m + 1) (ev_var rfl) (ev_n2 (ev_var rfl) (ev_k 1) True.intro) (hp.mono e1) ⟨by omega, by omega⟩ (fun d i σ' H' => ∃ v4 v5 ws, σ' = [some (.ref a), some (vI n), some (vI m), some (.ref fo), v4, v5, none] ∧ ExA a H H' ∧ PotAt a H' ∧ H' fo = some (.lst (vW ws)) ∧ ws.length = i ∧ (∀ x ∈ ws, x < 2 ^ n) ∧ K27.Still ws) ?_ ?_ ?_
    · intro d H2 _ e2 p2
      exact ⟨none, none, [], rfl, (ex_pot e1 a).trans e2, p2, e2 _ _ hne h1, rfl, (fun x hx => by cases hx), (fun x hx => by cases hx)⟩
    · rintro d i σ' H' hdm hi ⟨v4, v5, ws, rfl, e, p, hf, hl, hlt, hst⟩
      have h12 := p12 hn
      refine q_asgL (xs := vW ((conL n ws).filter fun x => decide (K27.cnt 24 x % 2 = 0))) ?_ fun le H2 hle e2 h2 => ?_
      · refine el_compNL (B := conL n ws) (d := 0) (f := vI) (fun x => decide (K27.cnt 24 x % 2 = 0)) vI (el_callN (ea_cons (ev_var rfl) (ea_cons (ev_var rfl) ea_nil)) fun H3 e3 Q q E => ⟨n, fo, ws, rfl, e3 _ _ hf, hn, by omega, q⟩) (by have := conL_len n ws; omega) (fun _ => rfl) (fun x H3 e3 hx => ?_) (fun x H3 e3 hx _ => ev_var rfl)
        have hx' := (mem_conL.mp hx).1
        exact et_c2 (ev_n2 (ev_callV (ea_cons (ev_var rfl) ea_nil) fun H4 e4 Q q E => ⟨x, rfl, by omega, q⟩) (ev_k 2) (by decide)) (ev_k 0)
      · have hf2 := e2 _ _ hf
        have hlea : le ≠ a := p.ne hle
        have h0m : 0 ∈ (conL n ws).filter fun x => decide (K27.cnt 24 x % 2 = 0) := by
          refine List.mem_filter.mpr ⟨mem_conL.mpr ⟨Nat.two_pow_pos n, fun o _ => K27.dot_zero o⟩, ?_⟩
          rw [K27.cnt_zero]
          rfl
        refine ⟨_, rfl, Or.inl ⟨rfl, _, SqL.of hf2⟩, ?_⟩
        refine te_pick (a := a) (b := le) (ev_var rfl) (ev_var rfl) (p.mono e2) hlea h2 ⟨List.length_pos_of_mem h0m, by have := conL_len n ws; have := List.length_filter_le (fun x => decide (K27.cnt 24 x % 2 = 0)) (conL n ws); omega⟩ fun x H3 hx e3 p3 => ?_
        obtain ⟨hx1, hx2⟩ := List.mem_filter.mp hx
        obtain ⟨hx3, hx4⟩ := mem_conL.mp hx1
        have hpar : K27.par x = false := by
          have := of_decide_eq_true hx2
          show K27.parN 24 x = false
          rw [← K27.cnt_par]
          exact decide_eq_false (by omega)
        refine ⟨fo, vW ws, vI x, rfl, rfl, e3 _ _ hne hf2, sl_lt (by rw [vW_len]; omega), ?_⟩
        refine ⟨_, _, ws ++ [x], rfl, ExA.mut ((e.trans (ex_pot e2 a)).trans e3) hfo, p3.upd hne, ?_, by rw [List.length_append, hl]; rfl, fun y hy => ?_, K27.Still.snoc hst (fun b hb => hx4 b hb) (by rw [K27.dot_self]; exact hpar)⟩
        · rw [upd_same]
          unfold vW
          rw [List.map_append]
          rfl
        · rcases List.mem_append.mp hy with hy | hy
          · exact hlt y hy
          · rw [List.mem_singleton.mp hy]
            exact hx3
    · rintro d σ' H' hdm ⟨v4, v5, ws, rfl, e, p, hf, hl, hlt, hst⟩
      refine s_ret (ev_var rfl) fun H2 e2 => ?_
      exact k fo H2 ws hfo (e.trans (ex_pot e2 a)) (p.mono e2) (e2 _ _ hf) (by omega) hlt hst
/-! ### _law_sequence -/
def spLSeq : Sp := fun vs H Q _ => ∃ (a : Addr) (n : Nat), vs = [.ref a, vI n] ∧ PotAt a H ∧ n ≤ 12 ∧ ∀ p H2 s, H p = none → ExA a H H2 → PotAt a H2 → H2 p = some (.lst (vW s)) → s.Perm (List.range n) → Q (.ref p) H2
theorem scLSeq : FnScope ["_law_pot_here", "_law_places", "_law_left", "_law_found"] ["_law_pot_here", "_law_places"] (defScope sLawSequence) := ⟨rfl, rfl, rfl, by decide +kernel, rfl, by decide +kernel, by decide +kernel⟩
theorem dp_list {H : Hp} {a : Addr} {ws : List Nat} (h : SqL K H a (vW ws)) : Dp K H (.ref a) (.list (ws.map fun n : Nat => PyData.int (n : Int))) := .lst h (dp_vW ws)
theorem eqv_nil (ws : List Nat) : PyData.eqv (.list (ws.map fun n : Nat => PyData.int (n : Int))) (.list []) = decide (ws = []) := by
  cases ws with
  | nil => rfl
  | cons w ws => rfl
theorem el_listRg {σ : L2.St} {H : Hp} {ta : TE} {n : Nat} (h : Ev ta σ H (vI n)) (hn : n ≤ 10000) : EvL (tLstRg (tRg1 ta)) σ H (vW (List.range n)) := fun H1 e Q q =>
  h H1 e _ fun H2 e2 => ⟨_, rfl, RgOk.of_le (by decide) (by omega) (by decide) (by omega), fun p hp => q p _ (fresh_back e2 hp) (e2.trans (Ex.new hp)) (by
    rw [upd_same]
    unfold rgV vW
    have e3 : ((n : Int) - 0).toNat = n := by omega
    rw [e3]
    congr 2
    refine List.map_congr_left fun i _ => ?_
    rw [Int.zero_add])⟩
theorem q_parLL {σ : L2.St} {H : Hp} {ta tb : TE} {xs ys : List V} {i j : Nat} {D : Ends} {tz : TS} (h1 : EvL ta σ H xs) (h2 : EvL tb σ H ys) (k : ∀ p q H1, H p = none → H q = none → p ≠ q → Ex H H1 → H1 p = some (.lst xs) → H1 q = some (.lst ys) → tz D ((σ.set i (some (.ref p))).set j (some (.ref q))) H1) : tSeq (tPar i j (tCons ta (tCons tb tNil))) tz D σ H :=
  h1 H (Ex.refl H) _ fun p H1 hp e1 hx => h2 H1 e1 _ fun q H2 hq e2 hy => ⟨_, _, rfl, k p q H2 hp (fresh_back e1 hq) (fun z => by rw [z, hq] at hx; cases hx) (e1.trans e2) (e2 _ _ hx) hy⟩
theorem erase_perm {L : List Nat} {d : Nat} (hd : d < L.length) : (L[d] :: L.eraseIdx d).Perm L := by
  have e : L = L.take d ++ L[d] :: L.drop (d + 1) := by
    conv => lhs; rw [← List.take_append_drop d L, List.drop_eq_getElem_cons hd]
  have e2 : L.eraseIdx d = L.take d ++ L.drop (d + 1) := List.eraseIdx_eq_take_drop_succ L d
  rw [e2]
  have p : (L.take d ++ L[d] :: L.drop (d + 1)).Perm (L[d] :: (L.take d ++ L.drop (d + 1))) := List.perm_middle
  rw [← e] at p
  exact p.symm
theorem ok_lseq (T : Txt K mg CT CR fTI fRI gP pP fB fH fE aH) : Ok P w K mg base 2 "_law_sequence" ["_law_pot_here", "_law_places"] spLSeq := by
  obtain ⟨f1, fd1, G1, m1, k1, b1⟩ := ok_draw (P := P) (w := w) (base := base) T
  refine ok_of T.dLawSequence scLSeq (fun vs H Q E h => ?_) (fun f cdv A outer s H vs Q E hr h => ?_)
  · obtain ⟨a, n, rfl, _⟩ := h
    rfl
  · obtain ⟨a, n, rfl, hp, hn, k⟩ := h
    refine ⟨_, pss_cons (ps_par (i := 2) (j := 3) rfl scLSeq.nd rfl rfl (by decide) rfl rfl (pa_cons (pe_listRg rfl (by rfl) T.z_list (prg_1 (by rfl) T.z_range (pv 1))) (pa_cons (pe_lst pa_nil) pa_nil)) rfl)
      (pss_cons (ps_while PassesOwn.never (pt_cmpR (op_neD hr.units) (pv 2) (pe_lst pa_nil) (nomark _))
        (pss_one (ps_expr (pe_bm PySem.F.plainAttrs_list PySem.F.slot_list_append PySem.F.type_list_append mt_append (pv 3) (pa_cons (pe_bm PySem.F.plainAttrs_list PySem.F.slot_list_pop PySem.F.type_list_pop mt_popAt (pv 2) (pa_cons (pe_call G1 hr rfl m1 k1 b1 .nil pass0 (pa_cons (pv 0) (pa_cons (pe_callB call_len_seq (by rfl) T.z_len PySem.boot_len (pa_cons (pv 2) pa_nil)) pa_nil))) pa_nil)) pa_nil)))))
      (pss_one (ps_ret (pv 3)))), ?_⟩
    refine q_parLL (el_listRg (n := n) (ev_var rfl) (by omega)) (el_lst ea_nil (by show 0 ≤ 100000; decide)) fun le fo H1 hle hfo hlf e1 h1 h2 => ?_
    have hlea : le ≠ a := hp.ne hle
    have hfoa : fo ≠ a := hp.ne hfo
    refine q_while (fun m σ' H' => ∃ L F : List Nat, σ' = [some (.ref a), some (vI n), some (.ref le), some (.ref fo)] ∧ L.length = m ∧ (F ++ L).Perm (List.range n) ∧ ExA a H H' ∧ PotAt a H' ∧ H' le = some (.lst (vW L)) ∧ H' fo = some (.lst (vW F))) n ⟨List.range n, [], rfl, List.length_range, List.Perm.refl _, ex_pot e1 a, hp.mono e1, h1, h2⟩ ?_
    rintro m σ' H' ⟨L, F, rfl, hlen, hperm, e, p, hL, hF⟩
    have hsum : F.length + L.length = n := by
      have := hperm.length_eq
      rw [List.length_append, List.length_range] at this
      exact this
    refine ⟨!decide (L = []), et_test (ev_opL (xs := []) (ev_var rfl) (el_lst ea_nil (by show 0 ≤ 100000; decide)) fun q H2 hq e2 => rv_val fun H3 e3 Q qq => ?_), fun hz H2 e2 => ?_, fun hz H2 e2 => ?_⟩
    · exact ⟨_, _, dp_list (SqL.of ((e2.trans e3) _ _ hL)), .lst (ds := []) (SqL.of (e3 _ _ hq)) .nil, listD_shaped L, listD_shaped [], by
      show Q (.bl (!PyData.eqv (.list (L.map fun n : Nat => PyData.int (n : Int))) (.list []))) H3
      rw [eqv_nil]
      exact qq⟩
    · have hL0 : L ≠ [] := fun z => by rw [decide_eq_true z] at hz; cases hz
      have hpos : 0 < L.length := List.length_pos_iff.mpr hL0
      have hL2 := e2 _ _ hL
      have hF2 := e2 _ _ hF
      refine ⟨fun σ' H' => ∃ L F : List Nat, σ' = [some (.ref a), some (vI n), some (.ref le), some (.ref fo)] ∧ L.length = m - 1 ∧ (F ++ L).Perm (List.range n) ∧ ExA a H H' ∧ PotAt a H' ∧ H' le = some (.lst (vW L)) ∧ H' fo = some (.lst (vW F)), fun σ2 H3 h3 => ⟨m - 1, by omega, h3⟩, ?_⟩
      refine ⟨_, rfl, Or.inl ⟨rfl, _, SqL.of hF2⟩, _, rfl, Or.inl ⟨rfl, _, SqL.of hL2⟩, ?_⟩
      refine te_draw (m := L.length) (ev_var rfl) (ev_is (ev_lenV (ev_var rfl) (.inl (SqL.of hL2))) (by rw [vW_len])) (p.mono e2) ⟨hpos, by omega⟩ fun d H3 hd e3 p3 => ?_
      have hL3 := e3 _ _ hlea hL2
      have hF3 := e3 _ _ hfoa hF2
      have hget : (vW L)[d]? = some (vI L[d]) := by
        rw [List.getElem?_map, List.getElem?_eq_getElem hd]
        rfl
      have hsq : seqIndex? (d : Int) (vW L).length = some d := (ixN_seq (ixN_nat (by rw [vW_len]; exact hd))).1
      have hF4 : upd H3 le (.lst ((vW L).eraseIdx d)) fo = some (.lst (vW F)) := by
        rw [upd_ne (Ne.symm hlf)]
        exact hF3
      refine ⟨le, vW L, (d : Int), d, vI L[d], rfl, rfl, hL3, by omega, by omega, hsq, hget, fo, vW F, vI L[d], rfl, rfl, hF4, sl_lt (by rw [vW_len]; omega), ?_⟩
      refine ⟨L.eraseIdx d, F ++ [L[d]], rfl, by rw [List.length_eraseIdx_of_lt hd, hlen], ?_, ExA.mut (ExA.mut ((e.trans (ex_pot e2 a)).trans e3) hle) hfo, (p3.upd hlea).upd hfoa, ?_, ?_⟩
      · have h5 : (F ++ L[d] :: L.eraseIdx d).Perm (F ++ L) := (erase_perm hd).append_left F
        rw [List.append_assoc]
        exact h5.trans hperm
      · rw [upd_ne hlf, upd_same]
        unfold vW
        rw [List.eraseIdx_eq_take_drop_succ, List.eraseIdx_eq_take_drop_succ, List.map_append, List.map_take, List.map_drop]
      · rw [upd_same]
        unfold vW
        rw [List.map_append]
        rfl
    · have hL0 : L = [] := by
        by_cases z : L = []
        · exact z
        · rw [decide_eq_false z] at hz
          cases hz
      subst hL0
      rw [List.append_nil] at hperm
      refine s_ret (ev_var rfl) fun H3 e3 => ?_
      exact k fo H3 F hfo (e.trans (ex_pot (e2.trans e3) a)) (p.mono (e2.trans e3)) ((e2.trans e3) _ _ hF) hperm
end
end K27W
set_option maxHeartbeats 4000000
/-! K27L4: _law_led, _law_paired, _law_whole. -/
namespace K27W
open PySem PySem.Spec L2 Evl
section
variable {P : Program} {w : World} {K : PySem.W.Frag} {mg : Str → Option Value} {base : Heap} {CT CR fTI fRI gP pP fB fH fE aH : Addr}
/-! ### _law_led -/
def spLed : Sp := fun vs H Q _ => ∃ (u : Nat) (b : Addr) (s : List Nat), vs = [vI u, .ref b] ∧ H b = some (.lst (vW s)) ∧ (∀ c ∈ s, c ≤ 1000) ∧ RetV (vI (K27.ledP s u s.length)) H Q
theorem scLed : FnScope ["_law_word", "_law_sequence_here", "_law_found", "_law_place", "_law_to"] ["_law_word", "_law_sequence_here"] (defScope sLawLed) := ⟨rfl, rfl, rfl, by decide +kernel, rfl, by decide +kernel, by decide +kernel⟩
theorem ok_led (T : Txt K mg CT CR fTI fRI gP pP fB fH fE aH) : Ok P w K mg base 1 "_law_led" ["_law_word", "_law_sequence_here"] spLed := by
  refine ok_of T.dLawLed scLed (fun vs H Q E h => ?_) (fun f cdv A outer sh H vs Q E hr h => ?_)
  · obtain ⟨u, b, s, rfl, _⟩ := h
    rfl
  · obtain ⟨u, b, s, rfl, hb, hs, k⟩ := h
    refine ⟨_, pss_cons (ps_set (i := 2) scLed.nd rfl (Or.inl rfl) pe_int)
      (pss_cons (ps_for PassesOwn.never rfl (pi_enum (by rfl) T.z_enumerate (pa_cons (pv 1) pa_nil)) (pg_tup rfl (pgs_cons (pg_name (i := 3) scLed.nd rfl (Or.inl rfl)) (pgs_cons (pg_name (i := 4) scLed.nd rfl (Or.inl rfl)) pgs_nil)))
        (pss_one (ps_if (pt_cmpR op_eqN (pe_op op_andN (pe_op op_shrN (pv 0) (pv 3)) pe_int) pe_int (nomark _)) (pss_one (ps_set (i := 2) scLed.nd rfl (Or.inl rfl) (pe_op op_orN (pv 2) (pe_op op_shlN pe_int (pv 4))))) pss_nil)))
      (pss_one (ps_ret (pv 2)))), ?_⟩
    refine q_asg (v := vI 0) (ev_k 0) fun H1 e1 => ?_
    have hb1 := e1 _ _ hb
    refine ⟨_, rfl, b, vW s, rfl, SqL.of hb1, for_it (walk_enum (xs := vW s)) (fun i σ' H' => ∃ v3 v4, σ' = [some (vI u), some (.ref b), some (vI (K27.ledP s u i)), v3, v4] ∧ Ex H H') ⟨none, none, rfl, e1⟩ (fun i σ' H' _ ⟨_, _, _, e⟩ => SqL.of (e _ _ hb)) ?_ ?_⟩
    · rintro i x σ' H' H'' hi ⟨v3, v4, rfl, e⟩ ⟨Tt, x1, y1, rfl, hT, rfl, hx1, hy1⟩
      obtain ⟨c, hc, rfl⟩ := vW_get hy1
      cases hx1
      refine ⟨Tt, _, rfl, SqT.of upd_same, rfl, _, _, rfl, _, _, rfl, rfl, ?_⟩
      have e' : Ex H (upd H' Tt (.tup [.int (i : Nat), vI c])) := e.trans (Ex.new hT)
      have hcg : s.getD i 0 = c := getD_of hc
      have hcm : c ≤ 1000 := hs c (mem_of_get hc)
      refine s_when (b := u.testBit i) (et_is (et_c2 (ev_n2 (ev_n2 (ev_var rfl) (ev_var (v := vI i) rfl) True.intro) (ev_k 1) True.intro) (ev_k 1)) (K27.bit_dec u i)) (fun hz H3 e3 => ?_) (fun hz H3 e3 => ?_)
      · have ez : K27.ledP s u (i + 1) = K27.ledP s u i ||| (1 <<< c) := by
          show (if u.testBit i then K27.ledP s u i ||| (1 <<< s.getD i 0) else K27.ledP s u i) = _
          rw [if_pos hz, hcg]
        refine s_asg (v := vI (K27.ledP s u (i + 1))) ?_ fun H4 e4 => ⟨_, _, rfl, (e'.trans e3).trans e4⟩
        rw [ez]
        exact ev_n2 (ev_var rfl) (ev_n2 (ev_k 1) (ev_var rfl) ⟨by decide, hcm⟩) True.intro
      · have ez : K27.ledP s u (i + 1) = K27.ledP s u i := by
          show (if u.testBit i then K27.ledP s u i ||| (1 <<< s.getD i 0) else K27.ledP s u i) = _
          rw [if_neg (by rw [hz]; exact Bool.false_ne_true)]
        exact ⟨some (.int (i : Nat)), some (vI c), by rw [ez]; rfl, e'.trans e3⟩
    · rintro σ' H' ⟨v3, v4, rfl, e⟩
      rw [vW_len]
      show tRet (tVar 2) { nx := fun _ H' => Q .non H', rt := Q } [some (vI u), some (.ref b), some (vI (K27.ledP s u s.length)), v3, v4] H'
      exact s_ret (ev_var rfl) fun H2 e2 => k H2 (e.trans e2)
/-! ### _law_whole -/
def spWhole : Sp := fun vs H Q _ => ∃ p : Nat, vs = [vI p] ∧ p ≤ 100 ∧ RetN ((List.range p).map fun k => 3 <<< (2 * k)) H Q
theorem scWhole : FnScope ["_law_pairs", "_law_at"] ["_law_pairs"] (defScope sLawWhole) := ⟨rfl, rfl, rfl, by decide +kernel, rfl, by decide +kernel, by decide +kernel⟩
theorem ok_whole (T : Txt K mg CT CR fTI fRI gP pP fB fH fE aH) : Ok P w K mg base 1 "_law_whole" ["_law_pairs"] spWhole := by
  refine ok_of T.dLawWhole scWhole (fun vs H Q E h => ?_) (fun f cdv A outer sh H vs Q E hr h => ?_)
  · obtain ⟨p, rfl, _⟩ := h
    rfl
  · obtain ⟨p, rfl, hp, k⟩ := h
    refine ⟨_, pss_one (ps_ret (pe_lc (own := [("_law_at", 1)]) (g := gName 1) (tt := tYes) rfl scWhole.nd (pi_range1 (by rfl) T.z_range (pa_cons (pv 0) pa_nil)) (blkOk_by (own := [("_law_at", 1)]) (N := ["_law_pairs", "_law_at"]) (sc := defScope sLawWhole) (by decide +kernel))
            (fun _ _ _ _ _ => pg_name (i := 1) scWhole.nd rfl (Or.inl rfl)) (fun _ _ _ _ _ => pts_nil)
            (fun _ _ _ _ _ => pe_op op_shlN pe_int (pe_op op_mulNN pe_int (pv 1))))), ?_⟩
    have hc := el_compR (σ := [some (vI p), none]) (H := H) (ta := tCons (tVar 0) tNil) (t := tYes) (te := tOp (rN2 (fun n m => n < 2 ^ 60 ∧ m ≤ 1000) fun n m => n <<< m) (tC (.int ((3 : Nat) : Int))) (tOp (rN2 (fun n _ => n < 2 ^ 60) fun n m => n * m) (tC (.int ((2 : Nat) : Int))) (tVar 1))) (n := p) (j := 1) (vs := [1]) (fun _ => true) (fun k => vI (3 <<< (2 * k))) (ea_cons (ev_var rfl) ea_nil) (by omega) (fun _ => rfl) (fun i H1 e hi => et_yes)
      (fun i H1 e hi _ => ev_n2 (ev_k 3) (ev_n2 (ev_k 2) (ev_var rfl) (by decide)) ⟨by decide, by omega⟩)
    rw [filter_yes] at hc
    refine s_retL (xs := vW ((List.range p).map fun k => 3 <<< (2 * k))) (el_is hc ?_) k
    unfold vW
    rw [List.map_map]
    rfl
/-! ### _law_paired -/
theorem te_seq {σ : L2.St} {H : Hp} {ta tb : TE} {a : Addr} {n : Nat} {E : XK} {Q : VK} (h1 : Ev ta σ H (.ref a)) (h2 : Ev tb σ H (vI n)) (hp : PotAt a H) (hn : n ≤ 12)
    (k : ∀ p H2 s, H p = none → ExA a H H2 → PotAt a H2 → H2 p = some (.lst (vW s)) → s.Perm (List.range n) → Q (.ref p) H2) : tCall spLSeq [] E (tCons ta (tCons tb tNil)) σ H Q :=
  ea_cons h1 (ea_cons h2 ea_nil) H (Ex.refl H) _ fun H1 e1 => ⟨a, n, rfl, hp.mono e1, hn, fun p H2 s hp2 e2 p2 hs hperm => k p H2 s (fresh_back e1 hp2) ((ex_pot e1 a).trans e2) p2 hs hperm⟩
theorem q_parSeq {σ : L2.St} {H : Hp} {ta tb : TE} {a : Addr} {n i j : Nat} {E : XK} {D : Ends} {tz : TS} (h1 : Ev ta σ H (.ref a)) (h2 : Ev tb σ H (vI n)) (hp : PotAt a H) (hn : n ≤ 12)
    (k : ∀ p q H3 s, H p = none → H q = none → p ≠ q → ExA a H H3 → PotAt a H3 → H3 p = some (.lst (vW s)) → H3 q = some (.lst []) → s.Perm (List.range n) → tz D ((σ.set i (some (.ref p))).set j (some (.ref q))) H3) :
    tSeq (tPar i j (tCons (tCall spLSeq [] E (tCons ta (tCons tb tNil))) (tCons (tLst tNil) tNil))) tz D σ H := by
  show tCall spLSeq [] E (tCons ta (tCons tb tNil)) σ H (fun x H1 => (tCons (tLst tNil) tNil) σ H1 fun vs H2 => ∃ v w, x :: vs = [v, w] ∧ tz D ((σ.set i (some v)).set j (some w)) H2)
  refine te_seq h1 h2 hp hn fun p H2 s hp2 e2 p2 hs hperm => ?_
  refine ⟨by decide, fun q hq => ⟨_, _, rfl, ?_⟩⟩
  have e3 : Ex H2 (upd H2 q (.lst [])) := Ex.new hq
  exact k p q _ s hp2 (e2.back (p2.ne hq) hq) (fun z => by rw [z, hq] at hs; cases hs) (e2.trans (ex_pot e3 a)) (p2.mono e3) (e3 _ _ hs) upd_same hperm
theorem s_ifDraw {σ : L2.St} {H : Hp} {ta tb : TE} {a : Addr} {m : Nat} {E : XK} {D : Ends} {tu : TS} (h1 : Ev ta σ H (.ref a)) (h2 : Ev tb σ H (vI m)) (hp : PotAt a H) (hm : 1 ≤ m ∧ m ≤ 1000000)
    (k1 : ∀ H2, ExA a H H2 → PotAt a H2 → tu D σ H2) (k2 : ∀ H2, ExA a H H2 → PotAt a H2 → D.nx σ H2) :
    tIfS (tTest (tOp (rC2 fun n m => decide (n = m)) (tCall spDraw [] E (tCons ta (tCons tb tNil))) (tC (.int ((1 : Nat) : Int))))) tu tNext D σ H := by
  show tCall spDraw [] E (tCons ta (tCons tb tNil)) σ H (fun x H1 => tC (.int ((1 : Nat) : Int)) σ H1 fun y H2 => rC2 (fun n m => decide (n = m)) x y H2 fun z H3 => ∃ b, z = .bl b ∧ (if b = true then tu D σ H3 else tNext D σ H3))
  exact te_draw h1 h2 hp hm fun d H2 _ e2 p2 => ⟨d, 1, rfl, rfl, decide (d = 1), rfl, by
    cases decide (d = 1) with
    | true => exact k1 H2 e2 p2
    | false => exact k2 H2 e2 p2⟩
def spPaired : Sp := fun vs H Q _ => ∃ (a : Addr) (n m : Nat), vs = [.ref a, vI n, vI m] ∧ PotAt a H ∧ n ≤ 6 ∧ m ≤ 10 ∧ RetS a (2 * n) m H Q
abbrev nPaired : List Str := ["_law_pot_here", "_law_pairs", "_law_most", "_law_sequence_here", "_law_found", "_law_turn", "_law_word", "_law_pair"]
theorem scPaired : FnScope nPaired ["_law_pot_here", "_law_pairs", "_law_most"] (defScope sLawPaired) := ⟨rfl, rfl, rfl, by decide +kernel, rfl, by decide +kernel, by decide +kernel⟩
theorem ok_paired (T : Txt K mg CT CR fTI fRI gP pP fB fH fE aH) : Ok P w K mg base 3 "_law_paired" ["_law_pot_here", "_law_pairs", "_law_most"] spPaired := by
  obtain ⟨f1, fd1, G1, m1, k1, b1⟩ := ok_draw (P := P) (w := w) (base := base) T
  obtain ⟨f2, fd2, G2, m2, k2, b2⟩ := ok_lseq (P := P) (w := w) (base := base) T
  obtain ⟨f3, fd3, G3, m3, k3, b3⟩ := ok_led (P := P) (w := w) (base := base) T
  refine ok_of T.dLawPaired scPaired (fun vs H Q E h => ?_) (fun f cdv A outer sh H vs Q E hr h => ?_)
  · obtain ⟨a, n, m, rfl, _⟩ := h
    rfl
  · obtain ⟨a, n, m, rfl, hp, hn, hm, k⟩ := h
    refine ⟨_, pss_cons (ps_par (i := 3) (j := 4) rfl scPaired.nd rfl rfl (by decide) rfl rfl (pa_cons (pe_call G2 hr rfl m2 k2 b2 .nil pass0 (pa_cons (pv 0) (pa_cons (pe_op op_mulNN pe_int (pv 1)) pa_nil))) (pa_cons (pe_lst pa_nil) pa_nil)) rfl)
      (pss_cons (ps_for PassesOwn.never rfl (pi_range1 (by rfl) T.z_range (pa_cons (pe_call G1 (hr.mono (by decide)) rfl m1 k1 b1 .nil pass0 (pa_cons (pv 0) (pa_cons (pe_op op_addNN (pv 2) pe_int) pa_nil))) pa_nil)) (pg_name (i := 5) scPaired.nd rfl (Or.inl rfl))
        (pss_cons (ps_set (i := 6) scPaired.nd rfl (Or.inl rfl) pe_int)
        (pss_cons (ps_for PassesOwn.never rfl (pi_range1 (by rfl) T.z_range (pa_cons (pv 1) pa_nil)) (pg_name (i := 7) scPaired.nd rfl (Or.inl rfl))
          (pss_one (ps_if (pt_cmpR op_eqN (pe_call G1 (hr.mono (by decide)) rfl m1 k1 b1 .nil pass0 (pa_cons (pv 0) (pa_cons pe_int pa_nil))) pe_int (nomark _)) (pss_one (ps_set (i := 6) scPaired.nd rfl (Or.inl rfl) (pe_op op_xorN (pv 6) (pe_op op_shlN pe_int (pe_op op_mulNN pe_int (pv 7)))))) pss_nil)))
        (pss_one (ps_expr (pe_bm PySem.F.plainAttrs_list PySem.F.slot_list_append PySem.F.type_list_append mt_append (pv 4) (pa_cons (pe_call G3 (hr.mono (by decide)) rfl m3 k3 b3 .nil pass0 (pa_cons (pv 6) (pa_cons (pv 3) pa_nil))) pa_nil)))))))
      (pss_one (ps_ret (pv 4)))), ?_⟩
    refine q_parSeq (a := a) (n := 2 * n) (ev_var rfl) (ev_n2 (ev_k 2) (ev_var rfl) (by decide)) hp (by omega) fun sq fo H1 s hsq hfo hsf e1 p1 h1 h2 hperm => ?_
    obtain ⟨hnd, hsl, hsn⟩ := K27.perm_range hperm
    have hsqa : sq ≠ a := hp.ne hsq
    have hfoa : fo ≠ a := hp.ne hfo
    have hs1000 : ∀ c ∈ s, c ≤ 1000 := fun c hc => by
      have := List.mem_range.mp (hperm.mem_iff.mp hc)
      omega
    refine q_forDraw (a := a) (m := m + 1) (ev_var rfl) (ev_n2 (ev_var rfl) (ev_k 1) True.intro) p1 ⟨by omega, by omega⟩ (fun d i σ' H' => ∃ v5 v6 v7 ws, σ' = [some (.ref a), some (vI n), some (vI m), some (.ref sq), some (.ref fo), v5, v6, v7] ∧ ExA a H H' ∧ PotAt a H' ∧ H' sq = some (.lst (vW s)) ∧ H' fo = some (.lst (vW ws)) ∧ ws.length = i ∧ ∀ x ∈ ws, ∃ u, K27.PairW u ∧ x = K27.ledP s u (2 * n)) ?_ ?_ ?_
    · intro d H2 _ e2 p2
      exact ⟨none, none, none, [], rfl, e1.trans e2, p2, e2 _ _ hsqa h1, e2 _ _ hfoa h2, rfl, (fun x hx => by cases hx)⟩
    · rintro d i σ' H' hdm hi ⟨v5, v6, v7, ws, rfl, e, p, hS, hF, hl, hws⟩
      refine q_asg (v := vI 0) (ev_k 0) fun H2 e2 => ?_
      refine q_forN (n := n) (ea_cons (ev_var rfl) ea_nil) (by omega) (fun j σ' H3 => ∃ v7 u, σ' = [some (.ref a), some (vI n), some (vI m), some (.ref sq), some (.ref fo), some (vI i), some (vI u), v7] ∧ ExA a H' H3 ∧ PotAt a H3 ∧ K27.PairW u) ?_ ?_ ?_
      · intro H3 e3
        exact ⟨v7, 0, rfl, ex_pot (e2.trans e3) a, p.mono (e2.trans e3), K27.PairW.zero⟩
      · rintro j σ' H3 hj ⟨v7, u, rfl, e3, p3, hu⟩
        refine s_ifDraw (a := a) (m := 2) (ev_var rfl) (ev_k 2) p3 ⟨by decide, by decide⟩ (fun H4 e4 p4 => ?_) (fun H4 e4 p4 => ⟨_, u, rfl, e3.trans e4, p4, hu⟩)
        refine s_asg (v := vI (u ^^^ 3 <<< (2 * j))) (ev_n2 (ev_var rfl) (ev_n2 (ev_k 3) (ev_n2 (ev_k 2) (ev_var rfl) (by decide)) ⟨by decide, by omega⟩) True.intro) fun H5 e5 => ⟨_, _, rfl, (e3.trans e4).trans (ex_pot e5 a), p4.mono e5, hu.xor (K27.PairW.three j)⟩
      · rintro σ' H3 ⟨v7, u, rfl, e3, p3, hu⟩
        have hS3 := e3 _ _ hsqa hS
        have hF3 := e3 _ _ hfoa hF
        refine s_app hF3 (ev_var rfl) (v := vI (K27.ledP s u (2 * n))) (ev_is (ev_callV (ea_cons (ev_var rfl) (ea_cons (ev_var rfl) ea_nil)) fun H4 e4 Q q E => ⟨u, sq, s, rfl, e4 _ _ hS3, hs1000, q⟩) (by rw [hsl])) (by rw [vW_len]; omega) fun H4 e4 => ?_
        refine ⟨_, _, _, ws ++ [K27.ledP s u (2 * n)], rfl, ExA.mut ((e.trans e3).trans (ex_pot e4 a)) hfo, (p3.mono e4).upd hfoa, ?_, ?_, by rw [List.length_append, hl]; rfl, fun x hx => ?_⟩
        · rw [upd_ne hsf]
          exact e4 _ _ hS3
        · rw [upd_same]
          unfold vW
          rw [List.map_append]
          rfl
        · rcases List.mem_append.mp hx with hx | hx
          · exact hws x hx
          · exact ⟨u, hu, List.mem_singleton.mp hx⟩
    · rintro d σ' H' hdm ⟨v5, v6, v7, ws, rfl, e, p, hS, hF, hl, hws⟩
      refine s_ret (ev_var rfl) fun H2 e2 => ?_
      refine k fo H2 ws hfo (e.trans (ex_pot e2 a)) (p.mono e2) (e2 _ _ hF) (by omega) (fun x hx => ?_) (fun x hx y hy => ?_)
      · obtain ⟨u, hu, rfl⟩ := hws x hx
        exact K27.led_lt (fun k hk => by have := hsn k hk; omega) u (by omega)
      · obtain ⟨u, hu, rfl⟩ := hws x hx
        obtain ⟨v, hv, rfl⟩ := hws y hy
        exact K27.led_dot hnd hsl (by omega) (fun k hk => hsn k hk) hu hv
end
end K27W
set_option maxHeartbeats 4000000
/-! K27L5: _law_own_over. -/
namespace K27W
open PySem PySem.Spec L2 Evl
/-! ### lists of words as data -/
abbrev listD (ws : List Nat) : PyData := .list (ws.map fun n : Nat => PyData.int (n : Int))
theorem eqvAll_ints : ∀ a b : List Nat, PyData.eqvAll (a.map fun n : Nat => PyData.int (n : Int)) (b.map fun n : Nat => PyData.int (n : Int)) = decide (a = b)
  | [], [] => rfl
  | [], _ :: _ => rfl
  | _ :: _, [] => rfl
  | x :: a, y :: b => by
    have ih := eqvAll_ints a b
    show (PyData.eqv (.int (x : Int)) (.int (y : Int)) && PyData.eqvAll _ _) = _
    rw [ih]
    have e : PyData.eqv (.int (x : Int)) (.int (y : Int)) = decide (x = y) := eqV_vI x y
    rw [e]
    by_cases h : x = y
    · subst h
      rw [decide_eq_true rfl, Bool.true_and]
      by_cases h2 : a = b
      · rw [decide_eq_true h2, decide_eq_true (by rw [h2])]
      · rw [decide_eq_false h2, decide_eq_false (by intro z; injection z with _ z; exact h2 z)]
    · rw [decide_eq_false h, Bool.false_and, decide_eq_false (by intro z; injection z with z _; exact h z)]
theorem eqv_listD (a b : List Nat) : PyData.eqv (listD a) (listD b) = decide (a = b) := eqvAll_ints a b
theorem any_listD (M : List (List Nat)) (C : List Nat) : ((M.map listD).any fun z => PyData.eqv z (listD C)) = decide (C ∈ M) := by
  rw [List.any_map]
  by_cases h : C ∈ M
  · rw [decide_eq_true h, List.any_eq_true]
    exact ⟨C, h, by show PyData.eqv (listD C) (listD C) = true; rw [eqv_listD]; exact decide_eq_true rfl⟩
  · rw [decide_eq_false h, List.any_eq_false]
    intro x hx z
    have z' : PyData.eqv (listD x) (listD C) = true := z
    rw [eqv_listD] at z'
    exact h (of_decide_eq_true z' ▸ hx)
theorem lists_lay : ∀ M : List (List Nat), PyData.canLayAll0 (M.map listD) = true
  | [] => by simp [PyData.canLayAll0]
  | C :: M => by
    have h := ints_lay C
    simp [PyData.canLayAll0, PyData.canLay0, lists_lay M, h]
theorem lists_depth : ∀ M : List (List Nat), PyData.depthAll (M.map listD) ≤ 1
  | [] => by simp [PyData.depthAll]
  | C :: M => by
    have h1 := lists_depth M
    have h2 : (listD C).depth = 1 := by
      show (PyData.list (C.map fun n : Nat => PyData.int (n : Int))).depth = 1
      simp only [PyData.depth]
      rw [ints_depth]
    simp only [List.map_cons, PyData.depthAll]
    omega
theorem lists_shaped (M : List (List Nat)) : SeqAt.shaped (.list (M.map listD)) = true := by
  show (PyData.canLay0 (.list (M.map listD)) && decide (PyData.depth (.list (M.map listD)) ≤ 64)) = true
  rw [Bool.and_eq_true]
  refine ⟨by simp only [PyData.canLay0]; exact lists_lay M, decide_eq_true ?_⟩
  have := lists_depth M
  simp only [PyData.depth]
  omega
/-- a list of lists of words -/
structure LRows (H : Hp) (p : Addr) (rows : List (Addr × List Nat)) : Prop where
  lst : H p = some (.lst (rows.map fun r => V.ref r.1))
  rows_ : ∀ r ∈ rows, H r.1 = some (.lst (vW r.2))
theorem LRows.mono {H H' : Hp} {p : Addr} {rows : List (Addr × List Nat)} (h : LRows H p rows) (e : Ex H H') : LRows H' p rows := ⟨e _ _ h.lst, fun r hr => e _ _ (h.rows_ r hr)⟩
theorem dp_rows {K : PySem.W.Frag} {H : Hp} : ∀ rows : List (Addr × List Nat), (∀ r ∈ rows, H r.1 = some (.lst (vW r.2))) → DpAll K H (rows.map fun r => V.ref r.1) ((rows.map (·.2)).map listD)
  | [], _ => .nil
  | r :: rows, h => .cons (dp_list (SqL.of (h r List.mem_cons_self))) (dp_rows rows fun x hx => h x (List.mem_cons_of_mem _ hx))
theorem LRows.dp {K : PySem.W.Frag} {H : Hp} {p : Addr} {rows : List (Addr × List Nat)} (h : LRows H p rows) : Dp K H (.ref p) (.list ((rows.map (·.2)).map listD)) := .lst (SqL.of h.lst) (dp_rows rows h.rows_)
section
variable {K : PySem.W.Frag} {σ : L2.St} {H : Hp} {ta tb tl : TE}
theorem el_callL {xs : List V} {sp : Sp} {E : XK} {ws : List Nat} (h : EvL ta σ H xs) (hs : ∀ p H1, Ex H H1 → H1 p = some (.lst xs) → ∀ Q : VK, RetN ws H1 Q → ∀ E : XK, sp [.ref p] H1 Q E) : EvL (tCall sp [] E (tCons ta tNil)) σ H (vW ws) := fun H1 e Q q =>
  h H1 e _ fun p H2 hp e2 h2 => hs p H2 (e.trans e2) h2 Q (fun r H3 hr e3 h3 => q r H3 (fresh_back e2 hr) (e2.trans e3) h3) E
theorem q_asgL1 {xs : List V} {i : Nat} {D : Ends} {tz : TS} (h : EvL tl σ H xs) (k : ∀ p q H1, H p = none → Ex H H1 → H1 p = some (.lst [.ref q]) → H1 q = some (.lst xs) → tz D (σ.set i (some (.ref p))) H1) : tSeq (tAsg (tLst (tCons tl tNil)) (gName i)) tz D σ H := by
  show tl σ H (fun x H1 => tNil σ H1 fun vs H2 => (x :: vs).length ≤ sizeLine ∧ ∀ p, H2 p = none → tz D (σ.set i (some (.ref p))) (upd H2 p (.lst (x :: vs))))
  refine h H (Ex.refl H) _ fun q H1 hq e1 h1 => ⟨by show 1 ≤ sizeLine; decide, fun p hp => ?_⟩
  have e2 : Ex H1 (upd H1 p (.lst [.ref q])) := Ex.new hp
  exact k p q _ (fresh_back e1 hp) (e1.trans e2) upd_same (e2 _ _ h1)
end
section
variable {K : PySem.W.Frag} {σ : L2.St} {H : Hp} {ta tb : TE} {t : TT}
theorem el_ifT {xs : List V} (h : EvT t σ H true) (h1 : EvL ta σ H xs) : EvL (tIf t ta tb) σ H xs := fun H1 e Q q => h H1 e _ fun H2 e2 => by
  show ta σ H2 Q
  exact h1 H2 (e.trans e2) Q fun p H3 hp e3 h3 => q p H3 (fresh_back e2 hp) (e2.trans e3) h3
theorem ev_notN {x : V} (h : Ev ta σ H x) : Ev (tNotN ta) σ H (.bl (!decide (x = .non))) := fun H1 e Q q => h H1 e _ fun H2 e2 => q H2 e2
theorem LRows.add {la : Addr} {M : List (Addr × List Nat)} {mo : Addr} {C : List Nat} (h : LRows H la M) (hM : ∀ r ∈ M, r.1 ≠ la) (hmo : H mo = some (.lst (vW C))) (hne : mo ≠ la) :
    LRows (upd H la (.lst ((M.map fun r => V.ref r.1) ++ [.ref mo]))) la (M ++ [(mo, C)]) ∧ ∀ r ∈ M ++ [(mo, C)], r.1 ≠ la := by
  refine ⟨⟨by rw [upd_same, List.map_append]; rfl, fun r hr => ?_⟩, fun r hr => ?_⟩
  · rcases List.mem_append.mp hr with hr | hr
    · rw [upd_ne (hM r hr)]
      exact h.rows_ r hr
    · rw [List.mem_singleton.mp hr]
      show upd H la _ mo = _
      rw [upd_ne hne]
      exact hmo
  · rcases List.mem_append.mp hr with hr | hr
    · exact hM r hr
    · rw [List.mem_singleton.mp hr]
      exact hne
end
section
variable {P : Program} {w : World} {K : PySem.W.Frag} {mg : Str → Option Value} {base : Heap} {CT CR fTI fRI gP pP fB fH fE aH : Addr}
def spOver : Sp := fun vs H Q _ => ∃ (n : Nat) (b : Addr) (ws : List Nat), vs = [vI n, .ref b] ∧ H b = some (.lst (vW ws)) ∧ Good n (K27.plainOf ws) ∧ n % 2 = 0 ∧ n ≤ 6 ∧ ws.length ≤ 90 ∧
  ∀ p H2 rows, H p = none → Ex H H2 → LRows H2 p rows → IsFills n (K27.extB (K27.plainOf ws) (K27.ones n)) (n / 2 - (K27.extB (K27.plainOf ws) (K27.ones n)).length) (rows.map (·.2)) → Q (.ref p) H2
abbrev nOver : List Str := ["_law_places", "_law_words", "_law_level", "_law_later", "_law_basis", "_law_span_here", "_law_word", "_law_more"]
theorem scOver : FnScope nOver ["_law_places", "_law_words"] (defScope sLawOwnOver) := ⟨rfl, rfl, rfl, by decide +kernel, rfl, by decide +kernel, by decide +kernel⟩
/-- a level: all fill-ups that many words on -/
structure LevAt (n : Nat) (C0 : List Nat) (i : Nat) (L : List (List Nat)) : Prop where
  nodup : L.Nodup
  mem : ∀ C, C ∈ L ↔ K27.Lev n C0 i C
  len : L.length ≤ 64 ^ i
theorem LevAt.ne {n : Nat} {C0 : List Nat} (h : K27.Base n C0) : ∀ {i : Nat} {L : List (List Nat)}, 2 * (C0.length + i) ≤ n → LevAt n C0 i L → L ≠ []
  | 0, L, _, l, z => by
    have := (l.mem C0).mpr ((K27.Lev.zero h).mpr rfl)
    rw [z] at this
    cases this
  | i + 1, L, hi, l, z => by
    have key : ∀ j, 2 * (C0.length + j) ≤ n → ∃ C, K27.Lev n C0 j C := by
      intro j
      induction j with
      | zero => exact fun _ => ⟨C0, (K27.Lev.zero h).mpr rfl⟩
      | succ j ih =>
        intro hj
        obtain ⟨D, hD⟩ := ih (by omega)
        have := hD.len
        obtain ⟨E, hE⟩ := K27.lev_some (h.ext hD) (by omega)
        exact ⟨E, (K27.lev_succ h).mpr ⟨D, hD, hE⟩⟩
    obtain ⟨C, hC⟩ := key (i + 1) hi
    have := (l.mem C).mpr hC
    rw [z] at this
    cases this
theorem ok_over (T : Txt K mg CT CR fTI fRI gP pP fB fH fE aH) : Ok P w K mg base 4 "_law_own_over" ["_law_places", "_law_words"] spOver := by
  obtain ⟨f1, fd1, G1, m1, k1, b1⟩ := ok_lplain (P := P) (w := w) (base := base) T
  obtain ⟨f2, fd2, G2, m2, k2, b2⟩ := ok_lspan (P := P) (w := w) (base := base) T
  obtain ⟨f3, fd3, G3, m3, k3, b3⟩ := ok_lcontrary (P := P) (w := w) (base := base) T
  refine ok_of T.dLawOwnOver scOver (fun vs H Q E h => ?_) (fun f cdv A outer sh H vs Q E hr h => ?_)
  · obtain ⟨n, b, ws, rfl, _⟩ := h
    rfl
  · obtain ⟨n, b, ws, rfl, hb, hg, hev, hn6, hlen, k⟩ := h
    have hu65 : (A.deeper (PyProof.Rows.envOfC "_law_own_over" (defScope sLawOwnOver) sh.heap.objs.size f cdv)).units + 65 < cLine := by
      have := hr.un
      omega
    refine ⟨_, pss_cons (ps_set (i := 2) scOver.nd rfl (Or.inl rfl) (pe_lst (pa_cons (pe_call G1 (hr.mono (by decide)) rfl m1 k1 b1 .nil pass0 (pa_cons (pe_op op_cat (pe_callTy call_list_of (by rfl) T.z_list PyProof.Rows.boot_list (pa_cons (pv 1) pa_nil)) (pe_lst (pa_cons (pe_op op_subNN (pe_op op_shlN pe_int (pv 0)) pe_int) pa_nil))) pa_nil)) pa_nil)))
      (pss_cons (ps_while PassesOwn.never (pt_cmpR op_ltN (pe_callB call_len_seq (by rfl) T.z_len PySem.boot_len (pa_cons (pe_ix ix_list (pv 2) pe_int (fun _ _ => rfl)) pa_nil)) (pe_op op_fdivNN (pv 0) pe_int) (nomark _))
        (pss_cons (ps_set (i := 3) scOver.nd rfl (Or.inl rfl) (pe_lst pa_nil))
        (pss_cons (ps_for PassesOwn.never rfl (pi_list (pv 2)) (pg_name (i := 4) scOver.nd rfl (Or.inl rfl))
          (pss_cons (ps_set (i := 5) scOver.nd rfl (Or.inl rfl) (pe_call G2 (hr.mono (by decide)) rfl m2 k2 b2 .nil pass0 (pa_cons (pv 4) pa_nil)))
          (pss_one (ps_for PassesOwn.never rfl (pi_list (pe_call G3 hr rfl m3 k3 b3 .nil pass0 (pa_cons (pv 0) (pa_cons (pv 4) pa_nil)))) (pg_name (i := 6) scOver.nd rfl (Or.inl rfl))
            (pss_cons (ps_set (i := 7) scOver.nd rfl (Or.inl rfl) (pe_ifExp (pt_cmpR op_notIn_seq (pv 6) (pv 5) rfl) (pe_call G1 (hr.mono (by decide)) rfl m1 k1 b1 .nil pass0 (pa_cons (pe_op op_cat (pv 4) (pe_lst (pa_cons (pv 6) pa_nil))) pa_nil)) pe_non))
            (pss_one (ps_if (PW.pt (pw_and (pt_cmp (pc_notN (pv 7)) rfl) (pw_and1 (pt_cmpR (op_notInD hu65) (pv 7) (pv 3) rfl))))
              (pss_one (ps_expr (pe_bm PySem.F.plainAttrs_list PySem.F.slot_list_append PySem.F.type_list_append mt_append (pv 3) (pa_cons (pv 7) pa_nil)))) pss_nil)))))))
        (pss_one (ps_set (i := 2) scOver.nd rfl (Or.inl rfl) (pv 3))))))
      (pss_one (ps_ret (pe_callB (K27R.cr_sortRows hr.units) (by rfl) T.z_sorted PyProof.Rows.boot_sorted (pa_cons (pv 2) pa_nil))))), ?_⟩
    have hC0 := hg.base hev
    have hC0n := hg.half hev
    have hroom := hg.room hev
    have hplain : K27.plainOf (ws ++ [K27.ones n]) = K27.extB (K27.plainOf ws) (K27.ones n) := K27.extP_eq ws _
    generalize K27.extB (K27.plainOf ws) (K27.ones n) = C0 at hC0 hC0n hroom hplain k
    generalize hm : n / 2 - C0.length = m at hC0n k
    refine q_asgL1 (xs := vW C0) ?_ fun p0 q0 H1 hp0 e1 h1 h2 => ?_
    · rw [← hplain]
      refine el_callL (xs := vW (ws ++ [K27.ones n])) (el_is (el_cat (xs := vW ws) (ys := [vI (K27.ones n)]) (el_listV (ev_var rfl) (.inl (SqL.of hb))) (el_lst (ea_cons (ev_is (ev_n2 (ev_n2 (ev_k 1) (ev_var rfl) ⟨by decide, by omega⟩) (ev_k 1) (by rw [one_shl]; exact Nat.two_pow_pos n)) (by rw [one_shl])) ea_nil) (by show 1 ≤ 100000; decide)) (by rw [vW_len]; show ws.length + 1 ≤ _; omega)) ?_) fun p H2 e2 h2 Q q E => ⟨p, _, rfl, h2, by rw [List.length_append, List.length_singleton]; omega, q⟩
      unfold vW
      rw [List.map_append]
      rfl
    refine q_while (fun j σ' H' => ∃ i lp rows v3 v4 v5 v6 v7, i + j = m ∧ σ' = [some (vI n), some (.ref b), some (.ref lp), v3, v4, v5, v6, v7] ∧ Ex H H' ∧ LRows H' lp rows ∧ LevAt n C0 i (rows.map (·.2))) m ⟨0, p0, [(q0, C0)], none, none, none, none, none, Nat.zero_add _, rfl, e1, ⟨h1, fun r hr => by rw [List.mem_singleton] at hr; rw [hr]; exact h2⟩, ⟨nd1 _, fun C => by rw [List.map_cons, List.map_nil, List.mem_singleton]; exact (K27.Lev.zero hC0).symm, Nat.le_refl _⟩⟩ ?_
    rintro j σ' H' ⟨i, lp, rows, v3, v4, v5, v6, v7, hij, rfl, e, hR, hL⟩
    have hne := LevAt.ne hC0 (by omega) hL
    obtain ⟨r0, rows', rfl⟩ : ∃ r0 rows', rows = r0 :: rows' := by
      cases rows with
      | nil => exact absurd rfl hne
      | cons r rs => exact ⟨r, rs, rfl⟩
    have hr0 := hR.rows_ r0 List.mem_cons_self
    have hl0 := ((hL.mem r0.2).mp List.mem_cons_self).len
    refine ⟨decide (i < m), et_is (et_c2 (ev_lenV (xs := vW r0.2) (ev_op (ev_var rfl) ev_c (rv_ixL (SqL.of hR.lst) (atI_nat (j := 0) rfl))) (.inl (SqL.of hr0))) (ev_n2 (ev_var rfl) (ev_k 2) ⟨by decide, by decide⟩)) ?_, fun hz H2 e2 => ?_, fun hz H2 e2 => ?_⟩
    · rw [vW_len, hl0]
      by_cases h : i < m
      · rw [decide_eq_true h, decide_eq_true (by omega)]
      · rw [decide_eq_false h, decide_eq_false (by omega)]
    · have him : i < m := of_decide_eq_true hz
      generalize hrows : r0 :: rows' = rows at hR hL hne
      refine ⟨fun σ' H' => ∃ i lp rows v3 v4 v5 v6 v7, i + (j - 1) = m ∧ σ' = [some (vI n), some (.ref b), some (.ref lp), v3, v4, v5, v6, v7] ∧ Ex H H' ∧ LRows H' lp rows ∧ LevAt n C0 i (rows.map (·.2)), fun σ2 H3 h3 => ⟨j - 1, by omega, h3⟩, ?_⟩
      have hR2 := hR.mono e2
      have hll : rows.length ≤ 64 := by
        have h1 := hL.len
        rw [List.length_map] at h1
        exact Nat.le_trans h1 (Nat.pow_le_pow_right (by decide) (by omega : i ≤ 1))
      refine q_asgL (xs := []) (el_lst ea_nil (by show 0 ≤ 100000; decide)) fun la H3 hla e3 h3 => ?_
      have hR3 := hR2.mono e3
      refine q_forL (a := lp) (xs := rows.map fun r => V.ref r.1) (ev_var rfl) (SqL.of hR3.lst) (fun i2 σ' H4 => ∃ v4 v5 v6 v7 M, σ' = [some (vI n), some (.ref b), some (.ref lp), some (.ref la), v4, v5, v6, v7] ∧ Ex H2 H4 ∧ LRows H4 la M ∧ (∀ r ∈ M, r.1 ≠ la) ∧ (M.map (·.2)).Nodup ∧ (∀ C, C ∈ M.map (·.2) ↔ ∃ D ∈ (rows.map (·.2)).take i2, K27.Lev n D 1 C) ∧ M.length ≤ 64 * i2)
        (fun H4 e4 => ⟨_, _, _, _, [], rfl, e3.trans e4, ⟨e4 _ _ h3, fun r hr => by cases hr⟩, (fun r hr => by cases hr), List.nodup_nil, fun C => ⟨fun z => (by cases z), fun ⟨D, z, _⟩ => (by cases z)⟩, Nat.le_refl _⟩) (fun i2 σ' H4 _ ⟨_, _, _, _, _, _, e4, _⟩ => SqL.of (e4 _ _ hR2.lst)) ?_ ?_
      · rintro i2 x σ' H4 hx ⟨v4, v5, v6, v7, M, rfl, e4, hM, hMa, hMn, hMm, hMl⟩
        obtain ⟨r, hr1, hr2, rfl⟩ := vals_get hx
        have hi2 := lt_of_get hr1
        have hrL : (rows.map (·.2))[i2]? = some r.2 := by
          rw [List.getElem?_map, hr1]
          rfl
        have hlev : K27.Lev n C0 i r.2 := (hL.mem r.2).mp (mem_of_get hrL)
        have hBr := hC0.ext hlev
        have hlr := hlev.len
        have hrr : H4 r.1 = some (.lst (vW r.2)) := e4 _ _ (hR2.rows_ r hr2)
        have hn64 : 2 ^ n ≤ 64 := Nat.le_trans (Nat.pow_le_pow_right (by decide) hn6) (by decide)
        show tSeq _ _ _ _ _
        refine q_asgL (xs := vW (K27.allW r.2.reverse)) (el_callN (ea_cons (ev_var rfl) ea_nil) fun H5 e5 Q q E => ⟨r.1, r.2, rfl, e5 _ _ hrr, by omega, q⟩) fun sp H5 hsp e5 h5 => ?_
        have hspa : sp ≠ la := fun z => by
          have := hM.lst
          rw [← z, hsp] at this
          cases this
        refine s_forNL (xs := vW (conL n r.2)) (el_callN (ea_cons (ev_var rfl) (ea_cons (ev_var rfl) ea_nil)) fun H6 e6 Q q E => ⟨n, r.1, r.2, rfl, e6 _ _ (e5 _ _ hrr), by omega, by omega, q⟩)
          (fun cp k' σ' H6 => ∃ v6 v7 M, σ' = [some (vI n), some (.ref b), some (.ref lp), some (.ref la), some (.ref r.1), some (.ref sp), v6, v7] ∧ Ex H2 H6 ∧ H6 cp = some (.lst (vW (conL n r.2))) ∧ cp ≠ la ∧ H6 sp = some (.lst (vW (K27.allW r.2.reverse))) ∧ LRows H6 la M ∧ (∀ r ∈ M, r.1 ≠ la) ∧ (M.map (·.2)).Nodup ∧ (∀ C, C ∈ M.map (·.2) ↔ (∃ D ∈ (rows.map (·.2)).take i2, K27.Lev n D 1 C) ∨ ∃ w ∈ (conL n r.2).take k', w ∉ K27.allW r.2 ∧ K27.extB r.2 w = C) ∧ M.length ≤ 64 * i2 + k')
          ?_ (fun cp k' σ' H6 _ ⟨_, _, _, _, _, h6, _⟩ => SqL.of h6) ?_ ?_
        · intro cp H6 hcp e6 h6
          refine ⟨v6, v7, M, rfl, (e4.trans e5).trans e6, h6, ?_, e6 _ _ h5, (hM.mono e5).mono e6, hMa, hMn, fun C => (hMm C).trans ⟨.inl, fun z => z.elim id fun ⟨w, z, _⟩ => (by cases z)⟩, hMl⟩
          intro z
          have := (hM.mono e5).lst
          rw [← z, hcp] at this
          cases this
        · rintro cp k' x σ' H6 hx6 ⟨v6, v7, M, rfl, e6, h6, hcpa, hsp6, hM, hMa, hMn, hMm, hMl⟩
          obtain ⟨c, hc, rfl⟩ := vW_get hx6
          have hcl := conL_len n r.2
          have hk64 : k' < 64 := Nat.lt_of_lt_of_le (lt_of_get hc) (by omega)
          have hcm := mem_conL.mp (mem_of_get hc)
          have hmem : decide (c ∈ K27.allW r.2.reverse) = decide (c ∈ K27.allW r.2) := by
            have := K27.SameW.perm (List.reverse_perm r.2) c
            by_cases z : c ∈ K27.allW r.2
            · rw [decide_eq_true z, decide_eq_true (this.mpr z)]
            · rw [decide_eq_false z, decide_eq_false fun y => z (this.mp y)]
          have ht : ∀ (tf : Bool), (!decide (c ∈ K27.allW r.2)) = tf → EvT (tTest (tOp (rIn K true) (tVar 6) (tVar 5))) [some (vI n), some (.ref b), some (.ref lp), some (.ref la), some (.ref r.1), some (.ref sp), some (vI c), v7] H6 tf := fun tf hb => by
            refine et_is (et_test (ev_op (ev_var rfl) (ev_var rfl) (rv_niL (SqL.of hsp6) rfl (flat_vW _)))) ?_
            rw [inV_vW, hmem, hb]
          by_cases hcs : c ∈ K27.allW r.2
          · refine q_asg (v := .non) (ev_if (b := false) (ht false (by rw [decide_eq_true hcs]; rfl)) (fun z => nomatch z) (fun _ => ev_c)) fun H7 e7 => ?_
            refine s_when (b := false) (et_and (a := false) (b := true) (et_B (ev_is (ev_notN (x := .non) (ev_var rfl)) rfl)) (fun z => nomatch z)) (fun z => nomatch z) fun _ H8 e8 => ?_
            have e78 := e7.trans e8
            refine ⟨_, _, M, rfl, e6.trans e78, e78 _ _ h6, hcpa, e78 _ _ hsp6, hM.mono e78, hMa, hMn, fun C => (hMm C).trans ?_, by omega⟩
            rw [take_succ_get hc]
            constructor
            · rintro (z | ⟨w, hw, z⟩)
              · exact .inl z
              · exact .inr ⟨w, List.mem_append_left _ hw, z⟩
            · rintro (z | ⟨w, hw, z⟩)
              · exact .inl z
              · rcases List.mem_append.mp hw with hw | hw
                · exact .inr ⟨w, hw, z⟩
                · rw [List.mem_singleton] at hw
                  subst hw
                  exact absurd hcs z.1
          · have hrr6 : H6 r.1 = some (.lst (vW r.2)) := e6 _ _ (hR2.rows_ r hr2)
            refine q_asgL (xs := vW (K27.extB r.2 c)) (el_ifT (ht true (by rw [decide_eq_false hcs]; rfl)) ?_) fun mo H7 hmo e7 h7 => ?_
            · rw [← K27.extB_eq_plainOf hBr.plain]
              refine el_callL (xs := vW (r.2 ++ [c])) (el_is (el_catV (xs := vW r.2) (ys := [vI c]) (ev_var rfl) hrr6 (el_lst (ea_cons (ev_var rfl) ea_nil) (by show 1 ≤ 100000; decide)) (by rw [vW_len]; show r.2.length + 1 ≤ _; omega)) ?_) fun p H7 e7 h7 Q q E => ⟨p, _, rfl, h7, by rw [List.length_append, List.length_singleton]; omega, q⟩
              unfold vW
              rw [List.map_append]
              rfl
            have hmola : mo ≠ la := fun z => by
              have := hM.lst
              rw [← z, hmo] at this
              cases this
            have hM7 := hM.mono e7
            have hmem2 : ∀ C, (C ∈ M.map (·.2) ∨ C = K27.extB r.2 c) ↔ ((∃ D ∈ (rows.map (·.2)).take i2, K27.Lev n D 1 C) ∨ ∃ w ∈ (conL n r.2).take (k' + 1), w ∉ K27.allW r.2 ∧ K27.extB r.2 w = C) := fun C => by
              rw [take_succ_get hc, hMm]
              constructor
              · rintro ((z | ⟨w, hw, z⟩) | z)
                · exact .inl z
                · exact .inr ⟨w, List.mem_append_left _ hw, z⟩
                · exact .inr ⟨c, List.mem_append_right _ (List.mem_singleton.mpr rfl), hcs, z.symm⟩
              · rintro (z | ⟨w, hw, z⟩)
                · exact .inl (.inl z)
                · rcases List.mem_append.mp hw with hw | hw
                  · exact .inl (.inr ⟨w, hw, z⟩)
                  · rw [List.mem_singleton] at hw
                    subst hw
                    exact .inr z.2.symm
            refine s_when (b := !decide (K27.extB r.2 c ∈ M.map (·.2))) (et_is (et_and (a := true) (et_B (ev_is (ev_notN (x := .ref mo) (ev_var rfl)) (by rw [decide_eq_false (by intro z; cases z)]; rfl))) fun _ => et_test (ev_op (z := .bl (!decide (K27.extB r.2 c ∈ M.map (·.2)))) (ev_var rfl) (ev_var rfl) (rv_val fun H8 e8 Q q => ?_))) (Bool.true_and _)) (fun hz2 H8 e8 => ?_) (fun hz2 H8 e8 => ?_)
            · refine ⟨_, _, dp_list (SqL.of (e8 _ _ h7)), (hM7.mono e8).dp, listD_shaped _, lists_shaped _, ?_⟩
              rw [any_listD]
              exact q
            · have hnm : K27.extB r.2 c ∉ M.map (·.2) := fun z => by rw [decide_eq_true z] at hz2; cases hz2
              have hM8 := hM7.mono e8
              refine s_app hM8.lst (ev_var rfl) (ev_var rfl) (by rw [List.length_map]; omega) fun H9 e9 => ?_
              have hM9 := hM8.mono e9
              have e79 := (e7.trans e8).trans e9
              obtain ⟨a1, a2⟩ := hM9.add hMa ((e8.trans e9) _ _ h7) hmola
              refine ⟨_, _, M ++ [(mo, K27.extB r.2 c)], rfl, Ex.mut (e6.trans e79) hla, ?_, hcpa, ?_, a1, a2, ?_, fun C => Iff.trans ?_ (hmem2 C), ?_⟩
              · rw [upd_ne hcpa]
                exact e79 _ _ h6
              · rw [upd_ne hspa]
                exact e79 _ _ hsp6
              · rw [List.map_append]
                refine List.nodup_append.mpr ⟨hMn, nd1 _, fun x hx y hy => ?_⟩
                have hy' : y = K27.extB r.2 c := List.mem_singleton.mp hy
                rw [hy']
                exact fun z => hnm (z ▸ hx)
              · rw [List.map_append, List.mem_append]
                exact or_congr Iff.rfl List.mem_singleton
              · rw [List.length_append, List.length_singleton]
                omega
            · have hnm : K27.extB r.2 c ∈ M.map (·.2) := by
                by_cases z : K27.extB r.2 c ∈ M.map (·.2)
                · exact z
                · rw [decide_eq_false z] at hz2
                  cases hz2
              have e78 := e7.trans e8
              refine ⟨_, _, M, rfl, e6.trans e78, e78 _ _ h6, hcpa, e78 _ _ hsp6, hM.mono e78, hMa, hMn, fun C => Iff.trans ?_ (hmem2 C), by omega⟩
              exact ⟨.inl, fun z => z.elim id fun z => by rw [z]; exact hnm⟩
        · rintro cp σ' H6 ⟨v6, v7, M, rfl, e6, h6, hcpa, hsp6, hM, hMa, hMn, hMm, hMl⟩
          rw [vW_len] at hMl hMm
          have hcl := conL_len n r.2
          refine ⟨_, _, _, _, M, rfl, e6, hM, hMa, hMn, fun C => (hMm C).trans ?_, by omega⟩
          rw [take_succ_get hrL, List.take_length]
          have key : (∃ w ∈ conL n r.2, w ∉ K27.allW r.2 ∧ K27.extB r.2 w = C) ↔ K27.Lev n r.2 1 C := by
            rw [K27.lev_one' hBr]
            constructor
            · rintro ⟨w, hw, z⟩
              have := mem_conL.mp hw
              exact ⟨w, this.1, this.2, z⟩
            · rintro ⟨w, hw1, hw2, z⟩
              exact ⟨w, mem_conL.mpr ⟨hw1, hw2⟩, z⟩
          constructor
          · rintro (⟨D, hD, z⟩ | z)
            · exact ⟨D, List.mem_append_left _ hD, z⟩
            · exact ⟨r.2, List.mem_append_right _ (List.mem_singleton.mpr rfl), key.mp z⟩
          · rintro ⟨D, hD, z⟩
            rcases List.mem_append.mp hD with hD | hD
            · exact .inl ⟨D, hD, z⟩
            · rw [List.mem_singleton] at hD
              subst hD
              exact .inr (key.mpr z)
      · rintro σ' H4 ⟨v4, v5, v6, v7, M, rfl, e4, hM, hMa, hMn, hMm, hMl⟩
        rw [List.length_map] at hMl hMm
        have ht : (rows.map (·.2)).take rows.length = rows.map (·.2) := List.take_of_length_le (by rw [List.length_map]; exact Nat.le_refl _)
        rw [ht] at hMm
        refine s_asg (v := .ref la) (ev_var rfl) fun H5 e5 => ⟨i + 1, la, M, _, _, _, _, _, by omega, rfl, ((e.trans e2).trans e4).trans e5, hM.mono e5, ⟨hMn, fun C => (hMm C).trans ?_, ?_⟩⟩
        · rw [K27.lev_succ hC0]
          constructor
          · rintro ⟨D, hD, z⟩
            exact ⟨D, (hL.mem D).mp hD, z⟩
          · rintro ⟨D, hD, z⟩
            exact ⟨D, (hL.mem D).mpr hD, z⟩
        · have := hL.len
          rw [List.length_map] at this ⊢
          rw [Nat.pow_succ]
          omega
    · have him : i = m := by
        have := of_decide_eq_false hz
        omega
      subst him
      generalize hrows : r0 :: rows' = rows at hR hL hne
      have hR2 := hR.mono e2
      let xs : List K27R.Row := rows.map fun r => (r.1, toI r.2)
      refine ⟨_, rfl, lp, xs, rfl, SqL.of ?_, fun x hx => ?_, fun p hp => ?_⟩
      · rw [hR2.lst, List.map_map]
        rfl
      · obtain ⟨r, hr, rfl⟩ := List.mem_map.mp hx
        refine SqL.of ?_
        rw [← vW_toI]
        exact hR2.rows_ r hr
      · have hperm := K27R.sortRows_perm xs
        have hup := K27R.sortRows_up xs
        have hk : ∀ y ∈ K27R.sortRows xs, ∃ r ∈ rows, y.1 = r.1 ∧ y.2 = toI r.2 := fun y hy => by
          obtain ⟨r, hr, rfl⟩ := List.mem_map.mp (hperm.mem_iff.mp hy)
          exact ⟨r, hr, rfl, rfl⟩
        have e3 : Ex H2 (upd H2 p (.lst ((K27R.sortRows xs).map fun q => V.ref q.1))) := Ex.new hp
        have p2 : ((K27R.sortRows xs).map fun y => y.2.map Int.toNat).Perm (rows.map (·.2)) := by
          have h5 := hperm.map fun y : K27R.Row => y.2.map Int.toNat
          have e5 : (xs.map fun y : K27R.Row => y.2.map Int.toNat) = rows.map (·.2) := by
            show ((rows.map fun r => (r.1, toI r.2)).map fun y : K27R.Row => y.2.map Int.toNat) = _
            rw [List.map_map]
            refine List.map_congr_left fun r _ => ?_
            exact toNat_toI r.2
          rw [e5] at h5
          exact h5
        have h6 : ((K27R.sortRows xs).map fun y => (y.1, y.2.map Int.toNat)).map (·.2) = (K27R.sortRows xs).map fun y => y.2.map Int.toNat := by
          rw [List.map_map]
          rfl
        refine k p _ ((K27R.sortRows xs).map fun y => (y.1, y.2.map Int.toNat)) (fresh_back (e.trans e2) hp) ((e.trans e2).trans e3) ⟨?_, fun r hr => ?_⟩ ⟨?_, ?_, fun C => ?_⟩
        · rw [upd_same, List.map_map]
          rfl
        · obtain ⟨y, hy, rfl⟩ := List.mem_map.mp hr
          obtain ⟨r', hr', h7, h8⟩ := hk y hy
          show (upd H2 p _) y.1 = some (.lst (vW (y.2.map Int.toNat)))
          rw [h7, h8, toNat_toI]
          exact e3 _ _ (hR2.rows_ r' hr')
        · rw [h6, List.pairwise_map]
          refine List.Pairwise.imp_of_mem (fun {a b} ha hb h => ?_) hup
          obtain ⟨r1, _, _, h7⟩ := hk a ha
          obtain ⟨r2, _, _, h8⟩ := hk b hb
          rw [h7, h8] at h ⊢
          rw [toNat_toI, toNat_toI]
          exact h
        · rw [h6]
          exact p2.nodup_iff.mpr hL.nodup
        · rw [h6, p2.mem_iff]
          exact hL.mem C
end
end K27W
set_option maxHeartbeats 4000000
/-! K27L6: _law_list_right. -/
namespace K27W
open PySem PySem.Spec L2 Evl
theorem Fl.each {n : Nat} {B : List Nat} {L : List (List Nat)} (h : Good n B) (f : Fl n B L) : ∀ C ∈ L, K27.Plain C ∧ K27.Still C ∧ (∀ c ∈ C, c < 2 ^ n) ∧ 2 * C.length = n ∧ ∀ b ∈ B, b ∈ K27.allW C := by
  intro C hC
  rcases f with ⟨_, rfl⟩ | ⟨o, f⟩
  · cases hC
  · have l := (f.mem C).mp hC
    have hh := h.half o
    refine ⟨l.plain, l.still, l.lt, by rw [l.len]; omega, fun b hb => ?_⟩
    exact K27.allW_sub l.sub ((K27.extB_same h.plain.1 _ b).mpr (K27.gen_mem (List.mem_cons_of_mem _ hb)))
theorem Fl.up {n : Nat} {B : List Nat} {L : List (List Nat)} (f : Fl n B L) : L.Pairwise (fun a b => toI a ≤ toI b) ∧ L.Nodup := by
  rcases f with ⟨_, rfl⟩ | ⟨o, f⟩
  · exact ⟨.nil, List.nodup_nil⟩
  · exact ⟨f.up, f.nodup⟩
theorem fcnt_le {n : Nat} {B : List Nat} (h : Good n B) : fcnt n B ≤ 135 := by
  unfold fcnt
  split
  · omega
  · have := h.room (by omega)
    exact fillN_2 _ (by omega)
section
variable {K : PySem.W.Frag} {σ : L2.St} {H : Hp} {te tl ta : TE} {t : TT}
theorem el_bases {j : Nat} {vs : List Nat} {told : Addr} {rs : List (Addr × List Nat)} (h : Ev tl σ H (.ref told)) (hx : H told = some (.lst (rs.map fun r => V.ref r.1))) (hl : rs.length ≤ 40000) (hw : ∀ x, wipe ((wipe σ vs).set j (some x)) vs = wipe σ vs)
    (he : ∀ r ∈ rs, ∀ H1, Ex H H1 → EvL te ((wipe σ vs).set j (some (.ref r.1))) H1 (vW r.2)) :
    ∀ H1, Ex H H1 → ∀ Q : VK, (∀ p H2 rows, H1 p = none → Ex H1 H2 → LRows H2 p rows → rows.map (·.2) = rs.map (·.2) → Q (.ref p) H2) → tLc (iList K tl) (gName j) tYes te vs σ H1 Q := by
  intro H0 e Q q
  refine h H0 e _ fun H1 e1 => ?_
  have hx1 := e1 _ _ (e _ _ hx)
  refine ⟨told, rfl, ⟨_, sq_of hx1⟩, fun Dl hD => ?_⟩
  refine lc_list (xs := rs.map fun r => V.ref r.1) (fun i H' => Ex H1 H' ∧ ∃ rows : List (Addr × List Nat), rows.map (·.2) = (rs.map (·.2)).take i ∧ LRows H' Dl rows ∧ ∀ r ∈ rows, r.1 ≠ Dl)
    ⟨Ex.new hD, [], rfl, ⟨upd_same, fun r hr => by cases hr⟩, fun r hr => by cases hr⟩ (fun i H' _ p => sq_of (p.1 told _ hx1)) (fun i x H' hi pw => ?_) (fun H' p => ?_)
  · obtain ⟨r, hr1, hr2, rfl⟩ := vals_get hi
    obtain ⟨e', rows, h1, h2, h3⟩ := pw
    have hil : (rs.map (·.2))[i]? = some r.2 := by
      rw [List.getElem?_map, hr1]
      rfl
    have hi2 := lt_of_get hr1
    refine ⟨hw _, ?_⟩
    show te ((wipe σ vs).set j (some (.ref r.1))) H' fun y H4 => ∃ acc, H4 Dl = some (.lst acc) ∧ acc.length < sizeLine ∧ (Ex H1 (upd H4 Dl (.lst (acc ++ [y]))) ∧ ∃ rows : List (Addr × List Nat), rows.map (·.2) = (rs.map (·.2)).take (i + 1) ∧ LRows (upd H4 Dl (.lst (acc ++ [y]))) Dl rows ∧ ∀ r ∈ rows, r.1 ≠ Dl)
    refine he r hr2 H' ((e.trans e1).trans e') H' (Ex.refl _) _ fun p H4 hp e4 h4 => ?_
    have hl' : rows.length ≤ 40000 := by
      have := congrArg List.length h1
      rw [List.length_map, List.length_take, List.length_map] at this
      omega
    have hpD : p ≠ Dl := fun z => by
      have := h2.lst
      rw [← z, hp] at this
      cases this
    obtain ⟨a1, a2⟩ := (h2.mono e4).add h3 h4 hpD
    refine ⟨_, (h2.mono e4).lst, sl_lt (by rw [List.length_map]; omega), Ex.mut (e'.trans e4) hD, rows ++ [(p, r.2)], ?_, a1, a2⟩
    rw [List.map_append, h1, take_succ_get hil]
    rfl
  · obtain ⟨e', rows, h1, h2, h3⟩ := p
    rw [List.length_map] at h1
    have ht : (rs.map (·.2)).take rs.length = rs.map (·.2) := List.take_of_length_le (by rw [List.length_map]; exact Nat.le_refl _)
    rw [ht] at h1
    exact q Dl H' rows (fresh_back e1 hD) (e1.trans e') h2 h1
/-- sorted(..) of rows that are sorted -/
theorem sorted_same {rows : List (Addr × List Nat)} (hup : (rows.map (·.2)).Pairwise (fun a b => toI a ≤ toI b)) (hnd : (rows.map (·.2)).Nodup) :
    ∃ rows' : List (Addr × List Nat), rows'.map (·.2) = rows.map (·.2) ∧ (∀ r ∈ rows', r ∈ rows) ∧ ((K27R.sortRows (rows.map fun r => (r.1, toI r.2))).map fun q => V.ref q.1) = rows'.map fun r => V.ref r.1 := by
  generalize hxs : (rows.map fun r => ((r.1, toI r.2) : K27R.Row)) = xs
  have hperm := K27R.sortRows_perm xs
  have hsup := K27R.sortRows_up xs
  have hk : ∀ y ∈ K27R.sortRows xs, ∃ r ∈ rows, y = (r.1, toI r.2) := fun y hy => by
    have h1 := hperm.mem_iff.mp hy
    rw [← hxs] at h1
    obtain ⟨r, hr, e⟩ := List.mem_map.mp h1
    exact ⟨r, hr, e.symm⟩
  have h6 : ((K27R.sortRows xs).map fun y => (y.1, y.2.map Int.toNat)).map (·.2) = (K27R.sortRows xs).map fun y => y.2.map Int.toNat := by
    rw [List.map_map]
    rfl
  have p2 : ((K27R.sortRows xs).map fun y => y.2.map Int.toNat).Perm (rows.map (·.2)) := by
    have h5 := hperm.map fun y : K27R.Row => y.2.map Int.toNat
    have e5 : (xs.map fun y : K27R.Row => y.2.map Int.toNat) = rows.map (·.2) := by
      rw [← hxs, List.map_map]
      exact List.map_congr_left fun r _ => toNat_toI r.2
    rw [e5] at h5
    exact h5
  refine ⟨(K27R.sortRows xs).map fun y => (y.1, y.2.map Int.toNat), ?_, fun r hr => ?_, by rw [List.map_map]; rfl⟩
  · rw [h6]
    refine up_unique ?_ hup (p2.nodup_iff.mpr hnd) hnd fun C => p2.mem_iff
    rw [List.pairwise_map]
    refine List.Pairwise.imp_of_mem (fun {a b} ha hb h => ?_) hsup
    obtain ⟨r1, _, rfl⟩ := hk a ha
    obtain ⟨r2, _, rfl⟩ := hk b hb
    rw [toNat_toI, toNat_toI]
    exact h
  · obtain ⟨y, hy, rfl⟩ := List.mem_map.mp hr
    obtain ⟨r, hr', rfl⟩ := hk y hy
    show (r.1, (toI r.2).map Int.toNat) ∈ rows
    rw [toNat_toI]
    exact hr'
theorem lists_eqv (L : List (List Nat)) : PyData.eqv (.list (L.map listD)) (.list (L.map listD)) = true := SeqAt.eqv_refl _ (by simp only [PyData.canLay0]; exact lists_lay L)
/-- bases != sorted(bases): no -/
theorem et_sorted {p : Addr} {rows : List (Addr × List Nat)} (h : Ev ta σ H (.ref p)) (hR : LRows H p rows) (hup : (rows.map (·.2)).Pairwise (fun a b => toI a ≤ toI b)) (hnd : (rows.map (·.2)).Nodup) :
    EvT (tTest (tOp (rNeD K) ta (tCB (K27R.rSortRows K) (tCons ta tNil)))) σ H false := by
  refine et_is (et_test (b := !PyData.eqv (.list ((rows.map (·.2)).map listD)) (.list ((rows.map (·.2)).map listD))) fun H1 e Q q => ?_) (by rw [lists_eqv]; rfl)
  obtain ⟨rows', h1, h2, h3⟩ := sorted_same hup hnd
  refine h H1 e _ fun H2 e2 => h H2 (e.trans e2) _ fun H3 e3 => ?_
  have hR3 := ((hR.mono e).mono e2).mono e3
  refine ⟨p, rows.map fun r => (r.1, toI r.2), rfl, SqL.of ?_, fun x hx => ?_, fun q' hq' => ?_⟩
  · rw [hR3.lst, List.map_map]
    rfl
  · obtain ⟨r, hr, rfl⟩ := List.mem_map.mp hx
    refine SqL.of ?_
    rw [← vW_toI]
    exact hR3.rows_ r hr
  · have e4 : Ex H3 (upd H3 q' (.lst ((K27R.sortRows (rows.map fun r => (r.1, toI r.2))).map fun q => V.ref q.1))) := Ex.new hq'
    have hS : LRows (upd H3 q' (.lst ((K27R.sortRows (rows.map fun r => (r.1, toI r.2))).map fun q => V.ref q.1))) q' rows' := ⟨by rw [upd_same, h3], fun r hr => e4 _ _ (hR3.rows_ r (h2 r hr))⟩
    have hd := hS.dp (K := K)
    rw [h1] at hd
    exact ⟨_, _, (hR3.mono e4).dp, hd, lists_shaped _, lists_shaped _, q _ ((e2.trans e3).trans e4)⟩
theorem el_basis {CR p : Addr} {n : Nat} {B : List Nat} {E : XK} (h : Ev te σ H (.ref p)) (hp : RoomAt CR H p n B) : EvL (tMeth CR "basis" (spBasis CR) [] E te tNil) σ H (vW B) := fun H1 e Q q =>
  h H1 e _ fun H2 e2 => by
    obtain ⟨dx, b, h1, h2⟩ := (hp.mono (e.trans e2)).ex
    exact ⟨p, dx, _, rfl, h1, rf_no n b (by decide +kernel) (by decide +kernel), p, n, B, rfl, hp.mono (e.trans e2), fun r H3 hr e3 h3 => q r H3 (fresh_back e2 hr) (e2.trans e3) h3⟩
theorem q_asgP {i : Nat} {D : Ends} {tz : TS} {Pr : Addr → Hp → Prop} (h : ∀ Q : VK, (∀ p H1, Pr p H1 → Q (.ref p) H1) → te σ H Q) (k : ∀ p H1, Pr p H1 → tz D (σ.set i (some (.ref p))) H1) : tSeq (tAsg te (gName i)) tz D σ H := by
  show te σ H (fun x H1 => tz D (σ.set i (some x)) H1)
  exact h _ k
theorem q_asgN {i : Nat} {D : Ends} {tz : TS} {Pr : Addr → Hp → Prop} (h : EvNew te σ H Pr) (k : ∀ p H1, H p = none → Ex H H1 → Pr p H1 → tz D (σ.set i (some (.ref p))) H1) : tSeq (tAsg te (gName i)) tz D σ H := by
  show te σ H (fun x H1 => tz D (σ.set i (some x)) H1)
  exact h H (Ex.refl H) _ fun p H1 hp e1 h1 => k p H1 hp e1 h1
theorem ev_placesP {CR p : Addr} {n : Nat} {B : List Nat} {E : XK} (h : Ev te σ H (.ref p)) (hp : RoomAt CR H p n B) : Ev (tProp CR (spPlacesP CR) [] E te) σ H (vI n) := fun H1 e Q q =>
  h H1 e _ fun H2 e2 => by
    obtain ⟨dx, b, h1, h2⟩ := (hp.mono (e.trans e2)).ex
    exact ⟨p, dx, _, rfl, h1, p, n, B, rfl, hp.mono (e.trans e2), fun H3 e3 => q H3 (e2.trans e3)⟩
end
section
variable {P : Program} {w : World} {K : PySem.W.Frag} {mg : Str → Option Value} {base : Heap} {CT CR fTI fRI gP pP fB fH fE aH : Addr}
def spListRight (CR : Addr) : Sp := fun vs H Q _ => ∃ (p q : Addr) (n : Nat) (B : List Nat) (L : List (List Nat)), vs = [.ref p, .ref q] ∧ RoomAt CR H p n B ∧ Good n B ∧ RoomsAt CR H q n L ∧ Fl n B L ∧ RetV (.bl true) H Q
abbrev nLR : List Str := ["_law_room", "_law_told", "_law_bases", "_law_one", "_law_at", "_law_basis"]
theorem scLR : FnScope nLR ["_law_room", "_law_told"] (defScope sLawListRight) := ⟨rfl, rfl, rfl, by decide +kernel, rfl, by decide +kernel, by decide +kernel⟩
theorem take_notin {L : List (List Nat)} (h : L.Nodup) {i : Nat} {C : List Nat} (hi : L[i]? = some C) : C ∉ L.take i := by
  intro hm
  obtain ⟨j, hj, e⟩ := List.getElem_of_mem hm
  have hil := lt_of_get hi
  rw [List.length_take] at hj
  rw [List.getElem_take] at e
  have e2 : L[i] = C := (List.getElem?_eq_some_iff.mp hi).2
  have := (List.getElem_inj h).mp (e.trans e2.symm)
  omega
theorem cutRows (rows : List (Addr × List Nat)) (j : Nat) : cutV (rows.map fun r => V.ref r.1) none (some (j : Int)) = (rows.take j).map fun r => V.ref r.1 := by
  unfold cutV
  rw [HT.sIx_none, HT.sIx_nat, List.drop_zero, Nat.sub_zero, List.map_take, List.length_map]
  by_cases h : j ≤ rows.length
  · rw [Nat.min_eq_left h]
  · rw [Nat.min_eq_right (by omega), List.take_of_length_le (by rw [List.length_map]; exact Nat.le_refl _), List.take_of_length_le (by rw [List.length_map]; omega)]
theorem ok_list_right (T : Txt K mg CT CR fTI fRI gP pP fB fH fE aH) : Ok P w K mg base 7 "_law_list_right" ["_law_room", "_law_told"] (spListRight CR) := by
  obtain ⟨fdB, GB, bB⟩ := ok_basis (P := P) (w := w) (base := base) T
  obtain ⟨fdP, GP, bP⟩ := ok_places (P := P) (w := w) (base := base) T
  obtain ⟨f1, fd1, G1, m1, k1, b1⟩ := ok_is_own (P := P) (w := w) (base := base) T
  obtain ⟨f2, fd2, G2, m2, k2, b2⟩ := ok_lies_in (P := P) (w := w) (base := base) T
  refine ok_of T.dLawListRight scLR (fun vs H Q E h => ?_) (fun f cdv A outer sh H vs Q E hr h => ?_)
  · obtain ⟨p, q, n, B, L, rfl, _⟩ := h
    rfl
  · obtain ⟨p, q, n, B, L, rfl, hp, hg, hR, hF, k⟩ := h
    have hu65 : (A.deeper (PyProof.Rows.envOfC "_law_list_right" (defScope sLawListRight) sh.heap.objs.size f cdv)).units + 65 < cLine := by
      have := hr.un
      omega
    refine ⟨_, pss_cons (ps_set (i := 2) scLR.nd rfl (Or.inr rfl) (pe_lc (own := [("_law_one", 3)]) (g := gName 3) (tt := tYes) rfl scLR.nd (pi_list (pv 1)) (blkOk_by (own := [("_law_one", 3)]) (N := nLR) (sc := defScope sLawListRight) (by decide +kernel))
            (fun _ _ _ _ _ => pg_name (i := 3) scLR.nd rfl (Or.inl rfl)) (fun _ _ _ _ _ => pts_nil)
            (fun _ _ _ _ _ => pe_meth0 (pv 3) T.iR.cl T.meB GB (hr.mono (by decide)) bB .nil pass0)))
      (pss_cons (ps_if (PW.pt (pw_or (pt_not (pt_val (pe_callB call_isi (by rfl) T.z_isinstance PyProof.Rows.boot_isinstance (pa_cons (pv 1) (pa_cons (pe_bltn (v := .ty "list") (by rfl) T.z_list PyProof.Rows.boot_list rfl) pa_nil)))))
          (pw_or (pt_cmpR (op_neD hr.units) (pv 2) (pe_callB (K27R.cr_sortRows hr.units) (by rfl) T.z_sorted PyProof.Rows.boot_sorted (pa_cons (pv 2) pa_nil)) (nomark _))
          (pw_or1 (pt_val (pe_callB (cr_any rfl) (by rfl) T.z_any PyProof.Rows.boot_any (pa_cons (pe_lc (own := [("_law_at", 4), ("_law_basis", 5)]) (g := gPair K 4 5) (tt := tYes) rfl scLR.nd (pi_enum (by rfl) T.z_enumerate (pa_cons (pv 2) pa_nil)) (blkOk_by (own := [("_law_at", 4), ("_law_basis", 5)]) (N := nLR) (sc := defScope sLawListRight) (by decide +kernel))
            (fun _ _ _ _ _ => pg_tup rfl (pgs_cons (pg_name (i := 4) scLR.nd rfl (Or.inl rfl)) (pgs_cons (pg_name (i := 5) scLR.nd rfl (Or.inl rfl)) pgs_nil))) (fun _ _ _ _ _ => pts_nil)
            (fun _ _ _ _ _ => pe_cmpR (r := rInD K) (op_inD hu65) (pv 5) (pe_slice (r := rSlL K) sl_list (pv 2) po_none (po_some (pv 4))) rfl)) pa_nil)))))))
        (pss_one (ps_ret pe_bl)) pss_nil)
      (pss_one (ps_ret (pe_callB (cr_all rfl) (by rfl) T.z_all PyProof.Rows.boot_all (pa_cons (pe_lc (own := [("_law_one", 3)]) (g := gName 3) (tt := tYes) rfl scLR.nd (pi_list (pv 1)) (blkOk_by (own := [("_law_one", 3)]) (N := nLR) (sc := defScope sLawListRight) (by decide +kernel))
            (fun _ _ _ _ _ => pg_name (i := 3) scLR.nd rfl (Or.inl rfl)) (fun _ _ _ _ _ => pts_nil)
            (fun _ _ _ _ _ => pe_and (pe_call G1 hr rfl m1 k1 b1 .nil pass0 (pa_cons (pv 3) pa_nil)) (pe_and (pe_call G2 (hr.mono (by decide)) rfl m2 k2 b2 .nil pass0 (pa_cons (pv 0) (pa_cons (pv 3) pa_nil)))
              (pe_one (pe_cmpR op_eqN (pe_prop (pv 3) T.iR.cl T.prP GP (hr.mono (by decide)) bP .nil pass0 rfl) (pe_prop (pv 0) T.iR.cl T.prP GP (hr.mono (by decide)) bP .nil pass0 rfl) (nomark _)))))) pa_nil))))), ?_⟩
    obtain ⟨rs, hrL, hq, hrs⟩ := hR.ex
    have hLl : rs.length ≤ 135 := by
      have h1 := hF.len hg
      have h2 := fcnt_le hg
      have h3 : rs.length = L.length := by rw [← hrL, List.length_map]
      omega
    obtain ⟨hup, hnd⟩ := hF.up
    have hbs := el_bases (K := K) (σ := [some (.ref p), some (.ref q), none, none, none, none]) (H := H) (tl := tVar 1) (te := tMeth CR "basis" (spBasis CR) [] E0 (tVar 3) tNil) (j := 3) (vs := [3]) (told := q) (rs := rs) (ev_var rfl) hq (by omega) (fun _ => rfl) (fun r hr1 H1 e1 => el_basis (ev_var rfl) ((hrs r hr1).mono e1))
    refine q_asgP (Pr := fun ba H1 => Ex H H1 ∧ ∃ rows, LRows H1 ba rows ∧ rows.map (·.2) = rs.map (·.2)) (fun Q q => hbs H (Ex.refl H) Q fun ba H1 rows _ e1 hB hBL => q ba H1 ⟨e1, rows, hB, hBL⟩) fun ba H1 hh => ?_
    obtain ⟨e1, rows, hB, hBL⟩ := hh
    have hrows : rows.map (·.2) = L := hBL.trans hrL
    have hrl : rows.length = rs.length := by
      have := congrArg List.length hBL
      rw [List.length_map, List.length_map] at this
      exact this
    rw [← hrows] at hup hnd
    show tSeq _ _ _ [some (.ref p), some (.ref q), some (.ref ba), none, none, none] H1
    refine q_when (b := false) (et_is (et_or (a := false) (b := false) (et_is (et_not (a := true) (et_B (ev_cb (ea_cons (ev_var rfl) (ea_cons ev_c ea_nil)) fun H2 e2 Q q2 => ⟨.ref q, .ty "list", .type "list", .type "list", true, rfl, .ty "list", .base (.lst ((e1.trans e2) _ _ hq)), kit_ty (by decide +kernel), q2 H2 (Ex.refl H2)⟩))) rfl) fun _ => et_is (et_or (a := false) (b := false) (et_sorted (ev_var rfl) hB hup hnd) fun _ => et_is (et_B (ev_any (bs := (List.range rows.length).map fun _ => false) ?_)) ?_) rfl) rfl) (fun z => nomatch z) fun _ H2 e2 => ?_
    · intro H2 e2 Q q2
      have hB2 := (hB.mono e2)
      refine ⟨_, rfl, ba, _, rfl, SqL.of hB2.lst, fun Dl hD => ?_⟩
      refine lc_pair (K := K) (walk_enum (K := K) (a := ba) (xs := rows.map fun r => V.ref r.1)) (vs := [4, 5]) (fb := fun _ => true) (fv := fun _ => .bl false) (by rw [List.length_map]; omega) hD (fun H' e' => SqL.of (e' _ _ hB2.lst)) (fun _ _ => rfl) (fun i x y hi h1 h2 => et_yes) (fun i x y hi h1 h2 _ => ?_) (fun H' e' h' => q2 Dl H' hD e' (by rw [h', List.length_map]; unfold given; rw [filter_yes, List.map_map]; rfl))
      cases h1
      obtain ⟨r, hr1, hr2, rfl⟩ := vals_get h2
      have hri : (rows.map (·.2))[i]? = some r.2 := by
        rw [List.getElem?_map, hr1]
        rfl
      intro H3 e3 Q3 q3
      have hB3 := hB2.mono e3
      refine ⟨_, rfl, _, rfl, _, rfl, (i : Int), rfl, ba, _, rfl, SqL.of hB3.lst, fun pn hpn => ?_⟩
      have e4 : Ex H3 (upd H3 pn (.lst (cutV (rows.map fun r => V.ref r.1) none (some (i : Int))))) := Ex.new hpn
      have hS : LRows (upd H3 pn (.lst (cutV (rows.map fun r => V.ref r.1) none (some (i : Int))))) pn (rows.take i) := ⟨by rw [upd_same, cutRows], fun r hr => e4 _ _ (hB3.rows_ r (List.mem_of_mem_take hr))⟩
      refine ⟨_, _, dp_list (SqL.of (e4 _ _ (hB3.rows_ r hr2))), hS.dp, listD_shaped _, lists_shaped _, ?_⟩
      rw [any_listD, List.map_take, decide_eq_false (take_notin hnd hri)]
      exact q3 _ e4
    · rw [List.any_map, List.any_eq_false]
      intro x _ z
      cases z
    · have e12 := e1.trans e2
      have hc := el_compL (K := K) (σ := [some (.ref p), some (.ref q), some (.ref ba), none, none, none]) (H := H2) (tl := tVar 1) (te := tAndV (tCall (spOwn CR) [] E0 (tCons (tVar 3) tNil)) (tAndV (tCall (spLiesIn CR) [] E0 (tCons (tVar 0) (tCons (tVar 3) tNil))) (tOp (rC2 fun n m => decide (n = m)) (tProp CR (spPlacesP CR) [] E0 (tVar 3)) (tProp CR (spPlacesP CR) [] E0 (tVar 0))))) (t := tYes)
        (a := q) (B := rs) (d := (0, [])) (f := fun r => V.ref r.1) (j := 3) (vs := [3]) (fun _ => true) (fun _ => .bl true) (ev_var rfl) (SqL.of (e12 _ _ hq)) (by omega) (fun _ => rfl) (fun _ _ _ _ => et_yes) (fun r H3 e3 hr1 _ => ?_)
      · rw [filter_yes] at hc
        refine s_ret (v := .bl true) (ev_is (ev_all (bs := rs.map fun _ => true) (el_is hc ?_)) ?_) fun H3 e3 => k H3 (e12.trans e3)
        · rw [List.map_map]
          rfl
        · congr 1
          rw [List.all_map, List.all_eq_true]
          exact fun _ _ => rfl
      · have hrr := ((hrs r hr1).mono e12).mono e3
        obtain ⟨c1, c2, c3, c4, c5⟩ := hF.each hg r.2 (by rw [← hrL]; exact List.mem_map_of_mem hr1)
        have hn12 := hg.n12
        refine ev_is (ev_andV (a := true) (b := true) (ev_callV (ea_cons (ev_var rfl) ea_nil) fun H4 e4 Q q E => ⟨r.1, n, r.2, rfl, ⟨hrr.mono e4, plain_lt24 c3 (by omega), c2⟩, c4, q⟩) fun _ => ev_is (ev_andV (a := true) (b := true) (ev_callV (ea_cons (ev_var rfl) (ea_cons (ev_var rfl) ea_nil)) fun H4 e4 Q q' E => ⟨p, r.1, n, B, r.2, rfl, ((hp.mono e12).mono e3).mono e4, hrr.mono e4, c1.1, c5, hg.len, q'⟩) fun _ => ev_is (ev_c2 (ev_placesP (ev_var rfl) hrr) (ev_placesP (ev_var rfl) ((hp.mono e12).mono e3))) (by rw [decide_eq_true rfl])) rfl) rfl
end
end K27W
set_option maxHeartbeats 4000000
/-! K27L7: _law_room_right. -/
namespace K27W
open PySem PySem.Spec L2 Evl
abbrev DR (CR : Addr) : Eqv := DIns CR (RR CR)
theorem mon_DR (CR : Addr) : Mon (DR CR) := mon_ins fun a b H H' e h => by
  obtain ⟨n, B, h1, h2⟩ := h
  exact ⟨n, B, h1.mono e, h2.mono e⟩
/-- lists of Rooms over the same bases are equal -/
theorem rooms_eq {CR : Addr} {H : Hp} {p q : Addr} {n : Nat} {L : List (List Nat)} (h1 : RoomsAt CR H p n L) (h2 : RoomsAt CR H q n L) : DList (DR CR) (.ref p) (.ref q) H := by
  obtain ⟨r1, e1, a1, b1⟩ := h1.ex
  obtain ⟨r2, e2, a2, b2⟩ := h2.ex
  have hl : r1.length = r2.length := by
    have := congrArg List.length (e1.trans e2.symm)
    rw [List.length_map, List.length_map] at this
    exact this
  refine ⟨p, q, _, _, rfl, rfl, a1, a2, by rw [List.length_map, List.length_map, hl], fun i x y hx hy => ?_⟩
  obtain ⟨u, hu1, hu2, rfl⟩ := vals_get hx
  obtain ⟨v, hv1, hv2, rfl⟩ := vals_get hy
  have e3 : u.2 = v.2 := by
    have h3 : L[i]? = some u.2 := by rw [← e1, List.getElem?_map, hu1]; rfl
    have h4 : L[i]? = some v.2 := by rw [← e2, List.getElem?_map, hv1]; rfl
    exact Option.some.inj (h3.symm.trans h4)
  have ru := b1 u hu2
  have rv := b2 v hv2
  rw [← e3] at rv
  obtain ⟨dx, bx, g1, _⟩ := ru.ex
  obtain ⟨dy, by', g2, _⟩ := rv.ex
  exact ⟨u.1, v.1, dx, dy, _, _, rfl, rfl, g1, g2, n, u.2, ru, rv⟩
section
variable {K : PySem.W.Frag} {σ : L2.St} {H : Hp} {te tb ta : TE} {t : TT} {CR : Addr}
/-- what gives the fills of a room -/
abbrev FillsAt (CR : Addr) (n : Nat) (B : List Nat) (q : Addr) (H : Hp) : Prop := ∃ L, RoomsAt CR H q n L ∧ Fl n B L
theorem te_fills {p : Addr} {n : Nat} {B : List Nat} {E : XK} (h : Ev ta σ H (.ref p)) (hp : RoomAt CR H p n B) (hg : Good n B) : EvNew (tCall (spFills CR) [] E (tCons ta tNil)) σ H (FillsAt CR n B) := fun H1 e Q q =>
  h H1 e _ fun H2 e2 => ⟨p, n, B, rfl, hp.mono (e.trans e2), hg, fun r H3 L hr e3 hR hF => q r H3 (fresh_back e2 hr) (e2.trans e3) ⟨L, hR, hF⟩⟩
theorem te_fillsN {p : Addr} {n : Nat} {B : List Nat} {E : XK} (h : Ev ta σ H (.ref p)) (hp : RoomAt CR H p n B) (hg : Good n B) : EvNew (tCallN 0 1 (spFills CR) (fun _ zs => zs) E tNil (tCons ta tNil)) σ H (FillsAt CR n B) := fun H1 e Q q =>
  h H1 e _ fun H2 e2 => ⟨rfl, rfl, p, n, B, rfl, hp.mono (e.trans e2), hg, fun r H3 L hr e3 hR hF => q r H3 (fresh_back e2 hr) (e2.trans e3) ⟨L, hR, hF⟩⟩
theorem EvNew.mono {Pr : Addr → Hp → Prop} {H' : Hp} (h : EvNew te σ H Pr) (e : Ex H H') : EvNew te σ H' Pr := fun H1 e1 Q q => h H1 (e.trans e1) Q q
/-- fills(..) != a list of the same fills -/
theorem et_neV {q : Addr} {n : Nat} {B : List Nat} {L : List (List Nat)} (h1 : EvNew te σ H (FillsAt CR n B)) (h2 : Ev tb σ H (.ref q)) (hR : RoomsAt CR H q n L) (hF : Fl n B L) : EvT (tTest (tOp (K27R.rNeG (DR CR)) te tb)) σ H false := fun H1 e Q k =>
  h1 H1 e _ fun p H2 _ e2 ⟨L', hR', hF'⟩ => h2 H2 (e.trans e2) _ fun H3 e3 => by
    have eL := hF'.unique hF
    subst eL
    exact ⟨rooms_eq (hR'.mono e3) (hR.mono ((e.trans e2).trans e3)), fun H4 e4 => ⟨false, rfl, k H4 ((e2.trans e3).trans e4)⟩⟩
theorem et_neN {n : Nat} {B : List Nat} (h1 : EvNew te σ H (FillsAt CR n B)) (h2 : EvNew tb σ H (FillsAt CR n B)) : EvT (tTest (tOp (K27R.rNeG (DR CR)) te tb)) σ H false := fun H1 e Q k =>
  h1 H1 e _ fun p H2 _ e2 ⟨L', hR', hF'⟩ => h2 H2 (e.trans e2) _ fun q H3 _ e3 ⟨L, hR, hF⟩ => by
    have eL := hF'.unique hF
    subst eL
    exact ⟨rooms_eq (hR'.mono e3) hR, fun H4 e4 => ⟨false, rfl, k H4 ((e2.trans e3).trans e4)⟩⟩
theorem et_basesD {rs rows : List (Addr × List Nat)} {a : Addr} (hbs : ∀ H1, Ex H H1 → ∀ Q : VK, (∀ p H2 rows, H1 p = none → Ex H1 H2 → LRows H2 p rows → rows.map (·.2) = rs.map (·.2) → Q (.ref p) H2) → te σ H1 Q) (hb : Ev tb σ H (.ref a)) (hL : LRows H a rows) (hLe : rows.map (·.2) = rs.map (·.2)) :
    EvT (tTest (tOp (rNeD K) te tb)) σ H false := fun H5 e5 Q5 q5 => hbs H5 e5 _ fun p H6 rows2 hp e6 hB hBL => hb H6 (e5.trans e6) _ fun H7 e7 => by
  have hd1 := (hB.mono e7).dp (K := K)
  have hd2 := (((hL.mono e5).mono e6).mono e7).dp (K := K)
  rw [hBL] at hd1
  rw [hLe] at hd2
  refine ⟨_, _, hd1, hd2, lists_shaped _, lists_shaped _, ?_⟩
  rw [lists_eqv]
  exact ⟨false, rfl, q5 H7 (e6.trans e7)⟩
theorem cut_last (ys : List V) (z : V) : cutV (ys ++ [z]) none (some (-1)) = ys := by
  unfold cutV
  rw [HT.sIx_none, List.drop_zero, Nat.sub_zero, List.length_append, List.length_singleton]
  have e : HT.sIx (ys.length + 1) (ys.length + 1) (some (-1)) = ys.length := by
    show (if (-1 : Int) < 0 then ((-1 : Int) + ((ys.length + 1 : Nat) : Int)).toNat else min (-1 : Int).toNat (ys.length + 1)) = ys.length
    rw [if_pos (by decide)]
    omega
  rw [e, List.take_left]
theorem en_ifT {Pr : Addr → Hp → Prop} (h : EvT t σ H true) (h1 : EvNew ta σ H Pr) : EvNew (tIf t ta tb) σ H Pr := fun H1 e Q q => h H1 e _ fun H2 e2 => by
  show ta σ H2 Q
  exact h1 H2 (e.trans e2) Q fun p H3 hp e3 h3 => q p H3 (fresh_back e2 hp) (e2.trans e3) h3
theorem s_asgN {i : Nat} {D : Ends} {Pr : Addr → Hp → Prop} (h : EvNew te σ H Pr) (k : ∀ p H1, H p = none → Ex H H1 → Pr p H1 → D.nx (σ.set i (some (.ref p))) H1) : tAsg te (gName i) D σ H := by
  show te σ H (fun x H1 => D.nx (σ.set i (some x)) H1)
  exact h H (Ex.refl H) _ fun p H1 hp e1 h1 => k p H1 hp e1 h1
end
section
variable {P : Program} {w : World} {K : PySem.W.Frag} {mg : Str → Option Value} {base : Heap} {CT CR fTI fRI gP pP fB fH fE aH : Addr}
theorem te_over {σ : L2.St} {H : Hp} {ta tb : TE} {n : Nat} {b : Addr} {ws : List Nat} {E : XK} (h1 : Ev ta σ H (vI n)) (h2 : Ev tb σ H (.ref b)) (hb : H b = some (.lst (vW ws))) (hg : Good n (K27.plainOf ws)) (ev : n % 2 = 0) (h6 : n ≤ 6) (hl : ws.length ≤ 90) :
    EvNew (tCall spOver [] E (tCons ta (tCons tb tNil))) σ H (fun p H2 => ∃ rows, LRows H2 p rows ∧ Fl n (K27.plainOf ws) (rows.map (·.2))) := fun H1 e Q q =>
  ea_cons h1 (ea_cons h2 ea_nil) H1 e _ fun H2 e2 => ⟨n, b, ws, rfl, e2 _ _ (e _ _ hb), hg, ev, h6, hl, fun p H3 rows hp e3 hR hF => q p H3 (fresh_back e2 hp) (e2.trans e3) ⟨rows, hR, .inr ⟨ev, hF⟩⟩⟩
def spRoomRight : Sp := fun vs H Q _ => ∃ (n : Nat) (b : Addr) (ws : List Nat), vs = [vI n, .ref b] ∧ H b = some (.lst (vW ws)) ∧ Good n (K27.plainOf ws) ∧ ws.length ≤ 48 ∧ (∀ x ∈ ws, x < 2 ^ n) ∧ RetV (.bl true) H Q
abbrev nRR : List Str := ["_law_places", "_law_words", "_law_room", "_law_told", "_law_due", "_law_one"]
theorem scRR : FnScope nRR ["_law_places", "_law_words"] (defScope sLawRoomRight) := ⟨rfl, rfl, rfl, by decide +kernel, rfl, by decide +kernel, by decide +kernel⟩
theorem ok_room_right (T : Txt K mg CT CR fTI fRI gP pP fB fH fE aH) : Ok P w K mg base 10 "_law_room_right" ["_law_places", "_law_words"] spRoomRight := by
  obtain ⟨fdRI, GRI, bRI⟩ := ok_rInit (P := P) (w := w) (base := base) T
  obtain ⟨fdB, GB, bB⟩ := ok_basis (P := P) (w := w) (base := base) T
  obtain ⟨fdE, GE, bE⟩ := ok_eq (P := P) (w := w) (base := base) T
  obtain ⟨f1, fd1, G1, m1, k1, b1, kb1⟩ := ok_fillsF (P := P) (w := w) (base := base) T
  obtain ⟨f2, fd2, G2, m2, k2, b2⟩ := ok_list_right (P := P) (w := w) (base := base) T
  obtain ⟨f3, fd3, G3, m3, k3, b3⟩ := ok_over (P := P) (w := w) (base := base) T
  obtain ⟨f4, fd4, G4, m4, k4, b4⟩ := ok_fill_count (P := P) (w := w) (base := base) T
  refine ok_of T.dLawRoomRight scRR (fun vs H Q E h => ?_) (fun f cdv A outer sh H vs Q E hr h => ?_)
  · obtain ⟨n, b, ws, rfl, _⟩ := h
    rfl
  · obtain ⟨n, b, ws, rfl, hb, hg, hl, hlt, k⟩ := h
    refine ⟨_, pss_cons (ps_set (i := 2) scRR.nd rfl (Or.inl rfl) (pe_make T.mkR GRI (hr.mono (by decide)) rfl T.mgR bRI .nil pass0 (pa_cons (pv 0) (pa_cons (pv 1) pa_nil))))
      (pss_cons (ps_set (i := 3) scRR.nd rfl (Or.inl rfl) (pe_call G1 hr rfl m1 k1 b1 .nil pass0 (pa_cons (pv 2) pa_nil)))
      (pss_cons (ps_if (PW.pt (pw_or (pt_not (pt_val (pe_call G2 (hr.mono (by decide)) rfl m2 k2 b2 .nil pass0 (pa_cons (pv 2) (pa_cons (pv 3) pa_nil)))))
          (pw_or (pt_cmpR (K27R.op_neG (mon_DR CR) (eqG_ins GE T.eqF T.eqI bE pass0) (hr.mono (by decide))) (pe_callN0 G1 hr rfl m1 k1 kb1 pass0 (pk_cons (pv 2) pk_nil)) (pv 3) (nomark _))
          (pw_or1 (pt_cmpR op_neN (pe_callB call_len_seq (by rfl) T.z_len PySem.boot_len (pa_cons (pv 3) pa_nil)) (pe_call G4 (hr.mono (by decide)) rfl m4 k4 b4 .nil pass0 (pa_cons (pv 2) pa_nil)) (nomark _))))))
        (pss_one (ps_ret pe_bl)) pss_nil)
      (pss_cut (ps_set (i := 4) scRR.nd rfl (Or.inl rfl) (pe_ifExp (PW.pt (pw_and (pt_cmpR op_eqN (pe_op op_modNN (pv 0) pe_int) pe_int (nomark _)) (pw_and1 (pt_cmpR op_leN (pv 0) pe_int (nomark _))))) (pe_call G3 (hr.mono (by decide)) rfl m3 k3 b3 .nil pass0 (pa_cons (pv 0) (pa_cons (pv 1) pa_nil))) pe_non))
      (pss_cons (ps_if (PW.pt (pw_and (pt_cmp (pc_notN (pv 4)) rfl) (pw_and1 (pt_cmpR (op_neD hr.units) (pe_lc (own := [("_law_one", 5)]) (g := gName 5) (tt := tYes) rfl scRR.nd (pi_list (pv 3)) (blkOk_by (own := [("_law_one", 5)]) (N := nRR) (sc := defScope sLawRoomRight) (by decide +kernel))
            (fun _ _ _ _ _ => pg_name (i := 5) scRR.nd rfl (Or.inl rfl)) (fun _ _ _ _ _ => pts_nil)
            (fun _ _ _ _ _ => pe_meth0 (pv 5) T.iR.cl T.meB GB (hr.mono (by decide)) bB .nil pass0)) (pv 4) (nomark _)))))
        (pss_one (ps_ret pe_bl)) pss_nil)
      (pss_cons (ps_expr (pe_bm PySem.F.plainAttrs_list PySem.F.slot_list_append PySem.F.type_list_append mt_append (pv 3) (pa_cons pe_non pa_nil)))
      (pss_one (ps_ret (pe_cmpR (op_eqG (rcG_list (mon_DR CR) (eqG_ins GE T.eqF T.eqI bE pass0)) (hr.mono (by decide))) (pe_call G1 hr rfl m1 k1 b1 .nil pass0 (pa_cons (pv 2) pa_nil)) (pe_slice sl_list (pv 3) po_none (po_some (pe_un un_neg pe_int))) (nomark _))))))))), ?_⟩
    have hn1 := hg.n1
    have hn12 := hg.n12
    refine q_asgN (new_roomV (ev_var rfl) (ev_var rfl) hb ⟨hn1, by omega⟩ hl hlt) fun rm H1 hrm e1 hR1 => ?_
    refine q_asgN (te_fills (ev_var rfl) hR1 hg) fun told H2 htold e2 hFA => ?_
    obtain ⟨L, hT2, hF⟩ := hFA
    have hR2 := hR1.mono e2
    have htf : H told = none := fresh_back e1 htold
    have hfl := hF.len hg
    have hfc := fcnt_le hg
    refine q_when (b := false) (et_is (et_or (a := false) (b := false) (et_is (et_not (a := true) (et_B (ev_callV (ea_cons (ev_var rfl) (ea_cons (ev_var rfl) ea_nil)) fun H3 e3 Q q E => ⟨rm, told, n, _, L, rfl, hR2.mono e3, hg, hT2.mono e3, hF, q⟩))) rfl) fun _ => et_is (et_or (a := false) (b := false) (et_neV (te_fillsN (ev_var rfl) hR2 hg) (ev_var rfl) hT2 hF) fun _ => et_is (et_c2 (n := L.length) (m := fcnt n (K27.plainOf ws)) ?_ (ev_callV (ea_cons (ev_var rfl) ea_nil) fun H3 e3 Q q E => ⟨rm, n, _, rfl, hR2.mono e3, hg, q⟩)) (by rw [hfl, decide_eq_true rfl]; rfl)) rfl) rfl) (fun z => nomatch z) fun _ H3 e3 => ?_
    · obtain ⟨rs, hrs, htl, _⟩ := hT2.ex
      refine ev_is (ev_lenV (ev_var rfl) (.inl (SqL.of htl))) ?_
      rw [List.length_map, ← hrs, List.length_map]
    have hR3 := hR2.mono e3
    have hT3 := hT2.mono e3
    have e13 := (e1.trans e2).trans e3
    refine q_cut (M := fun σ' H' => ∃ v, σ' = [some (vI n), some (.ref b), some (.ref rm), some (.ref told), some v, none] ∧ Ex H3 H' ∧ (v = .non ∨ ∃ a rows, v = .ref a ∧ LRows H' a rows ∧ rows.map (·.2) = L)) ?_ ?_
    · have hcond : EvT (tAnd (tTest (tOp (rC2 fun n m => decide (n = m)) (tOp (rN2 (fun _ m => 0 < m) fun n m => n % m) (tVar 0) (tC (.int ((2 : Nat) : Int)))) (tC (.int ((0 : Nat) : Int))))) (tTest (tOp (rC2 fun n m => decide (n ≤ m)) (tVar 0) (tC (.int ((6 : Nat) : Int)))))) [some (vI n), some (.ref b), some (.ref rm), some (.ref told), none, none] H3 (decide (n % 2 = 0) && decide (n ≤ 6)) :=
        et_and (et_c2 (ev_n2 (ev_var rfl) (ev_k 2) (by decide)) (ev_k 0)) fun _ => et_c2 (ev_var rfl) (ev_k 6)
      by_cases hc : n % 2 = 0 ∧ n ≤ 6
      · refine s_asgN (en_ifT (et_is hcond (by rw [decide_eq_true hc.1, decide_eq_true hc.2]; rfl)) (te_over (ev_var rfl) (ev_var rfl) (e13 _ _ hb) hg hc.1 hc.2 (by omega))) fun p H4 hp e4 h4 => ?_
        obtain ⟨rows, hL, hF'⟩ := h4
        exact ⟨_, rfl, e4, .inr ⟨p, rows, rfl, hL, hF'.unique hF⟩⟩
      · refine s_asg (v := .non) (ev_if (b := false) (et_is hcond ?_) (fun z => nomatch z) (fun _ => ev_c)) fun H4 e4 => ⟨_, rfl, e4, .inl rfl⟩
        by_cases h2 : n % 2 = 0
        · have h6 : ¬ n ≤ 6 := fun z => hc ⟨h2, z⟩
          rw [decide_eq_false h6, Bool.and_false]
        · rw [decide_eq_false h2, Bool.false_and]
    · rintro σ' H4 ⟨v, rfl, e4, hv⟩
      have hR4 := hR3.mono e4
      have hT4 := hT3.mono e4
      obtain ⟨rs, hrs, htl, hrms⟩ := hT4.ex
      have hrsl : rs.length = L.length := by rw [← hrs, List.length_map]
      refine q_when (b := false) ?_ (fun z => nomatch z) fun _ H5 e5 => ?_
      · rcases hv with rfl | ⟨a, rows, rfl, hL, hLe⟩
        · exact et_is (et_and (a := false) (b := true) (et_B (ev_is (ev_notN (x := .non) (ev_var rfl)) rfl)) (fun z => nomatch z)) rfl
        · refine et_is (et_and (a := true) (b := false) (et_B (ev_is (ev_notN (x := .ref a) (ev_var rfl)) (by rw [decide_eq_false (by intro z; cases z)]; rfl))) fun _ => ?_) rfl
          have hbs := el_bases (K := K) (σ := [some (vI n), some (.ref b), some (.ref rm), some (.ref told), some (.ref a), none]) (H := H4) (tl := tVar 3) (te := tMeth CR "basis" (spBasis CR) [] E0 (tVar 5) tNil) (j := 5) (vs := [5]) (told := told) (rs := rs) (ev_var rfl) htl (by omega) (fun _ => rfl) (fun r hr1 H1 e1 => el_basis (ev_var rfl) ((hrms r hr1).mono e1))
          exact et_basesD hbs (ev_var rfl) hL (hLe.trans hrs.symm)
      · have e15 := (e13.trans e4).trans e5
        have hR5 := hR4.mono e5
        refine q_app (e5 _ _ htl) (ev_var rfl) (v := .non) ev_c (by rw [List.length_map]; omega) fun H6 e6 => ?_
        have htl6 := e6 _ _ (e5 _ _ htl)
        have hR6 := (hR5.mono e6).upd_lst (o := .lst ((rs.map fun r => V.ref r.1) ++ [.non])) htl6
        have e16 : Ex H (upd H6 told (.lst ((rs.map fun r => V.ref r.1) ++ [.non]))) := Ex.mut (e15.trans e6) htf
        have hrm6 : ∀ r ∈ rs, RoomAt CR (upd H6 told (.lst ((rs.map fun r => V.ref r.1) ++ [.non]))) r.1 n r.2 := fun r hr1 => (((hrms r hr1).mono e5).mono e6).upd_lst htl6
        generalize hH7 : upd H6 told (.lst ((rs.map fun r => V.ref r.1) ++ [.non])) = H7 at hR6 e16 hrm6
        have hto7 : H7 told = some (.lst ((rs.map fun r => V.ref r.1) ++ [.non])) := by rw [← hH7]; exact upd_same
        refine (te_fills (E := E0) (ev_var (σ := [some (vI n), some (.ref b), some (.ref rm), some (.ref told), some v, none]) (i := 2) rfl) hR6 hg) H7 (Ex.refl H7) _ fun q H8 hq e8 hFA8 => ?_
        obtain ⟨L8, hQ8, hF8⟩ := hFA8
        have eL := hF8.unique hF
        subst eL
        have hto8 := e8 _ _ hto7
        refine ⟨_, rfl, 1, rfl, -1, rfl, told, _, rfl, SqL.of hto8, fun pn hpn => ?_⟩
        rw [cut_last]
        have e9 : Ex H8 (upd H8 pn (.lst (rs.map fun r => V.ref r.1))) := Ex.new hpn
        exact ⟨rooms_eq (hQ8.mono e9) ⟨rs, hrs, upd_same, fun r hr1 => (((hrm6 r hr1).mono e8).mono e9)⟩, fun H9 e10 => k H9 (((e16.trans e8).trans e9).trans e10)⟩
end
end K27W
set_option maxHeartbeats 4000000
/-! K27L8: what _law_right needs: good rooms, more words, draws within other terms. -/
namespace K27W
open PySem PySem.Spec L2 Evl
theorem good_of {n : Nat} {ws : List Nat} (h1 : 1 ≤ n) (h2 : n ≤ 12) (hs : K27.Still ws) (hl : ∀ x ∈ ws, x < 2 ^ n) (hr : n % 2 = 0 → n / 2 ≤ (K27.plainOf (ws ++ [K27.ones n])).length + 2) : Good n (K27.plainOf ws) :=
  ⟨K27.plainOf_plain ws, hs.same (K27.plainOf_same ws), K27.plainOf_lt hl, h1, h2, fun ev => by rw [← K27.extP_eq]; exact hr ev⟩
theorem good_small {n : Nat} {ws : List Nat} (h1 : 1 ≤ n) (h2 : n ≤ 6) (hs : K27.Still ws) (hl : ∀ x ∈ ws, x < 2 ^ n) : Good n (K27.plainOf ws) := by
  refine good_of h1 (by omega) hs hl fun _ => ?_
  have h3 : (K27.plainOf (ws ++ [K27.ones n])).length ≠ 0 := by
    intro z
    have z2 := List.length_eq_zero_iff.mp z
    have h4 := (K27.plainOf_same (ws ++ [K27.ones n]) (K27.ones n)).mpr (K27.gen_mem (List.mem_append_right _ List.mem_cons_self))
    rw [z2] at h4
    have h5 : K27.ones n = 0 := List.mem_singleton.mp h4
    have h6 : 2 ^ 1 ≤ 2 ^ n := Nat.pow_le_pow_right (by decide) h1
    unfold K27.ones at h5
    omega
  omega
theorem fl_more {n : Nat} {ws : List Nat} {L : List (List Nat)} {w : Nat} {E : List Nat} (hg : Good n (K27.plainOf ws)) (ev : n % 2 = 0) (hF : Fl n (K27.plainOf ws) L) (hE : E ∈ L) (hw : w ∈ K27.allW E) (hlt : ∀ x ∈ ws, x < 2 ^ n) :
    Good n (K27.plainOf (ws ++ [w])) ∧ Fl n (K27.plainOf (ws ++ [w])) (L.filter fun C => decide (K27.red C w = 0)) := by
  obtain ⟨c1, c2, c3, c4, c5⟩ := hF.each hg E hE
  have hwlt : w < 2 ^ n := K27.allW_lt c3 hw
  have s := K27.more_same ws (K27.ones n) w
  have hsub : ∀ c ∈ ws ++ [w], c ∈ K27.allW E := fun c hc => by
    rcases List.mem_append.mp hc with hc | hc
    · exact K27.allW_sub c5 ((K27.plainOf_same ws c).mpr (K27.gen_mem hc))
    · rw [List.mem_singleton.mp hc]
      exact hw
  have hlt2 : ∀ x ∈ ws ++ [w], x < 2 ^ n := fun x hx => by
    rcases List.mem_append.mp hx with hx | hx
    · exact hlt x hx
    · rw [List.mem_singleton.mp hx]
      exact hwlt
  have hb0 := hg.base ev
  have hlen : (K27.extB (K27.plainOf ws) (K27.ones n)).length ≤ (K27.extB (K27.plainOf (ws ++ [w])) (K27.ones n)).length :=
    hb0.plain.1.ind.len_le fun b hb => (s b).mpr (K27.gen_mem (List.mem_cons_of_mem _ hb))
  have hg2 : Good n (K27.plainOf (ws ++ [w])) := by
    refine ⟨K27.plainOf_plain _, c2.within fun c hc => K27.allW_sub hsub ((K27.plainOf_same _ c).mp (K27.gen_mem hc)), K27.plainOf_lt hlt2, hg.n1, hg.n12, fun ev => ?_⟩
    have := hg.room ev
    omega
  refine ⟨hg2, .inr ⟨ev, ?_⟩⟩
  have hb1 := hg2.base ev
  have l0 := Base.len hb0
  have l1 := Base.len hb1
  rcases hF with ⟨o, _⟩ | ⟨_, f⟩
  · omega
  · refine ⟨f.up.filter _, f.nodup.filter _, fun C => ?_⟩
    rw [List.mem_filter, f.mem, decide_eq_true_iff]
    exact K27.lev_more s (by omega)
section
variable {K : PySem.W.Frag} {σ : L2.St} {H : Hp} {te tb ta tc : TE} {t : TT} {CR : Addr}
theorem q_asgDraw {a : Addr} {c m i : Nat} {E : XK} {D : Ends} {tz : TS} (h1 : Ev ta σ H (.ref a)) (h2 : Ev tb σ H (vI m)) (hp : PotAt a H) (hm : 1 ≤ m ∧ m ≤ 1000000) (k : ∀ d H2, d < m → ExA a H H2 → PotAt a H2 → tz D (σ.set i (some (vI (c + d)))) H2) :
    tSeq (tAsg (tOp (rN2 (fun _ _ => True) fun n m => n + m) (tC (.int (c : Int))) (tCall spDraw [] E (tCons ta (tCons tb tNil)))) (gName i)) tz D σ H := by
  show tCall spDraw [] E (tCons ta (tCons tb tNil)) σ H (fun y H2 => rN2 (fun _ _ => True) (fun n m => n + m) (.int (c : Int)) y H2 fun x H1 => tz D (σ.set i (some x)) H1)
  exact te_draw h1 h2 hp hm fun d H2 hd e2 p2 => ⟨c, d, rfl, rfl, True.intro, k d H2 hd e2 p2⟩
/-- still words that were drawn -/
def SAt (a : Addr) (n m : Nat) (H : Hp) (p : Addr) (H2 : Hp) : Prop := ExA a H H2 ∧ PotAt a H2 ∧ p ≠ a ∧ ∃ ws, H2 p = some (.lst (vW ws)) ∧ ws.length ≤ m ∧ (∀ x ∈ ws, x < 2 ^ n) ∧ K27.Still ws
theorem te_lstill {a : Addr} {n m : Nat} {E : XK} {Q : VK} (h1 : Ev ta σ H (.ref a)) (h2 : Ev tb σ H (vI n)) (h3 : Ev tc σ H (vI m)) (hp : PotAt a H) (hn : n ≤ 12) (hm : m ≤ 10) (k : ∀ p H2, SAt a n m H p H2 → Q (.ref p) H2) : tCall spLStill [] E (tCons ta (tCons tb (tCons tc tNil))) σ H Q :=
  ea_cons h1 (ea_cons h2 (ea_cons h3 ea_nil)) H (Ex.refl H) _ fun H1 e1 => ⟨a, n, m, rfl, hp.mono e1, hn, hm, fun p H2 ws hp2 e2 p2 hx hl hlt hst => k p H2 ⟨(ex_pot e1 a).trans e2, p2, (hp.mono e1).ne hp2, ws, hx, hl, hlt, hst⟩⟩
theorem te_paired {a : Addr} {n m : Nat} {E : XK} {Q : VK} (h1 : Ev ta σ H (.ref a)) (h2 : Ev tb σ H (vI n)) (h3 : Ev tc σ H (vI m)) (hp : PotAt a H) (hn : n ≤ 6) (hm : m ≤ 10) (k : ∀ p H2, SAt a (2 * n) m H p H2 → Q (.ref p) H2) : tCall spPaired [] E (tCons ta (tCons tb (tCons tc tNil))) σ H Q :=
  ea_cons h1 (ea_cons h2 (ea_cons h3 ea_nil)) H (Ex.refl H) _ fun H1 e1 => ⟨a, n, m, rfl, hp.mono e1, hn, hm, fun p H2 ws hp2 e2 p2 hx hl hlt hst => k p H2 ⟨(ex_pot e1 a).trans e2, p2, (hp.mono e1).ne hp2, ws, hx, hl, hlt, hst⟩⟩
theorem ev_roomRight {n : Nat} {b : Addr} {ws : List Nat} {E : XK} (h1 : Ev ta σ H (vI n)) (h2 : Ev tb σ H (.ref b)) (hb : H b = some (.lst (vW ws))) (hg : Good n (K27.plainOf ws)) (hl : ws.length ≤ 48) (hlt : ∀ x ∈ ws, x < 2 ^ n) : Ev (tCall spRoomRight [] E (tCons ta (tCons tb tNil))) σ H (.bl true) :=
  ev_callV (ea_cons h1 (ea_cons h2 ea_nil)) fun H1 e Q q E => ⟨n, b, ws, rfl, e _ _ hb, hg, hl, hlt, q⟩
theorem ev_lenL {xs : List V} (h : EvL te σ H xs) : Ev (tCB (rLenQ K) (tCons te tNil)) σ H (vI xs.length) := fun H1 e Q q =>
  h H1 e _ fun p H2 _ e2 h2 => ⟨p, xs, rfl, .inl (SqL.of h2), q H2 e2⟩
theorem el_plain {b : Addr} {ws : List Nat} {E : XK} (h : Ev ta σ H (.ref b)) (hb : H b = some (.lst (vW ws))) (hl : ws.length ≤ 99) : EvL (tCall spLPlain [] E (tCons ta tNil)) σ H (vW (K27.plainOf ws)) :=
  el_callN (ea_cons h ea_nil) fun H1 e Q q E => ⟨b, ws, rfl, e _ _ hb, hl, q⟩
theorem el_plainL {ws : List Nat} {E : XK} (h : EvL ta σ H (vW ws)) (hl : ws.length ≤ 99) : EvL (tCall spLPlain [] E (tCons ta tNil)) σ H (vW (K27.plainOf ws)) :=
  el_callL h fun p H1 e h1 Q q E => ⟨p, ws, rfl, h1, hl, q⟩
theorem el_spanL {B : List Nat} {E : XK} (h : EvL ta σ H (vW B)) (hl : B.length ≤ 14) : EvL (tCall spLSpan [] E (tCons ta tNil)) σ H (vW (K27.allW B.reverse)) :=
  el_callL h fun p H1 e h1 Q q E => ⟨p, B, rfl, h1, hl, q⟩
theorem te_pickL {a : Addr} {ws : List Nat} {E : XK} {Q : VK} (h1 : Ev ta σ H (.ref a)) (h2 : EvL tb σ H (vW ws)) (hp : PotAt a H) (hm : 1 ≤ ws.length ∧ ws.length ≤ 1000000) (k : ∀ x H2, x ∈ ws → ExA a H H2 → PotAt a H2 → Q (vI x) H2) : tCall spPick [] E (tCons ta (tCons tb tNil)) σ H Q :=
  h1 H (Ex.refl H) _ fun H1 e1 => h2 H1 e1 _ fun b H2 hb e2 hx => ⟨a, b, ws, rfl, hp.mono (e1.trans e2), (hp.mono e1).ne hb, hx, hm.1, hm.2, fun x H3 hxm e3 p3 => k x H3 hxm ((ex_pot (e1.trans e2) a).trans e3) p3⟩
theorem te_fillsE {n : Nat} {B : List Nat} {E : XK} (h : EvNew ta σ H (fun p H2 => RoomAt CR H2 p n B)) (hg : Good n B) : EvNew (tCall (spFills CR) [] E (tCons ta tNil)) σ H (FillsAt CR n B) := fun H1 e Q q =>
  h H1 e _ fun p H2 hp e2 hR => ⟨p, n, B, rfl, hR, hg, fun r H3 L hr e3 hR hF => q r H3 (fresh_back e2 hr) (e2.trans e3) ⟨L, hR, hF⟩⟩
theorem el_snoc {b : Addr} {ws : List Nat} {w : Nat} (h : Ev ta σ H (.ref b)) (hb : H b = some (.lst (vW ws))) (h2 : Ev tb σ H (vI w)) (hl : ws.length ≤ 99) : EvL (tOp rCat ta (tLst (tCons tb tNil))) σ H (vW (ws ++ [w])) := by
  refine el_is (el_catV (xs := vW ws) (ys := [vI w]) h hb (el_lst (ea_cons h2 ea_nil) (by show 1 ≤ 100000; decide)) (by rw [vW_len]; show ws.length + 1 ≤ _; omega)) ?_
  unfold vW
  rw [List.map_append]
  rfl
theorem ev_has {p : Addr} {n x : Nat} {B : List Nat} {E : XK} (h : Ev te σ H (.ref p)) (hx : Ev ta σ H (vI x)) (hp : RoomAt CR H p n B) (hlt : x < 2 ^ n) : Ev (tMeth CR "has" (spHas CR) [] E te (tCons ta tNil)) σ H (.bl (decide (K27.red B x = 0))) := fun H1 e Q q =>
  h H1 e _ fun H2 e2 => by
    obtain ⟨dx, b, h1, h2⟩ := (hp.mono (e.trans e2)).ex
    refine ⟨p, dx, _, rfl, h1, rf_no n b (by decide +kernel) (by decide +kernel), hx H2 (e.trans e2) _ fun H3 e3 => ?_⟩
    exact ⟨p, n, B, x, rfl, (hp.mono (e.trans e2)).mono e3, hlt, fun H4 e4 => q H4 ((e2.trans e3).trans e4)⟩
theorem q_parN {Pr : Addr → Hp → Prop} {Rr : Addr → Addr → Hp → Prop} {i j : Nat} {D : Ends} {tz : TS} (h : EvNew te σ H Pr) (h2 : ∀ p H1, H p = none → Ex H H1 → Pr p H1 → ∀ Q : VK, (∀ q H2, Rr p q H2 → Q (.ref q) H2) → tb σ H1 Q) (k : ∀ p q H2, Rr p q H2 → tz D ((σ.set i (some (.ref p))).set j (some (.ref q))) H2) :
    tSeq (tPar i j (tCons te (tCons tb tNil))) tz D σ H := by
  show te σ H (fun x H1 => tb σ H1 fun y H2 => ∃ v w, [x, y] = [v, w] ∧ tz D ((σ.set i (some v)).set j (some w)) H2)
  exact h H (Ex.refl H) _ fun p H1 hp e1 h1 => h2 p H1 hp e1 h1 _ fun q H2 hr => ⟨_, _, rfl, k p q H2 hr⟩
theorem q_asgVP {i : Nat} {D : Ends} {tz : TS} {Pr : V → Hp → Prop} (h : ∀ Q : VK, (∀ p H1, Pr p H1 → Q p H1) → te σ H Q) (k : ∀ p H1, Pr p H1 → tz D (σ.set i (some p)) H1) : tSeq (tAsg te (gName i)) tz D σ H := by
  show te σ H (fun x H1 => tz D (σ.set i (some x)) H1)
  exact h _ k
theorem RoomAt.monoA {a p : Addr} {n : Nat} {B : List Nat} {H2 : Hp} (h : RoomAt CR H p n B) (hp : PotAt a H) (e : ExA a H H2) : RoomAt CR H2 p n B := by
  obtain ⟨dx, b, h1, h2⟩ := h.ex
  obtain ⟨xs, hx⟩ := hp.some
  exact ⟨dx, b, e _ _ (ne_of h1 hx (by intro z; cases z)) h1, e _ _ (ne_of h2 hx (by intro z; cases z)) h2⟩
theorem RoomsAt.monoA {a q : Addr} {n : Nat} {L : List (List Nat)} {H2 : Hp} (h : RoomsAt CR H q n L) (hp : PotAt a H) (hq : q ≠ a) (e : ExA a H H2) : RoomsAt CR H2 q n L := by
  obtain ⟨rs, h1, h2, h3⟩ := h.ex
  exact ⟨rs, h1, e _ _ hq h2, fun r hr => (h3 r hr).monoA hp e⟩
end
end K27W
set_option maxHeartbeats 8000000
/-! K27L9: _law_right, law. -/
namespace K27W
open PySem PySem.Spec L2 Evl
section
variable {P : Program} {w : World} {K : PySem.W.Frag} {mg : Str → Option Value} {base : Heap} {CT CR fTI fRI gP pP fB fH fE aH : Addr}
def spRight : Sp := fun vs H Q _ => ∃ a : Addr, vs = [.ref a] ∧ PotAt a H ∧ ∀ H2, Q (.bl true) H2
abbrev nRight : List Str := ["_law_pot_here", "_law_places", "_law_still_here", "_law_pairs", "_law_some", "_law_room", "_law_more", "_law_told", "_law_word", "_law_one"]
theorem scRight : FnScope nRight ["_law_pot_here"] (defScope sLawRight) := ⟨rfl, rfl, rfl, by decide +kernel, rfl, by decide +kernel, by decide +kernel⟩
theorem ok_right (T : Txt K mg CT CR fTI fRI gP pP fB fH fE aH) : Ok P w K mg base 11 "_law_right" ["_law_pot_here"] spRight := by
  obtain ⟨fdRI, GRI, bRI⟩ := ok_rInit (P := P) (w := w) (base := base) T
  obtain ⟨fdB, GB, bB⟩ := ok_basis (P := P) (w := w) (base := base) T
  obtain ⟨fdH, GH, bH⟩ := ok_has (P := P) (w := w) (base := base) T
  obtain ⟨fdE, GE, bE⟩ := ok_eq (P := P) (w := w) (base := base) T
  obtain ⟨f1, fd1, G1, m1, k1, b1⟩ := ok_draw (P := P) (w := w) (base := base) T
  obtain ⟨f2, fd2, G2, m2, k2, b2⟩ := ok_lstill (P := P) (w := w) (base := base) T
  obtain ⟨f3, fd3, G3, m3, k3, b3⟩ := ok_room_right (P := P) (w := w) (base := base) T
  obtain ⟨f4, fd4, G4, m4, k4, b4⟩ := ok_paired (P := P) (w := w) (base := base) T
  obtain ⟨f5, fd5, G5, m5, k5, b5⟩ := ok_lplain (P := P) (w := w) (base := base) T
  obtain ⟨f6, fd6, G6, m6, k6, b6⟩ := ok_whole (P := P) (w := w) (base := base) T
  obtain ⟨f7, fd7, G7, m7, k7, b7⟩ := ok_pick (P := P) (w := w) (base := base) T
  obtain ⟨f8, fd8, G8, m8, k8, b8⟩ := ok_lspan (P := P) (w := w) (base := base) T
  obtain ⟨f9, fd9, G9, m9, k9, b9⟩ := ok_fills (P := P) (w := w) (base := base) T
  refine ok_of T.dLawRight scRight (fun vs H Q E h => ?_) (fun f cdv A outer sh H vs Q E hr h => ?_)
  · obtain ⟨a, rfl, _⟩ := h
    rfl
  · obtain ⟨a, rfl, hp, k⟩ := h
    refine ⟨_, pss_cons (ps_set (i := 1) scRight.nd rfl (Or.inl rfl) (pe_op op_addNN pe_int (pe_call G1 (hr.mono (by decide)) rfl m1 k1 b1 .nil pass0 (pa_cons (pv 0) (pa_cons pe_int pa_nil)))))
      (pss_cons (ps_set (i := 2) scRight.nd rfl (Or.inl rfl) (pe_call G2 (hr.mono (by decide)) rfl m2 k2 b2 .nil pass0 (pa_cons (pv 0) (pa_cons (pv 1) (pa_cons pe_int pa_nil)))))
      (pss_cons (ps_if (pt_not (pt_val (pe_call G3 hr rfl m3 k3 b3 .nil pass0 (pa_cons (pv 1) (pa_cons (pv 2) pa_nil))))) (pss_one (ps_ret pe_bl)) pss_nil)
      (pss_cons (ps_set (i := 3) scRight.nd rfl (Or.inl rfl) (pe_op op_addNN pe_int (pe_call G1 (hr.mono (by decide)) rfl m1 k1 b1 .nil pass0 (pa_cons (pv 0) (pa_cons pe_int pa_nil)))))
      (pss_cons (ps_set (i := 4) scRight.nd rfl (Or.inl rfl) (pe_call G4 (hr.mono (by decide)) rfl m4 k4 b4 .nil pass0 (pa_cons (pv 0) (pa_cons (pv 3) (pa_cons pe_int pa_nil)))))
      (pss_cut (ps_if (pt_cmpR op_ltN (pe_callB call_len_seq (by rfl) T.z_len PySem.boot_len (pa_cons (pe_call G5 (hr.mono (by decide)) rfl m5 k5 b5 .nil pass0 (pa_cons (pe_op op_cat (pv 4) (pe_lst (pa_cons (pe_op op_subNN (pe_op op_shlN pe_int (pe_op op_mulNN pe_int (pv 3))) pe_int) pa_nil))) pa_nil)) pa_nil)) (pe_op op_subNN (pv 3) pe_int) (nomark _))
        (pss_one (ps_set (i := 4) scRight.nd rfl (Or.inl rfl) (pe_slice sl_list (pe_call G6 (hr.mono (by decide)) rfl m6 k6 b6 .nil pass0 (pa_cons (pv 3) pa_nil)) po_none (po_some (pe_op op_subNN (pv 3) pe_int))))) pss_nil)
      (pss_cons (ps_par (i := 5) (j := 6) rfl scRight.nd rfl rfl (by decide) rfl rfl (pa_cons (pe_make T.mkR GRI (hr.mono (by decide)) rfl T.mgR bRI .nil pass0 (pa_cons (pe_op op_mulNN pe_int (pv 3)) (pa_cons (pv 4) pa_nil)))
          (pa_cons (pe_op op_cat (pv 4) (pe_lst (pa_cons (pe_call G7 (hr.mono (by decide)) rfl m7 k7 b7 .nil pass0 (pa_cons (pv 0) (pa_cons (pe_call G8 (hr.mono (by decide)) rfl m8 k8 b8 .nil pass0 (pa_cons (pe_call G5 (hr.mono (by decide)) rfl m5 k5 b5 .nil pass0 (pa_cons (pv 4) pa_nil)) pa_nil)) pa_nil))) pa_nil))) pa_nil)) rfl)
      (pss_cons (ps_if (PW.pt (pw_or (pt_not (pt_val (pe_call G3 hr rfl m3 k3 b3 .nil pass0 (pa_cons (pe_op op_mulNN pe_int (pv 3)) (pa_cons (pv 4) pa_nil)))))
          (pw_or1 (pt_cmpR (K27R.op_neG (mon_DR CR) (eqG_ins GE T.eqF T.eqI bE pass0) (hr.mono (by decide))) (pe_call G9 (hr.mono (by decide)) rfl m9 k9 b9 .nil pass0 (pa_cons (pe_make T.mkR GRI (hr.mono (by decide)) rfl T.mgR bRI .nil pass0 (pa_cons (pe_op op_mulNN pe_int (pv 3)) (pa_cons (pv 6) pa_nil))) pa_nil)) (pe_call G9 (hr.mono (by decide)) rfl m9 k9 b9 .nil pass0 (pa_cons (pv 5) pa_nil)) (nomark _)))))
        (pss_one (ps_ret pe_bl)) pss_nil)
      (pss_cons (ps_set (i := 7) scRight.nd rfl (Or.inl rfl) (pe_call G9 (hr.mono (by decide)) rfl m9 k9 b9 .nil pass0 (pa_cons (pv 5) pa_nil)))
      (pss_cons (ps_set (i := 8) scRight.nd rfl (Or.inr rfl) (pe_call G7 (hr.mono (by decide)) rfl m7 k7 b7 .nil pass0 (pa_cons (pv 0) (pa_cons (pe_call G8 (hr.mono (by decide)) rfl m8 k8 b8 .nil pass0 (pa_cons
          (pe_meth0 (pe_ix ix_list (pv 7) (pe_call G1 (hr.mono (by decide)) rfl m1 k1 b1 .nil pass0 (pa_cons (pv 0) (pa_cons (pe_callB call_len_seq (by rfl) T.z_len PySem.boot_len (pa_cons (pv 7) pa_nil)) pa_nil))) (fun _ _ => rfl)) T.iR.cl T.meB GB (hr.mono (by decide)) bB .nil pass0) pa_nil)) pa_nil))))
      (pss_one (ps_ret (pe_cmpR (op_eqG (rcG_list (mon_DR CR) (eqG_ins GE T.eqF T.eqI bE pass0)) (hr.mono (by decide))) (pe_call G9 (hr.mono (by decide)) rfl m9 k9 b9 .nil pass0 (pa_cons (pe_make T.mkR GRI (hr.mono (by decide)) rfl T.mgR bRI .nil pass0 (pa_cons (pe_op op_mulNN pe_int (pv 3)) (pa_cons (pe_op op_cat (pv 4) (pe_lst (pa_cons (pv 8) pa_nil))) pa_nil))) pa_nil))
          (pe_lc (own := [("_law_one", 9)]) (g := gName 9) rfl scRight.nd (pi_list (pv 7)) (blkOk_by (own := [("_law_one", 9)]) (N := nRight) (sc := defScope sLawRight) (by decide +kernel))
            (fun _ _ _ _ _ => pg_name (i := 9) scRight.nd rfl (Or.inl rfl)) (fun _ _ _ _ _ => pts_one (pt_val (pe_meth (pv 9) T.iR.cl T.meH GH (hr.mono (by decide)) bH .nil pass0 (pa_cons (pv 8) pa_nil))))
            (fun _ _ _ _ _ => pv 9)) (nomark _))))))))))))), ?_⟩
    refine q_asgDraw (a := a) (c := 1) (m := 6) (ev_var rfl) (ev_k 6) hp ⟨by decide, by decide⟩ fun d H1 hd e1 p1 => ?_
    refine q_asgP (Pr := SAt a (1 + d) 3 H1) (fun Q q => te_lstill (a := a) (n := 1 + d) (m := 3) (ev_var rfl) (ev_var rfl) (ev_k 3) p1 (by omega) (by decide) q) fun st H2 hS => ?_
    obtain ⟨e2, p2, hsta, ws0, hws0, hl0, hlt0, hst0⟩ := hS
    have hg0 := good_small (by omega) (by omega) hst0 hlt0
    refine q_when (b := false) (et_is (et_not (a := true) (et_B (ev_roomRight (ev_var rfl) (ev_var rfl) hws0 hg0 (by omega) hlt0))) rfl) (fun z => nomatch z) fun _ H3 e3 => ?_
    refine q_asgDraw (a := a) (c := 3) (m := 4) (ev_var rfl) (ev_k 4) (p2.mono e3) ⟨by decide, by decide⟩ fun d2 H4 hd2 e4 p4 => ?_
    generalize hpp : 3 + d2 = pp
    have hpp3 : 3 ≤ pp ∧ pp ≤ 6 := by omega
    refine q_asgP (Pr := SAt a (2 * pp) 3 H4) (fun Q q => te_paired (a := a) (n := pp) (m := 3) (ev_var rfl) (ev_var rfl) (ev_k 3) p4 (by omega) (by decide) q) fun so H5 hS => ?_
    obtain ⟨e5, p5, hsoa, ws1, hws1, hl1, hlt1, hst1⟩ := hS
    have hev : (2 * pp) % 2 = 0 := by omega
    have hhalf : (2 * pp) / 2 = pp := by omega
    refine q_cut (M := fun σ' H' => ∃ so ws, σ' = [some (.ref a), some (vI (1 + d)), some (.ref st), some (vI pp), some (.ref so), none, none, none, none, none] ∧ PotAt a H' ∧ so ≠ a ∧ H' so = some (.lst (vW ws)) ∧ ws.length ≤ 3 ∧ (∀ x ∈ ws, x < 2 ^ (2 * pp)) ∧ Good (2 * pp) (K27.plainOf ws)) ?_ ?_
    · have hsn : ∀ H6, Ex H5 H6 → EvL (tOp rCat (tVar 4) (tLst (tCons (tOp (rN2 (fun n m => m ≤ n) fun n m => n - m) (tOp (rN2 (fun n m => n < 2 ^ 60 ∧ m ≤ 1000) fun n m => n <<< m) (tC (.int ((1 : Nat) : Int))) (tOp (rN2 (fun n _ => n < 2 ^ 60) fun n m => n * m) (tC (.int ((2 : Nat) : Int))) (tVar 3))) (tC (.int ((1 : Nat) : Int)))) tNil))) [some (.ref a), some (vI (1 + d)), some (.ref st), some (vI pp), some (.ref so), none, none, none, none, none] H6 (vW (ws1 ++ [K27.ones (2 * pp)])) := fun H6 e6 => by
        refine el_snoc (ev_var rfl) (e6 _ _ hws1) (ev_is (ev_n2 (ev_n2 (ev_k 1) (ev_n2 (ev_k 2) (ev_var rfl) (by decide)) ⟨by decide, by omega⟩) (ev_k 1) (by rw [one_shl]; exact Nat.two_pow_pos _)) (by rw [one_shl])) (by omega)
      refine s_when (b := decide ((K27.plainOf (ws1 ++ [K27.ones (2 * pp)])).length < pp - 2)) (et_c2 (ev_is (ev_lenL (el_plainL (hsn H5 (Ex.refl H5)) (by rw [List.length_append, List.length_singleton]; omega))) (by rw [vW_len])) (ev_n2 (ev_var rfl) (ev_k 2) (by omega))) (fun hz H6 e6 => ?_) (fun hz H6 e6 => ?_)
      · have hW : pp = 3 ∨ pp = 4 ∨ pp = 5 ∨ pp = 6 := by omega
        obtain ⟨w1, w2, w3⟩ := K27.whole_still pp hW
        refine s_asgL (xs := vW (K27.wholeW pp)) (el_is (el_slN (xs := vW ((List.range pp).map fun k => 3 <<< (2 * k))) (lo := none) (hi := some ((pp - 3 : Nat) : Int)) (el_callN (ea_cons (ev_var rfl) ea_nil) fun H7 e7 Q q E => ⟨pp, rfl, by omega, q⟩) eo_none (eo_some (ev_n2 (ev_var rfl) (ev_k 3) (by omega)))) (cutV_take _ _)) fun so2 H7 hso2 e7 h7 => ?_
        refine ⟨so2, K27.wholeW pp, rfl, p5.mono (e6.trans e7), (p5.mono e6).ne hso2, h7, ?_, w2, good_of (by omega) (by omega) w1 w2 fun _ => ?_⟩
        · unfold K27.wholeW
          rw [List.length_take]
          omega
        · rw [K27.plainOf_len]
          omega
      · refine ⟨so, ws1, rfl, p5.mono e6, hsoa, e6 _ _ hws1, hl1, hlt1, good_of (by omega) (by omega) hst1 hlt1 fun _ => ?_⟩
        have := of_decide_eq_false hz
        omega
    · rintro σ' H6 ⟨so, ws, rfl, p6, hsoa, hws, hl, hlt, hg⟩
      clear hws1 hl1 hlt1 hst1 ws1
      have hn12 := hg.n12
      have hBlen := hg.len
      have hroomS : ∀ H7, Ex H6 H7 → EvNew (tMake CR (spRInit CT CR) [] E0 (tCons (tOp (rN2 (fun n _ => n < 2 ^ 60) fun n m => n * m) (tC (.int ((2 : Nat) : Int))) (tVar 3)) (tCons (tVar 4) tNil))) [some (.ref a), some (vI (1 + d)), some (.ref st), some (vI pp), some (.ref so), none, none, none, none, none] H7 (fun p H2 => RoomAt CR H2 p (2 * pp) (K27.plainOf ws)) := fun H7 e7 =>
        new_roomV (ev_n2 (ev_k 2) (ev_var rfl) (by decide)) (ev_var rfl) (e7 _ _ hws) ⟨by omega, by omega⟩ (by omega) hlt
      refine q_parN (Rr := fun rm mo H2 => PotAt a H2 ∧ RoomAt CR H2 rm (2 * pp) (K27.plainOf ws) ∧ mo ≠ a ∧ H2 so = some (.lst (vW ws)) ∧ ∃ x, x ∈ K27.allW (K27.plainOf ws) ∧ H2 mo = some (.lst (vW (ws ++ [x])))) (hroomS H6 (Ex.refl H6)) (fun rm H7 hrm e7 hR7 Q q => ?_) fun rm mo H7 hh => ?_
      · have hws7 := e7 _ _ hws
        have p7 := p6.mono e7
        refine ⟨_, rfl, ?_⟩
        refine te_pickL (a := a) (ws := K27.allW (K27.plainOf ws).reverse) (ev_var rfl) (el_spanL (el_plain (ev_var rfl) hws7 (by omega)) ?_) p7 ⟨?_, ?_⟩ fun x H8 hx e8 p8 => ?_
        · have := K27.ctr_len hg.plain.1 hg.lt
          omega
        · rw [K27.allW_len]
          exact Nat.two_pow_pos _
        · rw [K27.allW_len, List.length_reverse]
          have := K27.ctr_len hg.plain.1 hg.lt
          exact Nat.le_trans (Nat.pow_le_pow_right (by decide) (by omega : (K27.plainOf ws).length ≤ 12)) (by decide)
        · refine ⟨by show 1 ≤ sizeLine; decide, fun pl hpl => ?_⟩
          have e9 : Ex H8 (upd H8 pl (.lst [vI x])) := Ex.new hpl
          have hws8 := e8 _ _ hsoa hws7
          refine ⟨so, pl, vW ws, [vI x], rfl, rfl, e9 _ _ hws8, upd_same, sl_of (by rw [vW_len]; show ws.length + 1 ≤ _; omega), fun mo hmo => ?_⟩
          have e10 := e9.trans (Ex.new (o := .lst (vW ws ++ [vI x])) hmo)
          refine q mo _ ⟨p8.mono e10, (hR7.monoA p7 e8).mono e10, (p8.mono e9).ne hmo, e10 _ _ hws8, x, ?_, ?_⟩
          · exact (K27.SameW.perm (List.reverse_perm _) x).mp hx
          · rw [upd_same]
            unfold vW
            rw [List.map_append]
            rfl
      obtain ⟨p7, hR7, hmoa, hws7, x, hx, hmo⟩ := hh
      have hsame : K27.plainOf (ws ++ [x]) = K27.plainOf ws := by
        refine K27.plainOf_eq (.of (fun c hc => ?_) fun c hc => K27.gen_mem (List.mem_append_left _ hc))
        rcases List.mem_append.mp hc with hc | hc
        · exact K27.gen_mem hc
        · rw [List.mem_singleton.mp hc]
          exact (K27.plainOf_same ws x).mp hx
      have hxlt : x < 2 ^ (2 * pp) := K27.allW_lt hg.lt hx
      have hmore : EvNew (tMake CR (spRInit CT CR) [] E0 (tCons (tOp (rN2 (fun n _ => n < 2 ^ 60) fun n m => n * m) (tC (.int ((2 : Nat) : Int))) (tVar 3)) (tCons (tVar 6) tNil))) [some (.ref a), some (vI (1 + d)), some (.ref st), some (vI pp), some (.ref so), some (.ref rm), some (.ref mo), none, none, none] H7 (fun p H2 => RoomAt CR H2 p (2 * pp) (K27.plainOf ws)) := by
        have := new_roomV (CT := CT) (CR := CR) (E := E0) (σ := [some (.ref a), some (vI (1 + d)), some (.ref st), some (vI pp), some (.ref so), some (.ref rm), some (.ref mo), none, none, none]) (H := H7) (ta := tOp (rN2 (fun n _ => n < 2 ^ 60) fun n m => n * m) (tC (.int ((2 : Nat) : Int))) (tVar 3)) (tb := tVar 6) (n := 2 * pp) (a := mo) (ws := ws ++ [x]) (ev_n2 (ev_k 2) (ev_var rfl) (by decide)) (ev_var rfl) hmo ⟨by omega, by omega⟩ (by rw [List.length_append, List.length_singleton]; omega) (fun y hy => by
          rcases List.mem_append.mp hy with hy | hy
          · exact hlt y hy
          · rw [List.mem_singleton.mp hy]
            exact hxlt)
        rw [hsame] at this
        exact this
      refine q_when (b := false) (et_is (et_or (a := false) (b := false) (et_is (et_not (a := true) (et_B (ev_roomRight (n := 2 * pp) (ev_n2 (ev_k 2) (ev_var rfl) (by decide)) (ev_var rfl) hws7 hg (by omega) hlt))) rfl) fun _ => et_neN (te_fillsE hmore hg) (te_fills (ev_var rfl) hR7 hg)) rfl) (fun z => nomatch z) fun _ H8 e8 => ?_
      have hR8 := hR7.mono e8
      have p8 := p7.mono e8
      refine q_asgN (te_fills (ev_var rfl) hR8 hg) fun told H9 htold e9 hFA => ?_
      obtain ⟨L, hT9, hF⟩ := hFA
      have p9 := p8.mono e9
      have htoa : told ≠ a := p8.ne htold
      have hLpos : 0 < L.length := by
        rw [hF.len hg]
        unfold fcnt
        rw [if_neg (by omega)]
        exact fillN_pos _
      have hLle : L.length ≤ 135 := by
        rw [hF.len hg]
        exact fcnt_le hg
      have hws9 := (e8.trans e9) _ _ hws7
      refine q_asgVP (Pr := fun v H2 => ∃ w C, v = vI w ∧ C ∈ L ∧ w ∈ K27.allW C ∧ ExA a H9 H2 ∧ PotAt a H2) (fun Q q => ?_) fun v H10 hh => ?_
      · obtain ⟨rs, hrs, htl, hrms⟩ := hT9.ex
        have hrsl : rs.length = L.length := by rw [← hrs, List.length_map]
        refine ⟨_, rfl, _, rfl, ?_⟩
        refine te_draw (a := a) (m := L.length) (ev_var rfl) (ev_is (ev_lenV (ev_var rfl) (.inl (SqL.of htl))) (by rw [List.length_map, hrsl])) p9 ⟨hLpos, by omega⟩ fun dd H10 hdd e10 p10 => ?_
        have hddr : dd < rs.length := by omega
        have hget : (rs.map fun r => V.ref r.1)[dd]? = some (.ref rs[dd].1) := by
          rw [List.getElem?_map, List.getElem?_eq_getElem hddr]
          rfl
        have hrr := (hrms rs[dd] (List.getElem_mem hddr)).monoA p9 e10
        have hCL : rs[dd].2 ∈ L := by
          rw [← hrs]
          exact List.mem_map_of_mem (List.getElem_mem hddr)
        obtain ⟨c1, c2, c3, c4, c5⟩ := hF.each hg _ hCL
        obtain ⟨dx, bb, g1, g2⟩ := hrr.ex
        refine ⟨told, _, (dd : Int), .ref rs[dd].1, rfl, rfl, SqL.of (e10 _ _ htoa htl), atI_nat hget, rs[dd].1, dx, _, rfl, g1, rf_no _ bb (by decide +kernel) (by decide +kernel), rs[dd].1, _, rs[dd].2, rfl, hrr, fun bl H11 hbl e11 h11 => ?_⟩
        refine ⟨bl, rs[dd].2, rfl, h11, by omega, fun sl H12 hsl e12 h12 => ?_⟩
        have p12 := (p10.mono e11).mono e12
        refine ⟨a, sl, K27.allW rs[dd].2.reverse, rfl, p12, (p10.mono e11).ne hsl, h12, ?_, ?_, fun w H13 hw e13 p13 => ?_⟩
        · rw [K27.allW_len]
          exact Nat.two_pow_pos _
        · rw [K27.allW_len, List.length_reverse]
          exact Nat.le_trans (Nat.pow_le_pow_right (by decide) (by omega : rs[dd].2.length ≤ 12)) (by decide)
        · exact q _ H13 ⟨w, _, rfl, hCL, (K27.SameW.perm (List.reverse_perm _) w).mp hw, (e10.trans (ex_pot (e11.trans e12) a)).trans e13, p13⟩
      obtain ⟨w, C, rfl, hCL, hwC, e10, p10⟩ := hh
      have hws10 := e10 _ _ hsoa hws9
      have hT10 := hT9.monoA p9 htoa e10
      obtain ⟨hg2, hF2⟩ := fl_more hg hev hF hCL hwC hlt
      obtain ⟨c1, c2, c3, c4, c5⟩ := hF.each hg _ hCL
      have hwlt : w < 2 ^ (2 * pp) := K27.allW_lt c3 hwC
      have hnew := new_roomL (CT := CT) (CR := CR) (E := E0) (σ := [some (.ref a), some (vI (1 + d)), some (.ref st), some (vI pp), some (.ref so), some (.ref rm), some (.ref mo), some (.ref told), some (vI w), none]) (H := H10) (ta := tOp (rN2 (fun n _ => n < 2 ^ 60) fun n m => n * m) (tC (.int ((2 : Nat) : Int))) (tVar 3)) (tb := tOp rCat (tVar 4) (tLst (tCons (tVar 8) tNil))) (n := 2 * pp) (ws := ws ++ [w]) (ev_n2 (ev_k 2) (ev_var rfl) (by decide)) (el_snoc (ev_var rfl) hws10 (ev_var rfl) (by omega)) ⟨by omega, by omega⟩ (by rw [List.length_append, List.length_singleton]; omega) (fun y hy => by
          rcases List.mem_append.mp hy with hy | hy
          · exact hlt y hy
          · rw [List.mem_singleton.mp hy]
            exact hwlt)
      obtain ⟨rs, hrs, htl, hrms⟩ := hT10.ex
      have hrsl : rs.length = L.length := by rw [← hrs, List.length_map]
      have hcm := fun H11 (e11 : Ex H10 H11) => el_compL (K := K) (σ := [some (.ref a), some (vI (1 + d)), some (.ref st), some (vI pp), some (.ref so), some (.ref rm), some (.ref mo), some (.ref told), some (vI w), none]) (H := H11) (tl := tVar 7) (te := tVar 9) (t := tB (tMeth CR "has" (spHas CR) [] E0 (tVar 9) (tCons (tVar 8) tNil)))
        (a := told) (B := rs) (d := (0, [])) (f := fun r => V.ref r.1) (j := 9) (vs := [9]) (fun r => decide (K27.red r.2 w = 0)) (fun r => V.ref r.1) (ev_var rfl) (SqL.of (e11 _ _ htl)) (by omega) (fun _ => rfl) (fun r H12 e12 hr1 => et_B (ev_has (ev_var rfl) (ev_var rfl) ((hrms r hr1).mono (e11.trans e12)) hwlt)) (fun r H12 e12 hr1 _ => ev_var rfl)
      refine (te_fillsE (E := E0) hnew hg2) H10 (Ex.refl H10) _ fun q1 H11 hq1 e11 hFA1 => ?_
      obtain ⟨L1, hQ1, hF1⟩ := hFA1
      have eL := hF1.unique hF2
      subst eL
      refine (hcm H11 e11) H11 (Ex.refl H11) _ fun q2 H12 hq2 e12 hQ2 => ?_
      refine ⟨rooms_eq (hQ1.mono e12) ⟨rs.filter fun r => decide (K27.red r.2 w = 0), ?_, hQ2, fun r hr1 => (hrms r (List.mem_filter.mp hr1).1).mono (e11.trans e12)⟩, fun H13 _ => k H13⟩
      rw [← hrs, List.filter_map]
      rfl
/-! ### law -/
def spLaw (K : PySem.W.Frag) : Sp := fun vs H Q _ => ∃ (a : Addr) (ns : List Int), vs = [.ref a] ∧ SqL K H a (ns.map V.int) ∧ ∀ H', Q (.bl true) H'
theorem scLaw : FnScope ["_law_script"] ["_law_script"] (defScope sLaw) := ⟨rfl, rfl, rfl, by decide +kernel, rfl, by decide +kernel, by decide +kernel⟩
theorem ok_law (T : Txt K mg CT CR fTI fRI gP pP fB fH fE aH) {f : Addr} {fd : FuncData} (F : L2.Fun K "law" "law" sLaw f fd) : FnOk P w K mg base CX0 12 f fd ["_law_script"] (spLaw K) := by
  obtain ⟨f1, fd1, G1, m1, k1, b1⟩ := ok_right (P := P) (w := w) (base := base) T
  obtain ⟨f2, fd2, G2, m2, k2, b2⟩ := ok_pot (P := P) (w := w) (base := base) T
  refine F.ok scLaw (fun vs H Q E h => ?_) (fun cdv A outer sh H vs Q E hr h => ?_)
  · obtain ⟨a, ns, rfl, _⟩ := h
    rfl
  · obtain ⟨a, ns, rfl, ha, k⟩ := h
    refine ⟨_, pss_one (ps_ret (pe_call G1 hr rfl m1 k1 b1 .nil pass0 (pa_cons (pe_call G2 (hr.mono (by decide)) rfl m2 k2 b2 .nil pass0 (pa_cons (pv 0) (pa_cons pe_int pa_nil))) pa_nil))), ?_⟩
    exact ⟨_, rfl, a, ns, rfl, ha, fun p H2 _ _ hp => ⟨p, rfl, hp, fun H3 => k H3⟩⟩
end
end K27W
set_option maxHeartbeats 4000000
/-! K27Hd: the facts of the top by a Hook (printed by gen_head.py). -/
namespace K27W
open PySem PySem.Spec PyProof.Rows L2
/-- one def: where it stands, its names, its statement -/
structure DX where
  ad : PySem.W.Frag → Addr
  name : Str
  qual : Str
  st : Stmt
def fnX (K : PySem.W.Frag) (d : DX) : He.FnW := match K.lookup (d.ad K) with
  | some ⟨_, _, .func fd, _⟩ => some (fd.name, fd.qualname, fd.params, fd.body, fd.scope, fd.globals, fd.closure, fd.builtins)
  | _ => none
def DX.val (d : DX) : He.FnW := some (d.name, d.qual, defArgs d.st, .stmts (defBody d.st), defScope d.st, mainGlobals, [], builtinsNs)
def noneB : Value → Bool
  | .none => true
  | _ => false
def DX.ok (K : PySem.W.Frag) (d : DX) : Bool := PySem.W.keepIn K (.ref (d.ad K)) && (match K.lookup (d.ad K) with
  | some ⟨_, _, .func fd, _⟩ => PySem.W.codeIn K fd.code d.qual && noneB fd.defaults
  | _ => false)
theorem DX.fun_ {K : PySem.W.Frag} {d : DX} (e : fnX K d = d.val) (c : d.ok K = true) : ∃ fd, L2.Fun K d.name d.qual d.st (d.ad K) fd := by
  obtain ⟨kp, c2⟩ := He.ba c
  unfold fnX at e
  cases q : K.lookup (d.ad K) with
  | none =>
    rw [q] at c2
    cases c2
  | some o =>
    obtain ⟨oc, od, dt, osl⟩ := o
    rw [q] at c2 e
    cases dt with
    | func fd =>
      obtain ⟨n1, n2, n3, n4, n5, n6, n7, n8, n9, n10, n11, n12, n13, n14, n15⟩ := fd
      have e2 : (some (n1, n2, n3, n4, n5, n6, n7, n15) : He.FnW) = some (d.name, d.qual, defArgs d.st, .stmts (defBody d.st), defScope d.st, mainGlobals, [], builtinsNs) := e
      simp only [Option.some.injEq, Prod.mk.injEq] at e2
      obtain ⟨h1, h2, h3, h4, h5, h6, h7, h8⟩ := e2
      subst h1 h2 h3 h4 h5 h6 h7 h8
      have c3 : (PySem.W.codeIn K n13 d.qual && noneB n8) = true := c2
      obtain ⟨k1, k2⟩ := He.ba c3
      have e8 : n8 = .none := by
        cases n8 with
        | none => rfl
        | _ => cases k2
      subst e8
      exact ⟨_, ⟨oc, od, n9, n10, n11, n12, n13, n14, osl, rfl, q, k1⟩, kp⟩
    | _ => cases c2
theorem binds_of {K : PySem.W.Frag} {x qual : Str} {st : Stmt} {f : Addr} {fd : FuncData} {ps : List Str} (F : L2.Fun K x qual st f fd)
    (h : ∀ (kV doc pm : Value) (an : Option Addr) (cdv ct : Value) (us : List Value), us.length = ps.length → bindArgs (PySem.W.fnOf x qual (defArgs st) (defBody st) (defScope st) .none kV doc pm an cdv ct) ⟨us, []⟩ = pure (ps.zip us)) : Binds K fd ps [] := by
  obtain ⟨oc, od, kV, doc, pm, an, cdv, ct, osl, rfl, lk, hcd⟩ := F.ex
  exact .all (h kV doc pm an cdv ct)
theorem bindsA_of {K : PySem.W.Frag} {x qual : Str} {st : Stmt} {f : Addr} {fd : FuncData} {ps : List Str} (F : L2.Fun K x qual st f fd)
    (h : ∀ (kV doc pm : Value) (an : Option Addr) (cdv ct : Value) (us : List Value), us.length = ps.length → bindArgs (PySem.W.fnOf x qual (defArgs st) (defBody st) (defScope st) .none kV doc pm an cdv ct) ⟨us, []⟩ = pure (ps.zip us)) (s : Shared) (us : List Value) (hl : us.length = ps.length) : BindsTo s fd ⟨us, []⟩ (ps.zip us) := by
  obtain ⟨oc, od, kV, doc, pm, an, cdv, ct, osl, rfl, lk, hcd⟩ := F.ex
  exact .of_eq (h kV doc pm an cdv ct us hl)
/-! ### classes, the property -/
abbrev cT (K : PySem.W.Frag) : Addr := He.ga K "Told"
abbrev cR (K : PySem.W.Frag) : Addr := He.ga K "Room"
def gAd (K : PySem.W.Frag) : Addr := match PySem.W.recIn K (He.ma K (cR K) "places") "property" with
  | some (.ref g :: _) => g
  | _ => 0
def insB (K : PySem.W.Frag) (C : Addr) : Bool := He.eqO (PySem.W.findIn K (.ref C) "__class__") (some (some (.builtin "object.__class__"))) && (decide (PySem.W.specialIn K (.builtin "object.__class__") "__get__" = some (some (.builtin "getset_descriptor.__get__"))) &&
  (decide (PySem.W.takesIn K (.builtin "object.__class__") = some true) && (decide (PySem.W.mroIn K C (.type "object") = some true) && decide (PySem.W.kitOne K (.ref C) (.ref C) = some true))))
theorem insB_ok {K : PySem.W.Frag} {x : Str} (c : (He.Fa.cls x).ok K = true) (h : insB K (He.ga K x) = true) : C8.InsC K (He.ga K x) := by
  obtain ⟨c1, h⟩ := He.ba h
  obtain ⟨c2, h⟩ := He.ba h
  obtain ⟨c3, h⟩ := He.ba h
  obtain ⟨c4, c5⟩ := He.ba h
  exact ⟨He.cls_ok c, He.eqO_ok c1, of_decide_eq_true c2, of_decide_eq_true c3, of_decide_eq_true c4, of_decide_eq_true c5⟩
def propB (K : PySem.W.Frag) : Bool := He.eqO (PySem.W.findIn K (.ref (cR K)) "places") (some (some (.ref (He.ma K (cR K) "places")))) && (decide (PySem.W.specialIn K (.ref (He.ma K (cR K) "places")) "__get__" = some (some (.builtin "property.__get__"))) &&
  (decide (PySem.W.takesIn K (.ref (He.ma K (cR K) "places")) = some true) && (match PySem.W.recIn K (He.ma K (cR K) "places") "property" with
    | some (.ref _ :: _) => true
    | _ => false)))
theorem propB_ok {K : PySem.W.Frag} (h : propB K = true) : PropOf K (cR K) "places" (He.ma K (cR K) "places") (gAd K) := by
  obtain ⟨c1, h⟩ := He.ba h
  obtain ⟨c2, h⟩ := He.ba h
  obtain ⟨c3, c4⟩ := He.ba h
  refine ⟨He.eqO_ok c1, of_decide_eq_true c2, of_decide_eq_true c3, ?_⟩
  unfold gAd
  cases e : PySem.W.recIn K (He.ma K (cR K) "places") "property" with
  | none =>
    rw [e] at c4
    cases c4
  | some vs =>
    rw [e] at c4
    cases vs with
    | nil => cases c4
    | cons v r =>
      cases v with
      | ref g => exact ⟨r, rfl⟩
      | _ => cases c4
def halvesD : List He.Dv := [0, 1, 1, 2, 1, 2, 2, 3, 1, 2, 2, 3, 2, 3, 3, 4].map He.Dv.int
def xB (K : PySem.W.Frag) : Bool := insB K (cT K) && (insB K (cR K) && (propB K && (decide (PySem.W.kitOne K (.type "int") (.ref (cT K)) = some false) && He.tupB K "HALVES" halvesD)))
def faP0 : List He.Fa := [.glo "is_integer", .glo "is_count", .glo "is_list", .glo "is_places", .glo "want_places", .glo "want_at_most", .glo "left_of", .glo "with_word", .glo "plain_basis", .glo "all_words", .glo "told_room", .glo "room_by", .glo "want_room", .glo "want_word", .glo "weight_of", .glo "is_odd", .glo "spots_of", .glo "all_on", .glo "contrary_basis", .glo "odd_two", .glo "are_still", .glo "is_own_room", .glo "want_still", .glo "is_own", .glo "with_all", .glo "fill_number", .glo "class_words", .glo "fills_of", .glo "fill_count", .glo "fills"]
def faP1 : List He.Fa := [.glo "want_alike", .glo "lies_in", .glo "_law_pot", .glo "_law_draw", .glo "_law_pick", .glo "_law_weight", .glo "_law_are_even", .glo "_law_plain", .glo "_law_span", .glo "_law_contrary", .glo "_law_still", .glo "_law_sequence", .glo "_law_led", .glo "_law_paired", .glo "_law_own_over", .glo "_law_list_right", .glo "_law_room_right", .glo "_law_right", .glo "_law_whole", .glo "law", .glo "Told", .glo "Room", .glo "HALVES", .free "isinstance", .free "int", .free "bool", .free "list", .free "tuple", .free "min", .free "sorted"]
def faP2 : List He.Fa := [.free "range", .free "enumerate", .free "zip", .free "sum", .free "len", .free "abs", .free "max", .free "divmod", .free "any", .free "all", .int "MOST_PLACES" 24, .int "MOST_WORDS" 48, .int "MOST_FILLS" 135, .cls "Told", .cls "Room", .noat "Told" "told_places", .noat "Told" "told_basis", .noat "Room" "own_places", .noat "Room" "own_basis", .meth "Room" "basis", .meth "Room" "has", .meth "Room" "__eq__", .mkr "Told", .mkr "Room"]
def faX : List He.Fa := faP0 ++ (faP1 ++ (faP2))
def fnP0 : List DX := [⟨fun K => He.ga K "is_integer", "is_integer", "is_integer", sIsInteger⟩,
  ⟨fun K => He.ga K "is_count", "is_count", "is_count", sIsCount⟩,
  ⟨fun K => He.ga K "is_list", "is_list", "is_list", sIsList⟩,
  ⟨fun K => He.ga K "is_places", "is_places", "is_places", sIsPlaces⟩,
  ⟨fun K => He.ga K "want_places", "want_places", "want_places", sWantPlaces⟩,
  ⟨fun K => He.ga K "want_at_most", "want_at_most", "want_at_most", sWantAtMost⟩,
  ⟨fun K => He.ga K "left_of", "left_of", "left_of", sLeftOf⟩,
  ⟨fun K => He.ga K "with_word", "with_word", "with_word", sWithWord⟩,
  ⟨fun K => He.ga K "plain_basis", "plain_basis", "plain_basis", sPlainBasis⟩,
  ⟨fun K => He.ga K "all_words", "all_words", "all_words", sAllWords⟩,
  ⟨fun K => He.ga K "told_room", "told_room", "told_room", sToldRoom⟩,
  ⟨fun K => He.ga K "room_by", "room_by", "room_by", sRoomBy⟩,
  ⟨fun K => He.ga K "want_room", "want_room", "want_room", sWantRoom⟩,
  ⟨fun K => He.ga K "want_word", "want_word", "want_word", sWantWord⟩,
  ⟨fun K => He.ga K "weight_of", "weight_of", "weight_of", sWeightOf⟩,
  ⟨fun K => He.ga K "is_odd", "is_odd", "is_odd", sIsOdd⟩,
  ⟨fun K => He.ga K "spots_of", "spots_of", "spots_of", sSpotsOf⟩,
  ⟨fun K => He.ga K "all_on", "all_on", "all_on", sAllOn⟩,
  ⟨fun K => He.ga K "contrary_basis", "contrary_basis", "contrary_basis", sContraryBasis⟩,
  ⟨fun K => He.ga K "odd_two", "odd_two", "odd_two", sOddTwo⟩]
def fnP1 : List DX := [⟨fun K => He.ga K "are_still", "are_still", "are_still", sAreStill⟩,
  ⟨fun K => He.ga K "is_own_room", "is_own_room", "is_own_room", sIsOwnRoom⟩,
  ⟨fun K => He.ga K "want_still", "want_still", "want_still", sWantStill⟩,
  ⟨fun K => He.ga K "is_own", "is_own", "is_own", sIsOwn⟩,
  ⟨fun K => He.ga K "with_all", "with_all", "with_all", sWithAll⟩,
  ⟨fun K => He.ga K "fill_number", "fill_number", "fill_number", sFillNumber⟩,
  ⟨fun K => He.ga K "class_words", "class_words", "class_words", sClassWords⟩,
  ⟨fun K => He.ga K "fills_of", "fills_of", "fills_of", sFillsOf⟩,
  ⟨fun K => He.ga K "fill_count", "fill_count", "fill_count", sFillCount⟩,
  ⟨fun K => He.ga K "fills", "fills", "fills", sFills⟩,
  ⟨fun K => He.ga K "want_alike", "want_alike", "want_alike", sWantAlike⟩,
  ⟨fun K => He.ga K "lies_in", "lies_in", "lies_in", sLiesIn⟩,
  ⟨fun K => He.ga K "_law_pot", "_law_pot", "_law_pot", sLawPot⟩,
  ⟨fun K => He.ga K "_law_draw", "_law_draw", "_law_draw", sLawDraw⟩,
  ⟨fun K => He.ga K "_law_pick", "_law_pick", "_law_pick", sLawPick⟩,
  ⟨fun K => He.ga K "_law_weight", "_law_weight", "_law_weight", sLawWeight⟩,
  ⟨fun K => He.ga K "_law_are_even", "_law_are_even", "_law_are_even", sLawAreEven⟩,
  ⟨fun K => He.ga K "_law_plain", "_law_plain", "_law_plain", sLawPlain⟩,
  ⟨fun K => He.ga K "_law_span", "_law_span", "_law_span", sLawSpan⟩,
  ⟨fun K => He.ga K "_law_contrary", "_law_contrary", "_law_contrary", sLawContrary⟩]
def fnP2 : List DX := [⟨fun K => He.ga K "_law_still", "_law_still", "_law_still", sLawStill⟩,
  ⟨fun K => He.ga K "_law_sequence", "_law_sequence", "_law_sequence", sLawSequence⟩,
  ⟨fun K => He.ga K "_law_led", "_law_led", "_law_led", sLawLed⟩,
  ⟨fun K => He.ga K "_law_paired", "_law_paired", "_law_paired", sLawPaired⟩,
  ⟨fun K => He.ga K "_law_own_over", "_law_own_over", "_law_own_over", sLawOwnOver⟩,
  ⟨fun K => He.ga K "_law_list_right", "_law_list_right", "_law_list_right", sLawListRight⟩,
  ⟨fun K => He.ga K "_law_room_right", "_law_room_right", "_law_room_right", sLawRoomRight⟩,
  ⟨fun K => He.ga K "_law_right", "_law_right", "_law_right", sLawRight⟩,
  ⟨fun K => He.ga K "_law_whole", "_law_whole", "_law_whole", sLawWhole⟩,
  ⟨fun K => He.ga K "law", "law", "law", sLaw⟩,
  ⟨fun K => He.ma K (cT K) "__init__", "__init__", "Told.__init__", s_tInit⟩,
  ⟨fun K => He.ma K (cR K) "__init__", "__init__", "Room.__init__", s_rInit⟩,
  ⟨fun K => gAd K, "places", "Room.places", s_rPlaces⟩,
  ⟨fun K => He.ma K (cR K) "basis", "basis", "Room.basis", s_rBasis⟩,
  ⟨fun K => He.ma K (cR K) "has", "has", "Room.has", s_rHas⟩,
  ⟨fun K => He.ma K (cR K) "__eq__", "__eq__", "Room.__eq__", s_rEq⟩]
def fnL : List DX := fnP0 ++ (fnP1 ++ (fnP2))
/-! ### the Hook -/
def obsX (K : PySem.W.Frag) : He.AlD := ((faX.all fun f => f.ok K) && (xB K && fnL.all fun d => d.ok K), fnL.map fun d => fnX K d)
def valX : He.AlD := (true, fnL.map DX.val)
def SaysX (K : PySem.W.Frag) : Prop := obsX K = valX
/-- what these objects name -/
def nextX (g : Addr → Option Obj) (as : List Addr) : List Addr := as.flatMap fun a => match g a with
  | some o => He.refsD o
  | none => []
/-- the names' dicts of the classes among these -/
def nsX (g : Addr → Option Obj) (as : List Addr) : List Addr := as.flatMap fun a => match g a with
  | some ⟨_, _, .cls cd, _⟩ => [cd.ns]
  | _ => []
/-- the module's names, what they name, the classes' names and three steps behind them -/
def asX (g : Addr → Option Obj) : List Addr :=
  (fun as1 : List Addr => (fun m1 : List Addr => (fun m2 : List Addr => mainGlobals :: (as1 ++ (nsX g as1 ++ (m1 ++ (m2 ++ (nextX g m2 ++ nextX g as1)))))) (nextX g m1)) (nextX g (nsX g as1))) (nextX g [mainGlobals])
def obsXG (g : Addr → Option Obj) : He.AlD := obsX (He.frG g (asX g))
def hookX : PySem.W.Hook where
  α := He.AlD
  obs := fun s => obsXG s.heap.get?
  val := fun _ => valX
  says := fun _ h => ∃ K : PySem.W.Frag, K.In h ∧ SaysX K
  of := fun _ _ e => ⟨_, He.frG_in, e⟩
  keeps := fun _ _ _ ⟨K, hK, c⟩ k => ⟨K, PySem.W.Frag.In.keeps hK k, c⟩
theorem obsXG_eq {g : Addr → Option Obj} {s : Shared} (h : ∀ a, g a = s.heap.get? a) : obsXG g = hookX.obs s := by
  have e : g = s.heap.get? := funext h
  rw [e] <;> rfl
section
variable {K : PySem.W.Frag}
theorem SaysX.fact (c : SaysX K) (i : Nat) {f : He.Fa} (h : faX[i]? = some f := by rfl) : f.ok K = true := by
  have c1 := (He.ba (show ((faX.all fun f => f.ok K) && (xB K && fnL.all fun d => d.ok K)) = true from congrArg (fun z : He.AlD => z.1) c)).1
  exact List.all_eq_true.mp c1 f (List.mem_of_getElem? h)
theorem SaysX.x (c : SaysX K) : xB K = true := (He.ba (He.ba (show ((faX.all fun f => f.ok K) && (xB K && fnL.all fun d => d.ok K)) = true from congrArg (fun z : He.AlD => z.1) c)).2).1
theorem SaysX.def_ (c : SaysX K) (i : Nat) {d : DX} (h : fnL[i]? = some d := by rfl) : ∃ fd, L2.Fun K d.name d.qual d.st (d.ad K) fd := by
  have c2 := (He.ba (He.ba (show ((faX.all fun f => f.ok K) && (xB K && fnL.all fun d => d.ok K)) = true from congrArg (fun z : He.AlD => z.1) c)).2).2
  have e : fnL.map (fun d => fnX K d) = fnL.map DX.val := congrArg (fun z : He.AlD => z.2) c
  have e2 : (fnL.map fun d => fnX K d)[i]? = (fnL.map DX.val)[i]? := by rw [e]
  rw [List.getElem?_map, List.getElem?_map, h] at e2
  exact DX.fun_ (Option.some.inj e2) (List.all_eq_true.mp c2 d (List.mem_of_getElem? h))
end
section
variable {K : PySem.W.Frag} {h : Heap} {mg : Str → Option Value}
theorem txt (X : K.In h) (G : h.Ns mainGlobals mg) (c : SaysX K) : Txt K mg (cT K) (cR K) (He.ma K (cT K) "__init__") (He.ma K (cR K) "__init__") (gAd K) (He.ma K (cR K) "places") (He.ma K (cR K) "basis") (He.ma K (cR K) "has") (He.ma K (cR K) "__eq__") (He.ga K "HALVES") := by
  obtain ⟨x1, x⟩ := He.ba (show (insB K (cT K) && (insB K (cR K) && (propB K && (decide (PySem.W.kitOne K (.type "int") (.ref (cT K)) = some false) && He.tupB K "HALVES" halvesD)))) = true from c.x)
  obtain ⟨x2, x⟩ := He.ba x
  obtain ⟨x3, x⟩ := He.ba x
  obtain ⟨x4, x5⟩ := He.ba x
  exact {
    iT := insB_ok (c.fact 73 (f := .cls "Told") rfl) x1
    mkT := He.mkr_ok (c.fact 82 (f := .mkr "Told") rfl)
    mgT := He.glo_ok X G (c.fact 50 (f := .glo "Told") rfl)
    nTp := He.noat_ok (c.fact 75 (f := .noat "Told" "told_places") rfl)
    nTb := He.noat_ok (c.fact 76 (f := .noat "Told" "told_basis") rfl)
    iR := insB_ok (c.fact 74 (f := .cls "Room") rfl) x2
    mkR := He.mkr_ok (c.fact 83 (f := .mkr "Room") rfl)
    mgR := He.glo_ok X G (c.fact 51 (f := .glo "Room") rfl)
    nRp := He.noat_ok (c.fact 77 (f := .noat "Room" "own_places") rfl)
    nRb := He.noat_ok (c.fact 78 (f := .noat "Room" "own_basis") rfl)
    prP := propB_ok x3
    meB := He.meth_ok (c.fact 79 (f := .meth "Room" "basis") rfl)
    meH := He.meth_ok (c.fact 80 (f := .meth "Room" "has") rfl)
    eqF := (He.meth_ok (c.fact 81 (f := .meth "Room" "__eq__") rfl)).at_
    eqI := (He.meth_ok (c.fact 81 (f := .meth "Room" "__eq__") rfl)).fn
    kIT := of_decide_eq_true x4
    cMP := He.int_ok X G (c.fact 70 (f := .int "MOST_PLACES" 24) rfl)
    cMW := He.int_ok X G (c.fact 71 (f := .int "MOST_WORDS" 48) rfl)
    cMF := He.int_ok X G (c.fact 72 (f := .int "MOST_FILLS" 135) rfl)
    cH := He.glo_ok X G (c.fact 52 (f := .glo "HALVES") rfl)
    hH := fun H => He.tupB_ok x5 H
    z_isinstance := He.free_ok X G (c.fact 53 (f := .free "isinstance") rfl)
    z_int := He.free_ok X G (c.fact 54 (f := .free "int") rfl)
    z_bool := He.free_ok X G (c.fact 55 (f := .free "bool") rfl)
    z_list := He.free_ok X G (c.fact 56 (f := .free "list") rfl)
    z_tuple := He.free_ok X G (c.fact 57 (f := .free "tuple") rfl)
    z_min := He.free_ok X G (c.fact 58 (f := .free "min") rfl)
    z_sorted := He.free_ok X G (c.fact 59 (f := .free "sorted") rfl)
    z_range := He.free_ok X G (c.fact 60 (f := .free "range") rfl)
    z_enumerate := He.free_ok X G (c.fact 61 (f := .free "enumerate") rfl)
    z_zip := He.free_ok X G (c.fact 62 (f := .free "zip") rfl)
    z_sum := He.free_ok X G (c.fact 63 (f := .free "sum") rfl)
    z_len := He.free_ok X G (c.fact 64 (f := .free "len") rfl)
    z_abs := He.free_ok X G (c.fact 65 (f := .free "abs") rfl)
    z_max := He.free_ok X G (c.fact 66 (f := .free "max") rfl)
    z_divmod := He.free_ok X G (c.fact 67 (f := .free "divmod") rfl)
    z_any := He.free_ok X G (c.fact 68 (f := .free "any") rfl)
    z_all := He.free_ok X G (c.fact 69 (f := .free "all") rfl)
    dIsInteger := (by
      obtain ⟨fd, F⟩ := c.def_ 0 (d := ⟨fun K => He.ga K "is_integer", "is_integer", "is_integer", sIsInteger⟩) rfl
      exact ⟨_, fd, F, He.glo_ok X G (c.fact 0 (f := .glo "is_integer") rfl), binds_of F fun _ _ _ _ _ _ us hl => match us, hl with | [_], _ => rfl⟩)
    dIsCount := (by
      obtain ⟨fd, F⟩ := c.def_ 1 (d := ⟨fun K => He.ga K "is_count", "is_count", "is_count", sIsCount⟩) rfl
      exact ⟨_, fd, F, He.glo_ok X G (c.fact 1 (f := .glo "is_count") rfl), binds_of F fun _ _ _ _ _ _ us hl => match us, hl with | [_], _ => rfl⟩)
    dIsList := (by
      obtain ⟨fd, F⟩ := c.def_ 2 (d := ⟨fun K => He.ga K "is_list", "is_list", "is_list", sIsList⟩) rfl
      exact ⟨_, fd, F, He.glo_ok X G (c.fact 2 (f := .glo "is_list") rfl), binds_of F fun _ _ _ _ _ _ us hl => match us, hl with | [_], _ => rfl⟩)
    dIsPlaces := (by
      obtain ⟨fd, F⟩ := c.def_ 3 (d := ⟨fun K => He.ga K "is_places", "is_places", "is_places", sIsPlaces⟩) rfl
      exact ⟨_, fd, F, He.glo_ok X G (c.fact 3 (f := .glo "is_places") rfl), binds_of F fun _ _ _ _ _ _ us hl => match us, hl with | [_], _ => rfl⟩)
    dWantPlaces := (by
      obtain ⟨fd, F⟩ := c.def_ 4 (d := ⟨fun K => He.ga K "want_places", "want_places", "want_places", sWantPlaces⟩) rfl
      exact ⟨_, fd, F, He.glo_ok X G (c.fact 4 (f := .glo "want_places") rfl), binds_of F fun _ _ _ _ _ _ us hl => match us, hl with | [_], _ => rfl⟩)
    dWantAtMost := (by
      obtain ⟨fd, F⟩ := c.def_ 5 (d := ⟨fun K => He.ga K "want_at_most", "want_at_most", "want_at_most", sWantAtMost⟩) rfl
      exact ⟨_, fd, F, He.glo_ok X G (c.fact 5 (f := .glo "want_at_most") rfl), binds_of F fun _ _ _ _ _ _ us hl => match us, hl with | [_, _, _], _ => rfl⟩)
    dLeftOf := (by
      obtain ⟨fd, F⟩ := c.def_ 6 (d := ⟨fun K => He.ga K "left_of", "left_of", "left_of", sLeftOf⟩) rfl
      exact ⟨_, fd, F, He.glo_ok X G (c.fact 6 (f := .glo "left_of") rfl), binds_of F fun _ _ _ _ _ _ us hl => match us, hl with | [_, _], _ => rfl⟩)
    dWithWord := (by
      obtain ⟨fd, F⟩ := c.def_ 7 (d := ⟨fun K => He.ga K "with_word", "with_word", "with_word", sWithWord⟩) rfl
      exact ⟨_, fd, F, He.glo_ok X G (c.fact 7 (f := .glo "with_word") rfl), binds_of F fun _ _ _ _ _ _ us hl => match us, hl with | [_, _], _ => rfl⟩)
    dPlainBasis := (by
      obtain ⟨fd, F⟩ := c.def_ 8 (d := ⟨fun K => He.ga K "plain_basis", "plain_basis", "plain_basis", sPlainBasis⟩) rfl
      exact ⟨_, fd, F, He.glo_ok X G (c.fact 8 (f := .glo "plain_basis") rfl), binds_of F fun _ _ _ _ _ _ us hl => match us, hl with | [_], _ => rfl⟩)
    dAllWords := (by
      obtain ⟨fd, F⟩ := c.def_ 9 (d := ⟨fun K => He.ga K "all_words", "all_words", "all_words", sAllWords⟩) rfl
      exact ⟨_, fd, F, He.glo_ok X G (c.fact 9 (f := .glo "all_words") rfl), binds_of F fun _ _ _ _ _ _ us hl => match us, hl with | [_], _ => rfl⟩)
    dToldRoom := (by
      obtain ⟨fd, F⟩ := c.def_ 10 (d := ⟨fun K => He.ga K "told_room", "told_room", "told_room", sToldRoom⟩) rfl
      exact ⟨_, fd, F, He.glo_ok X G (c.fact 10 (f := .glo "told_room") rfl), binds_of F fun _ _ _ _ _ _ us hl => match us, hl with | [_, _], _ => rfl⟩)
    dRoomBy := (by
      obtain ⟨fd, F⟩ := c.def_ 11 (d := ⟨fun K => He.ga K "room_by", "room_by", "room_by", sRoomBy⟩) rfl
      exact ⟨_, fd, F, He.glo_ok X G (c.fact 11 (f := .glo "room_by") rfl), binds_of F fun _ _ _ _ _ _ us hl => match us, hl with | [_, _], _ => rfl⟩)
    dWantRoom := (by
      obtain ⟨fd, F⟩ := c.def_ 12 (d := ⟨fun K => He.ga K "want_room", "want_room", "want_room", sWantRoom⟩) rfl
      exact ⟨_, fd, F, He.glo_ok X G (c.fact 12 (f := .glo "want_room") rfl), binds_of F fun _ _ _ _ _ _ us hl => match us, hl with | [_], _ => rfl⟩)
    dWantWord := (by
      obtain ⟨fd, F⟩ := c.def_ 13 (d := ⟨fun K => He.ga K "want_word", "want_word", "want_word", sWantWord⟩) rfl
      exact ⟨_, fd, F, He.glo_ok X G (c.fact 13 (f := .glo "want_word") rfl), binds_of F fun _ _ _ _ _ _ us hl => match us, hl with | [_, _], _ => rfl⟩)
    dWeightOf := (by
      obtain ⟨fd, F⟩ := c.def_ 14 (d := ⟨fun K => He.ga K "weight_of", "weight_of", "weight_of", sWeightOf⟩) rfl
      exact ⟨_, fd, F, He.glo_ok X G (c.fact 14 (f := .glo "weight_of") rfl), binds_of F fun _ _ _ _ _ _ us hl => match us, hl with | [_], _ => rfl⟩)
    dIsOdd := (by
      obtain ⟨fd, F⟩ := c.def_ 15 (d := ⟨fun K => He.ga K "is_odd", "is_odd", "is_odd", sIsOdd⟩) rfl
      exact ⟨_, fd, F, He.glo_ok X G (c.fact 15 (f := .glo "is_odd") rfl), binds_of F fun _ _ _ _ _ _ us hl => match us, hl with | [_], _ => rfl⟩)
    dSpotsOf := (by
      obtain ⟨fd, F⟩ := c.def_ 16 (d := ⟨fun K => He.ga K "spots_of", "spots_of", "spots_of", sSpotsOf⟩) rfl
      exact ⟨_, fd, F, He.glo_ok X G (c.fact 16 (f := .glo "spots_of") rfl), binds_of F fun _ _ _ _ _ _ us hl => match us, hl with | [_], _ => rfl⟩)
    dAllOn := (by
      obtain ⟨fd, F⟩ := c.def_ 17 (d := ⟨fun K => He.ga K "all_on", "all_on", "all_on", sAllOn⟩) rfl
      exact ⟨_, fd, F, He.glo_ok X G (c.fact 17 (f := .glo "all_on") rfl), binds_of F fun _ _ _ _ _ _ us hl => match us, hl with | [_], _ => rfl⟩)
    dContraryBasis := (by
      obtain ⟨fd, F⟩ := c.def_ 18 (d := ⟨fun K => He.ga K "contrary_basis", "contrary_basis", "contrary_basis", sContraryBasis⟩) rfl
      exact ⟨_, fd, F, He.glo_ok X G (c.fact 18 (f := .glo "contrary_basis") rfl), binds_of F fun _ _ _ _ _ _ us hl => match us, hl with | [_, _], _ => rfl⟩)
    dOddTwo := (by
      obtain ⟨fd, F⟩ := c.def_ 19 (d := ⟨fun K => He.ga K "odd_two", "odd_two", "odd_two", sOddTwo⟩) rfl
      exact ⟨_, fd, F, He.glo_ok X G (c.fact 19 (f := .glo "odd_two") rfl), binds_of F fun _ _ _ _ _ _ us hl => match us, hl with | [_], _ => rfl⟩)
    dAreStill := (by
      obtain ⟨fd, F⟩ := c.def_ 20 (d := ⟨fun K => He.ga K "are_still", "are_still", "are_still", sAreStill⟩) rfl
      exact ⟨_, fd, F, He.glo_ok X G (c.fact 20 (f := .glo "are_still") rfl), binds_of F fun _ _ _ _ _ _ us hl => match us, hl with | [_], _ => rfl⟩)
    dIsOwnRoom := (by
      obtain ⟨fd, F⟩ := c.def_ 21 (d := ⟨fun K => He.ga K "is_own_room", "is_own_room", "is_own_room", sIsOwnRoom⟩) rfl
      exact ⟨_, fd, F, He.glo_ok X G (c.fact 21 (f := .glo "is_own_room") rfl), binds_of F fun _ _ _ _ _ _ us hl => match us, hl with | [_], _ => rfl⟩)
    dWantStill := (by
      obtain ⟨fd, F⟩ := c.def_ 22 (d := ⟨fun K => He.ga K "want_still", "want_still", "want_still", sWantStill⟩) rfl
      exact ⟨_, fd, F, He.glo_ok X G (c.fact 22 (f := .glo "want_still") rfl), binds_of F fun _ _ _ _ _ _ us hl => match us, hl with | [_], _ => rfl⟩)
    dIsOwn := (by
      obtain ⟨fd, F⟩ := c.def_ 23 (d := ⟨fun K => He.ga K "is_own", "is_own", "is_own", sIsOwn⟩) rfl
      exact ⟨_, fd, F, He.glo_ok X G (c.fact 23 (f := .glo "is_own") rfl), binds_of F fun _ _ _ _ _ _ us hl => match us, hl with | [_], _ => rfl⟩)
    dWithAll := (by
      obtain ⟨fd, F⟩ := c.def_ 24 (d := ⟨fun K => He.ga K "with_all", "with_all", "with_all", sWithAll⟩) rfl
      exact ⟨_, fd, F, He.glo_ok X G (c.fact 24 (f := .glo "with_all") rfl), binds_of F fun _ _ _ _ _ _ us hl => match us, hl with | [_, _], _ => rfl⟩)
    dFillNumber := (by
      obtain ⟨fd, F⟩ := c.def_ 25 (d := ⟨fun K => He.ga K "fill_number", "fill_number", "fill_number", sFillNumber⟩) rfl
      exact ⟨_, fd, F, He.glo_ok X G (c.fact 25 (f := .glo "fill_number") rfl), binds_of F fun _ _ _ _ _ _ us hl => match us, hl with | [_, _], _ => rfl⟩)
    dClassWords := (by
      obtain ⟨fd, F⟩ := c.def_ 26 (d := ⟨fun K => He.ga K "class_words", "class_words", "class_words", sClassWords⟩) rfl
      exact ⟨_, fd, F, He.glo_ok X G (c.fact 26 (f := .glo "class_words") rfl), binds_of F fun _ _ _ _ _ _ us hl => match us, hl with | [_, _], _ => rfl⟩)
    dFillsOf := (by
      obtain ⟨fd, F⟩ := c.def_ 27 (d := ⟨fun K => He.ga K "fills_of", "fills_of", "fills_of", sFillsOf⟩) rfl
      exact ⟨_, fd, F, He.glo_ok X G (c.fact 27 (f := .glo "fills_of") rfl), binds_of F fun _ _ _ _ _ _ us hl => match us, hl with | [_, _], _ => rfl⟩)
    dFillCount := (by
      obtain ⟨fd, F⟩ := c.def_ 28 (d := ⟨fun K => He.ga K "fill_count", "fill_count", "fill_count", sFillCount⟩) rfl
      exact ⟨_, fd, F, He.glo_ok X G (c.fact 28 (f := .glo "fill_count") rfl), binds_of F fun _ _ _ _ _ _ us hl => match us, hl with | [_], _ => rfl⟩)
    dFills := (by
      obtain ⟨fd, F⟩ := c.def_ 29 (d := ⟨fun K => He.ga K "fills", "fills", "fills", sFills⟩) rfl
      exact ⟨_, fd, F, He.glo_ok X G (c.fact 29 (f := .glo "fills") rfl), binds_of F fun _ _ _ _ _ _ us hl => match us, hl with | [_], _ => rfl⟩)
    dWantAlike := (by
      obtain ⟨fd, F⟩ := c.def_ 30 (d := ⟨fun K => He.ga K "want_alike", "want_alike", "want_alike", sWantAlike⟩) rfl
      exact ⟨_, fd, F, He.glo_ok X G (c.fact 30 (f := .glo "want_alike") rfl), binds_of F fun _ _ _ _ _ _ us hl => match us, hl with | [_, _], _ => rfl⟩)
    dLiesIn := (by
      obtain ⟨fd, F⟩ := c.def_ 31 (d := ⟨fun K => He.ga K "lies_in", "lies_in", "lies_in", sLiesIn⟩) rfl
      exact ⟨_, fd, F, He.glo_ok X G (c.fact 31 (f := .glo "lies_in") rfl), binds_of F fun _ _ _ _ _ _ us hl => match us, hl with | [_, _], _ => rfl⟩)
    dLawPot := (by
      obtain ⟨fd, F⟩ := c.def_ 32 (d := ⟨fun K => He.ga K "_law_pot", "_law_pot", "_law_pot", sLawPot⟩) rfl
      exact ⟨_, fd, F, He.glo_ok X G (c.fact 32 (f := .glo "_law_pot") rfl), binds_of F fun _ _ _ _ _ _ us hl => match us, hl with | [_, _], _ => rfl⟩)
    dLawDraw := (by
      obtain ⟨fd, F⟩ := c.def_ 33 (d := ⟨fun K => He.ga K "_law_draw", "_law_draw", "_law_draw", sLawDraw⟩) rfl
      exact ⟨_, fd, F, He.glo_ok X G (c.fact 33 (f := .glo "_law_draw") rfl), binds_of F fun _ _ _ _ _ _ us hl => match us, hl with | [_, _], _ => rfl⟩)
    dLawPick := (by
      obtain ⟨fd, F⟩ := c.def_ 34 (d := ⟨fun K => He.ga K "_law_pick", "_law_pick", "_law_pick", sLawPick⟩) rfl
      exact ⟨_, fd, F, He.glo_ok X G (c.fact 34 (f := .glo "_law_pick") rfl), binds_of F fun _ _ _ _ _ _ us hl => match us, hl with | [_, _], _ => rfl⟩)
    dLawWeight := (by
      obtain ⟨fd, F⟩ := c.def_ 35 (d := ⟨fun K => He.ga K "_law_weight", "_law_weight", "_law_weight", sLawWeight⟩) rfl
      exact ⟨_, fd, F, He.glo_ok X G (c.fact 35 (f := .glo "_law_weight") rfl), binds_of F fun _ _ _ _ _ _ us hl => match us, hl with | [_], _ => rfl⟩)
    dLawAreEven := (by
      obtain ⟨fd, F⟩ := c.def_ 36 (d := ⟨fun K => He.ga K "_law_are_even", "_law_are_even", "_law_are_even", sLawAreEven⟩) rfl
      exact ⟨_, fd, F, He.glo_ok X G (c.fact 36 (f := .glo "_law_are_even") rfl), binds_of F fun _ _ _ _ _ _ us hl => match us, hl with | [_, _], _ => rfl⟩)
    dLawPlain := (by
      obtain ⟨fd, F⟩ := c.def_ 37 (d := ⟨fun K => He.ga K "_law_plain", "_law_plain", "_law_plain", sLawPlain⟩) rfl
      exact ⟨_, fd, F, He.glo_ok X G (c.fact 37 (f := .glo "_law_plain") rfl), binds_of F fun _ _ _ _ _ _ us hl => match us, hl with | [_], _ => rfl⟩)
    dLawSpan := (by
      obtain ⟨fd, F⟩ := c.def_ 38 (d := ⟨fun K => He.ga K "_law_span", "_law_span", "_law_span", sLawSpan⟩) rfl
      exact ⟨_, fd, F, He.glo_ok X G (c.fact 38 (f := .glo "_law_span") rfl), binds_of F fun _ _ _ _ _ _ us hl => match us, hl with | [_], _ => rfl⟩)
    dLawContrary := (by
      obtain ⟨fd, F⟩ := c.def_ 39 (d := ⟨fun K => He.ga K "_law_contrary", "_law_contrary", "_law_contrary", sLawContrary⟩) rfl
      exact ⟨_, fd, F, He.glo_ok X G (c.fact 39 (f := .glo "_law_contrary") rfl), binds_of F fun _ _ _ _ _ _ us hl => match us, hl with | [_, _], _ => rfl⟩)
    dLawStill := (by
      obtain ⟨fd, F⟩ := c.def_ 40 (d := ⟨fun K => He.ga K "_law_still", "_law_still", "_law_still", sLawStill⟩) rfl
      exact ⟨_, fd, F, He.glo_ok X G (c.fact 40 (f := .glo "_law_still") rfl), binds_of F fun _ _ _ _ _ _ us hl => match us, hl with | [_, _, _], _ => rfl⟩)
    dLawSequence := (by
      obtain ⟨fd, F⟩ := c.def_ 41 (d := ⟨fun K => He.ga K "_law_sequence", "_law_sequence", "_law_sequence", sLawSequence⟩) rfl
      exact ⟨_, fd, F, He.glo_ok X G (c.fact 41 (f := .glo "_law_sequence") rfl), binds_of F fun _ _ _ _ _ _ us hl => match us, hl with | [_, _], _ => rfl⟩)
    dLawLed := (by
      obtain ⟨fd, F⟩ := c.def_ 42 (d := ⟨fun K => He.ga K "_law_led", "_law_led", "_law_led", sLawLed⟩) rfl
      exact ⟨_, fd, F, He.glo_ok X G (c.fact 42 (f := .glo "_law_led") rfl), binds_of F fun _ _ _ _ _ _ us hl => match us, hl with | [_, _], _ => rfl⟩)
    dLawPaired := (by
      obtain ⟨fd, F⟩ := c.def_ 43 (d := ⟨fun K => He.ga K "_law_paired", "_law_paired", "_law_paired", sLawPaired⟩) rfl
      exact ⟨_, fd, F, He.glo_ok X G (c.fact 43 (f := .glo "_law_paired") rfl), binds_of F fun _ _ _ _ _ _ us hl => match us, hl with | [_, _, _], _ => rfl⟩)
    dLawOwnOver := (by
      obtain ⟨fd, F⟩ := c.def_ 44 (d := ⟨fun K => He.ga K "_law_own_over", "_law_own_over", "_law_own_over", sLawOwnOver⟩) rfl
      exact ⟨_, fd, F, He.glo_ok X G (c.fact 44 (f := .glo "_law_own_over") rfl), binds_of F fun _ _ _ _ _ _ us hl => match us, hl with | [_, _], _ => rfl⟩)
    dLawListRight := (by
      obtain ⟨fd, F⟩ := c.def_ 45 (d := ⟨fun K => He.ga K "_law_list_right", "_law_list_right", "_law_list_right", sLawListRight⟩) rfl
      exact ⟨_, fd, F, He.glo_ok X G (c.fact 45 (f := .glo "_law_list_right") rfl), binds_of F fun _ _ _ _ _ _ us hl => match us, hl with | [_, _], _ => rfl⟩)
    dLawRoomRight := (by
      obtain ⟨fd, F⟩ := c.def_ 46 (d := ⟨fun K => He.ga K "_law_room_right", "_law_room_right", "_law_room_right", sLawRoomRight⟩) rfl
      exact ⟨_, fd, F, He.glo_ok X G (c.fact 46 (f := .glo "_law_room_right") rfl), binds_of F fun _ _ _ _ _ _ us hl => match us, hl with | [_, _], _ => rfl⟩)
    dLawRight := (by
      obtain ⟨fd, F⟩ := c.def_ 47 (d := ⟨fun K => He.ga K "_law_right", "_law_right", "_law_right", sLawRight⟩) rfl
      exact ⟨_, fd, F, He.glo_ok X G (c.fact 47 (f := .glo "_law_right") rfl), binds_of F fun _ _ _ _ _ _ us hl => match us, hl with | [_], _ => rfl⟩)
    dLawWhole := (by
      obtain ⟨fd, F⟩ := c.def_ 48 (d := ⟨fun K => He.ga K "_law_whole", "_law_whole", "_law_whole", sLawWhole⟩) rfl
      exact ⟨_, fd, F, He.glo_ok X G (c.fact 48 (f := .glo "_law_whole") rfl), binds_of F fun _ _ _ _ _ _ us hl => match us, hl with | [_], _ => rfl⟩)
    dLaw := (by
      obtain ⟨fd, F⟩ := c.def_ 49 (d := ⟨fun K => He.ga K "law", "law", "law", sLaw⟩) rfl
      exact ⟨_, fd, F, He.glo_ok X G (c.fact 49 (f := .glo "law") rfl), binds_of F fun _ _ _ _ _ _ us hl => match us, hl with | [_], _ => rfl⟩)
    m_tInit := (by
      obtain ⟨fd, F⟩ := c.def_ 50 (d := ⟨fun K => He.ma K (cT K) "__init__", "__init__", "Told.__init__", s_tInit⟩) rfl
      exact ⟨fd, F, binds_of F fun _ _ _ _ _ _ us hl => match us, hl with | [_, _, _], _ => rfl⟩)
    m_rInit := (by
      obtain ⟨fd, F⟩ := c.def_ 51 (d := ⟨fun K => He.ma K (cR K) "__init__", "__init__", "Room.__init__", s_rInit⟩) rfl
      exact ⟨fd, F, binds_of F fun _ _ _ _ _ _ us hl => match us, hl with | [_, _, _], _ => rfl⟩)
    m_rPlaces := (by
      obtain ⟨fd, F⟩ := c.def_ 52 (d := ⟨fun K => gAd K, "places", "Room.places", s_rPlaces⟩) rfl
      exact ⟨fd, F, binds_of F fun _ _ _ _ _ _ us hl => match us, hl with | [_], _ => rfl⟩)
    m_rBasis := (by
      obtain ⟨fd, F⟩ := c.def_ 53 (d := ⟨fun K => He.ma K (cR K) "basis", "basis", "Room.basis", s_rBasis⟩) rfl
      exact ⟨fd, F, binds_of F fun _ _ _ _ _ _ us hl => match us, hl with | [_], _ => rfl⟩)
    m_rHas := (by
      obtain ⟨fd, F⟩ := c.def_ 54 (d := ⟨fun K => He.ma K (cR K) "has", "has", "Room.has", s_rHas⟩) rfl
      exact ⟨fd, F, binds_of F fun _ _ _ _ _ _ us hl => match us, hl with | [_, _], _ => rfl⟩)
    m_rEq := (by
      obtain ⟨fd, F⟩ := c.def_ 55 (d := ⟨fun K => He.ma K (cR K) "__eq__", "__eq__", "Room.__eq__", s_rEq⟩) rfl
      exact ⟨fd, F, binds_of F fun _ _ _ _ _ _ us hl => match us, hl with | [_, _], _ => rfl⟩) }
theorem facts {P : Program} {w : World} (X : K.In h) (G : h.Ns mainGlobals mg) (c : SaysX K) {f : Addr} (hfa : mg ("law" : Str) = some (.ref f)) :
    ∃ fd : FuncData, (∀ (s : Shared) (v : Value), BindsTo s fd ⟨[v], []⟩ [("_law_script", v)]) ∧ ∀ base : Heap, K.In base → base.Ns mainGlobals mg → FnOk P w K mg base CX0 12 f fd ["_law_script"] (spLaw K) := by
  obtain ⟨fd, F⟩ := c.def_ 49 (d := ⟨fun K => He.ga K "law", "law", "law", sLaw⟩) rfl
  have e := hfa.symm.trans (He.glo_ok X G (c.fact 49 (f := .glo "law") rfl))
  cases e
  have b := bindsA_of (ps := ["_law_script"]) F fun _ _ _ _ _ _ us hl => match us, hl with | [_], _ => rfl
  exact ⟨fd, fun s v => b s [v] rfl, fun base _ _ => ok_law (txt X G c) F⟩
end
end K27W
set_option maxHeartbeats 0
/-! K27End: the top's run, the law (printed by gen_end.py). -/
namespace K27W
open PySem PySem.Spec PyProof.Rows L2
abbrev R : PySem.W.OpenRow := PySem.W.OpenLaw.row PySem.Challenge.rw_owncontraries_k27_whole_fill_ups_listed
def obK (s : PySem.W.SharedT) : He.AlD := obsXG (HandSHeadRun.getT s)
theorem obK_eq (s : PySem.W.SharedT) : obK s = hookX.obs s.abs := obsXG_eq (HandSHeadRun.getT_eq s)
def nmP0 : List Str := ["WordError", "StateError", "LimitError", "InvalidPlaces", "InvalidRoom", "InvalidWord", "InvalidWords", "UnlikePlaces", "NotStill", "TooMany", "MOST_PLACES", "is_integer", "is_count", "is_list", "is_places", "want_places", "want_at_most", "MOST_WORDS", "MOST_DIMENSION", "left_of", "with_word", "plain_basis", "all_words", "Told", "told_room", "Room", "room_by", "want_room", "want_word", "HALVES"]
def nmP1 : List Str := ["weight_of", "is_odd", "spots_of", "all_on", "contrary_basis", "odd_two", "are_still", "is_own_room", "want_still", "is_own", "MOST_FILLS", "with_all", "fill_number", "class_words", "fills_of", "fill_count", "fills", "want_alike", "lies_in", "_law_pot", "_law_draw", "_law_pick", "_law_weight", "_law_are_even", "_law_plain", "_law_span", "_law_contrary", "_law_still", "_law_sequence", "_law_led"]
def nmP2 : List Str := ["_law_paired", "_law_own_over", "_law_list_right", "_law_room_right", "_law_right", "_law_whole"]
def looseK : List Str := nmP0 ++ (nmP1 ++ (nmP2))
theorem runK (w : World) : HandSHeadRun.RunEq R (PySem.W.view R.prog [74]) hookX obK 6000 looseK w := by
  intro os
  kernel_rfl
end K27W
open PySem PySem.W PySem.Calls PyProof.Rows
theorem PySem.Challenge.cw_owncontraries_k27_whole_fill_ups_listed_holds : PySem.Challenge.rw_owncontraries_k27_whole_fill_ups_listed.Holds := by
  w_on; o_law
  refine HandSHeadRun.head_any (r := OpenLaw.row PySem.Challenge.rw_owncontraries_k27_whole_fill_ups_listed) (q := view (OpenLaw.row PySem.Challenge.rw_owncontraries_k27_whole_fill_ups_listed).prog [74]) (H := K27W.hookX) (ob := K27W.obK) (M := 6000) (loose := K27W.looseK) (d := HandSHeadRun.topDef (OpenLaw.row PySem.Challenge.rw_owncontraries_k27_whole_fill_ups_listed).prog 74) (kwd := []) K27W.obK_eq
    (by kernel_rfl) (fun s => by kernel_rfl) K27W.runK (by kernel_rfl) (by kernel_rfl) (by kernel_rfl) (by rfl) (by first | assumption | decide +kernel) (by decide +kernel) ⟨rfl, rfl, rfl, rfl, rfl, by decide +kernel⟩ ?hw ?hc
  case hw => w_witness2
  case hc =>
    refine L2.walk_ofE (l := PySem.Challenge.rw_owncontraries_k27_whole_fill_ups_listed) (n := 63) (k := 12) (x := "_law_script") (CX := L2.CX0) rfl (by decide) (by kernel_rfl) ⟨rfl, by decide, by decide⟩ ?F (fun _ _ _ _ z => z)
    intro w mg fa h Y G hmg0
    obtain ⟨K, KX, c⟩ := Y
    have hmg : mg ("law" : PySem.Str) = some (.ref fa) := by
      have e : (HandSHeadRun.topDef (OpenLaw.row PySem.Challenge.rw_owncontraries_k27_whole_fill_ups_listed).prog 74).name = ("law" : PySem.Str) := by kernel_rfl
      rw [← e]
      exact hmg0
    obtain ⟨fd, hb, hF⟩ := K27W.facts (P := (PySem.Challenge.rw_owncontraries_k27_whole_fill_ups_listed).prog) (w := w) KX G c hmg
    exact ⟨K, fd, K27W.spLaw K, KX, hb, fun H a ns hl _ hS => ⟨a, ns, rfl, hS, fun _ => rfl⟩, hF⟩
