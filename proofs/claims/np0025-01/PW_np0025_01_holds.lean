import PyProof.Rows.All
import Wide.All
import OpenK.AllK
import Wide.FinOn
import PySem.Challenge.RW_np0025_01
set_option Elab.async false
namespace Mine

section
abbrev St2 := Int × Int
abbrev Span := Int × Int × Int

def standsAt (codes wanted : List Int) (k : Nat) : Bool := !decide (wanted = []) && decide ((codes.drop k).take wanted.length = wanted)

structure Sc where
  at_ : Nat
  begun : Nat
  st : St2
  sp : List Span

def leaveP (c : Sc) : Sc := if c.st.1 ≠ 0 ∧ c.begun < c.at_ then { c with sp := c.sp ++ [((c.begun : Int), (c.at_ : Int), c.st.1)] } else c
def enterP (c : Sc) (st : St2) : Sc := { c with begun := c.at_, st := st }
def inCodeP (codes : List Int) (c : Sc) : Sc :=
  if codes.getD c.at_ 0 = 92 then { c with at_ := c.at_ + 2 }
  else if standsAt codes [59] c.at_ then { c with sp := c.sp ++ [((c.at_ : Int), (codes.length : Int), 2)], at_ := codes.length }
  else if standsAt codes [47, 42] c.at_ then { (enterP c (2, 1)) with at_ := c.at_ + 2 }
  else if [34, 39].any (· == codes.getD c.at_ 0) then { (enterP c (1, codes.getD c.at_ 0)) with at_ := c.at_ + 1 }
  else { c with at_ := c.at_ + 1 }
def inStringP (codes : List Int) (c : Sc) : Sc :=
  if codes.getD c.at_ 0 = 92 then { c with at_ := c.at_ + 2 }
  else if codes.getD c.at_ 0 = c.st.2 then { (leaveP { c with at_ := c.at_ + 1 }) with st := (0, 0) }
  else { c with at_ := c.at_ + 1 }
def inCommentP (nests : Bool) (codes : List Int) (c : Sc) : Sc :=
  if standsAt codes [42, 47] c.at_ then
    if 1 < c.st.2 then { c with at_ := c.at_ + 2, st := (2, c.st.2 - 1) }
    else { (leaveP { c with at_ := c.at_ + 2 }) with st := (0, 0) }
  else if nests && standsAt codes [47, 42] c.at_ then { c with at_ := c.at_ + 2, st := (2, c.st.2 + 1) }
  else { c with at_ := c.at_ + 1 }
def stepP (nests : Bool) (codes : List Int) (c : Sc) : Sc :=
  if c.st.1 = 0 then inCodeP codes c else if c.st.1 = 1 then inStringP codes c else inCommentP nests codes c
def loopP (nests : Bool) (codes : List Int) : Nat → Sc → Sc
  | 0, c => c
  | n + 1, c => if c.at_ < codes.length then loopP nests codes n (stepP nests codes c) else c
def goP (nests : Bool) (codes : List Int) (c : Sc) : Sc := leaveP { (loopP nests codes codes.length c) with at_ := codes.length }
def scanP (nests : Bool) (codes : List Int) (st : St2) : St2 × List Span :=
  let c := goP nests codes ⟨0, 0, st, []⟩
  (c.st, c.sp)
end

section
theorem eq_tl {f o n a k : Nat} (h : f + n ≤ a) : f + o + (a - f - n + k) = a + o - n + k := by omega
theorem eq_hd {f n a k : Nat} (h : f + n ≤ a) : f + n + (a - f - n + k) = a + k := by omega
theorem sub_sub3 {l l' p a o n : Nat} (e : l' + o = l + n) (h1 : n ≤ a) (hp : a ≤ p) (hl : p < l') : l - (l' - p) = a + o - n + (p - a) := by
  obtain ⟨d, rfl⟩ := Nat.exists_eq_add_of_le (Nat.le_of_lt hl)
  obtain ⟨m, rfl⟩ := Nat.exists_eq_add_of_le h1
  obtain ⟨r, rfl⟩ := Nat.exists_eq_add_of_le hp
  clear hl hp h1
  rw [Nat.add_sub_cancel_left, Nat.add_sub_cancel_left]
  omega
theorem add_sub3 {a o n p l l' : Nat} (e : l' + o = l + n) (h1 : n ≤ a) (hp : a ≤ p) (hl : p ≤ l') : a + o - n + (p - a) ≤ l := by omega
def stAt (nests : Bool) (lines : List (List Int)) : Nat → St2
  | 0 => (0, 0)
  | k + 1 => (scanP nests (lines.getD k []) (stAt nests lines k)).1
def stK (nests : Bool) (lines : List (List Int)) (k : Nat) : List St2 := (List.range k).map (stAt nests lines)
def stL (nests : Bool) (lines : List (List Int)) : List St2 := stK nests lines (lines.length + 1)

variable {nests : Bool} {l₀ l₁ lines : List (List Int)}
theorem stK_len {k : Nat} : (stK nests lines k).length = k := by simp [stK]
theorem stL_len : (stL nests lines).length = lines.length + 1 := stK_len
theorem stK_get {k i : Nat} (h : i < k) : (stK nests lines k)[i]? = some (stAt nests lines i) := by simp [stK, h]
theorem stL_get {i : Nat} (h : i ≤ lines.length) : (stL nests lines)[i]? = some (stAt nests lines i) := stK_get (by omega)
theorem stK_succ {k : Nat} : stK nests lines (k + 1) = stK nests lines k ++ [stAt nests lines k] := by simp [stK, List.range_succ]
theorem stAt_congr : ∀ {k : Nat}, (∀ j, j < k → l₀.getD j [] = l₁.getD j []) → stAt nests l₀ k = stAt nests l₁ k
  | 0, _ => rfl
  | k + 1, h => by
    rw [stAt, stAt, stAt_congr (k := k) fun j hj => h j (by omega), h k (by omega)]
theorem stAt_shift {i i' : Nat} (h : stAt nests l₁ i = stAt nests l₀ i') : ∀ (j : Nat), (∀ k, k < j → l₁.getD (i + k) [] = l₀.getD (i' + k) []) → stAt nests l₁ (i + j) = stAt nests l₀ (i' + j)
  | 0, _ => h
  | j + 1, g => by
    show (scanP nests (l₁.getD (i + j) []) (stAt nests l₁ (i + j))).1 = (scanP nests (l₀.getD (i' + j) []) (stAt nests l₀ (i' + j))).1
    rw [stAt_shift h j fun k hk => g k (by omega), g j (by omega)]
theorem stK_take {k n : Nat} (h : k ≤ n) : (stK nests lines n).take k = stK nests lines k := by
  unfold stK
  rw [← List.map_take, List.take_range, Nat.min_eq_left h]
theorem stK_congr {k : Nat} (h : ∀ j, j + 1 < k → l₀.getD j [] = l₁.getD j []) : stK nests l₀ k = stK nests l₁ k := by
  unfold stK
  apply List.map_congr_left
  intro i hi
  exact stAt_congr fun j hj => h j (by have := List.mem_range.mp hi; omega)
structure Edit (l₀ l₁ : List (List Int)) (f o n : Nat) : Prop where
  fo : f + o ≤ l₀.length
  ln : l₁.length + o = l₀.length + n
  hd : ∀ j, j < f → l₁.getD j [] = l₀.getD j []
  tl : ∀ j, l₁.getD (f + n + j) [] = l₀.getD (f + o + j) []
theorem Edit.mk' {a b c new : List (List Int)} : Edit (a ++ b ++ c) (a ++ new ++ c) a.length b.length new.length where
  fo := by simp
  ln := by simp; omega
  hd := fun j hj => by simp [List.getD, List.getElem?_append, hj]
  tl := fun j => by
    have e1 : ¬ a.length + new.length + j < a.length := by omega
    have e2 : ¬ a.length + b.length + j < a.length := by omega
    have e3 : ¬ a.length + new.length + j - a.length < new.length := by omega
    have e4 : ¬ a.length + b.length + j - a.length < b.length := by omega
    have e5 : a.length + new.length + j - a.length - new.length = j := by omega
    have e6 : a.length + b.length + j - a.length - b.length = j := by omega
    simp [List.getD, List.getElem?_append, e1, e2, e3, e4, e5, e6]
theorem edit_of {l₀ new : List (List Int)} {f o : Nat} (h : f + o ≤ l₀.length) : Edit l₀ (l₀.take f ++ new ++ l₀.drop (f + o)) f o new.length := by
  have e : l₀ = l₀.take f ++ (l₀.drop f).take o ++ l₀.drop (f + o) := by
    rw [List.append_assoc, ← List.drop_drop, List.take_append_drop, List.take_append_drop]
  have m := Edit.mk' (a := l₀.take f) (b := (l₀.drop f).take o) (c := l₀.drop (f + o)) (new := new)
  rw [← e] at m
  have h1 : (l₀.take f).length = f := by simp; omega
  have h2 : ((l₀.drop f).take o).length = o := by simp; omega
  rwa [h1, h2] at m
theorem step_sub {x i a : Nat} (h : a + 1 ≤ i) : x + 1 + (i - (a + 1)) = x + (i - a) := by
  obtain ⟨d, rfl⟩ := Nat.exists_eq_add_of_le h
  rw [Nat.add_sub_cancel_left, Nat.add_assoc a 1 d, Nat.add_sub_cancel_left, Nat.add_assoc]
theorem past_end {a o n i l l' : Nat} (e : l' + o = l + n) (h1 : n ≤ a) (hp : a ≤ i) (hl : l' < i) : l + 1 ≤ a + o - n + (i - a) := by
  obtain ⟨d, rfl⟩ := Nat.exists_eq_add_of_le hp
  rw [Nat.add_sub_cancel_left]
  omega
theorem Edit.met {f o n a : Nat} (e : Edit l₀ l₁ f o n) (h1 : f + n ≤ a) (h2 : a ≤ l₁.length) (m : stAt nests l₁ a = stAt nests l₀ (a + o - n)) :
    stK nests l₁ (a + 1) ++ (stL nests l₀).drop (a + o - n + 1) = stL nests l₁ := by
  have hn : n ≤ a := Nat.le_trans (Nat.le_add_left ..) h1
  apply List.ext_getElem?
  intro i
  by_cases hi : i < a + 1
  · rw [List.getElem?_append_left (by rw [stK_len]; exact hi), stK_get hi, stL_get (Nat.le_trans (Nat.lt_succ_iff.mp hi) h2)]
  · have hi := Nat.not_lt.mp hi
    have hi' : a ≤ i := Nat.le_of_succ_le hi
    rw [List.getElem?_append_right (by rw [stK_len]; exact hi), stK_len, List.getElem?_drop, step_sub hi]
    by_cases h3 : i ≤ l₁.length
    · rw [stL_get h3, stL_get (add_sub3 e.ln hn hi' h3)]
      have := stAt_shift m (i - a) fun k hk => by
        have t := e.tl (a - f - n + k)
        rw [eq_hd h1, eq_tl h1] at t
        exact t
      rw [← this, Nat.add_sub_cancel' hi']
    · have h3 := Nat.not_le.mp h3
      rw [List.getElem?_eq_none (by rw [stL_len]; exact past_end e.ln hn hi' h3), List.getElem?_eq_none (by rw [stL_len]; exact h3)]
theorem Edit.met_eq {f o n a p : Nat} (e : Edit l₀ l₁ f o n) (h1 : f + n ≤ a) (m : stAt nests l₁ a = stAt nests l₀ (a + o - n)) (hp : a ≤ p) (hl : p < l₁.length) :
    (stL nests l₁)[p]? = (stL nests l₀)[l₀.length - (l₁.length - p)]? := by
  have ln := e.ln; have fo := e.fo
  rw [stL_get (Nat.le_of_lt hl), sub_sub3 ln (Nat.le_trans (Nat.le_add_left ..) h1) hp hl, stL_get (add_sub3 ln (Nat.le_trans (Nat.le_add_left ..) h1) hp (Nat.le_of_lt hl))]
  have := stAt_shift m (p - a) fun k hk => by
    have t := e.tl (a - f - n + k)
    rw [eq_hd h1, eq_tl h1] at t
    exact t
  rw [← this, show a + (p - a) = p by omega]
end

section
def fillF (own : List Int) (s e : Nat) (v : Int) : List Int := own.mapIdx fun i x => if s ≤ i ∧ i < e then v else x
theorem fillF_get {own : List Int} {s e i : Nat} {v : Int} : (fillF own s e v)[i]? = own[i]?.map fun x => if s ≤ i ∧ i < e then v else x := by simp [fillF, List.getElem?_mapIdx]
theorem fillF_len {own : List Int} {s e : Nat} {v : Int} : (fillF own s e v).length = own.length := by simp [fillF]
theorem fillF_congr {own own' : List Int} {s e s' e' : Nat} {v v' : Int} (h : ∀ i x y, own[i]? = some x → own'[i]? = some y → (if s ≤ i ∧ i < e then v else x) = (if s' ≤ i ∧ i < e' then v' else y)) (hl : own.length = own'.length) : fillF own s e v = fillF own' s' e' v' := by
  apply List.ext_getElem?
  intro i
  rw [fillF_get, fillF_get]
  by_cases hi : i < own.length
  · obtain ⟨x, hx⟩ : ∃ x, own[i]? = some x := ⟨_, List.getElem?_eq_getElem hi⟩
    obtain ⟨y, hy⟩ : ∃ y, own'[i]? = some y := ⟨_, List.getElem?_eq_getElem (hl ▸ hi)⟩
    rw [hx, hy, Option.map_some, Option.map_some, h i x y hx hy]
  · rw [List.getElem?_eq_none (by omega), List.getElem?_eq_none (by omega)]; rfl
theorem fillF_bound {own : List Int} {s e e' : Nat} {v : Int} (h : e = e' ∨ (own.length ≤ e ∧ own.length ≤ e')) : fillF own s e v = fillF own s e' v := by
  refine fillF_congr (fun i x y hx hy => ?_) rfl
  rw [hx] at hy; cases hy
  have : i < own.length := (List.getElem?_eq_some_iff.mp hx).1
  have e1 : (s ≤ i ∧ i < e) ↔ (s ≤ i ∧ i < e') := by omega
  simp only [e1]
theorem fillF_two {own : List Int} {b a e : Nat} {v : Int} (h1 : b ≤ a) (h2 : a ≤ e) : fillF (fillF own b a v) a e v = fillF own b e v := by
  refine fillF_congr (fun i x y hx hy => ?_) fillF_len
  rw [fillF_get, hy, Option.map_some] at hx
  cases hx
  by_cases c1 : a ≤ i ∧ i < e
  · rw [if_pos c1, if_pos (by omega)]
  · rw [if_neg c1]
    by_cases c2 : b ≤ i ∧ i < a
    · rw [if_pos c2, if_pos (by omega)]
    · rw [if_neg c2, if_neg (by omega)]
theorem fillF_none {own : List Int} {s e : Nat} {v : Int} (h : ∀ i x, s ≤ i → i < e → own[i]? = some x → x = v) : fillF own s e v = own := by
  apply List.ext_getElem?
  intro i
  rw [fillF_get]
  cases hx : own[i]? with
  | none => rfl
  | some x =>
    by_cases c : s ≤ i ∧ i < e
    · rw [Option.map_some, if_pos c, h i x c.1 c.2 hx]
    · rw [Option.map_some, if_neg c]
theorem set_fillF {own : List Int} {k : Nat} {v : Int} (hk : k < own.length) : own.set k v = fillF own k (k + 1) v := by
  apply List.ext_getElem?
  intro i
  rw [fillF_get, List.getElem?_set]
  by_cases c : k = i
  · subst c; rw [if_pos rfl, if_pos hk, List.getElem?_eq_getElem hk, Option.map_some, if_pos (by omega)]
  · rw [if_neg c]
    cases hx : own[i]? with
    | none => rfl
    | some x => rw [Option.map_some, if_neg (by omega)]
theorem cut_fillF {own : List Int} {s e : Nat} {v : Int} (h1 : s ≤ e) (h2 : e ≤ own.length) : own.take s ++ List.replicate (e - s) v ++ own.drop (max s e) = fillF own s e v := by
  rw [Nat.max_eq_right h1]
  have ls : (own.take s).length = s := by rw [List.length_take, Nat.min_eq_left (Nat.le_trans h1 h2)]
  have le : (own.take s ++ List.replicate (e - s) v).length = e := by rw [List.length_append, ls, List.length_replicate, Nat.add_sub_cancel' h1]
  apply List.ext_getElem?
  intro i
  rw [fillF_get]
  by_cases c2 : i < e
  · rw [List.getElem?_append_left (by rw [le]; exact c2)]
    by_cases c1 : i < s
    · rw [List.getElem?_append_left (by rw [ls]; exact c1), List.getElem?_take_of_lt c1]
      cases own[i]? with
      | none => rfl
      | some x => rw [Option.map_some, if_neg fun z => Nat.not_le.mpr c1 z.1]
    · have c1 := Nat.not_lt.mp c1
      rw [List.getElem?_append_right (by rw [ls]; exact c1), ls, List.getElem?_replicate, if_pos (Nat.sub_lt_sub_right c1 c2), List.getElem?_eq_getElem (Nat.lt_of_lt_of_le c2 h2), Option.map_some, if_pos ⟨c1, c2⟩]
  · have c2' := Nat.not_lt.mp c2
    rw [List.getElem?_append_right (by rw [le]; exact c2'), le, List.getElem?_drop, Nat.add_sub_cancel' c2']
    cases own[i]? with
    | none => rfl
    | some x => rw [Option.map_some, if_neg fun z => c2 z.2]

def paint (own : List Int) : List Span → List Int
  | [] => own
  | p :: r => paint (fillF own p.1.toNat p.2.1.toNat p.2.2) r
theorem paint_snoc {p : Span} : ∀ {sp : List Span} {own : List Int}, paint own (sp ++ [p]) = fillF (paint own sp) p.1.toNat p.2.1.toNat p.2.2
  | [], _ => rfl
  | _ :: r, _ => paint_snoc (sp := r)
theorem paint_len : ∀ {sp : List Span} {own : List Int}, (paint own sp).length = own.length
  | [], _ => rfl
  | _ :: r, _ => (paint_len (sp := r)).trans fillF_len
def SpOk (a : Nat) (p : Span) : Prop := 0 ≤ p.1 ∧ p.1 ≤ p.2.1 ∧ p.2.1 ≤ a
theorem paint_ge {a i : Nat} (hi : a ≤ i) : ∀ {sp : List Span} {own : List Int}, (∀ p ∈ sp, SpOk a p) → (paint own sp)[i]? = own[i]?
  | [], _, _ => rfl
  | p :: r, own, h => by
    have hp := h p (.head _)
    rw [paint, paint_ge hi (sp := r) fun q hq => h q (.tail _ hq), fillF_get]
    cases own[i]? with
    | none => rfl
    | some x => rw [Option.map_some, if_neg (by unfold SpOk at hp; omega)]

structure Wk where
  at_ : Nat
  q : Int
  d : Int
  own : List Int
def pairP (codes : List Int) (k : Nat) : List Int := (codes.drop k).take 2
def wstep (nests : Bool) (codes : List Int) (w : Wk) : Wk :=
  if 0 < w.d then
    if pairP codes w.at_ = [42, 47] ∨ (nests = true ∧ pairP codes w.at_ = [47, 42]) then
      { w with at_ := w.at_ + 2, d := w.d + (if (pairP codes w.at_).getD 0 0 = 47 then 1 else -1), own := fillF (fillF w.own w.at_ (w.at_ + 1) 2) (w.at_ + 1) (w.at_ + 2) 2 }
    else { w with at_ := w.at_ + 1, own := fillF w.own w.at_ (w.at_ + 1) 2 }
  else if codes.getD w.at_ 0 = 92 then { w with at_ := w.at_ + 2, own := fillF w.own w.at_ (w.at_ + 2) (if 0 < w.q then 1 else 0) }
  else if 0 < w.q then { w with at_ := w.at_ + 1, own := fillF w.own w.at_ (w.at_ + 1) 1, q := if codes.getD w.at_ 0 = w.q then 0 else w.q }
  else if codes.getD w.at_ 0 = 59 then { w with at_ := codes.length + 1, own := fillF w.own w.at_ codes.length 2 }
  else if pairP codes w.at_ = [47, 42] then { w with at_ := w.at_ + 2, own := fillF w.own w.at_ (w.at_ + 2) 2, d := 1 }
  else if codes.getD w.at_ 0 = 34 ∨ codes.getD w.at_ 0 = 39 then { w with at_ := w.at_ + 1, own := fillF w.own w.at_ (w.at_ + 1) 1, q := codes.getD w.at_ 0 }
  else { w with at_ := w.at_ + 1 }
def wloop (nests : Bool) (codes : List Int) : Nat → Wk → Wk
  | 0, w => w
  | n + 1, w => if w.at_ < codes.length then wloop nests codes n (wstep nests codes w) else w
def wline (nests : Bool) (codes : List Int) (q d : Int) : Wk := wloop nests codes codes.length ⟨0, q, d, List.replicate codes.length 0⟩
def absS (q d : Int) : St2 := if 0 < q then (1, q) else if 0 < d then (2, d) else (0, 0)

structure Rel (codes : List Int) (c : Sc) (w : Wk) : Prop where
  at_ : c.at_ = w.at_ ∨ (codes.length ≤ c.at_ ∧ codes.length ≤ w.at_)
  st : c.st = absS w.q w.d
  q0 : 0 ≤ w.q
  d0 : 0 ≤ w.d
  qd : w.q = 0 ∨ w.d = 0
  bg : c.begun ≤ c.at_
  sp : ∀ p ∈ c.sp, SpOk (min c.at_ codes.length) p
  own : w.own = if c.st.1 ≠ 0 then fillF (paint (List.replicate codes.length 0) c.sp) c.begun c.at_ c.st.1 else paint (List.replicate codes.length 0) c.sp

theorem pair_len {codes : List Int} {k : Nat} {a b : Int} (h : pairP codes k = [a, b]) : k + 2 ≤ codes.length := by
  have := congrArg List.length h
  simp [pairP] at this
  omega
theorem stands2 {codes : List Int} {k : Nat} {a b : Int} : standsAt codes [a, b] k = decide (pairP codes k = [a, b]) := by
  show (!decide ([a, b] = []) && decide ((codes.drop k).take 2 = [a, b])) = _
  rw [decide_eq_false (by simp)]; rfl
theorem stands1 {codes : List Int} {k : Nat} {a : Int} (h : k < codes.length) : standsAt codes [a] k = decide (codes.getD k 0 = a) := by
  have : (codes.drop k).take 1 = [codes[k]] := by rw [List.drop_eq_getElem_cons h]; rfl
  have e : codes.getD k 0 = codes[k] := by simp [List.getD, h]
  rw [e]
  show (!decide ([a] = []) && decide ((codes.drop k).take 1 = [a])) = _
  rw [decide_eq_false (by simp), this]; simp
theorem SpOk.mono {a b : Nat} {p : Span} (h : SpOk a p) (l : a ≤ b) : SpOk b p := by unfold SpOk at *; omega

theorem Rel.step {nests : Bool} {codes : List Int} {c : Sc} {w : Wk} (r : Rel codes c w) (h : c.at_ < codes.length) : Rel codes (stepP nests codes c) (wstep nests codes w) := by
  obtain ⟨ra, rs, rq, rd, rqd, rb, rsp, ro⟩ := r
  obtain ⟨ca, cb, cst, csp⟩ := c
  obtain ⟨wa, wq, wd, wown⟩ := w
  dsimp only at *
  obtain rfl : ca = wa := by omega
  have rsp' : ∀ b, ca ≤ b → ∀ p ∈ csp, SpOk (min b codes.length) p := fun b hb p hp => (rsp p hp).mono (by omega)
  by_cases hd : 0 < wd
  · obtain rfl : wq = 0 := by omega
    obtain rfl : cst = (2, wd) := by rw [rs, absS, if_neg (by omega), if_pos hd]
    have e1 : stepP nests codes ⟨ca, cb, (2, wd), csp⟩ = inCommentP nests codes ⟨ca, cb, (2, wd), csp⟩ := by unfold stepP; rw [if_neg (show ¬ (2 : Int) = 0 by decide), if_neg (show ¬ (2 : Int) = 1 by decide)]
    rw [if_pos (show (2 : Int) ≠ 0 by decide)] at ro
    rw [e1]
    unfold inCommentP wstep
    dsimp only
    rw [if_pos hd, stands2, stands2]
    by_cases p1 : pairP codes ca = [42, 47]
    · have pl := pair_len p1
      rw [if_pos (decide_eq_true p1), if_pos (show pairP codes ca = [42, 47] ∨ (nests = true ∧ pairP codes ca = [47, 42]) from .inl p1), p1]
      by_cases g : 1 < wd
      · rw [if_pos g]
        refine ⟨.inl rfl, ?_, Int.le_refl 0, ?_, .inl rfl, ?_, rsp' (ca + 2) (by omega), ?_⟩
        · show _ = absS 0 (wd + _)
          rw [absS, if_neg (by omega), if_pos (by simp; omega)]; simp; omega
        · show 0 ≤ wd + _; simp; omega
        · dsimp only; omega
        · dsimp only; rw [if_pos (show (2 : Int) ≠ 0 by decide), ro, fillF_two (by omega) (by omega), fillF_two (by omega) (by omega)]
      · rw [if_neg g]
        obtain rfl : wd = 1 := by omega
        have lv : leaveP ⟨ca + 2, cb, (2, 1), csp⟩ = ⟨ca + 2, cb, (2, 1), csp ++ [((cb : Int), ((ca + 2 : Nat) : Int), 2)]⟩ := by
          unfold leaveP; rw [if_pos ⟨show (2 : Int) ≠ 0 by decide, by dsimp only; omega⟩]
        rw [lv]
        refine ⟨.inl rfl, rfl, Int.le_refl 0, Int.le_refl 0, .inl rfl, by dsimp only; omega, ?_, ?_⟩
        · intro p hp
          rcases List.mem_append.mp hp with hp | hp
          · exact rsp' _ (by dsimp only; omega) p hp
          · rw [List.mem_singleton.mp hp]; unfold SpOk; dsimp only; omega
        · dsimp only; rw [if_neg (show ¬ (0 : Int) ≠ 0 by decide), ro, fillF_two (by omega) (by omega), fillF_two (by omega) (by omega), paint_snoc]; rfl
    · rw [if_neg (by simpa using p1)]
      by_cases p2 : nests = true ∧ pairP codes ca = [47, 42]
      · have pl := pair_len p2.2
        rw [if_pos (by simpa using p2), if_pos (.inr p2), p2.2]
        refine ⟨.inl rfl, ?_, Int.le_refl 0, ?_, .inl rfl, ?_, rsp' (ca + 2) (by omega), ?_⟩
        · show _ = absS 0 (wd + _)
          rw [absS, if_neg (by omega), if_pos (by simp; omega)]; simp
        · show 0 ≤ wd + _; simp; omega
        · dsimp only; omega
        · dsimp only; rw [if_pos (show (2 : Int) ≠ 0 by decide), ro, fillF_two (by omega) (by omega), fillF_two (by omega) (by omega)]
      · rw [if_neg (by simpa using p2), if_neg (fun z => z.elim p1 p2)]
        refine ⟨.inl rfl, ?_, Int.le_refl 0, rd, .inl rfl, by dsimp only; omega, rsp' (ca + 1) (by omega), ?_⟩
        · show _ = absS 0 wd
          rw [absS, if_neg (by omega), if_pos hd]
        · dsimp only; rw [if_pos (show (2 : Int) ≠ 0 by decide), ro, fillF_two (by omega) (by omega)]
  · obtain rfl : wd = 0 := by omega
    by_cases hq : 0 < wq
    · obtain rfl : cst = (1, wq) := by rw [rs, absS, if_pos hq]
      have e1 : stepP nests codes ⟨ca, cb, (1, wq), csp⟩ = inStringP codes ⟨ca, cb, (1, wq), csp⟩ := by unfold stepP; rw [if_neg (show ¬ (1 : Int) = 0 by decide), if_pos rfl]
      rw [if_pos (show (1 : Int) ≠ 0 by decide)] at ro
      rw [e1]
      unfold inStringP wstep
      dsimp only
      rw [if_neg hd]
      by_cases p1 : codes.getD ca 0 = 92
      · rw [if_pos p1, if_pos p1, if_pos hq]
        refine ⟨.inl rfl, ?_, rq, Int.le_refl 0, .inr rfl, by dsimp only; omega, rsp' (ca + 2) (by omega), ?_⟩
        · show _ = absS wq 0
          rw [absS, if_pos hq]
        · dsimp only; rw [if_pos (show (1 : Int) ≠ 0 by decide), ro, fillF_two (by omega) (by omega)]
      · rw [if_neg p1, if_neg p1, if_pos hq]
        by_cases p2 : codes.getD ca 0 = wq
        · rw [if_pos p2, if_pos p2]
          have lv : leaveP ⟨ca + 1, cb, (1, wq), csp⟩ = ⟨ca + 1, cb, (1, wq), csp ++ [((cb : Int), ((ca + 1 : Nat) : Int), 1)]⟩ := by
            unfold leaveP; rw [if_pos ⟨show (1 : Int) ≠ 0 by decide, by dsimp only; omega⟩]
          rw [lv]
          refine ⟨.inl rfl, rfl, Int.le_refl 0, Int.le_refl 0, .inl rfl, by dsimp only; omega, ?_, ?_⟩
          · intro p hp
            rcases List.mem_append.mp hp with hp | hp
            · exact rsp' _ (by dsimp only; omega) p hp
            · rw [List.mem_singleton.mp hp]; unfold SpOk; dsimp only; omega
          · dsimp only; rw [if_neg (show ¬ (0 : Int) ≠ 0 by decide), ro, fillF_two (by omega) (by omega), paint_snoc]; rfl
        · rw [if_neg p2, if_neg p2]
          refine ⟨.inl rfl, ?_, rq, Int.le_refl 0, .inr rfl, by dsimp only; omega, rsp' (ca + 1) (by omega), ?_⟩
          · show _ = absS wq 0
            rw [absS, if_pos hq]
          · dsimp only; rw [if_pos (show (1 : Int) ≠ 0 by decide), ro, fillF_two (by omega) (by omega)]
    · obtain rfl : wq = 0 := by omega
      obtain rfl : cst = (0, 0) := rs
      have e1 : stepP nests codes ⟨ca, cb, (0, 0), csp⟩ = inCodeP codes ⟨ca, cb, (0, 0), csp⟩ := by unfold stepP; rw [if_pos rfl]
      rw [if_neg (show ¬ (0 : Int) ≠ 0 by decide)] at ro
      rw [e1]
      unfold inCodeP wstep enterP
      dsimp only
      rw [if_neg hd, stands1 h, stands2]
      have keep : ∀ e, fillF wown ca e 0 = wown := fun e => fillF_none fun i x h1 h2 hx => by
        rw [ro, paint_ge h1 fun p hp => (rsp p hp).mono (by omega)] at hx
        have := List.mem_of_getElem? hx
        exact (List.mem_replicate.mp this).2
      by_cases p1 : codes.getD ca 0 = 92
      · rw [if_pos p1, if_pos p1, if_neg hq, keep]
        exact ⟨.inl rfl, rfl, Int.le_refl 0, Int.le_refl 0, .inl rfl, by dsimp only; omega, rsp' (ca + 2) (by omega), ro⟩
      · rw [if_neg p1, if_neg p1, if_neg hq]
        by_cases p2 : codes.getD ca 0 = 59
        · rw [if_pos (decide_eq_true p2), if_pos p2]
          refine ⟨.inr ⟨Nat.le_refl _, Nat.le_succ _⟩, rfl, Int.le_refl 0, Int.le_refl 0, .inl rfl, by dsimp only; omega, ?_, ?_⟩
          · intro p hp
            rcases List.mem_append.mp hp with hp | hp
            · exact rsp' _ (by dsimp only; omega) p hp
            · rw [List.mem_singleton.mp hp]; unfold SpOk; dsimp only; omega
          · dsimp only; rw [if_neg (show ¬ (0 : Int) ≠ 0 by decide), ro, paint_snoc]; rfl
        · rw [if_neg (by simpa using p2), if_neg p2]
          by_cases p3 : pairP codes ca = [47, 42]
          · have pl := pair_len p3
            rw [if_pos (decide_eq_true p3), if_pos p3]
            exact ⟨.inl rfl, rfl, Int.le_refl 0, (show (0 : Int) ≤ 1 by decide), .inl rfl, by dsimp only; omega, rsp' (ca + 2) (by omega), by dsimp only; rw [if_pos (show (2 : Int) ≠ 0 by decide), ro]⟩
          · rw [if_neg (by simpa using p3), if_neg p3]
            by_cases p4 : codes.getD ca 0 = 34 ∨ codes.getD ca 0 = 39
            · have pos : 0 < codes.getD ca 0 := by omega
              rw [if_pos (show (([34, 39] : List Int).any (· == codes.getD ca 0)) = true by rcases p4 with e | e <;> rw [e] <;> rfl), if_pos p4]
              exact ⟨.inl rfl, by dsimp only; rw [absS, if_pos pos], by dsimp only; omega, Int.le_refl 0, .inr rfl, by dsimp only; omega, rsp' (ca + 1) (by omega), by dsimp only; rw [if_pos (show (1 : Int) ≠ 0 by decide), ro]⟩
            · rw [if_neg (show ¬ (([34, 39] : List Int).any (· == codes.getD ca 0)) = true by intro z; simp only [List.any_cons, List.any_nil, Bool.or_false, Bool.or_eq_true, beq_iff_eq] at z; omega), if_neg p4]
              exact ⟨.inl rfl, rfl, Int.le_refl 0, Int.le_refl 0, .inl rfl, by dsimp only; omega, rsp' (ca + 1) (by omega), ro⟩
structure LineOk (nests : Bool) (codes : List Int) (q d : Int) : Prop where
  st : (scanP nests codes (absS q d)).1 = absS (wline nests codes q d).q (wline nests codes q d).d
  q0 : 0 ≤ (wline nests codes q d).q
  d0 : 0 ≤ (wline nests codes q d).d
  qd : (wline nests codes q d).q = 0 ∨ (wline nests codes q d).d = 0
  own : (wline nests codes q d).own = paint (List.replicate codes.length 0) (scanP nests codes (absS q d)).2
  sp : ∀ p ∈ (scanP nests codes (absS q d)).2, SpOk codes.length p
theorem stepP_at {nests : Bool} {codes : List Int} {c : Sc} (h : c.at_ < codes.length) : c.at_ < (stepP nests codes c).at_ := by
  have lv : ∀ c : Sc, (leaveP c).at_ = c.at_ := fun c => by unfold leaveP; split <;> rfl
  unfold stepP
  split
  · unfold inCodeP enterP
    split
    · dsimp only; omega
    · split
      · exact h
      · split
        · dsimp only; omega
        · split <;> (dsimp only; omega)
  · split
    · unfold inStringP
      split
      · dsimp only; omega
      · split
        · dsimp only; rw [lv]; dsimp only; omega
        · dsimp only; omega
    · unfold inCommentP
      split
      · split
        · dsimp only; omega
        · dsimp only; rw [lv]; dsimp only; omega
      · split <;> (dsimp only; omega)
theorem Rel.loop {nests : Bool} {codes : List Int} : ∀ (k : Nat) {c : Sc} {w : Wk}, Rel codes c w → codes.length ≤ c.at_ + k → Rel codes (loopP nests codes k c) (wloop nests codes k w) ∧ codes.length ≤ (loopP nests codes k c).at_
  | 0, c, w, r, h => ⟨r, h⟩
  | k + 1, c, w, r, h => by
    unfold loopP wloop
    have ra := r.at_
    by_cases lt : c.at_ < codes.length
    · rw [if_pos lt, if_pos (by omega)]
      exact Rel.loop k (r.step lt) (by have := stepP_at (nests := nests) lt; omega)
    · rw [if_neg lt, if_neg (by omega)]
      exact ⟨r, by omega⟩
theorem line_ok {nests : Bool} {codes : List Int} {q d : Int} (hq : 0 ≤ q) (hd : 0 ≤ d) (hqd : q = 0 ∨ d = 0) : LineOk nests codes q d := by
  have r0 : Rel codes ⟨0, 0, absS q d, []⟩ ⟨0, q, d, List.replicate codes.length 0⟩ := by
    refine ⟨.inl rfl, rfl, hq, hd, hqd, Nat.le_refl _, nofun, ?_⟩
    show List.replicate codes.length 0 = if (absS q d).1 ≠ 0 then fillF (List.replicate codes.length 0) 0 0 (absS q d).1 else List.replicate codes.length 0
    split
    · exact (fillF_none fun i x h1 h2 => by omega).symm
    · rfl
  obtain ⟨r, ge⟩ := r0.loop (nests := nests) codes.length (by simp)
  have ew : wline nests codes q d = wloop nests codes codes.length ⟨0, q, d, List.replicate codes.length 0⟩ := rfl
  rw [← ew] at r
  have e1 : (scanP nests codes (absS q d)).1 = (loopP nests codes codes.length ⟨0, 0, absS q d, []⟩).st := by
    show (goP nests codes ⟨0, 0, absS q d, []⟩).st = _
    unfold goP leaveP
    split <;> rfl
  have e2 : (scanP nests codes (absS q d)).2 = (leaveP { (loopP nests codes codes.length ⟨0, 0, absS q d, []⟩) with at_ := codes.length }).sp := rfl
  revert e1 e2 r ge
  generalize loopP nests codes codes.length ⟨0, 0, absS q d, []⟩ = c
  intro r ge e1 e2
  obtain ⟨ra, rs, rq, rd, rqd, rb, rsp, ro⟩ := r
  rw [Nat.min_eq_right ge] at rsp
  unfold leaveP at e2
  dsimp only at e2
  by_cases h : c.st.1 ≠ 0 ∧ c.begun < codes.length
  · rw [if_pos h] at e2
    rw [if_pos h.1, fillF_bound (e' := codes.length) (.inr ⟨by rw [paint_len]; simpa using ge, by rw [paint_len]; simp⟩)] at ro
    refine ⟨e1.trans rs, rq, rd, rqd, ?_, ?_⟩
    · rw [e2, paint_snoc, ro]; rfl
    · rw [e2]
      intro p hp
      rcases List.mem_append.mp hp with hp | hp
      · exact rsp p hp
      · rw [List.mem_singleton.mp hp]; unfold SpOk; dsimp only; omega
  · rw [if_neg h] at e2
    refine ⟨e1.trans rs, rq, rd, rqd, ?_, by rw [e2]; exact rsp⟩
    rw [e2, ro]
    split
    · rename_i h0
      refine fillF_none fun i x h1 h2 hx => ?_
      have : i < (paint (List.replicate codes.length 0) c.sp).length := (List.getElem?_eq_some_iff.mp hx).1
      rw [paint_len, List.length_replicate] at this
      exact absurd ⟨h0, by omega⟩ h
    · rfl

theorem wstep_at {nests : Bool} {codes : List Int} {x : Wk} (h : x.at_ < codes.length) : x.at_ < (wstep nests codes x).at_ ∧ (wstep nests codes x).at_ ≤ codes.length + 1 ∧ (wstep nests codes x).own.length = x.own.length := by
  unfold wstep
  split
  · split <;> exact ⟨by dsimp only; omega, by dsimp only; omega, by simp only [fillF_len]⟩
  · split
    · exact ⟨by dsimp only; omega, by dsimp only; omega, by simp only [fillF_len]⟩
    · split
      · exact ⟨by dsimp only; omega, by dsimp only; omega, by simp only [fillF_len]⟩
      · split
        · exact ⟨by dsimp only; omega, by dsimp only; omega, by simp only [fillF_len]⟩
        · split
          · exact ⟨by dsimp only; omega, by dsimp only; omega, by simp only [fillF_len]⟩
          · split
            · exact ⟨by dsimp only; omega, by dsimp only; omega, by simp only [fillF_len]⟩
            · exact ⟨by dsimp only; omega, by dsimp only; omega, rfl⟩
theorem wloop_end {nests : Bool} {codes : List Int} {x : Wk} (h : ¬ x.at_ < codes.length) : ∀ k, wloop nests codes k x = x
  | 0 => rfl
  | _ + 1 => by unfold wloop; rw [if_neg h]
theorem pairP_len {codes : List Int} {k : Nat} : (pairP codes k).length = min (k + 2) codes.length - k := by
  unfold pairP
  rw [List.length_take, List.length_drop]
  rcases Nat.le_total (k + 2) codes.length with h | h
  · rw [Nat.min_eq_left h, Nat.add_sub_cancel_left, Nat.min_eq_left (by omega)]
  · rw [Nat.min_eq_right h, Nat.min_eq_right (by omega)]
def qAt (nests : Bool) (lines : List (List Int)) : Nat → Int × Int
  | 0 => (0, 0)
  | k + 1 => ((wline nests (lines.getD k []) (qAt nests lines k).1 (qAt nests lines k).2).q, (wline nests (lines.getD k []) (qAt nests lines k).1 (qAt nests lines k).2).d)
def ownAt (nests : Bool) (lines : List (List Int)) (k : Nat) : List Int := (wline nests (lines.getD k []) (qAt nests lines k).1 (qAt nests lines k).2).own
theorem qAt_ok {nests : Bool} {lines : List (List Int)} : ∀ k, stAt nests lines k = absS (qAt nests lines k).1 (qAt nests lines k).2 ∧ 0 ≤ (qAt nests lines k).1 ∧ 0 ≤ (qAt nests lines k).2 ∧ ((qAt nests lines k).1 = 0 ∨ (qAt nests lines k).2 = 0)
  | 0 => ⟨rfl, Int.le_refl 0, Int.le_refl 0, .inl rfl⟩
  | k + 1 => by
    obtain ⟨h1, h2, h3, h4⟩ := qAt_ok (nests := nests) (lines := lines) k
    have l := line_ok (nests := nests) (codes := lines.getD k []) h2 h3 h4
    refine ⟨?_, l.q0, l.d0, l.qd⟩
    rw [stAt, h1, l.st]
    rfl
theorem ownAt_ok {nests : Bool} {lines : List (List Int)} (k : Nat) : ownAt nests lines k = paint (List.replicate (lines.getD k []).length 0) (scanP nests (lines.getD k []) (stAt nests lines k)).2 ∧
    ∀ p ∈ (scanP nests (lines.getD k []) (stAt nests lines k)).2, SpOk (lines.getD k []).length p := by
  obtain ⟨h1, h2, h3, h4⟩ := qAt_ok (nests := nests) (lines := lines) k
  have l := line_ok (nests := nests) (codes := lines.getD k []) h2 h3 h4
  rw [h1]
  exact ⟨l.own, l.sp⟩
end

open PySem PySem.W PyProof.Rows PySem.Calls
set_option maxRecDepth 100000

abbrev Part := Addr → Option Obj
def Le (P P' : Part) : Prop := ∀ a o, P a = some o → P' a = some o
theorem Le.rfl' {P : Part} : Le P P := fun _ _ e => e
theorem Le.trans {P P' P'' : Part} (x : Le P P') (y : Le P' P'') : Le P P'' := fun a o e => y a o (x a o e)
def Part.put (P : Part) (a : Addr) (o : Obj) : Part := fun b => if b = a then some o else P b
theorem Part.put_self {P : Part} {a : Addr} {o : Obj} : P.put a o a = some o := if_pos rfl
theorem Part.put_ne {P : Part} {a b : Addr} {o : Obj} (h : b ≠ a) : P.put a o b = P b := if_neg h
theorem Le.put {P : Part} {a : Addr} {o : Obj} (h : P a = none) : Le P (P.put a o) := fun b x e => by
  by_cases hb : b = a
  · subst hb; rw [h] at e; cases e
  · rw [Part.put_ne hb]; exact e

def AttrsAre : List DictEntry → List (Str × Value) → Prop
  | [], [] => True
  | e :: es, p :: ps => (∃ t, e.key = .str p.1 t) ∧ e.val = p.2 ∧ AttrsAre es ps
  | _, _ => False

inductive Cel where
  | frame (kn : List (Str × Value))
  | inst (attrs : List (Str × Value))
  | list (vs : List Value)
  | cell (v : Option Value)
  | raw (Φ : Obj → Prop)

def Cel.Is : Cel → Obj → Prop
  | .frame kn, o => ∃ es ep, o.data = .dict es ep ∧ StrKeys es ∧ ∀ x v, kn.lookup x = some v → nsFind es x = some v
  | .inst attrs, o => ∃ es n, o = dictOf es n ∧ AttrsAre es attrs
  | .list vs, o => ∃ n, o = listOf vs.toArray n
  | .cell v, o => o.cls = .type "cell" ∧ o.data = .cell v
  | .raw Φ, o => Φ o ∧ o.isFreed = false

theorem Cel.Is.live {c : Cel} {o : Obj} (h : c.Is o) : o.isFreed = false := by
  cases c with
  | frame kn => obtain ⟨es, ep, hd, _⟩ := h; exact Obj.isFreed_of_dict hd
  | inst a => obtain ⟨es, n, rfl, _⟩ := h; rfl
  | list vs => obtain ⟨n, rfl⟩ := h; rfl
  | cell v => obtain ⟨_, hd⟩ := h; obtain ⟨c, d, dt, sl⟩ := o; subst hd; rfl
  | raw Φ => exact h.2

structure Stat (K : Frag) (P : Part) : Prop where
  k : ∀ a o, K.lookup a = some o → P a = some o
  top : ∃ H0 : Heap, (∀ a o, H0.get? a = some o → P a = some o) ∧ H0.NoLimit ∧ (∃ mb, H0.Ns builtinsNs mb ∧ ∀ x : Str, x ≠ "__name__" → mb x = bootBuiltins x) ∧ ∃ mg, H0.Ns mainGlobals mg
theorem Stat.le {K : Frag} {P P' : Part} (S : Stat K P) (h : Le P P') : Stat K P' :=
  ⟨fun a o e => h a o (S.k a o e), let ⟨H0, a, b⟩ := S.top; ⟨H0, fun x o e => h x o (a x o e), b⟩⟩

structure HS (K : Frag) (P : Part) (ms : List (Addr × Cel)) (h : Heap) : Prop where
  st : Stat K P
  has : ∀ a o, P a = some o → h.get? a = some o
  mu : ∀ p ∈ ms, P p.1 = none ∧ ∃ o, h.get? p.1 = some o ∧ p.2.Is o
  nd : (ms.map (·.1)).Nodup

section
variable {K : Frag} {P P' : Part} {ms ms' : List (Addr × Cel)} {h h' : Heap} {a b c : Addr} {o : Obj} {x y z u v : Addr × Cel}

theorem HS.kin (H : HS K P ms h) : K.In h := fun a o e => H.has a o (H.st.k a o e)
theorem HS.nolimit (H : HS K P ms h) : h.NoLimit := let ⟨_, k, n, _⟩ := H.st.top; n.keeps fun a o e => H.has a o (k a o e)
theorem HS.builtins (H : HS K P ms h) : ∃ mb, h.Ns builtinsNs mb ∧ ∀ x : Str, x ≠ "__name__" → mb x = bootBuiltins x :=
  let ⟨_, k, _, ⟨mb, n, e⟩, _⟩ := H.st.top; ⟨mb, n.keeps fun a o e => H.has a o (k a o e), e⟩
theorem HS.globals (H : HS K P ms h) : ∃ mg, h.Ns mainGlobals mg :=
  let ⟨_, k, _, _, ⟨mg, n⟩⟩ := H.st.top; ⟨mg, n.keeps fun a o e => H.has a o (k a o e)⟩
theorem HS.fresh (H : HS K P ms h) : P h.objs.size = none := by
  cases e : P h.objs.size with
  | none => rfl
  | some o => exact absurd (Heap.lt_size (H.has _ _ e)) (Nat.lt_irrefl _)
theorem HS.freshM (H : HS K P ms h) : h.objs.size ∉ ms.map (·.1) := fun hm => by
  obtain ⟨p, hp, e⟩ := List.mem_map.mp hm
  obtain ⟨_, o, ho, _⟩ := H.mu p hp
  exact absurd (Heap.lt_size ho) (by rw [e]; exact Nat.lt_irrefl _)
theorem HS.push (H : HS K P ms h) (o : Obj) : HS K P ms (h.push o) :=
  ⟨H.st, fun a x e => Heap.get?_push_of_some o (H.has a x e), fun p hp => let ⟨n, x, e, i⟩ := H.mu p hp; ⟨n, x, Heap.get?_push_of_some o e, i⟩, H.nd⟩
theorem HS.make (H : HS K P ms h) (o : Obj) (hf : o.isFreed = false := by rfl) : HS K (P.put h.objs.size o) ms (h.push o) where
  st := H.st.le (Le.put H.fresh)
  has := fun a x e => by
    by_cases ha : a = h.objs.size
    · subst ha; rw [Part.put_self] at e; cases e; exact Heap.get?_push_size h hf
    · rw [Part.put_ne ha] at e; exact Heap.get?_push_of_some o (H.has a x e)
  mu := fun p hp => by
    obtain ⟨n, x, e, i⟩ := H.mu p hp
    have ne : p.1 ≠ h.objs.size := fun q => H.freshM (List.mem_map.mpr ⟨p, hp, q⟩)
    exact ⟨by rw [Part.put_ne ne]; exact n, x, Heap.get?_push_of_some o e, i⟩
  nd := H.nd
theorem HS.makeLe (H : HS K P ms h) (o : Obj) : Le P (P.put h.objs.size o) := Le.put H.fresh
theorem HS.makeMut (H : HS K P ms h) (c : Cel) (o : Obj) (i : c.Is o) : HS K P ((h.objs.size, c) :: ms) (h.push o) where
  st := H.st
  has := fun a x e => Heap.get?_push_of_some o (H.has a x e)
  mu := fun p hp => by
    rcases List.mem_cons.mp hp with rfl | hp
    · exact ⟨H.fresh, o, Heap.get?_push_size h i.live, i⟩
    · obtain ⟨n, x, e, j⟩ := H.mu p hp; exact ⟨n, x, Heap.get?_push_of_some o e, j⟩
  nd := by rw [List.map_cons, List.nodup_cons]; exact ⟨H.freshM, H.nd⟩
theorem HS.drop (H : HS K P (x :: ms) h) : HS K P ms h :=
  ⟨H.st, H.has, fun p hp => H.mu p (.tail _ hp), (List.nodup_cons.mp H.nd).2⟩
theorem HS.perm (H : HS K P ms h) (hp : ms.Perm ms') : HS K P ms' h :=
  ⟨H.st, H.has, fun p h => H.mu p (hp.mem_iff.mpr h), (hp.map _).nodup_iff.mp H.nd⟩
theorem HS.swap (H : HS K P (x :: y :: ms) h) : HS K P (y :: x :: ms) h := H.perm (List.Perm.swap _ _ _)
theorem HS.rot3 (H : HS K P (x :: y :: z :: ms) h) : HS K P (z :: x :: y :: ms) h :=
  H.perm ((List.Perm.cons _ (List.Perm.swap _ _ _)).trans (List.Perm.swap _ _ _))
theorem HS.tor3 (H : HS K P (z :: x :: y :: ms) h) : HS K P (x :: y :: z :: ms) h :=
  H.perm ((List.Perm.swap _ _ _).trans (List.Perm.cons _ (List.Perm.swap _ _ _)))
theorem HS.rot4 (H : HS K P (x :: y :: z :: u :: ms) h) : HS K P (u :: x :: y :: z :: ms) h :=
  H.perm ((List.Perm.cons _ ((List.Perm.cons _ (List.Perm.swap _ _ _)).trans (List.Perm.swap _ _ _))).trans (List.Perm.swap _ _ _))
theorem HS.tor4 (H : HS K P (u :: x :: y :: z :: ms) h) : HS K P (x :: y :: z :: u :: ms) h :=
  H.perm ((List.Perm.swap _ _ _).trans (List.Perm.cons _ ((List.Perm.swap _ _ _).trans (List.Perm.cons _ (List.Perm.swap _ _ _)))))
theorem HS.turn {c c' : Cel} (H : HS K P ((a, c) :: ms) h) (hs : Heap.SameBut a h h') (o : Obj) (ho : h'.get? a = some o) (i : c'.Is o) : HS K P ((a, c') :: ms) h' where
  st := H.st
  has := fun b x e => (hs.2 b (fun q => by have := (H.mu _ (.head _)).1; rw [← q, e] at this; cases this)).trans (H.has b x e)
  mu := fun p hp => by
    rcases List.mem_cons.mp hp with rfl | hp
    · exact ⟨(H.mu _ (.head _)).1, o, ho, i⟩
    · obtain ⟨n, x, e, j⟩ := H.mu p (.tail _ hp)
      have ne : p.1 ≠ a := fun q => (List.nodup_cons.mp H.nd).1 (List.mem_map.mpr ⟨p, hp, q⟩)
      exact ⟨n, x, (hs.2 _ ne).trans e, j⟩
  nd := H.nd
theorem HS.upd {c c' : Cel} (H : HS K P ((a, c) :: ms) h) (f : Obj → Obj) (i : ∀ o, h.get? a = some o → c.Is o → c'.Is (f o)) : HS K P ((a, c') :: ms) (h.update a f) := by
  obtain ⟨_, o, ho, j⟩ := H.mu _ (.head _)
  exact H.turn (Heap.SameBut.update h a f) (f o) (Heap.get?_update_self f ho (i o ho j).live) (i o ho j)
theorem HS.wk {c c' : Cel} (H : HS K P ((a, c) :: ms) h) (i : ∀ o, c.Is o → c'.Is o) : HS K P ((a, c') :: ms) h := by
  obtain ⟨_, o, ho, j⟩ := H.mu _ (.head _)
  exact H.turn (Heap.SameBut.refl a h) o ho (i o j)
theorem HS.freeze {c : Cel} (H : HS K P ((a, c) :: ms) h) : ∃ o, c.Is o ∧ Le P (P.put a o) ∧ HS K (P.put a o) ms h := by
  obtain ⟨n, o, ho, j⟩ := H.mu _ (.head _)
  refine ⟨o, j, Le.put n, H.st.le (Le.put n), fun b x e => ?_, fun p hp => ?_, (List.nodup_cons.mp H.nd).2⟩
  · by_cases hb : b = a
    · subst hb; rw [Part.put_self] at e; cases e; exact ho
    · rw [Part.put_ne hb] at e; exact H.has b x e
  · obtain ⟨n', x, e, i⟩ := H.mu p (.tail _ hp)
    have ne : p.1 ≠ a := fun q => (List.nodup_cons.mp H.nd).1 (List.mem_map.mpr ⟨p, hp, q⟩)
    exact ⟨by rw [Part.put_ne ne]; exact n', x, e, i⟩
theorem HS.get {c : Cel} (H : HS K P ((a, c) :: ms) h) : ∃ o, h.get? a = some o ∧ c.Is o := (H.mu _ (.head _)).2

theorem HS.sub (H : HS K P ms h) (hs : ms'.Sublist ms) : HS K P ms' h := ⟨H.st, H.has, fun p hp => H.mu p (hs.subset hp), (hs.map _).nodup H.nd⟩
theorem HS.but (H : HS K P ms h) (hk : ∀ b o, b ≠ a → h.get? b = some o → h'.get? b = some o) (n : P a = none) (m : a ∉ ms.map (·.1)) : HS K P ms h' :=
  ⟨H.st, fun b o e => hk b o (fun q => by rw [q, n] at e; cases e) (H.has b o e), fun p hp => let ⟨n', o, e, j⟩ := H.mu p hp; ⟨n', o, hk _ _ (fun q => m (List.mem_map.mpr ⟨p, hp, q⟩)) e, j⟩, H.nd⟩
theorem HS.ext {c : Cel} (H : HS K P ((a, c) :: ms) h) (hk : Heap.ExtBut a h h') : HS K P ms h' :=
  H.drop.but hk (H.mu _ (.head _)).1 (List.nodup_cons.mp H.nd).1

def Knows (kn : List (Str × Value)) : List (Str × Value) → Prop
  | [] => True
  | p :: r => kn.lookup p.1 = some p.2 ∧ Knows kn r
theorem Knows.lookup {kn : List (Str × Value)} : ∀ {l : List (Str × Value)} {x : Str} {v : Value}, Knows kn l → l.lookup x = some v → kn.lookup x = some v
  | [], _, _, _, e => by cases e
  | p :: r, x, v, ⟨k, kr⟩, e => by
    rw [List.lookup_cons] at e
    split at e
    · rename_i q; cases e; rw [beq_iff_eq.mp q]; exact k
    · exact kr.lookup e
theorem HS.names {kn l : List (Str × Value)} (H : HS K P ((a, .frame kn) :: ms) h) (k : Knows kn l) : HS K P ((a, .frame l) :: ms) h :=
  H.wk fun _ ⟨es, ep, hd, hk, hf⟩ => ⟨es, ep, hd, hk, fun x v e => hf x v (k.lookup e)⟩
theorem HS.ns {kn : List (Str × Value)} (H : HS K P ((a, .frame kn) :: ms) h) : ∃ m, h.Ns a m ∧ ∀ x v, kn.lookup x = some v → m x = some v := by
  obtain ⟨o, ho, es, ep, hd, hk, hf⟩ := H.get
  exact ⟨nsFind es, ⟨o, es, ep, ho, hd, hk, fun _ => rfl⟩, hf⟩
theorem HS.ofNs {c : Cel} {kn : List (Str × Value)} {m : Str → Option Value} (H : HS K P ((a, c) :: ms) h) (hs : Heap.SameBut a h h') (n : h'.Ns a m) (k : ∀ x v, kn.lookup x = some v → m x = some v) : HS K P ((a, .frame kn) :: ms) h' := by
  obtain ⟨o, es, ep, ho, hd, hk, hf⟩ := n
  exact H.turn hs o ho ⟨es, ep, hd, hk, fun x v e => (hf x).trans (k x v e)⟩
end

section
variable {M : Model} {A : Around} {E : Value → Shared → Prop} {s : Shared} {K : Frag} {P : Part} {ms : List (Addr × Cel)} {env : Env} {kn : List (Str × Value)} {x : Str} {pos : Pos} {v : Value}

theorem nm_local {Q : Value → Shared → Prop} (H : HS K P ((env.locals, .frame kn) :: ms) s.heap) (hv : kn.lookup x = some v) (h : Q v s)
    (hk : env.scope.kind = .function) (hl : env.kindOf x = some .local) (hd : (x == ("__debug__" : Str)) = false) : wpAny M A (eval (.Name x pos) env) Q E s := by
  obtain ⟨m, n, f⟩ := H.ns
  exact wpAny_Name (wpAny_loadName_local hk hl n (f x v hv) h) hd
theorem nm_global {Q : Value → Shared → Prop} (H : HS K P ms s.heap) (e : nsIn K mainGlobals x = some (some v)) (h : Q v s)
    (hg : env.globals = mainGlobals) (hk : env.scope.kind = .function) (hx : env.kindOf x = some .globalImplicit) (hd : (x == ("__debug__" : Str)) = false) : wpAny M A (eval (.Name x pos) env) Q E s := by
  obtain ⟨mg, n⟩ := H.globals
  exact Calls.Name_function_global hk hx (Calls.loadGlobal_global (env := env) (by rw [hg]; exact n) (mg_of H.kin n e) h) hd
theorem nm_builtin {Q : Value → Shared → Prop} (H : HS K P ms s.heap) (e : nsIn K mainGlobals x = some none) (hv : bootBuiltins x = some v) (hn : x ≠ "__name__") (h : Q v s)
    (hg : env.globals = mainGlobals) (hb : env.builtins = builtinsNs) (hk : env.scope.kind = .function) (hx : env.kindOf x = some .globalImplicit) (hd : (x == ("__debug__" : Str)) = false) :
    wpAny M A (eval (.Name x pos) env) Q E s := by
  obtain ⟨mg, n⟩ := H.globals
  obtain ⟨mb, nb, eb⟩ := H.builtins
  exact Calls.Name_function_global hk hx (Calls.loadGlobal_builtin (env := env) (by rw [hg]; exact n) (mg_none_of H.kin n e) (by rw [hb]; exact nb) ((eb x hn).trans hv) h) hd
theorem st_local {Q : Unit → Shared → Prop} (H : HS K P ((env.locals, .frame kn) :: ms) s.heap)
    (h : ∀ h', HS K P ((env.locals, .frame ((x, v) :: kn)) :: ms) h' → Q () { s with heap := h', toks := s.toks + 1 })
    (hk : env.scope.kind = .function) (hl : env.kindOf x = some .local) : wpAny M A (storeName env x v) Q E s := by
  obtain ⟨m, n, f⟩ := H.ns
  refine wpAny_storeName_local hl n (fun h' hn hs => h h' (H.ofNs hs hn fun y u e => ?_)) (by rw [hk]; rfl)
  rw [List.lookup_cons] at e
  by_cases q : y = x
  · subst q; simpa using e
  · rw [if_neg q]; exact f y u (by simpa [beq_eq_false_iff_ne.mpr q] using e)
end

abbrev tupOf (its : Array Value) (n : Nat) : Obj := { cls := .type "tuple", data := .seq its n }

section
variable {K : Frag} {P P' : Part} {ms ms' : List (Addr × Cel)} {h h' : Heap} {a b c : Addr} {o : Obj} {x y z u v : Addr × Cel} {i : Nat}

theorem HS.mem (H : HS K P ms h) {p : Addr × Cel} (hm : p ∈ ms) : ∃ o, h.get? p.1 = some o ∧ p.2.Is o := (H.mu p hm).2
theorem HS.at (H : HS K P ms h) {cc : Cel} (hi : ms[i]? = some (a, cc)) : ∃ o, h.get? a = some o ∧ cc.Is o := H.mem (List.mem_of_getElem? hi)
theorem HS.listAt (H : HS K P ms h) {vs : List Value} (hi : ms[i]? = some (a, .list vs)) : ∃ n, h.get? a = some (listOf vs.toArray n) := by
  obtain ⟨o, ho, n, rfl⟩ := H.at hi; exact ⟨n, ho⟩
theorem perm_front : ∀ {l : List (Addr × Cel)} {i : Nat} {x : Addr × Cel}, l[i]? = some x → l.Perm (x :: l.eraseIdx i)
  | [], i, _, h => by simp at h
  | y :: r, 0, x, h => by simp at h; subst h; exact .refl _
  | y :: r, i + 1, x, h => by
    have := perm_front (l := r) (i := i) (x := x) (by simpa using h)
    exact (List.Perm.cons y this).trans (.swap _ _ _)
theorem perm_back : ∀ {l : List (Addr × Cel)} {i : Nat} {x y : Addr × Cel}, l[i]? = some x → (y :: l.eraseIdx i).Perm (l.set i y)
  | [], i, _, _, h => by simp at h
  | z :: r, 0, x, y, h => .refl _
  | z :: r, i + 1, x, y, h => by
    have := perm_back (l := r) (i := i) (x := x) (y := y) (by simpa using h)
    exact (List.Perm.swap _ _ _).trans (List.Perm.cons z this)
theorem HS.front (H : HS K P ms h) (hi : ms[i]? = some x) : HS K P (x :: ms.eraseIdx i) h := H.perm (perm_front hi)
theorem HS.back (H : HS K P (y :: ms.eraseIdx i) h) (hi : ms[i]? = some x) : HS K P (ms.set i y) h := H.perm (perm_back hi)
theorem HS.updAt {cc c' : Cel} (H : HS K P ms h) (hi : ms[i]? = some (a, cc)) (f : Obj → Obj) (j : ∀ o, h.get? a = some o → cc.Is o → c'.Is (f o)) : HS K P (ms.set i (a, c')) (h.update a f) :=
  ((H.front hi).upd f j).back hi
theorem HS.dropAt (H : HS K P ms h) (hi : ms[i]? = some x) : HS K P (ms.eraseIdx i) h := (H.front hi).drop
theorem HS.freezeAt {cc : Cel} (H : HS K P ms h) (hi : ms[i]? = some (a, cc)) : ∃ o, cc.Is o ∧ P a = none ∧ Le P (P.put a o) ∧ HS K (P.put a o) (ms.eraseIdx i) h := by
  obtain ⟨o, j, l, H'⟩ := (H.front hi).freeze
  exact ⟨o, j, (H.mu _ (List.mem_of_getElem? hi)).1, l, H'⟩
def LIn (h : Heap) (l : Addr) (vs : List Value) : Prop := ∃ n, h.get? l = some (listOf vs.toArray n)
theorem LIn.isList {l : Addr} {vs : List Value} (x : LIn h l vs) : h.IsList l vs.toArray := let ⟨n, e⟩ := x; ⟨_, e, rfl, n, rfl⟩
theorem LIn.noDict {l : Addr} {vs : List Value} (x : LIn h l vs) : h.NoDictAt (.ref l) := let ⟨n, e⟩ := x; ⟨_, e, rfl⟩
theorem LIn.mem (H : HS K P ms h) {l : Addr} {vs : List Value} (hm : (l, Cel.list vs) ∈ ms) : LIn h l vs := by
  obtain ⟨o, ho, n, rfl⟩ := H.mem hm; exact ⟨n, ho⟩
def PLst (P : Part) (l : Addr) (vs : List Value) : Prop := ∃ n, P l = some (listOf vs.toArray n)
def PTup (P : Part) (l : Addr) (vs : List Value) : Prop := ∃ n, P l = some (tupOf vs.toArray n)
theorem PLst.le {l : Addr} {vs : List Value} (x : PLst P l vs) (e : Le P P') : PLst P' l vs := let ⟨n, q⟩ := x; ⟨n, e _ _ q⟩
theorem PTup.le {l : Addr} {vs : List Value} (x : PTup P l vs) (e : Le P P') : PTup P' l vs := let ⟨n, q⟩ := x; ⟨n, e _ _ q⟩
theorem PLst.lin (H : HS K P ms h) {l : Addr} {vs : List Value} (x : PLst P l vs) : LIn h l vs := let ⟨n, q⟩ := x; ⟨n, H.has _ _ q⟩
theorem PTup.isTup (H : HS K P ms h) {l : Addr} {vs : List Value} (x : PTup P l vs) : IsTup h l vs.toArray := let ⟨n, q⟩ := x; ⟨_, H.has _ _ q, rfl, n, rfl⟩
end


structure AOk (n : Nat) (A : Around) : Prop where
  hd : A.handled = none
  dp : A.depth + n < recursionLimit
  un : A.units + 4 * n + 64 < cLine
theorem AOk.deeper {n : Nat} {A : Around} {env : Env} (x : AOk (n + 1) A) : AOk n (A.deeper env) := ⟨x.hd, by have := x.dp; show A.depth + 1 + n < _; omega, by have := x.un; show A.units + 3 + 4 * n + 64 < _; omega⟩
theorem AOk.room {n : Nat} {A : Around} (x : AOk (n + 1) A) : A.depth < recursionLimit := by have := x.dp; omega
theorem AOk.le {n m : Nat} {A : Around} (x : AOk n A) (h : m ≤ n) : AOk m A := ⟨x.hd, by have := x.dp; omega, by have := x.un; omega⟩
theorem AOk.units {n : Nat} {A : Around} (x : AOk n A) : A.units + 64 < cLine := by have := x.un; omega
theorem AOk.under {n : Nat} {A : Around} {c : Code} (x : AOk (n + 1) A) (h : c.weight ≤ 1) (u : c.cUnits ≤ 4) : AOk n (A.under c) :=
  ⟨x.hd, by have := x.dp; show A.depth + c.weight + n < _; omega, by have := x.un; show A.units + c.cUnits + 4 * n + 64 < _; omega⟩

def St (s : Shared) (h : Heap) (tk : Nat) : Shared := ⟨h, s.gens, s.drawn, tk, s.os⟩
theorem St.heap {s : Shared} {h : Heap} {tk : Nat} : (St s h tk).heap = h := rfl

section
variable {M : Model} {A : Around} {E : Value → Shared → Prop} {s : Shared} {h : Heap} {tk : Nat} {K : Frag} {P : Part} {ms : List (Addr × Cel)} {env : Env} {kn : List (Str × Value)} {x : Str} {pos : Pos} {v : Value}

theorem n_loc {Q : Value → Shared → Prop} (H : HS K P ((env.locals, .frame kn) :: ms) h) (hv : kn.lookup x = some v) (q : Q v (St s h tk))
    (hk : env.scope.kind = .function := by rfl) (hl : env.kindOf x = some .local := by rfl) (hd : (x == ("__debug__" : Str)) = false := by decide) : wpAny M A (eval (.Name x pos) env) Q E (St s h tk) :=
  nm_local (s := St s h tk) H hv q hk hl hd
theorem n_glob {Q : Value → Shared → Prop} (H : HS K P ms h) (e : nsIn K mainGlobals x = some (some v)) (q : Q v (St s h tk))
    (hg : env.globals = mainGlobals := by rfl) (hk : env.scope.kind = .function := by rfl) (hx : env.kindOf x = some .globalImplicit := by rfl) (hd : (x == ("__debug__" : Str)) = false := by decide) : wpAny M A (eval (.Name x pos) env) Q E (St s h tk) :=
  nm_global (s := St s h tk) H e q hg hk hx hd
theorem n_blt {Q : Value → Shared → Prop} (H : HS K P ms h) (e : nsIn K mainGlobals x = some none ∧ bootBuiltins x = some v ∧ x ≠ "__name__") (q : Q v (St s h tk))
    (hg : env.globals = mainGlobals := by rfl) (hb : env.builtins = builtinsNs := by rfl) (hk : env.scope.kind = .function := by rfl) (hx : env.kindOf x = some .globalImplicit := by rfl) (hd : (x == ("__debug__" : Str)) = false := by decide) :
    wpAny M A (eval (.Name x pos) env) Q E (St s h tk) := nm_builtin (s := St s h tk) H e.1 e.2.1 e.2.2 q hg hb hk hx hd
theorem sto {Q : Unit → Shared → Prop} (H : HS K P ((env.locals, .frame kn) :: ms) h)
    (q : ∀ h' tk', HS K P ((env.locals, .frame ((x, v) :: kn)) :: ms) h' → Q () (St s h' tk'))
    (hk : env.scope.kind = .function := by rfl) (hl : env.kindOf x = some .local := by rfl) : wpAny M A (storeName env x v) Q E (St s h tk) :=
  st_local (s := St s h tk) H (fun h' H' => q h' _ H') hk hl
theorem c_int {Q : Value → Shared → Prop} {i : Int} {k : Nat} (q : ∀ t tk', Q (.int i t) (St s h tk')) : wpAny M A (eval (.Constant (.int i) k pos) env) Q E (St s h tk) := wpAny_Constant_int (q _ _)
theorem c_bool {Q : Value → Shared → Prop} {b : Bool} {k : Nat} (q : Q (.bool b) (St s h tk)) : wpAny M A (eval (.Constant (.bool b) k pos) env) Q E (St s h tk) := wpAny_Constant_bool q
end

section
variable {prog : Program} {w : World} {A : Around} {E : Value → Shared → Prop} {s : Shared} {h : Heap} {tk : Nat} {K : Frag} {P : Part} {ms : List (Addr × Cel)} {a b : Int} {t u : Tok}

theorem i_add {Q : Value → Shared → Prop} (q : ∀ t tk', Q (.int (a + b) t) (St s h tk')) : wpAny (model prog w) A (binaryOp .Add (.int a t) (.int b u)) Q E (St s h tk) := add_int (q _ _)
theorem i_sub {Q : Value → Shared → Prop} (q : ∀ t tk', Q (.int (a - b) t) (St s h tk')) : wpAny (model prog w) A (binaryOp .Sub (.int a t) (.int b u)) Q E (St s h tk) := sub_int (q _ _)
theorem i_mod {Q : Value → Shared → Prop} (hb : b ≠ 0) (q : ∀ t tk', Q (.int (a.fmod b) t) (St s h tk')) : wpAny (model prog w) A (binaryOp .Mod (.int a t) (.int b u)) Q E (St s h tk) := mod_int hb (q _ _)
theorem i_neg {Q : Value → Shared → Prop} (q : ∀ t tk', Q (.int (-a) t) (St s h tk')) : wpAny (model prog w) A (unaryOp .USub (.int a t)) Q E (St s h tk) := neg_int (q _ _)
theorem i_eq {Q : Value → Shared → Prop} {s : Shared} (q : Q (.bool (decide (a = b))) s) : wpAny (model prog w) A (compareOp .Eq (.int a t) (.int b u)) Q E s := eq_int (by rwa [show (a == b) = decide (a = b) from rfl])
theorem i_ne {Q : Value → Shared → Prop} {s : Shared} (q : Q (.bool (!decide (a = b))) s) : wpAny (model prog w) A (compareOp .NotEq (.int a t) (.int b u)) Q E s := ne_int (by rwa [show (a != b) = !decide (a = b) from rfl])
theorem i_lt {Q : Value → Shared → Prop} {s : Shared} (q : Q (.bool (decide (a < b))) s) : wpAny (model prog w) A (compareOp .Lt (.int a t) (.int b u)) Q E s := lt_int q
theorem i_le {Q : Value → Shared → Prop} {s : Shared} (q : Q (.bool (decide (a ≤ b))) s) : wpAny (model prog w) A (compareOp .LtE (.int a t) (.int b u)) Q E s := le_int q
theorem i_gt {Q : Value → Shared → Prop} {s : Shared} (q : Q (.bool (decide (b < a))) s) : wpAny (model prog w) A (compareOp .Gt (.int a t) (.int b u)) Q E s := gt_int q
theorem i_ge {Q : Value → Shared → Prop} {s : Shared} (q : Q (.bool (decide (b ≤ a))) s) : wpAny (model prog w) A (compareOp .GtE (.int a t) (.int b u)) Q E s := ge_int q

theorem call_fn {Q : Value → Shared → Prop} {name qual : Str} {params : Arguments} {body : List Stmt} {scope : Scope} {dV kV doc pm cdv ct oc : Value} {an od : Option Addr} {osl : Array (Option Value)} {f : Addr} {args : List Value} {binds : List (Str × Value)}
    (H : HS K P ms h) (ho : K.lookup f = some ⟨oc, od, .func (fnOf name qual params body scope dV kV doc pm an cdv ct), osl⟩) (hcd : codeIn K cdv qual = true)
    {n : Nat} (hA : AOk (n + 1) A)
    (hbind : bindArgs (fnOf name qual params body scope dV kV doc pm an cdv ct) ⟨args, []⟩ = pure binds) (hloc : ∀ y ∈ binds, scope.names.lookup y.1 = some .local) (hcell : ∀ x ∈ scope.names, x.2 ≠ .cell)
    (q : ∀ L h₁ tk₁ A', AOk n A' → HS K P ((L, .frame binds.reverse) :: ms) h₁ →
      wpAny (model prog w) A' (execs body (envOf qual scope L f cdv)) (fun fl s' => Q (match fl with | .ret v => v | _ => .none) s') (fun _ _ => False) (St s h₁ tk₁))
    (hco : scope.isCoroutine = false) (hgen : scope.isGenerator = false) (hk : scope.kind = .function) :
    wpAny (model prog w) A (call (.ref f) args) Q E (St s h tk) := by
  refine wpAny_call (codeAny_call_def (s := St s h tk) (fd := fnOf name qual params body scope dV kV doc pm an cdv ct) (body := body) (binds := binds) hA.room (H.kin _ _ ho) rfl H.nolimit (codeRec_of H.kin hcd) rfl (BindsTo.of_eq hbind) hcell hloc (fun h₁ hns hk₁ => ?_) hco hgen hk)
  have H₁ : HS K P ((h.objs.size, .frame binds.reverse) :: ms) h₁ := by
    obtain ⟨o, es, ep, ho', hd, hks, hf⟩ := hns
    refine ⟨H.st, fun a o e => hk₁ a o (H.has a o e), fun p hp => ?_, by rw [List.map_cons, List.nodup_cons]; exact ⟨H.freshM, H.nd⟩⟩
    rcases List.mem_cons.mp hp with rfl | hp
    · exact ⟨H.fresh, o, ho', es, ep, hd, hks, fun x v e => (hf x).trans e⟩
    · obtain ⟨n, x, e, j⟩ := H.mu p hp; exact ⟨n, x, hk₁ _ _ e, j⟩
  exact wpAny_mono (q _ h₁ _ _ hA.deeper H₁) (fun fl s' q => by cases fl <;> exact q) fun _ _ e => e.elim

theorem len_list {Q : Value → Shared → Prop} {l : Addr} {vs : List Value} (x : LIn h l vs) (hz : vs.length ≤ sizeLine) (q : ∀ t tk', Q (.int vs.length t) (St s h tk')) : wpAny (model prog w) A (call (.builtin "len") [.ref l]) Q E (St s h tk) :=
  call_len_list (s := St s h tk) (items := vs.toArray) x.isList (by rw [sizeLine_eq] at hz; simp only [List.size_toArray]; omega) (q _ _)
theorem truthy_list {Q : Bool → Shared → Prop} {l : Addr} {vs : List Value} (x : LIn h l vs) (hz : vs.length ≤ sizeLine) (q : ∀ tk', Q (!vs.isEmpty) (St s h tk')) : wpAny (model prog w) A (truthy (.ref l)) Q E (St s h tk) :=
  wpAny_truthy_list (s := St s h tk) (items := vs.toArray) x.isList (by rw [sizeLine_eq] at hz; simp only [List.size_toArray]; omega) (by rw [List.isEmpty_toArray]; exact q _)
theorem item_list {value slice : Expr} {Q : Value → Shared → Prop} {l : Addr} {vs : List Value} {k : Int} {t : Tok} {v : Value} (x : LIn h l vs) (h0 : 0 ≤ k) (h1 : k < 2 ^ 63) (hx : vs[k.toNat]? = some v) (q : Q v (St s h tk))
    (hs : subscripted slice false (.ref l) (.int k t) = operate [.ref l, .int k t] (getItem (.ref l) (.int k t)) := by with_unfolding_all rfl) :
    wpAny (model prog w) A (subscriptTail value slice (.ref l) (.int k t)) Q E (St s h tk) :=
  tail_any (s := St s h tk) x.isList.typeIs slot_list_getitem.lookup (wpAny_getItem_list (s := St s h tk) x.isList h0 h1 (by simpa using hx) q) hs
theorem item_tup {value slice : Expr} {Q : Value → Shared → Prop} {l : Addr} {vs : List Value} {k : Int} {t : Tok} {v : Value} {j : Nat} (x : IsTup h l vs.toArray) (h0 : -(2 ^ 63) ≤ k) (h1 : k < 2 ^ 63) (hj : seqIndex? k vs.length = some j) (hx : vs[j]? = some v) (q : Q v (St s h tk))
    (hs : subscripted slice false (.ref l) (.int k t) = operate [.ref l, .int k t] (getItem (.ref l) (.int k t)) := by with_unfolding_all rfl) :
    wpAny (model prog w) A (subscriptTail value slice (.ref l) (.int k t)) Q E (St s h tk) := item_tupleT (s := St s h tk) x h0 h1 hj hx q hs
theorem meth_list {Q : Value × List Value → Shared → Prop} {l : Addr} {vs : List Value} {name : Str} {id : String} {pl : Sem Bool} (x : LIn h l vs) (slot : Slot "list" name id) (hty : typeOf (.builtin id) = pure (.type "method_descriptor"))
    (q : Q (.builtin id, [.ref l]) (St s h tk)) : wpAny (model prog w) A (getMethod (.ref l) name pl) Q E (St s h tk) := getMethod_list_of (s := St s h tk) slot hty x.isList x.noDict q
theorem new_list {M : Model} {Q : Value → Shared → Prop} {f : Addr × Cel} {vs : List Value} (H : HS K P (f :: ms) h) (hz : vs.length ≤ sizeLine)
    (q : ∀ a h', HS K P (f :: (a, .list vs) :: ms) h' → Q (.ref a) (St s h' tk)) : wpAny M A (newList vs) Q E (St s h tk) :=
  wpAny_newObj_type (s := St s h tk) (q _ _ (H.makeMut (.list vs) (listOf vs.toArray 0) ⟨0, rfl⟩).swap) (by show vs.toArray.size ≤ sizeLine; simpa using hz)
theorem new_tup {M : Model} {Q : Value → Shared → Prop} {vs : List Value} (H : HS K P ms h) (hz : vs.length ≤ sizeLine)
    (q : ∀ a h' P', Le P P' → PTup P' a vs → HS K P' ms h' → Q (.ref a) (St s h' tk)) : wpAny M A (newTuple vs) Q E (St s h tk) :=
  wpAny_newObj_type (s := St s h tk) (q _ _ _ (H.makeLe _) ⟨0, Part.put_self⟩ (H.make (tupOf vs.toArray 0))) (by show vs.toArray.size ≤ sizeLine; simpa using hz)
theorem eq_ints {Q : Value → Shared → Prop} {l m : Addr} {vs us : List Value} {ns zs : List Int} (x : LIn h l vs) (y : LIn h m us) (i : IntsAre vs ns) (j : IntsAre us zs) (hu : A.units + 64 < cLine) (q : Q (.bool (decide (ns = zs))) (St s h tk)) :
    wpAny (model prog w) A (compareOp .Eq (.ref l) (.ref m)) Q E (St s h tk) := eq_intsK (s := St s h tk) x.isList i y.isList j hu q
theorem ne_ints {Q : Value → Shared → Prop} {l m : Addr} {vs us : List Value} {ns zs : List Int} (x : LIn h l vs) (y : LIn h m us) (i : IntsAre vs ns) (j : IntsAre us zs) (hu : A.units + 64 < cLine) (q : Q (.bool (!decide (ns = zs))) (St s h tk)) :
    wpAny (model prog w) A (compareOp .NotEq (.ref l) (.ref m)) Q E (St s h tk) := ne_intsK (s := St s h tk) x.isList i y.isList j hu q
theorem in_ints {Q : Value → Shared → Prop} {l : Addr} {vs : List Value} {ns : List Int} {k : Int} {t : Tok} (x : LIn h l vs) (i : IntsAre vs ns) (q : Q (.bool (ns.any (· == k))) (St s h tk)) :
    wpAny (model prog w) A (compareOp .In (.int k t) (.ref l)) Q E (St s h tk) := in_list_ints (s := St s h tk) x.isList i q

theorem cut_list {Q : Value → Shared → Prop} {env : Env} {value : Expr} {lower upper : Option Expr} {p pos : Pos}
    (q : wpAny (model prog w) A (eval value env) (fun o s₁ => wpAny (model prog w) A (evalPart lower env) (fun vl s₂ => wpAny (model prog w) A (evalPart upper env) (fun vu s₃ =>
      ∃ K P h₃ tk₃ f ms l vs lo hi, s₃ = St s h₃ tk₃ ∧ o = .ref l ∧ HS K P (f :: ms) h₃ ∧ LIn h₃ l vs ∧ vs.length ≤ sizeLine ∧ IsPart vl lo ∧ IsPart vu hi ∧
        ∀ a h', HS K P (f :: (a, .list (kms_pick vs lo hi)) :: ms) h' → Q (.ref a) (St s h' tk₃)) E s₂) E s₁) E (St s h tk))
    (ht : ∀ o r, letTemporaryGo value o r = pure () := by intro _ _; rfl) :
    wpAny (model prog w) A (eval (.Subscript value (.Slice lower upper none p) pos) env) Q E (St s h tk) := by
  refine wpAny_Subscript_list_slice (wpAny_mono q (fun o s₁ h₁ => wpAny_mono h₁ (fun vl s₂ h₂ => wpAny_mono h₂ (fun vu s₃ h₃ => ?_) fun _ _ e => e) fun _ _ e => e) fun _ _ e => e) ht
  obtain ⟨K, P, h₃, tk₃, f, ms, l, vs, lo, hi, rfl, rfl, H, x, hz, pl, pu, q⟩ := h₃
  refine ⟨l, vs.toArray, lo, hi, rfl, x.isList, by simpa using hz, pl, pu, ?_⟩
  rw [kms_pick_eq]
  have := (H.push { cls := .type "slice", data := .fields #[vl, vu, .none] }).makeMut (.list (kms_pick vs lo hi)) (listOf (kms_pick vs lo hi).toArray 0) ⟨0, rfl⟩
  rw [Heap.size_push] at this
  exact q _ _ this.swap
end

theorem ite_cases {b : Bool} {X Y : Prop} (h1 : b = true → X) (h2 : b = false → Y) : if b = true then X else Y := by
  cases b with
  | true => exact h1 rfl
  | false => exact h2 rfl

section
variable {M : Model} {A : Around} {E : Value → Shared → Prop} {s : Shared} {env : Env} {K : Frag}
theorem e_call1b {id : String} {x : Str} {np pos : Pos} {e : Expr} {Q : Value → Shared → Prop}
    (q : wpAny M A (eval (.Name x np) env) (fun f s₁ => f = .builtin id ∧ wpAny M A (eval e env) (fun v s₂ => wpAny M A (call (.builtin id) [v]) Q E s₂) E s₁) E s)
    (hs : starEach [e] env = [(false, eval e env)] := by rfl) : wpAny M A (eval (.Call (.Name x np) [e] [] pos) env) Q E s :=
  Call_Name1 (wpAny_mono q (fun f s₁ ⟨e, h⟩ => e ▸ callWith_builtin1 h) fun _ _ e => e) hs
theorem e_call {f : Value} {x : Str} {np pos : Pos} {e : Expr} {rest : List Expr} {Q : Value → Shared → Prop} (hk : keepIn K f = true)
    (q : wpAny M A (eval (.Name x np) env) (fun fv s₁ => fv = f ∧ wpAny M A (spliced (backTo pos (starEach (e :: rest) env))) (fun vs s₂ => K.In s₂.heap ∧ wpAny M A (call f vs) Q E s₂) E s₁) E s)
    (he : starEach (e :: rest) env = (false, eval e env) :: starEach rest env := by rfl) (hplain : (backTo pos (starEach rest env)).any (·.1) = false := by rfl) :
    wpAny M A (eval (.Call (.Name x np) (e :: rest) [] pos) env) Q E s := by
  refine Call_Name rfl (wpAny_mono q (fun fv s₁ ⟨ef, h⟩ => ?_) fun _ _ e => e)
  subst ef
  rw [he] at h ⊢
  exact callWith_of (P := K.In) (by show ((false || (backTo pos (starEach rest env)).any (·.1)) || false) = false; rw [hplain]; rfl) (keeps_K hk) (evalArgs_plain h)
end
theorem line_of {a b c : Nat} (h : a = b) (g : b ≤ c) (k : c ≤ 16777216 := by decide) : a ≤ sizeLine := by rw [sizeLine_eq, h]; exact Nat.le_trans g k
theorem int_lt63 {j : Nat} (h : j ≤ 2 ^ 20) : (j : Int) < 2 ^ 63 := by omega
theorem int_ge0 {j : Nat} : 0 ≤ (j : Int) := by omega
theorem idx3 {S V l l' j : Nat} (h1 : S = l + 1) (h2 : V = l') (h3 : l' - j ≤ l) (h4 : j ≤ l') (h5 : l ≤ 2 ^ 20) : 0 ≤ (S : Int) - 1 - ((V : Int) - (j : Int)) ∧ (S : Int) - 1 - ((V : Int) - (j : Int)) < 2 ^ 63 ∧ ((S : Int) - 1 - ((V : Int) - (j : Int))).toNat = l - (l' - j) := by
  subst h1 h2; omega
theorem behind_le {l l' f o n j : Nat} (e : l' + o = l + n) (fo : f + o ≤ l) (h : f + n ≤ j) : l' - j ≤ l := by omega
theorem edit_len {f o n l : Nat} (h : f + o ≤ l) : min f l + n + (l - (f + o)) ≤ l + n := by rw [Nat.min_eq_left (by omega)]; omega
theorem idx_c {f o a n : Nat} (c : f + n ≤ a) : ((f : Int) + (o : Int) + ((a : Int) - (f : Int) - (n : Int))) = ((a + o - n : Nat) : Int) := by omega
theorem meas2 {n a b : Nat} (h : a < b) (g : a < n) : n + 2 - b < n + 2 - a := by omega
theorem meas1 {n a : Nat} (h : a < n) : n + 1 - (a + 1) < n + 1 - a := Nat.sub_lt_sub_left (Nat.lt_succ_of_lt h) (Nat.lt_succ_self a)
theorem meas1e {n a : Nat} (h : a = n) : n + 1 - (a + 1) < n + 1 - a := Nat.sub_lt_sub_left (h ▸ Nat.lt_succ_self a) (Nat.lt_succ_self a)
theorem ao_le {f o n a l l' : Nat} (ln : l' + o = l + n) (c : f + n ≤ a) (al : a ≤ l') : a + o - n ≤ l := Nat.sub_le_of_le_add (ln ▸ Nat.add_le_add_right al o)
theorem pred_of {a n k : Nat} (h : a < n) (g : n ≤ a + k) : ∃ k', k = k' + 1 := ⟨k - 1, by omega⟩
theorem add20 {a b : Nat} (h : a ≤ 2 ^ 12) (g : b ≤ 2 ^ 12) : a + b ≤ 2 ^ 20 := Nat.le_trans (Nat.add_le_add h g) (by decide)
theorem min_two {a n : Nat} (h : a + 2 ≤ n) : min (a + 2) n - a = 2 := by rw [Nat.min_eq_left h]; exact Nat.add_sub_cancel_left ..
theorem min_sub_le {a n : Nat} : min (a + 2) n - a ≤ 2 := Nat.le_trans (Nat.sub_le_sub_right (Nat.min_le_left ..) _) (by rw [Nat.add_sub_cancel_left]; exact Nat.le_refl _)
theorem cut_le {x y n m : Nat} (h : n + m ≤ 2 ^ 20) : min x n - 0 + m + (min n n - y) ≤ 16777216 + 1 := by
  have h1 : min x n - 0 ≤ n := Nat.min_le_right ..
  have h2 : min n n - y ≤ n := Nat.le_trans (Nat.sub_le ..) (Nat.min_le_right ..)
  omega

abbrev Jt := Part → List (Str × Value) → List (Addr × Cel) → Prop
def Turn (K : Frag) (P : Part) (s : Shared) (L : Addr) (rest' rest : List (Addr × Cel)) (Q : Flow → Shared → Prop) (J : Jt) (f : Flow) (s' : Shared) : Prop :=
  ∃ P' kn ex h tk, s' = St s h tk ∧ Le P P' ∧ HS K P' ((L, .frame kn) :: (ex ++ rest')) h ∧ (match f with
    | .next | .cont => J P' kn ex
    | .brk => HS K P' ((L, .frame kn) :: (ex ++ rest)) h → Q .next s'
    | .ret v => HS K P' ((L, .frame kn) :: (ex ++ rest)) h → Q (.ret v) s')

structure TEnd (K : Frag) (P : Part) (s : Shared) (L : Addr) (rest' rest : List (Addr × Cel)) (Q : Flow → Shared → Prop) (J : Jt) (QT : Flow → Shared → Prop) : Prop where
  next : ∀ P' kn ex h tk, Le P P' → HS K P' ((L, .frame kn) :: (ex ++ rest')) h → J P' kn ex → QT .next (St s h tk)
  ret : ∀ v P' kn ex h tk, Le P P' → HS K P' ((L, .frame kn) :: (ex ++ rest')) h → (HS K P' ((L, .frame kn) :: (ex ++ rest)) h → Q (.ret v) (St s h tk)) → QT (.ret v) (St s h tk)
theorem TEnd.of {K : Frag} {P : Part} {s : Shared} {L : Addr} {rest' rest : List (Addr × Cel)} {Q : Flow → Shared → Prop} {J : Jt} : TEnd K P s L rest' rest Q J (Turn K P s L rest' rest Q J) :=
  ⟨fun P' kn ex h tk le H j => ⟨P', kn, ex, h, tk, rfl, le, H, j⟩, fun _ P' kn ex h tk le H q => ⟨P', kn, ex, h, tk, rfl, le, H, q⟩⟩
structure WEnd (K : Frag) (P : Part) (s : Shared) (L : Addr) (rest : List (Addr × Cel)) (n : Nat) (Q : Flow → Shared → Prop) (J : Nat → Jt) (QT : Flow → Shared → Prop) : Prop where
  next : ∀ P' kn ex h tk m, Le P P' → HS K P' ((L, .frame kn) :: (ex ++ rest)) h → m < n → J m P' kn ex → QT .next (St s h tk)
  ret : ∀ v s', Q (.ret v) s' → QT (.ret v) s'

abbrev isIter (l : Addr) (i : Nat) : Cel := .raw fun o => o.cls = .type "list_iterator" ∧ o.data = .fields #[.ref l, .int i 0]
abbrev isRIter (x left step : Int) : Cel := .raw fun o => o = { cls := .type "range_iterator", dict := none, data := .fields #[rawInt x, rawInt left, rawInt step], slots := #[] }

structure ItR (prog : Program) (w : World) (A : Around) (K : Frag) (I : Addr) (n : Nat) (V : Nat → Value → Prop) (it : Nat → Cel) (Src : Part → Prop) : Prop where
  mono : ∀ P P', Le P P' → Src P → Src P'
  next : ∀ i P ms (s : Shared) h tk (Q : Option Value → Shared → Prop) (E : Value → Shared → Prop), Src P → HS K P ((I, it i) :: ms) h → i < n → (∀ v h' tk', V i v → HS K P ((I, it (i + 1)) :: ms) h' → Q (some v) (St s h' tk')) → wpAny (model prog w) A (pyNext (.ref I)) Q E (St s h tk)
  stop : ∀ P ms (s : Shared) h tk (Q : Option Value → Shared → Prop) (E : Value → Shared → Prop), Src P → HS K P ((I, it n) :: ms) h → (∀ h', HS K P ms h' → Q none (St s h' tk)) → wpAny (model prog w) A (pyNext (.ref I)) Q E (St s h tk)
  self : ∀ i P ms (s : Shared) h tk (Q : Value → Shared → Prop) (E : Value → Shared → Prop), HS K P ((I, it i) :: ms) h → Q (.ref I) (St s h tk) → wpAny (model prog w) A (pyIter (.ref I)) Q E (St s h tk)

section
variable {prog : Program} {w : World} {A : Around} {E : Value → Shared → Prop} {s : Shared} {h : Heap} {tk : Nat} {K : Frag} {P : Part} {env : Env} {kn : List (Str × Value)} {ex rest : List (Addr × Cel)}

theorem HS.toFront {P : Part} {h : Heap} {f x : Addr × Cel} {ex rest : List (Addr × Cel)} (H : HS K P (f :: (ex ++ x :: rest)) h) : HS K P (x :: f :: (ex ++ rest)) h :=
  H.perm ((List.Perm.cons f (List.perm_middle)).trans (List.Perm.swap _ _ _))
theorem HS.toBack {P : Part} {h : Heap} {f x : Addr × Cel} {ex rest : List (Addr × Cel)} (H : HS K P (x :: f :: (ex ++ rest)) h) : HS K P (f :: (ex ++ x :: rest)) h :=
  H.perm ((List.Perm.swap _ _ _).trans (List.Perm.cons f (List.perm_middle).symm))

theorem itr_list {I l : Addr} {vs : List Value} (hh : A.handled = none) : ItR prog w A K I vs.length (fun i v => vs[i]? = some v) (isIter l) (fun P => PLst P l vs) where
  mono := fun P P' le x => x.le le
  next := fun i P ms s h tk Q E hl H hi q => by
    obtain ⟨o, ho, ⟨⟨oc, od⟩, _⟩⟩ := H.get
    refine wpAny_pyNext_list_item (s := St s h tk) ⟨o, ho, oc, od⟩ (hl.lin H).isList (x := vs[i]) (by simp [hi]) fun h₁ hit₁ sb => ?_
    obtain ⟨o₁, ho₁, hc₁, hd₁⟩ := hit₁
    exact q _ h₁ _ (by simp [hi]) (H.turn sb o₁ ho₁ ⟨⟨hc₁, hd₁⟩, by obtain ⟨c, d, dt, sl⟩ := o₁; subst hd₁; rfl⟩)
  stop := fun P ms s h tk Q E hl H q => by
    obtain ⟨o, ho, ⟨⟨oc, od⟩, _⟩⟩ := H.get
    exact wpAny_pyNext_list_end (s := St s h tk) hh ⟨o, ho, oc, od⟩ (hl.lin H).isList (by simp) fun h₁ e₁ => q h₁ (H.ext e₁)
  self := fun i P ms s h tk Q E H q => by
    obtain ⟨o, ho, ⟨⟨oc, od⟩, _⟩⟩ := H.get
    exact wpAny_pyIter_listiter (s := St s h tk) ⟨o, ho, oc, od⟩ q
theorem itr_range {I : Addr} {c : Nat} (hh : A.handled = none) : ItR prog w A K I c (fun i v => ∃ t, v = .int i t) (fun i => isRIter (i : Int) ((c : Int) - (i : Int)) 1) (fun _ => True) where
  mono := fun _ _ _ x => x
  next := fun i P ms s h tk Q E _ H hi q => by
    obtain ⟨o, ho, rfl, _⟩ := H.get
    refine wpAny_pyNext_range_item (s := St s h tk) ho (by omega) fun h₁ hit₁ sb => ?_
    have e1 : (i : Int) + 1 = ((i + 1 : Nat) : Int) := rfl
    have e2 : (c : Int) - i - 1 = (c : Int) - ((i + 1 : Nat) : Int) := by omega
    rw [e1, e2] at hit₁
    exact q _ h₁ _ ⟨_, rfl⟩ (H.turn sb _ hit₁ ⟨rfl, rfl⟩)
  stop := fun P ms s h tk Q E _ H q => by
    obtain ⟨o, ho, rfl, _⟩ := H.get
    exact wpAny_pyNext_range_end (s := St s h tk) hh ho (by omega) fun h₁ e₁ => q h₁ (H.ext e₁)
  self := fun i P ms s h tk Q E H q => by
    obtain ⟨o, ho, rfl, _⟩ := H.get
    exact wpAny_pyIter_rangeiter (s := St s h tk) ho q


theorem loop_it {target : Expr} {body : List Stmt} {Q : Flow → Shared → Prop} {I : Addr} {n a : Nat} {V : Nat → Value → Prop} {it : Nat → Cel} {Src : Part → Prop} (J : Nat → Jt) (W : ItR prog w A K I n V it Src)
    (H : HS K P ((I, it a) :: (env.locals, .frame kn) :: (ex ++ rest)) h) (hs : Src P) (an : a ≤ n) (j : J a P kn ex)
    (hgo : ∀ i P' ms h' tk' v Q' E', HS K P' ((I, it i) :: ms) h' → Q' () (St s h' tk') → wpAny (model prog w) A (letOwnedTupleGo target (.ref I) v) Q' E' (St s h' tk'))
    (turn : ∀ i v P' kn' ex' rest' h' tk' E' QT, TEnd K P' s env.locals rest' rest Q (J (i + 1)) QT → V i v → a ≤ i → i < n → Le P P' → J i P' kn' ex' → HS K P' ((env.locals, .frame kn') :: (ex' ++ rest')) h' →
      wpAny (model prog w) A (assign target env v) (fun _ s₂ => wpAny (model prog w) A (execs body env) QT E' s₂) E' (St s h' tk'))
    (done : ∀ P' kn' ex' h' tk', Le P P' → J n P' kn' ex' → HS K P' ((env.locals, .frame kn') :: (ex' ++ rest)) h' → Q .next (St s h' tk')) :
    codeAny (model prog w) A (.forLoop target (.ref I) body [] env) (fun r s' => match r with | .ok f => Q f s' | .error e => cameBackBy (model prog w) A env E e s') (St s h tk) := by
  refine codeAny_forLoop_any (fun m s' => ∃ i P' kn' ex' h' tk', s' = St s h' tk' ∧ Le P P' ∧ HS K P' ((I, it i) :: (env.locals, .frame kn') :: (ex' ++ rest)) h' ∧ J i P' kn' ex' ∧ a ≤ i ∧ i ≤ n ∧ m = n + 1 - i) ?_ (n + 1 - a)
    ⟨a, P, kn, ex, h, tk, rfl, .rfl', H, j, Nat.le_refl _, an, rfl⟩
  rintro m _ ⟨i, P', kn', ex', h', tk', rfl, le, H', j', ai, hi, rfl⟩
  by_cases lt : i < n
  · refine W.next i P' _ s h' tk' _ _ (W.mono _ _ le hs) H' lt fun v h₁ tk₁ hv H₁ => hgo (i + 1) P' _ h₁ tk₁ v _ _ H₁ ?_
    refine wpAny_mono (turn i v P' kn' ex' _ h₁ tk₁ _ _ .of hv ai lt le j' H₁.toBack) (fun _ s₂ q => wpAny_mono q (fun f s₃ t => ?_) fun _ _ e => e) fun _ _ e => e
    obtain ⟨P₂, kn₂, ex₂, h₂, tk₂, rfl, le₂, H₂, m⟩ := t
    have back := H₂.toFront
    have dec : n + 1 - (i + 1) < n + 1 - i := Nat.sub_lt_sub_left (Nat.lt_succ_of_lt lt) (Nat.lt_succ_self i)
    cases f with
    | next => exact ⟨_, dec, i + 1, P₂, kn₂, ex₂, h₂, tk₂, rfl, le.trans le₂, back, m, Nat.le_succ_of_le ai, lt, rfl⟩
    | cont => exact ⟨_, dec, i + 1, P₂, kn₂, ex₂, h₂, tk₂, rfl, le.trans le₂, back, m, Nat.le_succ_of_le ai, lt, rfl⟩
    | brk => exact m back.drop
    | ret v => exact m back.drop
  · obtain rfl : i = n := Nat.le_antisymm hi (Nat.not_lt.mp lt)
    exact W.stop P' _ s h' tk' _ _ (W.mono _ _ le hs) H' fun h₁ H₁ => wpAny_execs_nil (done P' kn' ex' h₁ tk' le j' H₁)

theorem loop_list {target : Expr} {body : List Stmt} {Q : Flow → Shared → Prop} {l : Addr} {vs : List Value} (J : Nat → Jt) (hh : A.handled = none)
    (H : HS K P ((env.locals, .frame kn) :: (ex ++ rest)) h) (hl : PLst P l vs) (j : J 0 P kn ex)
    (hgo : ∀ it i (s' : Shared) Q' E', s'.heap.IsListIter it l i → ∀ v, Q' () s' → wpAny (model prog w) A (letOwnedTupleGo target (.ref it) v) Q' E' s')
    (turn : ∀ i v P' kn' ex' rest' h' tk' E' QT, TEnd K P' s env.locals rest' rest Q (J (i + 1)) QT → vs[i]? = some v → Le P P' → J i P' kn' ex' → HS K P' ((env.locals, .frame kn') :: (ex' ++ rest')) h' →
      wpAny (model prog w) A (assign target env v) (fun _ s₂ => wpAny (model prog w) A (execs body env) QT E' s₂) E' (St s h' tk'))
    (done : ∀ P' kn' ex' h' tk', Le P P' → J vs.length P' kn' ex' → HS K P' ((env.locals, .frame kn') :: (ex' ++ rest)) h' → Q .next (St s h' tk')) :
    wpAny (model prog w) A (pyIter (.ref l)) (fun it s₂ => codeAny (model prog w) A (.forLoop target it body [] env) (fun r s' => match r with | .ok f => Q f s' | .error e => cameBackBy (model prog w) A env E e s') s₂) E (St s h tk) := by
  refine wpAny_pyIter_list (s := St s h tk) (hl.lin H).isList ?_
  have HI : HS K P ((h.objs.size, isIter l 0) :: (env.locals, .frame kn) :: (ex ++ rest)) (h.push { cls := .type "list_iterator", data := .fields #[.ref l, .int 0 0] }) := H.makeMut (isIter l 0) _ ⟨⟨rfl, rfl⟩, rfl⟩
  exact loop_it (s := s) J (itr_list hh) HI hl (Nat.zero_le _) j (fun i P' ms h' tk' v Q' E' H' q => by
    obtain ⟨o, ho, ⟨⟨oc, od⟩, _⟩⟩ := H'.get
    exact hgo _ i _ _ _ ⟨o, ho, oc, od⟩ v q) (fun i v P' kn' ex' rest' h' tk' E' QT fin hv _ _ => turn i v P' kn' ex' rest' h' tk' E' QT fin hv) done

theorem loop_range {x : Str} {px : Pos} {body : List Stmt} {Q : Flow → Shared → Prop} {r : Addr} {a c : Nat} {t u v : Tok} (J : Nat → Jt) (hh : A.handled = none)
    (H : HS K P ((env.locals, .frame kn) :: (ex ++ rest)) h) (hr : IsRange h r (a : Int) (c : Int) 1 t u v) (hac : a ≤ c) (hc : c < 2 ^ 60) (j : J a P kn ex)
    (turn : ∀ i t P' kn' ex' rest' h' tk' E' QT, TEnd K P' s env.locals rest' rest Q (J (i + 1)) QT → a ≤ i → i < c → Le P P' → J i P' kn' ex' → HS K P' ((env.locals, .frame kn') :: (ex' ++ rest')) h' →
      wpAny (model prog w) A (assign (.Name x px) env (.int (i : Nat) t)) (fun _ s₂ => wpAny (model prog w) A (execs body env) QT E' s₂) E' (St s h' tk'))
    (done : ∀ P' kn' ex' h' tk', Le P P' → J c P' kn' ex' → HS K P' ((env.locals, .frame kn') :: (ex' ++ rest)) h' → Q .next (St s h' tk')) :
    wpAny (model prog w) A (pyIter (.ref r)) (fun it s₂ => codeAny (model prog w) A (.forLoop (.Name x px) it body [] env) (fun r s' => match r with | .ok f => Q f s' | .error e => cameBackBy (model prog w) A env E e s') s₂) E (St s h tk) := by
  have hsz : Builtin.Range.rangeSize (a : Int) (c : Int) 1 = (c : Int) - (a : Int) := by rw [rangeSize_one]; split <;> omega
  refine wpAny_pyIter_range (s := St s h tk) hr (small_one (by omega) (by omega) (by omega) (by omega)) ?_
  rw [hsz]
  have HI := H.makeMut (isRIter a ((c : Int) - (a : Int)) 1) { cls := .type "range_iterator", dict := none, data := .fields #[rawInt a, rawInt ((c : Int) - (a : Int)), rawInt 1], slots := #[] } ⟨rfl, rfl⟩
  exact loop_it (s := s) J (itr_range hh) HI trivial hac j (fun _ _ _ _ _ _ _ _ _ q => wpAny_pure q) (fun i v P' kn' ex' rest' h' tk' E' QT fin hv ai lt le j' H' => by
    obtain ⟨t, rfl⟩ := hv
    exact turn i t P' kn' ex' rest' h' tk' E' QT fin ai lt le j' H') done

theorem asg_name {x : Str} {px : Pos} {v : Value} {ms : List (Addr × Cel)} {Q : Unit → Shared → Prop} (H : HS K P ((env.locals, .frame kn) :: ms) h)
    (q : ∀ h' tk', HS K P ((env.locals, .frame ((x, v) :: kn)) :: ms) h' → Q () (St s h' tk'))
    (hk : env.scope.kind = .function := by rfl) (hl : env.kindOf x = some .local := by rfl) : wpAny (model prog w) A (assign (.Name x px) env v) Q E (St s h tk) :=
  wpAny_assign_Name (sto H q hk hl)

theorem loop_while {test : Expr} {body : List Stmt} {pos : Pos} {Q : Flow → Shared → Prop} (J : Nat → Jt) {n : Nat}
    (H : HS K P ((env.locals, .frame kn) :: (ex ++ rest)) h) (j : J n P kn ex)
    (turn : ∀ n P' kn' ex' h' tk' E' QT, WEnd K P' s env.locals rest n Q J QT → Le P P' → J n P' kn' ex' → HS K P' ((env.locals, .frame kn') :: (ex' ++ rest)) h' →
      wpAny (model prog w) A (PySem.isTrue test env (eval test env)) (fun b s₂ => if b = true then wpAny (model prog w) A (execs body env) QT E' s₂ else Q .next s₂) E' (St s h' tk')) :
    wpAny (model prog w) A (exec (.While test body [] pos) env) Q E (St s h tk) := by
  refine wpAny_While (codeAny_whileLoop (fun n s' => ∃ P' kn' ex' h' tk', s' = St s h' tk' ∧ Le P P' ∧ HS K P' ((env.locals, .frame kn') :: (ex' ++ rest)) h' ∧ J n P' kn' ex') ?_ n ⟨P, kn, ex, h, tk, rfl, .rfl', H, j⟩)
  rintro n _ ⟨P', kn', ex', h', tk', rfl, le, H', j'⟩
  refine wpAny_mono (turn n P' kn' ex' h' tk' _ (fun f s₃ => match f with
          | .next | .cont => ∃ P₂ kn₂ ex₂ h₂ tk₂, s₃ = St s h₂ tk₂ ∧ Le P' P₂ ∧ HS K P₂ ((env.locals, .frame kn₂) :: (ex₂ ++ rest)) h₂ ∧ ∃ m, m < n ∧ J m P₂ kn₂ ex₂
          | .brk => Q .next s₃
          | .ret v => Q (.ret v) s₃) ⟨fun P₂ kn₂ ex₂ h₂ tk₂ m le H lt j => ⟨P₂, kn₂, ex₂, h₂, tk₂, rfl, le, H, m, lt, j⟩, fun _ _ q => q⟩ le j' H') (fun b s₂ q => ?_) fun _ _ e => e
  cases b with
  | false => exact wpAny_execs_nil q
  | true =>
    refine wpAny_mono q (fun f s₃ z => ?_) fun _ _ e => e
    cases f with
    | next => obtain ⟨P₂, kn₂, ex₂, h₂, tk₂, rfl, le₂, H₂, m, lt, j₂⟩ := z; exact ⟨m, lt, P₂, kn₂, ex₂, h₂, tk₂, rfl, le.trans le₂, H₂, j₂⟩
    | cont => obtain ⟨P₂, kn₂, ex₂, h₂, tk₂, rfl, le₂, H₂, m, lt, j₂⟩ := z; exact ⟨m, lt, P₂, kn₂, ex₂, h₂, tk₂, rfl, le.trans le₂, H₂, j₂⟩
    | brk => exact z
    | ret v => exact z
end

def DHas (h : Heap) (dx : Addr) (attrs : List (Str × Value)) : Prop := ∃ es n, h.get? dx = some (dictOf es n) ∧ AttrsAre es attrs
def putA (name : Str) (v : Value) : List (Str × Value) → List (Str × Value)
  | [] => [(name, v)]
  | p :: r => if p.1 = name then (p.1, v) :: r else p :: putA name v r
theorem DHas.at {K : Frag} {P : Part} {ms : List (Addr × Cel)} {h : Heap} {dx : Addr} {attrs : List (Str × Value)} (H : HS K P ms h) (hm : (dx, Cel.inst attrs) ∈ ms) : DHas h dx attrs := by
  obtain ⟨o, ho, es, n, rfl, a⟩ := H.mem hm; exact ⟨es, n, ho, a⟩
def PDict (P : Part) (dx : Addr) (attrs : List (Str × Value)) : Prop := ∃ es n, P dx = some (dictOf es n) ∧ AttrsAre es attrs
theorem PDict.le {P P' : Part} {dx : Addr} {attrs : List (Str × Value)} (x : PDict P dx attrs) (e : Le P P') : PDict P' dx attrs := let ⟨es, n, q, a⟩ := x; ⟨es, n, e _ _ q, a⟩
theorem PDict.has {K : Frag} {P : Part} {ms : List (Addr × Cel)} {h : Heap} {dx : Addr} {attrs : List (Str × Value)} (x : PDict P dx attrs) (H : HS K P ms h) : DHas h dx attrs := let ⟨es, n, q, a⟩ := x; ⟨es, n, H.has _ _ q, a⟩
def PIns (P : Part) (x C dx : Addr) : Prop := P x = some (instObj C dx)
theorem PIns.le {P P' : Part} {x C dx : Addr} (q : PIns P x C dx) (e : Le P P') : PIns P' x C dx := e _ _ q

theorem aa_key {e : DictEntry} {x name : Str} {t : Tok} (hk : e.key = .str x t) : e.key.isStr name = decide (x = name) := by
  rw [hk]
  show (x == name) = _
  by_cases q : x = name
  · subst q; simp
  · simp [q]
theorem aa_ref {e : DictEntry} {x : Str} {t : Tok} (hk : e.key = .str x t) : e.refKey = false := by simp [DictEntry.refKey, hk]
theorem aa_anyref : ∀ {es : List DictEntry} {attrs : List (Str × Value)}, AttrsAre es attrs → es.any (·.refKey) = false
  | [], [], _ => rfl
  | e :: es, p :: ps, ⟨⟨t, hk⟩, _, r⟩ => by rw [List.any_cons, aa_ref hk, aa_anyref r]; rfl
theorem aa_get {name : Str} : ∀ {es : List DictEntry} {attrs : List (Str × Value)}, AttrsAre es attrs → getL name es = some (attrs.lookup name)
  | [], [], _ => rfl
  | e :: es, p :: ps, ⟨⟨t, hk⟩, hv, r⟩ => by
    have ih := aa_get (name := name) r
    unfold getL at ih ⊢
    rw [List.find?_cons, aa_key hk, List.lookup_cons, List.any_cons, aa_ref hk]
    by_cases q : p.1 = name
    · subst q; simp [hv]
    · have q' : ¬ name = p.1 := fun z => q z.symm
      simpa [q, beq_eq_false_iff_ne.mpr q'] using ih
theorem aa_put {name : Str} {hsh : Int} {t : Tok} {v : Value} : ∀ {es : List DictEntry} {attrs : List (Str × Value)}, AttrsAre es attrs → AttrsAre (putL name hsh (.str name t) v es) (putA name v attrs)
  | [], [], _ => ⟨⟨t, rfl⟩, rfl, trivial⟩
  | e :: es, p :: ps, ⟨⟨t', hk⟩, hv, r⟩ => by
    unfold putL putA
    rw [aa_key hk]
    by_cases q : p.1 = name
    · rw [if_pos q]; simp only [q, decide_true, if_true]; exact ⟨⟨t', by rw [← q]; exact hk⟩, rfl, r⟩
    · rw [if_neg q]; simp only [q, decide_false, Bool.false_eq_true, if_false]; exact ⟨⟨t', hk⟩, hv, aa_put r⟩
theorem aa_len : ∀ {es : List DictEntry} {attrs : List (Str × Value)}, AttrsAre es attrs → es.length = attrs.length
  | [], [], _ => rfl
  | _ :: _, _ :: _, ⟨_, _, r⟩ => by simp [aa_len r]

structure OwnA (K : Frag) (C : Addr) (name : Str) : Prop where
  g : plainGet K C name = true
  d : hasDictIn K C = true
  f : findIn K (.ref C) name = some none
structure SetA (K : Frag) (C : Addr) (name : Str) : Prop where
  s : findIn K (.ref C) "__setattr__" = some (some (.builtin "object.__setattr__"))
  p : plainOver K C = true
  t : takerIn K C name = some none
  h : hasDictIn K C = true
structure MetA (K : Frag) (C : Addr) (name : Str) (fn : Addr) : Prop where
  g : plainGet K C name = true
  f : findIn K (.ref C) name = some (some (.ref fn))
  t : typeIn K (.ref fn) = some (.type "function")
  k : keepIn K (.ref fn) = true
structure MakA (K : Frag) (C fI : Addr) : Prop where
  m : makesIn K C = true
  i : findIn K (.ref C) "__init__" = some (some (.ref fI))
  t : typeIn K (.ref fI) = some (.type "function")
  k : keepIn K (.ref C) = true

section
variable {prog : Program} {w : World} {A : Around} {E : Value → Shared → Prop} {s : Shared} {h : Heap} {tk : Nat} {K : Frag} {P : Part} {ms : List (Addr × Cel)} {x C dx : Addr} {attrs : List (Str × Value)} {name : Str} {v : Value}

theorem inst_at (H : HS K P ms h) (hx : PIns P x C dx) {es : List DictEntry} {n : Nat} (hd : h.get? dx = some (dictOf es n)) : W.InstAt h x (instObj C dx) C (some (dictOf es n)) := ⟨H.has _ _ hx, rfl, rfl, hd⟩

theorem get_attr {expr : Bool} {Q : Value → Shared → Prop} (H : HS K P ms h) (hx : PIns P x C dx) (hd : DHas h dx attrs) (o : OwnA K C name) (hn : attrs.lookup name = some v) (hv : handedIn v = true) (q : ∀ tk', Q v (St s h tk')) :
    wpAny (model prog w) A (getAttr (.ref x) name expr) Q E (St s h tk) := by
  obtain ⟨es, n, hd, a⟩ := hd
  exact get_value (s := St s h tk) H.kin (inst_at H hx hd) (plainGet_of o.g).1 (findObj_own o.d o.f rfl (by rw [lookIn_dict, aa_get a, hn])) hv (q _)

theorem get_meth {pl : Sem Bool} {f : Addr} {Q : Value × List Value → Shared → Prop} (H : HS K P ms h) (hx : PIns P x C dx) (hd : DHas h dx attrs) (o : MetA K C name f) (hn : attrs.lookup name = none) (q : Q (.ref f, [.ref x]) (St s h tk)) :
    wpAny (model prog w) A (getMethod (.ref x) name pl) Q E (St s h tk) := by
  obtain ⟨es, n, hd, a⟩ := hd
  exact method_fn (s := St s h tk) H.kin (inst_at H hx hd) (plainGet_of o.g).1 (plainGet_of o.g).2 o.f o.t (by show (lookIn name (dictOf es n)).map _ = _; rw [lookIn_dict, aa_get a, hn]; rfl) q

theorem ledger_sub {f : Nat → Option (Addr × Obj)} (hf : ∀ a p, f a = some p → p.1 = a) : ∀ l : List Nat, ((l.filterMap f).map (·.1)).Sublist l
  | [] => .slnil
  | a :: r => by
    cases e : f a with
    | none => rw [List.filterMap_cons_none e]; exact (ledger_sub hf r).cons a
    | some p => rw [List.filterMap_cons_some e, List.map_cons, hf a p e]; exact (ledger_sub hf r).cons₂ a
theorem HS.ledger {L : Addr} {kn : List (Str × Value)} (H : HS K P ((L, .frame kn) :: ms) h) : ∃ h₀ m news, Fr h₀ L h m ∧ News h₀ L h news ∧ (∀ x v, kn.lookup x = some v → m x = some v) ∧ (∀ a o, a ≠ L → h.get? a = some o → (a, o) ∈ news) ∧ (news.map (·.1)).Nodup := by
  obtain ⟨m, n, k⟩ := H.ns
  have e : ∀ a, ({ objs := #[] } : Heap).get? a = none := fun a => Heap.get?_none_of_le (Nat.zero_le a)
  refine ⟨{ objs := #[] }, m, (List.range h.objs.size).filterMap fun a => if a = L then none else (h.get? a).map fun o => (a, o), ⟨n, fun b o q => (by rw [e] at q; cases q), Nat.zero_le _⟩, ?_, k, ?_, ?_⟩
  · intro p hp
    obtain ⟨a, _, ha⟩ := List.mem_filterMap.mp hp
    by_cases c : a = L
    · rw [if_pos c] at ha; cases ha
    · rw [if_neg c] at ha
      obtain ⟨o, ho, rfl⟩ := Option.map_eq_some_iff.mp ha
      exact ⟨ho, c, e a⟩
  · intro a o c ho
    refine List.mem_filterMap.mpr ⟨a, List.mem_range.mpr (Heap.lt_size ho), ?_⟩
    rw [if_neg c, ho]; rfl
  · refine (ledger_sub (fun a p ha => ?_) _).nodup List.nodup_range
    by_cases c : a = L
    · rw [if_pos c] at ha; cases ha
    · rw [if_neg c] at ha
      obtain ⟨o, ho, rfl⟩ := Option.map_eq_some_iff.mp ha
      rfl
theorem HS.ledgerSet {L : Addr} {kn : List (Str × Value)} {i : Nat} {h' h₀ : Heap} {m : Str → Option Value} {pre post : List (Addr × Obj)} {c c' : Cel} {o o' : Obj} (H : HS K P ((L, .frame kn) :: ms) h) (hi : ((L, Cel.frame kn) :: ms)[i]? = some (dx, c)) (ne : dx ≠ L) (k : ∀ x v, kn.lookup x = some v → m x = some v)
    (al : ∀ a u, a ≠ L → h.get? a = some u → (a, u) ∈ pre ++ (dx, o) :: post) (F' : Fr h₀ L h' m) (N' : News h₀ L h' (pre ++ (dx, o') :: post)) (j : c'.Is o') : HS K P (((L, Cel.frame kn) :: ms).set i (dx, c')) h' := by
  have keep : ∀ a u, a ≠ L → a ≠ dx → h.get? a = some u → h'.get? a = some u := fun a u n1 n2 e => by
    rcases List.mem_append.mp (al a u n1 e) with q | q
    · exact (N' _ (List.mem_append_left _ q)).1
    · rcases List.mem_cons.mp q with q | q
      · cases q; exact absurd rfl n2
      · exact (N' _ (List.mem_append_right _ (.tail _ q))).1
  have G := H.front hi
  have pL := (H.mu _ (.head _)).1
  have pD := (G.mu _ (.head _)).1
  refine HS.back (i := i) ⟨H.st, fun a x e => keep a x (fun q => by rw [q, pL] at e; cases e) (fun q => by rw [q, pD] at e; cases e) (H.has a x e), fun p hp => ?_, G.nd⟩ hi
  rcases List.mem_cons.mp hp with rfl | hp
  · exact ⟨pD, o', (N' _ (List.mem_append_right _ (.head _))).1, j⟩
  · have nD : p.1 ≠ dx := fun q => (List.nodup_cons.mp G.nd).1 (List.mem_map.mpr ⟨p, hp, q⟩)
    rcases List.mem_cons.mp (List.mem_of_mem_eraseIdx hp) with rfl | hp'
    · obtain ⟨ob, es, ep, e1, e2, e3, e4⟩ := F'.ns
      exact ⟨pL, ob, e1, es, ep, e2, e3, fun x v e => (e4 x).trans (k x v e)⟩
    · obtain ⟨n, x, e, jj⟩ := H.mu p (.tail _ hp')
      exact ⟨n, x, keep _ _ (fun q => (List.nodup_cons.mp H.nd).1 (List.mem_map.mpr ⟨p, hp', q⟩)) nD e, jj⟩
theorem putL_len {hsh : Int} {key : Value} : ∀ l : List DictEntry, (putL name hsh key v l).length ≤ l.length + 1
  | [] => by simp [putL]
  | e :: r => by have := putL_len (hsh := hsh) (key := key) r; unfold putL; split <;> simp <;> omega
theorem set_attr {Q : Unit → Shared → Prop} {i : Nat} {L : Addr} {kn : List (Str × Value)} (H : HS K P ((L, .frame kn) :: ms) h) (hx : PIns P x C dx) (hi : ((L, Cel.frame kn) :: ms)[i]? = some (dx, .inst attrs)) (o : SetA K C name) (hz : attrs.length ≤ 900)
    (q : ∀ h' tk', HS K P (((L, Cel.frame kn) :: ms).set i (dx, .inst (putA name v attrs))) h' → Q () (St s h' tk')) : wpAny (model prog w) A (setAttr (.ref x) name v) Q E (St s h tk) := by
  obtain ⟨o₁, ho, es, n, rfl, a⟩ := H.at hi
  have ne : dx ≠ L := fun e => by
    subst e
    cases i with
    | zero => cases hi
    | succ i => exact (List.nodup_cons.mp H.nd).1 (List.mem_map.mpr ⟨_, List.mem_of_getElem? (i := i) hi, rfl⟩)
  obtain ⟨h₀, m, news, Fm, N, hk, al, nd⟩ := H.ledger
  obtain ⟨pre, post, rfl⟩ := List.append_of_mem (al dx _ ne ho)
  rw [List.map_append, List.map_cons] at nd
  have n1 : ∀ p ∈ pre, p.1 ≠ dx := fun p hp e => by
    have := (List.nodup_append.mp nd).2.2 p.1 (List.mem_map_of_mem hp) dx (.head _)
    exact this e
  have n2 : ∀ p ∈ post, p.1 ≠ dx := fun p hp e => (List.nodup_cons.mp (List.nodup_append.mp nd).2.1).1 (List.mem_map.mpr ⟨p, hp, e⟩)
  refine set_plain (s := St s h tk) H.kin (inst_at H hx ho) o.s ?_
  have pl := putL_len (name := name) (v := v) (hsh := PyData.keyHash w.params name) (key := .str name (tk + 1)) es
  have al' := aa_len a
  exact osa_dict (s := St s h (tk + 1)) Fm N H.kin (inst_at H hx ho) rfl o.p o.t o.h (by rw [lookIn_dict, aa_get a]; rfl) n1 n2 (putName_dict ..) rfl (Nat.le_trans pl (by omega)) fun h' F' N' => q h' _ (H.ledgerSet hi ne hk al F' N' ⟨_, _, rfl, aa_put a⟩)

theorem make_cls {Q : Value → Shared → Prop} {f : Addr × Cel} {fI : Addr} {args : List Value} (H : HS K P (f :: ms) h) (o : MakA K C fI)
    (q : ∀ x dx h' P', Le P P' → PIns P' x C dx → HS K P' (f :: (dx, .inst []) :: ms) h' →
      codeAny (model prog w) (A.under (.builtin "type.__call__" ⟨.ref C :: args, []⟩)) (.call (.ref fI) ⟨.ref x :: args, []⟩) (fun r s' => match r with | .ok (.ret v) => v = .none ∧ Q (.ref x) s' | _ => False) (St s h' tk)) :
    wpAny (model prog w) A (call (.ref C) args) Q E (St s h tk) := by
  have H₁ := H.makeMut (.inst []) emptyDict ⟨[], 0, rfl, trivial⟩
  have e : (h.push emptyDict).objs.size = h.objs.size + 1 := Heap.size_push ..
  have H₂ := H₁.make (instObj C h.objs.size)
  rw [e] at H₂
  refine wpAny_call (make_core (h := h) (makes_of H.kin o.m) (looks_findIn H.kin o.i) (fun self => bind_fn H.kin self o.t) (.inl rfl) ?_)
  refine codeAny_mono (q _ h.objs.size _ _ (by rw [← e]; exact H₁.makeLe _) (by unfold PIns; exact Part.put_self) H₂.swap) fun r s' z => ?_
  rcases r with e | (v | _ | _ | _) <;> first | exact z.elim | exact z
end

def cutPut (vs new : List Value) (lo hi : Nat) : List Value := vs.take lo ++ new ++ vs.drop (max lo hi)
theorem cut_arr (vs new : List Value) (lo hi : Nat) : (vs.toArray.extract 0 lo ++ new.toArray ++ vs.toArray.extract (max lo hi) vs.toArray.size) = (cutPut vs new lo hi).toArray := by
  unfold cutPut
  apply Array.ext'
  simp [List.extract_eq_take_drop]
  exact List.take_of_length_le (by simp)

section
variable {prog : Program} {w : World} {A : Around} {E : Value → Shared → Prop} {s : Shared}
theorem slice_store_raw {l sl b : Addr} {vs new : List Value} {n m : Nat} {vl vu : Value} {lo hi : Option Int} {Q : Unit → Shared → Prop}
    (ho : s.heap.get? l = some (listOf vs.toArray n)) (hb : s.heap.get? b = some (listOf new.toArray m)) (hs : s.heap.IsSliceOf sl vl vu .none) (pl : IsPart vl lo) (pu : IsPart vu hi)
    (hz : vs.length + new.length ≤ 2 ^ 20) (q : ∀ f, f vs.toArray = (cutPut vs new (kms_lo lo vs.length) (kms_hi hi vs.length)).toArray → Q () { s with heap := s.heap.update l (Obj.mapSeq f) }) :
    wpAny (model prog w) A (setItem (.ref l) (.ref sl) (.ref b)) Q E s := by
  have hl : s.heap.IsList l vs.toArray := PySem.IsL.isList (n := n) ho
  have hbl : s.heap.IsList b new.toArray := PySem.IsL.isList (n := m) hb
  obtain ⟨os, hos, hcs, hds⟩ := id hs
  have hTs : s.TypeIs (.ref sl) "slice" := ⟨os, hos, hcs⟩
  have hlo : kms_lo lo vs.length ≤ vs.length := by unfold kms_lo; split <;> (try split) <;> omega
  have hhi : kms_hi hi vs.length ≤ vs.length := by unfold kms_hi; split <;> (try split) <;> omega
  unfold setItem
  try with_reducible refine wpAny_holding ?_
  refine wpAny_bind (wpAny_sequenceKey hl.typeIs (by decide) ?_)
  refine wpAny_bind (wpAny_callSpecial?_slot (name := Str.ofString "__setitem__") hl.typeIs slot_list_setitem
    (wpAny_call_entry slot_list_setitem hl.typeIs entry_list_setitem ?_ (args_list_setitem _ _ _)))
  show wpAny _ _ (Builtin.List.listSubscript? (.ref sl) >>= _) _ _ s
  refine wpAny_bind ?_
  unfold Builtin.List.listSubscript?
  refine wpAny_bind (wpAny_specialOf hTs slice_no_index ?_)
  simp only [Option.isNone_none, if_true]
  refine wpAny_pure ?_
  show wpAny _ _ (typeOf (.ref sl) >>= _) _ _ s
  refine wpAny_bind (wpAny_typeOf hTs ?_)
  rw [if_neg (by decide)]
  rw [listSliceParts_eq]
  refine wpAny_bind (wpAny_bind (wpAny_field hos hds (x := .none) rfl (wpAny_bind (wpAny_listPart .none ?_))))
  rw [if_neg (by exact Bool.false_ne_true)]
  refine wpAny_bind (wpAny_field hos hds (x := vl) rfl (wpAny_bind (wpAny_listPart pl ?_)))
  refine wpAny_bind (wpAny_field hos hds (x := vu) rfl (wpAny_bind (wpAny_listPart pu (wpAny_pure ?_))))
  dsimp only
  have one : ∀ {A'} {Q' : Array Value → Shared → Prop}, Q' new.toArray s → wpAny (model prog w) A' (Builtin.List.listItems (.ref b)) Q' E s := by
    intro A' Q' q'
    unfold Builtin.List.listItems
    exact wpAny_bind (wpAny_seqItems hb rfl (wpAny_pure q'))
  have two : ∀ {A'} {Q' : Array Value → Shared → Prop}, Q' new.toArray s → wpAny (model prog w) A' (Builtin.List.listAllItems (.ref b) "must assign iterable to extended slice") Q' E s := by
    intro A' Q' q'
    unfold Builtin.List.listAllItems
    refine wpAny_bind (wpAny_typeOf hbl.typeIs ?_)
    exact one q'
  have small : Builtin.List.listTooLong (vs.toArray.size + new.toArray.size) = false := by
    unfold Builtin.List.listTooLong; rw [sizeLine_eq]; simp only [List.size_toArray]; simp; omega
  split
  all_goals (
    first | refine wpAny_bind (one ?_) | refine wpAny_bind (two ?_)
    refine wpAny_bind (m := Builtin.List.listItems (.ref l)) ?_
    unfold Builtin.List.listItems
    refine wpAny_bind (wpAny_seqItems ho rfl (wpAny_pure ?_))
    refine wpAny_bind (wpAny_of_eq (sliceIndices_raw lo hi none vs.toArray.size (by simp)) ?_)
    rw [kms_bounds]
    dsimp only
    rw [if_pos (show ((1 : Int) == 1) = true from rfl)]
    refine wpAny_bind (wpAny_rule ?_)
    rw [small]
    refine wpAny_bind (m := Builtin.List.listUpdate (.ref l) _) ?_
    unfold Builtin.List.listUpdate
    have e := cut_arr vs new (kms_lo lo vs.length) (kms_hi hi vs.length)
    simp only [List.size_toArray] at e
    refine wpAny_updateSeq ho rfl ?_ (by rw [sizeLine_eq]; simp only [List.size_toArray]; omega) ?_
    · refine wpAny_bind (wpAny_letGo ?_)
      refine wpAny_pure ⟨.none, rfl, wpAny_pure (q _ ?_)⟩
      simp only [List.size_toArray, Int.toNat_natCast]
      rw [← e]
      congr 1
      congr 1
      omega
    · skip
      simp only [List.size_toArray, Int.toNat_natCast]
      rw [sizeLine_eq]
      simp only [Array.size_append, Array.size_extract, List.size_toArray]
      exact cut_le hz)
end

inductive All2 {α β : Type} (R : α → β → Prop) : List α → List β → Prop
  | nil : All2 R [] []
  | cons {a b as bs} : R a b → All2 R as bs → All2 R (a :: as) (b :: bs)
namespace All2
variable {α β : Type} {R R' : α → β → Prop}
theorem length : ∀ {as : List α} {bs : List β}, All2 R as bs → as.length = bs.length
  | _, _, .nil => rfl
  | _, _, .cons _ r => congrArg (· + 1) r.length
theorem imp (f : ∀ a b, R a b → R' a b) : ∀ {as : List α} {bs : List β}, All2 R as bs → All2 R' as bs
  | _, _, .nil => .nil
  | _, _, .cons h r => .cons (f _ _ h) (r.imp f)
theorem append : ∀ {as as' : List α} {bs bs' : List β}, All2 R as bs → All2 R as' bs' → All2 R (as ++ as') (bs ++ bs')
  | _, _, _, _, .nil, y => y
  | _, _, _, _, .cons h r, y => .cons h (r.append y)
theorem one {a : α} {b : β} (h : R a b) : All2 R [a] [b] := .cons h .nil
theorem snoc {as : List α} {bs : List β} {a : α} {b : β} (x : All2 R as bs) (h : R a b) : All2 R (as ++ [a]) (bs ++ [b]) := x.append (one h)
theorem take : ∀ {as : List α} {bs : List β} (k : Nat), All2 R as bs → All2 R (as.take k) (bs.take k)
  | _, _, 0, _ => by simpa using All2.nil
  | _, _, _ + 1, .nil => by simpa using All2.nil
  | _, _, k + 1, .cons h r => by simpa using All2.cons h (r.take k)
theorem drop : ∀ {as : List α} {bs : List β} (k : Nat), All2 R as bs → All2 R (as.drop k) (bs.drop k)
  | _, _, 0, x => x
  | _, _, _ + 1, .nil => by simpa using All2.nil
  | _, _, k + 1, .cons _ r => by simpa using r.drop k
theorem get : ∀ {as : List α} {bs : List β} {k : Nat} {b : β}, All2 R as bs → bs[k]? = some b → ∃ a, as[k]? = some a ∧ R a b
  | _, _, _, _, .nil, e => by simp at e
  | _, _, 0, _, .cons h _, e => by simp at e; subst e; exact ⟨_, rfl, h⟩
  | _, _, k + 1, _, .cons _ r, e => by simpa using r.get (k := k) (by simpa using e)
theorem get' : ∀ {as : List α} {bs : List β} {k : Nat} {a : α}, All2 R as bs → as[k]? = some a → ∃ b, bs[k]? = some b ∧ R a b
  | _, _, _, _, .nil, e => by simp at e
  | _, _, 0, _, .cons h _, e => by simp at e; subst e; exact ⟨_, rfl, h⟩
  | _, _, k + 1, _, .cons _ r, e => by simpa using r.get' (k := k) (by simpa using e)
end All2

def T2 (P : Part) (v : Value) (p : Int × Int) : Prop := ∃ a t u, v = .ref a ∧ PTup P a [.int p.1 t, .int p.2 u]
def T3 (P : Part) (v : Value) (p : Int × Int × Int) : Prop := ∃ a t u z, v = .ref a ∧ PTup P a [.int p.1 t, .int p.2.1 u, .int p.2.2 z]
def IL (P : Part) (v : Value) (ns : List Int) : Prop := ∃ l vs, v = .ref l ∧ PLst P l vs ∧ IntsAre vs ns
theorem T2.le {P P' : Part} {v : Value} {p : Int × Int} (x : T2 P v p) (e : Le P P') : T2 P' v p := let ⟨a, t, u, h, q⟩ := x; ⟨a, t, u, h, q.le e⟩
theorem T3.le {P P' : Part} {v : Value} {p : Int × Int × Int} (x : T3 P v p) (e : Le P P') : T3 P' v p := let ⟨a, t, u, z, h, q⟩ := x; ⟨a, t, u, z, h, q.le e⟩
theorem IL.le {P P' : Part} {v : Value} {ns : List Int} (x : IL P v ns) (e : Le P P') : IL P' v ns := let ⟨a, t, h, q, i⟩ := x; ⟨a, t, h, q.le e, i⟩

def d2 (p : Int × Int) : PyData := .tuple [.int p.1, .int p.2]
theorem same_d2 (p q : Int × Int) : PySem.Spec.same (d2 p) (d2 q) = decide (p = q) := by
  obtain ⟨a, b⟩ := p; obtain ⟨c, d⟩ := q
  simp only [d2, PySem.Spec.same, PySem.Spec.sameAll, Bool.and_true, Prod.mk.injEq]
  by_cases h : a = c <;> by_cases g : b = d <;> simp [h, g]
theorem same_d2s : ∀ ps qs : List (Int × Int), PySem.Spec.sameAll (ps.map d2) (qs.map d2) = decide (ps = qs)
  | [], [] => by simp [PySem.Spec.sameAll]
  | [], _ :: _ => by simp [PySem.Spec.sameAll]
  | _ :: _, [] => by simp [PySem.Spec.sameAll]
  | p :: ps, q :: qs => by
    simp only [List.map_cons, PySem.Spec.sameAll, same_d2, same_d2s ps qs]
    by_cases h : p = q <;> simp [h]
theorem mix_d2 (p q : Int × Int) : SeqAt.noMix (d2 p) (d2 q) = true := by simp [d2, SeqAt.noMix, SeqAt.noMixAll]
theorem mix_d2s : ∀ ps qs : List (Int × Int), SeqAt.noMixAll (ps.map d2) (qs.map d2) = true
  | [], [] => by simp [SeqAt.noMixAll]
  | [], _ :: _ => by simp [SeqAt.noMixAll]
  | _ :: _, [] => by simp [SeqAt.noMixAll]
  | _ :: ps, _ :: qs => by simp [SeqAt.noMixAll, mix_d2, mix_d2s ps qs]
theorem shaped_d2 (p : Int × Int) : SeqAt.shaped (d2 p) = true := by
  simp [d2, SeqAt.shaped, PyData.canLay0, PyData.canLayAll0, PyData.depth, PyData.depthAll]
theorem lay_d2s : ∀ ps : List (Int × Int), PyData.canLayAll0 (ps.map d2) = true ∧ PyData.depthAll (ps.map d2) ≤ 2
  | [] => by simp [PyData.canLayAll0, PyData.depthAll]
  | p :: ps => by
    have := lay_d2s ps
    simp only [List.map_cons, PyData.canLayAll0, PyData.depthAll, this.1, d2, PyData.canLay0, PyData.depth, Bool.and_self, true_and]
    omega
theorem shaped_d2s (ps : List (Int × Int)) : SeqAt.shaped (.list (ps.map d2)) = true := by
  have h := lay_d2s ps
  show (PyData.canLay0 (.list (ps.map d2)) && decide (PyData.depth (.list (ps.map d2)) ≤ 64)) = true
  rw [Bool.and_eq_true]
  refine ⟨by simp only [PyData.canLay0]; exact h.1, decide_eq_true ?_⟩
  simp only [PyData.depth]; omega

section
variable {prog : Program} {w : World} {A : Around} {E : Value → Shared → Prop} {s : Shared} {h : Heap} {tk : Nat} {K : Frag} {P : Part} {ms : List (Addr × Cel)}

theorem T2.reads (H : HS K P ms h) {v : Value} {p : Int × Int} (x : T2 P v p) : Reads h v (d2 p) [] := by
  obtain ⟨a, t, u, rfl, n, q⟩ := x
  have := ReadsAll.cons (Reads.int (h := h) p.1 t) (ReadsAll.cons (Reads.int (h := h) p.2 u) ReadsAll.nil)
  exact Reads.tuple (H.has _ _ q) rfl rfl (by simpa using this)
theorem T2.readsAll (H : HS K P ms h) : ∀ {vs : List Value} {ps : List (Int × Int)}, All2 (T2 P) vs ps → ReadsAll h vs (ps.map d2) []
  | _, _, .nil => .nil
  | _, _, .cons x r => by
    have := ReadsAll.cons (T2.reads H x) (T2.readsAll H r)
    simpa using this
theorem eq_T2 {Q : Value → Shared → Prop} {u v : Value} {p q : Int × Int} (H : HS K P ms h) (x : T2 P u p) (y : T2 P v q) (hu : A.units + 64 < cLine) (z : Q (.bool (decide (p = q))) (St s h tk)) :
    wpAny (model prog w) A (compareOp .Eq u v) Q E (St s h tk) :=
  eq_dataH_same (s := St s h tk) (x.reads H) (y.reads H) (shaped_d2 _) (shaped_d2 _) hu (mix_d2 _ _) (by rw [same_d2]; exact z)
theorem ne_T2 {Q : Value → Shared → Prop} {u v : Value} {p q : Int × Int} (H : HS K P ms h) (x : T2 P u p) (y : T2 P v q) (hu : A.units + 64 < cLine) (z : Q (.bool (!decide (p = q))) (St s h tk)) :
    wpAny (model prog w) A (compareOp .NotEq u v) Q E (St s h tk) :=
  ne_dataH_same (s := St s h tk) (x.reads H) (y.reads H) (shaped_d2 _) (shaped_d2 _) hu (mix_d2 _ _) (by rw [same_d2]; exact z)
theorem ne_T2s {Q : Value → Shared → Prop} {l m : Addr} {vs us : List Value} {ps qs : List (Int × Int)} (H : HS K P ms h) (a : LIn h l vs) (b : LIn h m us) (x : All2 (T2 P) vs ps) (y : All2 (T2 P) us qs) (hu : A.units + 64 < cLine) (z : Q (.bool (!decide (ps = qs))) (St s h tk)) :
    wpAny (model prog w) A (compareOp .NotEq (.ref l) (.ref m)) Q E (St s h tk) := by
  obtain ⟨n, a⟩ := a; obtain ⟨k, b⟩ := b
  refine ne_dataH_same (s := St s h tk) (Reads.list a rfl rfl (T2.readsAll H x)) (Reads.list b rfl rfl (T2.readsAll H y)) (shaped_d2s _) (shaped_d2s _) hu (by simp only [SeqAt.noMix]; exact mix_d2s _ _) ?_
  simp only [PySem.Spec.same]; rw [same_d2s]; exact z
end

theorem mapSeq_is {f : Array Value → Array Value} {vs us : List Value} {n : Nat} (hf : f vs.toArray = us.toArray) : (Cel.list us).Is (Obj.mapSeq f (listOf vs.toArray n)) := by
  refine ⟨if us.toArray.size == vs.toArray.size then n else n + 1, ?_⟩
  show ({ cls := .type "list", data := .seq (f vs.toArray) (if (f vs.toArray).size == vs.toArray.size then n else n + 1) } : Obj) = _
  rw [hf]
theorem ite_t {X Y : Prop} (h : X) : if true = true then X else Y := by rw [if_pos rfl]; exact h
theorem ite_f {X Y : Prop} (h : Y) : if false = true then X else Y := by rw [if_neg Bool.false_ne_true]; exact h
section
variable {prog : Program} {w : World} {A : Around} {E : Value → Shared → Prop} {s : Shared} {h : Heap} {tk : Nat} {K : Frag} {P : Part} {ms : List (Addr × Cel)} {env : Env}

theorem HS.keepAll {h' : Heap} (H : HS K P ms h) (k : ∀ b o, h.get? b = some o → h'.get? b = some o) : HS K P ms h' :=
  ⟨H.st, fun a o e => k _ _ (H.has a o e), fun p hp => let ⟨n, o, e, j⟩ := H.mu p hp; ⟨n, o, k _ _ e, j⟩, H.nd⟩
theorem HS.addM {h' : Heap} {f : Addr × Cel} {c : Cel} {o : Obj} (H : HS K P (f :: ms) h) (k : ∀ b o, h.get? b = some o → h'.get? b = some o) (e : h'.get? h.objs.size = some o) (i : c.Is o) : HS K P (f :: (h.objs.size, c) :: ms) h' := by
  have H' := H.keepAll k
  refine HS.swap ⟨H'.st, H'.has, fun p hp => ?_, by rw [List.map_cons, List.nodup_cons]; exact ⟨H.freshM, H.nd⟩⟩
  rcases List.mem_cons.mp hp with rfl | hp
  · exact ⟨H.fresh, o, e, i⟩
  · exact H'.mu p hp
theorem HS.extN {h' : Heap} (H : HS K P ms h) (k : Heap.ExtBut h.objs.size h h') : HS K P ms h' := H.but k H.fresh H.freshM

theorem e_meth {M : Model} {o e : Expr} {rest : List Expr} {name : Str} {apos pos : Pos} {f : Addr} {Q : Value → Shared → Prop} {pl : Sem Bool} (hk : keepIn K (.ref f) = true)
    (q : wpAny M A (eval o env) (fun ov s₁ => wpAny M A (getMethod ov name pl) (fun fx s₂ => ∃ x, fx = (.ref f, [.ref x]) ∧
      wpAny M A (spliced (backTo pos (starEach (e :: rest) env))) (fun vs s₃ => K.In s₃.heap ∧ wpAny M A (call (.ref f) (.ref x :: vs)) Q E s₃) E s₂) E s₁) E s)
    (hm : eval (.Call (.Attribute o name apos) (e :: rest) [] pos) env = (do
      let ov ← eval o env
      standAt apos.atName
      let (f, first) ← holding [ov] (getMethod ov name pl)
      callWith pos f first (backTo pos (starEach (e :: rest) env)) (backToKw pos (keywordEach [] env))) := by rfl)
    (he : starEach (e :: rest) env = (false, eval e env) :: starEach rest env := by rfl) (hplain : (backTo pos (starEach rest env)).any (·.1) = false := by rfl) :
    wpAny M A (eval (.Call (.Attribute o name apos) (e :: rest) [] pos) env) Q E s := by
  refine methodCall_KW (wpAny_mono q (fun ov s₁ h₁ => wpAny_mono h₁ (fun fx s₂ h₂ => ?_) fun _ _ e => e) fun _ _ e => e) hm
  obtain ⟨x, rfl, h₂⟩ := h₂
  rw [he] at h₂ ⊢
  exact callWith_of (P := K.In) (by show ((false || (backTo pos (starEach rest env)).any (·.1)) || false) = false; rw [hplain]; rfl) (keeps_K hk) (evalArgs_plain h₂)
theorem e_meth0 {M : Model} {o : Expr} {name : Str} {apos pos : Pos} {f : Addr} {Q : Value → Shared → Prop} {pl : Sem Bool} (hk : keepIn K (.ref f) = true)
    (q : wpAny M A (eval o env) (fun ov s₁ => wpAny M A (getMethod ov name pl) (fun fx s₂ => ∃ x, fx = (.ref f, [.ref x]) ∧ K.In s₂.heap ∧ wpAny M A (call (.ref f) [.ref x]) Q E s₂) E s₁) E s)
    (hm : eval (.Call (.Attribute o name apos) [] [] pos) env = (do
      let ov ← eval o env
      standAt apos.atName
      let (f, first) ← holding [ov] (getMethod ov name pl)
      callWith pos f first (backTo pos (starEach [] env)) (backToKw pos (keywordEach [] env))) := by rfl) :
    wpAny M A (eval (.Call (.Attribute o name apos) [] [] pos) env) Q E s := by
  refine methodCall_KW (wpAny_mono q (fun ov s₁ h₁ => wpAny_mono h₁ (fun fx s₂ h₂ => ?_) fun _ _ e => e) fun _ _ e => e) hm
  obtain ⟨x, rfl, X, h₂⟩ := h₂
  exact callWith_K0 X hk h₂

theorem e_append {o e : Expr} {apos pos : Pos} {Q : Value → Shared → Prop} {pl : Sem Bool}
    (q : wpAny (model prog w) A (eval o env) (fun ov s₁ => ∃ l vs₀, ov = .ref l ∧ LIn s₁.heap l vs₀ ∧ wpAny (model prog w) A (eval e env) (fun v s₂ => ∃ K h₂ tk₂ P ms i vs, s₂ = St s h₂ tk₂ ∧ HS K P ms h₂ ∧ ms[i]? = some (l, .list vs) ∧ vs.length ≤ sizeLine ∧
      ∀ h', HS K P (ms.set i (l, .list (vs ++ [v]))) h' → Q .none (St s h' tk₂)) E s₁) E (St s h tk))
    (hm : eval (.Call (.Attribute o "append" apos) [e] [] pos) env = (do
      let ov ← eval o env
      standAt apos.atName
      let (f, first) ← holding [ov] (getMethod ov "append" pl)
      callWith pos f first (backTo pos (starEach [e] env)) (backToKw pos (keywordEach [] env))) := by rfl)
    (he : starEach [e] env = [(false, eval e env)] := by rfl) :
    wpAny (model prog w) A (eval (.Call (.Attribute o "append" apos) [e] [] pos) env) Q E (St s h tk) := by
  refine methodCall_KW (wpAny_mono q (fun ov s₁ h₁ => ?_) fun _ _ e => e) hm
  obtain ⟨l, vs₀, rfl, x, q⟩ := h₁
  refine getMethod_list_of PySem.F.slot_list_append PySem.F.type_list_append x.isList x.noDict ?_
  dsimp only
  rw [he]
  refine PySem.P.append_list (wpAny_mono q (fun v s₂ h₂ => ?_) fun _ _ e => e)
  obtain ⟨K, h₂, tk₂, P, ms, i, vs, rfl, H, hi, hz, q⟩ := h₂
  obtain ⟨n, hl⟩ := H.listAt hi
  refine ⟨vs.toArray, n, by simpa using hz, hl, q _ (H.updAt hi _ fun o ho j => ?_)⟩
  obtain ⟨n', rfl⟩ := j
  exact mapSeq_is (by simp)

theorem set_item {Q : Unit → Shared → Prop} {l : Addr} {vs : List Value} {k : Nat} {t : Tok} {v : Value} {i : Nat} (H : HS K P ms h) (hi : ms[i]? = some (l, .list vs)) (hk : k < vs.length) (hz : vs.length ≤ 2 ^ 20)
    (q : ∀ h', HS K P (ms.set i (l, .list (vs.set k v))) h' → Q () (St s h' tk)) : wpAny (model prog w) A (setItem (.ref l) (.int k t) v) Q E (St s h tk) := by
  obtain ⟨n, hl⟩ := H.listAt hi
  refine ki_setAt (s := St s h tk) hl (by omega) (by omega) (by simpa using hk) (q _ (H.updAt hi _ fun o ho j => ?_))
  obtain ⟨n', rfl⟩ := j
  exact mapSeq_is (by simp)

theorem set_cut {Q : Unit → Shared → Prop} {l b sl : Addr} {vs new : List Value} {vl vu : Value} {lo hi : Option Int} {i : Nat} (H : HS K P ms h) (hi' : ms[i]? = some (l, .list vs)) (hb : LIn h b new) (hs : h.IsSliceOf sl vl vu .none) (pl : IsPart vl lo) (pu : IsPart vu hi)
    (hz : vs.length + new.length ≤ 2 ^ 20) (q : ∀ h', HS K P (ms.set i (l, .list (cutPut vs new (kms_lo lo vs.length) (kms_hi hi vs.length)))) h' → Q () (St s h' tk)) :
    wpAny (model prog w) A (setItem (.ref l) (.ref sl) (.ref b)) Q E (St s h tk) := by
  obtain ⟨n, hl⟩ := H.listAt hi'
  obtain ⟨m, hb⟩ := hb
  refine slice_store_raw (s := St s h tk) hl hb hs pl pu hz fun f hf => q _ (H.updAt hi' _ fun o ho j => ?_)
  obtain ⟨n', rfl⟩ := j
  exact mapSeq_is hf

theorem add_lists {Q : Value → Shared → Prop} {f : Addr × Cel} {l b : Addr} {vs us : List Value} (H : HS K P (f :: ms) h) (x : LIn h l vs) (y : LIn h b us) (hz : vs.length + us.length ≤ sizeLine)
    (q : ∀ a h', HS K P (f :: (a, .list (vs ++ us)) :: ms) h' → Q (.ref a) (St s h' tk)) : wpAny (model prog w) A (binaryOp .Add (.ref l) (.ref b)) Q E (St s h tk) := by
  obtain ⟨n, hl⟩ := x; obtain ⟨m, hb⟩ := y
  refine PySem.P.add_list (s := St s h tk) hl hb (q _ _ ?_) (by simpa using hz)
  exact (H.makeMut (.list (vs ++ us)) _ ⟨0, by simp⟩).swap
theorem HS.ledgerNew {L : Addr} {kn : List (Str × Value)} {h' h₀ : Heap} {m : Str → Option Value} {news : List (Addr × Obj)} {c : Cel} {o : Obj} (H : HS K P ((L, .frame kn) :: ms) h) (k : ∀ x v, kn.lookup x = some v → m x = some v)
    (al : ∀ a o, a ≠ L → h.get? a = some o → (a, o) ∈ news) (F' : Fr h₀ L h' m) (N' : News h₀ L h' ((h.objs.size, o) :: news)) (i : c.Is o) : HS K P ((L, .frame kn) :: (h.objs.size, c) :: ms) h' := by
  have keep : ∀ a o, a ≠ L → h.get? a = some o → h'.get? a = some o := fun a o ne e => (N' _ (.tail _ (al a o ne e))).1
  have pL := (H.mu _ (.head _)).1
  refine ⟨H.st, fun a x e => keep a x (fun q => by rw [q, pL] at e; cases e) (H.has a x e), fun p hp => ?_, ?_⟩
  · rcases List.mem_cons.mp hp with rfl | hp
    · obtain ⟨ob, es, ep, e1, e2, e3, e4⟩ := F'.ns
      exact ⟨pL, ob, e1, es, ep, e2, e3, fun x v e => (e4 x).trans (k x v e)⟩
    · rcases List.mem_cons.mp hp with rfl | hp
      · exact ⟨H.fresh, o, (N' _ (.head _)).1, i⟩
      · obtain ⟨n, x, e, j⟩ := H.mu p (.tail _ hp)
        exact ⟨n, x, keep _ _ (fun q => (List.nodup_cons.mp H.nd).1 (List.mem_map.mpr ⟨p, hp, q⟩)) e, j⟩
  · have nd := H.nd
    have fm := H.freshM
    rw [List.map_cons] at fm
    rw [List.map_cons, List.map_cons, List.nodup_cons, List.nodup_cons]
    have nd := List.nodup_cons.mp nd
    exact ⟨fun q => (List.mem_cons.mp q).elim (fun q => fm (q ▸ .head _)) nd.1, fun q => fm (.tail _ q), nd.2⟩
theorem mul_one {Q : Value → Shared → Prop} {L : Addr} {kn : List (Str × Value)} {l : Addr} {v : Value} {k : Nat} {t : Tok} (H : HS K P ((L, .frame kn) :: ms) h) (x : LIn h l [v]) (hz : k ≤ 2 ^ 20)
    (q : ∀ a h', HS K P ((L, .frame kn) :: (a, .list (List.replicate k v)) :: ms) h' → Q (.ref a) (St s h' tk)) : wpAny (model prog w) A (binaryOp .Mult (.ref l) (.int k t)) Q E (St s h tk) := by
  obtain ⟨n, hl⟩ := x
  obtain ⟨h₀, m, news, Fm, N, hk, al, -⟩ := H.ledger
  have e : ∀ (k : Nat) (acc : Array Value), List.foldl (fun x1 x2 : Array Value => x1 ++ x2) acc (List.replicate k #[v]) = acc ++ (List.replicate k v).toArray := by
    intro k
    induction k with
    | zero => intro acc; simp
    | succ k ih => intro acc; rw [List.replicate_succ, List.foldl_cons, ih]; apply Array.ext'; simp [List.replicate_succ]
  refine PyProof.Rows.mul_list (s := St s h tk) Fm N hl (by omega) (by omega) (by simp only [Int.toNat_natCast, List.size_toArray, List.length_singleton]; omega) fun h' F' N' => q _ _ (H.ledgerNew hk al F' N' ⟨0, ?_⟩)
  simp only [Int.toNat_natCast, List.isEmpty_toArray]
  show ({ cls := _, data := .seq (List.foldl (fun x1 x2 : Array Value => x1 ++ x2) #[] (List.replicate k #[v])) 0 } : Obj) = _
  rw [e]; simp
theorem call_range {Q : Value → Shared → Prop} {n : Int} {t : Tok} (H : HS K P ms h) (q : ∀ r h' tk' t u v, HS K P ms h' → IsRange h' r 0 n 1 t u v → Q (.ref r) (St s h' tk')) : wpAny (model prog w) A (call (.type "range") [.int n t]) Q E (St s h tk) :=
  call_range_1 (s := St s h tk) (q _ _ _ _ _ _ (H.push _) (IsRange.new ..))
theorem call_list {Q : Value → Shared → Prop} {f : Addr × Cel} {l : Addr} {vs : List Value} (H : HS K P (f :: ms) h) (x : LIn h l vs) (hz : vs.length ≤ sizeLine)
    (q : ∀ a h', HS K P (f :: (a, .list vs) :: ms) h' → Q (.ref a) (St s h' tk)) : wpAny (model prog w) A (call (.type "list") [.ref l]) Q E (St s h tk) := by
  obtain ⟨n, hl⟩ := x
  exact call_list_seq (s := St s h tk) l (.inl rfl) hl rfl rfl (fun h' c' k e => q _ h' (H.addM k e ⟨c', rfl⟩)) (by simpa using hz)
theorem call_abs {Q : Value → Shared → Prop} {n : Int} {t : Tok} (q : ∀ t tk', Q (.int (if n < 0 then -n else n) t) (St s h tk')) : wpAny (model prog w) A (call (.builtin "abs") [.int n t]) Q E (St s h tk) :=
  call_abs_int (s := St s h tk) fun u tk => q u tk
theorem e_call1t {M : Model} {s : Shared} {T : String} {x : Str} {np pos : Pos} {e : Expr} {Q : Value → Shared → Prop}
    (q : wpAny M A (eval (.Name x np) env) (fun f s₁ => f = .type T ∧ wpAny M A (eval e env) (fun v s₂ => wpAny M A (call (.type T) [v]) Q E s₂) E s₁) E s)
    (hs : starEach [e] env = [(false, eval e env)] := by rfl) : wpAny M A (eval (.Call (.Name x np) [e] [] pos) env) Q E s :=
  Call_Name1 (wpAny_mono q (fun f s₁ ⟨e, h⟩ => e ▸ callWith_type1 h) fun _ _ e => e) hs
theorem item_neg {value slice : Expr} {Q : Value → Shared → Prop} {l : Addr} {vs : List Value} {k : Int} {t : Tok} {v : Value} (x : LIn h l vs) (h0 : k < 0) (h1 : -(vs.length : Int) ≤ k) (hf : -(2 ^ 63) ≤ k) (hx : vs[(k + vs.length).toNat]? = some v) (q : Q v (St s h tk))
    (hs : subscripted slice false (.ref l) (.int k t) = operate [.ref l, .int k t] (getItem (.ref l) (.int k t)) := by with_unfolding_all rfl) :
    wpAny (model prog w) A (subscriptTail value slice (.ref l) (.int k t)) Q E (St s h tk) :=
  tail_any (s := St s h tk) x.isList.typeIs slot_list_getitem.lookup (wpAny_getItem_list_neg (s := St s h tk) x.isList h0 (by simpa using h1) hf (by simpa using hx) q) hs
end

def Ev (prog : Program) (w : World) (A : Around) (s : Shared) (env : Env) (h : Heap) (e : Expr) (R : Value → Prop) : Prop :=
  ∀ (E : Value → Shared → Prop) (tk : Nat) (Q : Value → Shared → Prop), (∀ v tk', R v → Q v (St s h tk')) → wpAny (model prog w) A (eval e env) Q E (St s h tk)
def Ts (prog : Program) (w : World) (A : Around) (s : Shared) (env : Env) (h : Heap) (e : Expr) (b : Bool) : Prop :=
  ∀ (E : Value → Shared → Prop) (tk : Nat) (Q : Bool → Shared → Prop), (∀ tk', Q b (St s h tk')) → wpAny (model prog w) A (PySem.isTrue e env (eval e env)) Q E (St s h tk)
def IsI (i : Int) (v : Value) : Prop := ∃ t, v = .int i t

section
variable {prog : Program} {w : World} {A : Around} {s : Shared} {env : Env} {h : Heap} {tk : Nat} {E : Value → Shared → Prop}

theorem Ev.use {e : Expr} {R : Value → Prop} {Q : Value → Shared → Prop} (x : Ev prog w A s env h e R) (q : ∀ v tk', R v → Q v (St s h tk')) : wpAny (model prog w) A (eval e env) Q E (St s h tk) := x E tk Q q
theorem Ev.eq {e : Expr} {u : Value} {Q : Value → Shared → Prop} (x : Ev prog w A s env h e (u = ·)) (q : ∀ tk', Q u (St s h tk')) : wpAny (model prog w) A (eval e env) Q E (St s h tk) := x E tk Q fun v tk' e => e ▸ q tk'
theorem Ev.int {e : Expr} {i : Int} {Q : Value → Shared → Prop} (x : Ev prog w A s env h e (IsI i)) (q : ∀ t tk', Q (.int i t) (St s h tk')) : wpAny (model prog w) A (eval e env) Q E (St s h tk) := x E tk Q fun v tk' ⟨t, e⟩ => e ▸ q t tk'
theorem Ev.i {e : Expr} {i : Int} {t : Tok} (x : Ev prog w A s env h e ((.int i t : Value) = ·)) : Ev prog w A s env h e (IsI i) := fun _ _ _ q => x.eq fun _ => q _ _ ⟨t, rfl⟩
theorem Ts.use {e : Expr} {b : Bool} {Q : Bool → Shared → Prop} (x : Ts prog w A s env h e b) (q : ∀ tk', Q b (St s h tk')) : wpAny (model prog w) A (PySem.isTrue e env (eval e env)) Q E (St s h tk) := x E tk Q q

section
variable {K : Frag} {P : Part} {ms : List (Addr × Cel)} {kn : List (Str × Value)} {x : Str} {pos : Pos} {v : Value}
theorem v_loc (H : HS K P ((env.locals, .frame kn) :: ms) h) (hv : kn.lookup x = some v)
    (hk : env.scope.kind = .function := by rfl) (hl : env.kindOf x = some .local := by rfl) (hd : (x == ("__debug__" : Str)) = false := by decide) : Ev prog w A s env h (.Name x pos) (v = ·) :=
  fun _ _ _ q => n_loc H hv (q _ _ rfl) hk hl hd
theorem v_glob (H : HS K P ms h) (e : nsIn K mainGlobals x = some (some v))
    (hg : env.globals = mainGlobals := by rfl) (hk : env.scope.kind = .function := by rfl) (hx : env.kindOf x = some .globalImplicit := by rfl) (hd : (x == ("__debug__" : Str)) = false := by decide) : Ev prog w A s env h (.Name x pos) (v = ·) :=
  fun _ _ _ q => n_glob H e (q _ _ rfl) hg hk hx hd
theorem v_blt (H : HS K P ms h) (e : nsIn K mainGlobals x = some none ∧ bootBuiltins x = some v ∧ x ≠ "__name__")
    (hg : env.globals = mainGlobals := by rfl) (hb : env.builtins = builtinsNs := by rfl) (hk : env.scope.kind = .function := by rfl) (hx : env.kindOf x = some .globalImplicit := by rfl) (hd : (x == ("__debug__" : Str)) = false := by decide) :
    Ev prog w A s env h (.Name x pos) (v = ·) := fun _ _ _ q => n_blt H e (q _ _ rfl) hg hb hk hx hd
theorem v_int {i : Int} {k : Nat} : Ev prog w A s env h (.Constant (.int i) k pos) (IsI i) := fun _ _ _ q => c_int fun t tk' => q _ tk' ⟨t, rfl⟩
theorem v_bool {b : Bool} {k : Nat} : Ev prog w A s env h (.Constant (.bool b) k pos) ((.bool b : Value) = ·) := fun _ _ _ q => c_bool (q _ _ rfl)
theorem v_attr {value : Expr} {name : Str} {a C dx : Addr} {attrs : List (Str × Value)} (H : HS K P ms h) (hx : PIns P a C dx) (hd : DHas h dx attrs) (o : OwnA K C name) (hn : attrs.lookup name = some v) (hv : handedIn v = true) (x : Ev prog w A s env h value ((.ref a : Value) = ·))
    (he : eval (.Attribute value name pos) env = (do
      let o ← eval value env
      standAt pos.atName
      let r ← holding [o] (getAttr o name true)
      letTemporaryGo value o r
      pure r) := by rfl) : Ev prog w A s env h (.Attribute value name pos) (v = ·) :=
  fun _ _ _ q => Attribute_any_ (x.eq fun _ => get_attr H hx hd o hn hv fun _ => q _ _ rfl) he
end

section
variable {l r : Expr} {a b : Int} {pos : Pos}
theorem v_add (x : Ev prog w A s env h l (IsI a)) (y : Ev prog w A s env h r (IsI b)) : Ev prog w A s env h (.BinOp l .Add r pos) (IsI (a + b)) := fun _ _ _ q => wpAny_BinOp (x.int fun _ _ => y.int fun _ _ => i_add fun t tk' => q _ tk' ⟨t, rfl⟩)
theorem v_sub (x : Ev prog w A s env h l (IsI a)) (y : Ev prog w A s env h r (IsI b)) : Ev prog w A s env h (.BinOp l .Sub r pos) (IsI (a - b)) := fun _ _ _ q => wpAny_BinOp (x.int fun _ _ => y.int fun _ _ => i_sub fun t tk' => q _ tk' ⟨t, rfl⟩)
theorem v_mod (hb : b ≠ 0) (x : Ev prog w A s env h l (IsI a)) (y : Ev prog w A s env h r (IsI b)) : Ev prog w A s env h (.BinOp l .Mod r pos) (IsI (a.fmod b)) := fun _ _ _ q => wpAny_BinOp (x.int fun _ _ => y.int fun _ _ => i_mod hb fun t tk' => q _ tk' ⟨t, rfl⟩)
theorem v_neg (x : Ev prog w A s env h l (IsI a)) : Ev prog w A s env h (.UnaryOp .USub l pos) (IsI (-a)) := fun _ _ _ q => wpAny_UnaryOp (x.int fun _ _ => i_neg fun t tk' => q _ tk' ⟨t, rfl⟩)
theorem t_eq (x : Ev prog w A s env h l (IsI a)) (y : Ev prog w A s env h r (IsI b)) (hm : behindInMarks .Eq r = false := by with_unfolding_all rfl) : Ts prog w A s env h (.Compare l [.Eq] [r] pos) (decide (a = b)) := fun _ _ _ q => wpAny_isTrue_Compare1 (x.int fun _ _ => y.int fun _ _ => i_eq (wpAny_truthy_bool (q _))) hm
theorem t_ne (x : Ev prog w A s env h l (IsI a)) (y : Ev prog w A s env h r (IsI b)) (hm : behindInMarks .NotEq r = false := by with_unfolding_all rfl) : Ts prog w A s env h (.Compare l [.NotEq] [r] pos) (!decide (a = b)) := fun _ _ _ q => wpAny_isTrue_Compare1 (x.int fun _ _ => y.int fun _ _ => i_ne (wpAny_truthy_bool (q _))) hm
theorem t_lt (x : Ev prog w A s env h l (IsI a)) (y : Ev prog w A s env h r (IsI b)) (hm : behindInMarks .Lt r = false := by with_unfolding_all rfl) : Ts prog w A s env h (.Compare l [.Lt] [r] pos) (decide (a < b)) := fun _ _ _ q => wpAny_isTrue_Compare1 (x.int fun _ _ => y.int fun _ _ => i_lt (wpAny_truthy_bool (q _))) hm
theorem t_le (x : Ev prog w A s env h l (IsI a)) (y : Ev prog w A s env h r (IsI b)) (hm : behindInMarks .LtE r = false := by with_unfolding_all rfl) : Ts prog w A s env h (.Compare l [.LtE] [r] pos) (decide (a ≤ b)) := fun _ _ _ q => wpAny_isTrue_Compare1 (x.int fun _ _ => y.int fun _ _ => i_le (wpAny_truthy_bool (q _))) hm
theorem t_gt (x : Ev prog w A s env h l (IsI a)) (y : Ev prog w A s env h r (IsI b)) (hm : behindInMarks .Gt r = false := by with_unfolding_all rfl) : Ts prog w A s env h (.Compare l [.Gt] [r] pos) (decide (b < a)) := fun _ _ _ q => wpAny_isTrue_Compare1 (x.int fun _ _ => y.int fun _ _ => i_gt (wpAny_truthy_bool (q _))) hm
theorem t_ge (x : Ev prog w A s env h l (IsI a)) (y : Ev prog w A s env h r (IsI b)) (hm : behindInMarks .GtE r = false := by with_unfolding_all rfl) : Ts prog w A s env h (.Compare l [.GtE] [r] pos) (decide (b ≤ a)) := fun _ _ _ q => wpAny_isTrue_Compare1 (x.int fun _ _ => y.int fun _ _ => i_ge (wpAny_truthy_bool (q _))) hm
end

section
variable {x y : Expr} {a b : Bool} {pos : Pos}
theorem t_and (p : Ts prog w A s env h x a) (q : a = true → Ts prog w A s env h y b) : Ts prog w A s env h (.BoolOp .And [x, y] pos) (a && b) := fun E tk Q z =>
  wpAny_isTrue_BoolOp (wpAny_allTrue_And_cons (p.use fun tk' => ite_cases (fun e => wpAny_allTrue_And_cons ((q e).use fun tk' => ite_cases (fun e' => wpAny_allTrue_And_nil (by have := z tk'; rwa [e, e'] at this)) fun e' => by have := z tk'; rwa [e, e'] at this)) fun e => by have := z tk'; rwa [e, Bool.false_and] at this))
theorem t_or (p : Ts prog w A s env h x a) (q : a = false → Ts prog w A s env h y b) : Ts prog w A s env h (.BoolOp .Or [x, y] pos) (a || b) := fun E tk Q z =>
  wpAny_isTrue_BoolOp (wpAny_allTrue_Or_cons (p.use fun tk' => ite_cases (fun e => by have := z tk'; rwa [e, Bool.true_or] at this) fun e => wpAny_allTrue_Or_cons ((q e).use fun tk' => ite_cases (fun e' => by have := z tk'; rwa [e, e'] at this) fun e' => wpAny_allTrue_Or_nil (by have := z tk'; rwa [e, e'] at this))))
theorem t_not (p : Ts prog w A s env h x a) : Ts prog w A s env h (.UnaryOp .Not x pos) (!a) := fun _ _ _ z => wpAny_isTrue_Not (p.use fun tk' => z tk')
theorem t_val (p : Ev prog w A s env h x ((.bool a : Value) = ·)) (he : ∀ whole, PySem.isTrue x env whole = (do let v ← whole; standAt x.pos; holding [v] (truthy v)) := by intro _; rfl) : Ts prog w A s env h x a := fun _ _ _ z =>
  wpAny_isTrue_value (p.eq fun tk' => wpAny_truthy_bool (z tk')) (he _)
theorem v_if {test u v : Expr} {R : Value → Prop} (p : Ts prog w A s env h test a) (q : a = true → Ev prog w A s env h u R) (r : a = false → Ev prog w A s env h v R) : Ev prog w A s env h (.IfExp test u v pos) R := fun _ _ _ z =>
  wpAny_IfExp (p.use fun _ => ite_cases (fun e => (q e).use z) fun e => (r e).use z)
end

section
variable {K : Frag} {P : Part} {ms : List (Addr × Cel)} {value i e : Expr} {pos np : Pos} {l : Addr} {vs : List Value} {v : Value} {k : Int}
theorem v_item (x : LIn h l vs) (p : Ev prog w A s env h value ((.ref l : Value) = ·)) (q : Ev prog w A s env h i (IsI k)) (h0 : 0 ≤ k) (h1 : k < 2 ^ 63) (hx : vs[k.toNat]? = some v)
    (hs : ∀ t, subscripted i false (.ref l) (.int k t) = operate [.ref l, .int k t] (getItem (.ref l) (.int k t)) := by intro _; with_unfolding_all rfl) : Ev prog w A s env h (.Subscript value i pos) (v = ·) :=
  fun _ _ _ z => Subscript_ (p.eq fun _ => q.int fun _ _ => item_list x h0 h1 hx (z _ _ rfl) (hs _))
theorem v_last (x : LIn h l vs) (p : Ev prog w A s env h value ((.ref l : Value) = ·)) (q : Ev prog w A s env h i (IsI k)) (h0 : k < 0) (h1 : -(vs.length : Int) ≤ k) (hf : -(2 ^ 63) ≤ k) (hx : vs[(k + vs.length).toNat]? = some v)
    (hs : ∀ t, subscripted i false (.ref l) (.int k t) = operate [.ref l, .int k t] (getItem (.ref l) (.int k t)) := by intro _; with_unfolding_all rfl) : Ev prog w A s env h (.Subscript value i pos) (v = ·) :=
  fun _ _ _ z => Subscript_ (p.eq fun _ => q.int fun _ _ => item_neg x h0 h1 hf hx (z _ _ rfl) (hs _))
theorem v_titem {j : Nat} (H : HS K P ms h) (x : PTup P l vs) (p : Ev prog w A s env h value ((.ref l : Value) = ·)) (q : Ev prog w A s env h i (IsI k)) (h0 : -(2 ^ 63) ≤ k) (h1 : k < 2 ^ 63) (hj : seqIndex? k vs.length = some j) (hx : vs[j]? = some v)
    (hs : ∀ t, subscripted i false (.ref l) (.int k t) = operate [.ref l, .int k t] (getItem (.ref l) (.int k t)) := by intro _; with_unfolding_all rfl) : Ev prog w A s env h (.Subscript value i pos) (v = ·) :=
  fun _ _ _ z => Subscript_ (p.eq fun _ => q.int fun _ _ => item_tup (x.isTup H) h0 h1 hj hx (z _ _ rfl) (hs _))
theorem v_pair0 {u : Value} {p : Int × Int} {k' : Nat} {ip : Pos} (H : HS K P ms h) (x : T2 P u p) (q : Ev prog w A s env h value (u = ·)) : Ev prog w A s env h (.Subscript value (.Constant (.int 0) k' ip) pos) (IsI p.1) := by
  obtain ⟨a, t1, t2, rfl, y⟩ := x
  exact (v_titem (i := .Constant (.int 0) k' ip) H y q v_int (by decide) (by decide) rfl rfl).i
theorem v_pair1 {u : Value} {p : Int × Int} {k' : Nat} {ip : Pos} (H : HS K P ms h) (x : T2 P u p) (q : Ev prog w A s env h value (u = ·)) : Ev prog w A s env h (.Subscript value (.Constant (.int 1) k' ip) pos) (IsI p.2) := by
  obtain ⟨a, t1, t2, rfl, y⟩ := x
  exact (v_titem (i := .Constant (.int 1) k' ip) H y q v_int (by decide) (by decide) rfl rfl).i
theorem v_len {x : Str} (f : Ev prog w A s env h (.Name x np) ((.builtin "len" : Value) = ·)) (p : Ev prog w A s env h e ((.ref l : Value) = ·)) (y : LIn h l vs) (hz : vs.length ≤ sizeLine) (hs : starEach [e] env = [(false, eval e env)] := by rfl) :
    Ev prog w A s env h (.Call (.Name x np) [e] [] pos) (IsI vs.length) := fun _ _ _ z => e_call1b (f.eq fun _ => ⟨rfl, p.eq fun _ => len_list y hz fun t tk' => z _ tk' ⟨t, rfl⟩⟩) hs
end

def EvL (prog : Program) (w : World) (A : Around) (s : Shared) (env : Env) (h : Heap) (es : List Expr) (R : List Value → Prop) : Prop :=
  ∀ (pos : Pos) (E : Value → Shared → Prop) (tk : Nat) (Q : List Value → Shared → Prop), (∀ vs tk', R vs → Q vs (St s h tk')) → wpAny (model prog w) A (spliced (backTo pos (starEach es env))) Q E (St s h tk)
def Rl : List (Value → Prop) → List Value → Prop
  | [], [] => True
  | R :: Rs, v :: vs => R v ∧ Rl Rs vs
  | _, _ => False
theorem l_nil : EvL prog w A s env h [] (Rl []) := fun _ _ _ _ q => wpAny_items_nil (q _ _ trivial)
theorem l_cons {e : Expr} {es : List Expr} {R : Value → Prop} {Rs : List (Value → Prop)} (x : Ev prog w A s env h e R) (y : EvL prog w A s env h es (Rl Rs)) (hs : starEach (e :: es) env = (false, eval e env) :: starEach es env := by rfl) : EvL prog w A s env h (e :: es) (Rl (R :: Rs)) :=
  fun pos _ _ _ q => wpAny_items_cons (x.use fun v _ r => y pos _ _ _ fun vs tk' rs => q (v :: vs) tk' ⟨r, rs⟩) hs
theorem EvL.use {es : List Expr} {R : List Value → Prop} {pos : Pos} {Q : List Value → Shared → Prop} (x : EvL prog w A s env h es R) (q : ∀ vs tk', R vs → Q vs (St s h tk')) : wpAny (model prog w) A (spliced (backTo pos (starEach es env))) Q E (St s h tk) := x pos E tk Q q

theorem x_if {test : Expr} {body orelse : List Stmt} {pos : Pos} {b : Bool} {Q : Flow → Shared → Prop} (p : Ts prog w A s env h test b)
    (q : b = true → ∀ tk', wpAny (model prog w) A (execs body env) Q E (St s h tk')) (r : b = false → ∀ tk', wpAny (model prog w) A (execs orelse env) Q E (St s h tk')) :
    wpAny (model prog w) A (exec (.If test body orelse pos) env) Q E (St s h tk) := wpAny_If (p.use fun tk' => ite_cases (fun e => q e tk') fun e => r e tk')
theorem x_ret {e : Expr} {pos : Pos} {R : Value → Prop} {Q : Flow → Shared → Prop} (p : Ev prog w A s env h e R) (q : ∀ v tk', R v → Q (.ret v) (St s h tk')) : wpAny (model prog w) A (exec (.Return (some e) pos) env) Q E (St s h tk) := wpAny_Return_some (p.use q)
theorem x_set {K : Frag} {P : Part} {ms : List (Addr × Cel)} {kn : List (Str × Value)} {e : Expr} {x : Str} {pos' pos : Pos} {R : Value → Prop} {Q : Flow → Shared → Prop} (H : HS K P ((env.locals, .frame kn) :: ms) h) (p : Ev prog w A s env h e R)
    (q : ∀ v h' tk', R v → HS K P ((env.locals, .frame ((x, v) :: kn)) :: ms) h' → Q .next (St s h' tk'))
    (hk : env.scope.kind = .function := by rfl) (hl : env.kindOf x = some .local := by rfl) (hs : swapsWith e (some (.Name x pos')) pos.line env = pure false := by rfl) : wpAny (model prog w) A (exec (.Assign [.Name x pos'] e pos) env) Q E (St s h tk) :=
  wpAny_Assign_Name (p.use fun v _ r => sto H (fun h' tk' H' => q v h' tk' r H') hk hl) hs
theorem x_attr {K : Frag} {P : Part} {ms : List (Addr × Cel)} {L : Addr} {kf : List (Str × Value)} {o e : Expr} {name : Str} {pos' pos : Pos} {R : Value → Prop} {Q : Flow → Shared → Prop} {a C dx : Addr} {attrs : List (Str × Value)} (i : Nat) (H : HS K P ((L, .frame kf) :: ms) h) (hx : PIns P a C dx) (hi : ((L, Cel.frame kf) :: ms)[i]? = some (dx, .inst attrs)) (oo : SetA K C name) (hz : attrs.length ≤ 900)
    (p : Ev prog w A s env h e R) (po : Ev prog w A s env h o ((.ref a : Value) = ·))
    (q : ∀ v h' tk', R v → HS K P (((L, Cel.frame kf) :: ms).set i (dx, .inst (putA name v attrs))) h' → Q .next (St s h' tk'))
    (hs : swapsWith e (some (.Attribute o name pos')) pos.line env = pure false := by rfl) : wpAny (model prog w) A (exec (.Assign [.Attribute o name pos'] e pos) env) Q E (St s h tk) :=
  plainObj_wpAny_Assign_Attribute (p.use fun v _ r => po.eq fun _ => set_attr H hx hi oo hz fun h' tk' H' => q v h' tk' r H') hs
theorem v_tup {K : Frag} {P : Part} {ms : List (Addr × Cel)} {es : List Expr} {k : Nat} {pos : Pos} {R : List Value → Prop} {Q : Value → Shared → Prop} (H : HS K P ms h) (hz : es.length ≤ 100) (p : EvL prog w A s env h es R) (hl : ∀ vs, R vs → vs.length = es.length)
    (q : ∀ vs a h' P' tk', R vs → Le P P' → PTup P' a vs → HS K P' ms h' → Q (.ref a) (St s h' tk')) : wpAny (model prog w) A (eval (.Tuple es k pos) env) Q E (St s h tk) :=
  Tuple_ (p.use fun vs tk' r => new_tup H (by rw [hl vs r, sizeLine_eq]; omega) fun a h' P' le pt H' => q vs a h' P' tk' r le pt H')
theorem Rl.length : ∀ {Rs : List (Value → Prop)} {vs : List Value}, Rl Rs vs → vs.length = Rs.length
  | [], [], _ => rfl
  | _ :: _, _ :: _, ⟨_, r⟩ => congrArg (· + 1) r.length
theorem x_app3 {K : Frag} {P : Part} {ms : List (Addr × Cel)} {o e₁ e₂ e₃ : Expr} {k : Nat} {tp apos pos pos' : Pos} {Q : Flow → Shared → Prop} {pl : Sem Bool} {l : Addr} {vs : List Value} {a b c : Int} (i : Nat) (H : HS K P ms h) (hi : ms[i]? = some (l, .list vs)) (hz : vs.length ≤ 2 ^ 20)
    (po : Ev prog w A s env h o ((.ref l : Value) = ·)) (p₁ : Ev prog w A s env h e₁ (IsI a)) (p₂ : Ev prog w A s env h e₂ (IsI b)) (p₃ : Ev prog w A s env h e₃ (IsI c))
    (q : ∀ v h' P' tk', Le P P' → T3 P' v (a, b, c) → HS K P' (ms.set i (l, .list (vs ++ [v]))) h' → Q .next (St s h' tk'))
    (hm : eval (.Call (.Attribute o "append" apos) [.Tuple [e₁, e₂, e₃] k tp] [] pos) env = (do
      let ov ← eval o env
      standAt apos.atName
      let (f, first) ← holding [ov] (getMethod ov "append" pl)
      callWith pos f first (backTo pos (starEach [.Tuple [e₁, e₂, e₃] k tp] env)) (backToKw pos (keywordEach [] env))) := by rfl)
    (h1 : starEach (e₁ :: [e₂, e₃]) env = (false, eval e₁ env) :: starEach [e₂, e₃] env := by rfl) (h2 : starEach (e₂ :: [e₃]) env = (false, eval e₂ env) :: starEach [e₃] env := by rfl) (h3 : starEach (e₃ :: []) env = (false, eval e₃ env) :: starEach [] env := by rfl)
    (hin : interactive env = false := by rfl) (hsw : swapsWith (.Call (.Attribute o "append" apos) [.Tuple [e₁, e₂, e₃] k tp] [] pos) none pos'.line env = pure false := by rfl) :
    wpAny (model prog w) A (exec (.Expr (.Call (.Attribute o "append" apos) [.Tuple [e₁, e₂, e₃] k tp] [] pos) pos') env) Q E (St s h tk) := by
  refine wpAny_Expr_any (e_append (po.eq fun _ => ⟨l, vs, rfl, LIn.mem H (List.mem_of_getElem? hi), v_tup H (Nat.le_of_ble_eq_true rfl) (l_cons p₁ (l_cons p₂ (l_cons p₃ l_nil h3) h2) h1) (fun vs r => r.length) fun us ta h' P' tk' r le pt H' => ?_⟩) hm rfl) hin hsw
  obtain ⟨v₁, v₂, v₃, rfl⟩ : ∃ v₁ v₂ v₃, us = [v₁, v₂, v₃] := by
    rcases us with _ | ⟨v₁, _ | ⟨v₂, _ | ⟨v₃, _ | ⟨v₄, us⟩⟩⟩⟩ <;> first | exact ⟨_, _, _, rfl⟩ | simp [Rl] at r
  obtain ⟨⟨t1, rfl⟩, ⟨t2, rfl⟩, ⟨t3, rfl⟩, _⟩ := r
  exact ⟨K, _, _, P', ms, i, vs, rfl, H', hi, by rw [sizeLine_eq]; omega, fun h'' H'' => q _ _ _ _ le ⟨ta, t1, t2, t3, rfl, pt⟩ H''⟩
end

section
variable {prog : Program} {w : World} {A : Around} {s : Shared} {env : Env} {h : Heap} {tk : Nat} {E : Value → Shared → Prop} {K : Frag} {P : Part} {ms ex rest : List (Addr × Cel)} {kn : List (Str × Value)}

theorem le_none {P P' : Part} {a : Addr} (le : Le P P') (n : P' a = none) : P a = none := by
  cases e : P a with
  | none => rfl
  | some o => rw [le _ _ e] at n; cases n
theorem HS.unle {P P' : Part} (H : HS K P' ms h) (le : Le P P') (st : Stat K P) : HS K P ms h :=
  ⟨st, fun a o e => H.has a o (le a o e), fun p hp => ⟨le_none le (H.mu p hp).1, (H.mu p hp).2⟩, H.nd⟩

theorem Knows.here {kn : List (Str × Value)} {l : List (Str × Value)} (k : Knows kn l) (H : HS K P ((env.locals, .frame kn) :: ms) h) : HS K P ((env.locals, .frame l) :: ms) h := H.names k

theorem m_nil : EvL prog w A s env h [] (([] : List Value) = ·) := fun _ _ _ _ q => wpAny_items_nil (q _ _ rfl)
theorem m_cons {e : Expr} {es : List Expr} {u : Value} {us : List Value} (x : Ev prog w A s env h e (u = ·)) (y : EvL prog w A s env h es (us = ·)) (hs : starEach (e :: es) env = (false, eval e env) :: starEach es env := by rfl) : EvL prog w A s env h (e :: es) ((u :: us) = ·) :=
  fun pos _ _ _ q => wpAny_items_cons (x.eq fun _ => y pos _ _ _ fun vs tk' rs => q (u :: vs) tk' (by rw [rs])) hs
theorem e_callM {x : Str} {np pos : Pos} {e : Expr} {es : List Expr} {us : List Value} {f : Addr} {Q : Value → Shared → Prop} (hk : keepIn K (.ref f) = true) (H : HS K P ms h)
    (pf : Ev prog w A s env h (.Name x np) ((.ref f : Value) = ·)) (p : EvL prog w A s env h (e :: es) (us = ·)) (q : ∀ tk', wpAny (model prog w) A (call (.ref f) us) Q E (St s h tk'))
    (he : starEach (e :: es) env = (false, eval e env) :: starEach es env := by rfl) (hplain : (backTo pos (starEach es env)).any (·.1) = false := by rfl) :
    wpAny (model prog w) A (eval (.Call (.Name x np) (e :: es) [] pos) env) Q E (St s h tk) :=
  e_call hk (pf.eq fun _ => ⟨rfl, p.use fun vs tk' r => ⟨H.kin, r ▸ q tk'⟩⟩) he hplain
theorem x_for {x : Str} {px : Pos} {iter : Expr} {body : List Stmt} {pos : Pos} {Q : Flow → Shared → Prop} {l : Addr} {vs : List Value} (J : Nat → Jt) (hh : A.handled = none)
    (H : HS K P ((env.locals, .frame kn) :: (ex ++ rest)) h) (hl : PLst P l vs) (p : Ev prog w A s env h iter ((.ref l : Value) = ·)) (j : J 0 P kn ex)
    (turn : ∀ i v P' kn' ex' rest' h' tk' E' QT, TEnd K P' s env.locals rest' rest Q (J (i + 1)) QT → vs[i]? = some v → Le P P' → J i P' kn' ex' → HS K P' ((env.locals, .frame ((x, v) :: kn')) :: (ex' ++ rest')) h' →
      wpAny (model prog w) A (execs body env) QT E' (St s h' tk'))
    (done : ∀ P' kn' ex' h' tk', Le P P' → J vs.length P' kn' ex' → HS K P' ((env.locals, .frame kn') :: (ex' ++ rest)) h' → Q .next (St s h' tk'))
    (hk : env.scope.kind = .function := by rfl) (hx : env.kindOf x = some .local := by rfl) (hs : ∀ x, foldedSetIterable iter env x = pure x := by intro _; rfl) :
    wpAny (model prog w) A (exec (.For (.Name x px) iter body [] pos) env) Q E (St s h tk) :=
  wpAny_For (p.eq fun _ => loop_list J hh H hl j (fun _ _ _ _ _ _ _ q => wpAny_pure q) (fun i v P' kn' ex' rest' h' tk' E' QT fin hv le j' H' => asg_name H' (fun h'' tk'' H'' => turn i v P' kn' ex' rest' h'' tk'' E' QT fin hv le j' H'') hk hx) done) hs
theorem e_callL {x : Str} {np pos : Pos} {e : Expr} {es : List Expr} {R : List Value → Prop} {f : Addr} {Q : Value → Shared → Prop} (hk : keepIn K (.ref f) = true) (H : HS K P ms h)
    (pf : Ev prog w A s env h (.Name x np) ((.ref f : Value) = ·)) (p : EvL prog w A s env h (e :: es) R) (q : ∀ vs tk', R vs → wpAny (model prog w) A (call (.ref f) vs) Q E (St s h tk'))
    (he : starEach (e :: es) env = (false, eval e env) :: starEach es env := by rfl) (hplain : (backTo pos (starEach es env)).any (·.1) = false := by rfl) :
    wpAny (model prog w) A (eval (.Call (.Name x np) (e :: es) [] pos) env) Q E (St s h tk) :=
  e_call hk (pf.eq fun _ => ⟨rfl, p.use fun vs tk' r => ⟨H.kin, q vs tk' r⟩⟩) he hplain
theorem e_methL0 {o : Expr} {name : Str} {apos pos : Pos} {f x C dx : Addr} {attrs : List (Str × Value)} {Q : Value → Shared → Prop} {pl : Sem Bool} (H : HS K P ms h) (hx : PIns P x C dx) (hd : DHas h dx attrs) (m : MetA K C name f) (hn : attrs.lookup name = none)
    (po : Ev prog w A s env h o ((.ref x : Value) = ·)) (q : ∀ tk', wpAny (model prog w) A (call (.ref f) [.ref x]) Q E (St s h tk'))
    (hm : eval (.Call (.Attribute o name apos) [] [] pos) env = (do
      let ov ← eval o env
      standAt apos.atName
      let (f, first) ← holding [ov] (getMethod ov name pl)
      callWith pos f first (backTo pos (starEach [] env)) (backToKw pos (keywordEach [] env))) := by rfl) :
    wpAny (model prog w) A (eval (.Call (.Attribute o name apos) [] [] pos) env) Q E (St s h tk) :=
  e_meth0 m.k (po.eq fun tk' => get_meth H hx hd m hn ⟨x, rfl, H.kin, q tk'⟩) hm
theorem e_methL {o e : Expr} {es : List Expr} {name : Str} {apos pos : Pos} {f x C dx : Addr} {attrs : List (Str × Value)} {Q : Value → Shared → Prop} {pl : Sem Bool} (H : HS K P ms h) (hx : PIns P x C dx) (hd : DHas h dx attrs) (m : MetA K C name f) (hn : attrs.lookup name = none)
    (po : Ev prog w A s env h o ((.ref x : Value) = ·)) (q : ∀ tk', wpAny (model prog w) A (spliced (backTo pos (starEach (e :: es) env))) (fun vs s₃ => K.In s₃.heap ∧ wpAny (model prog w) A (call (.ref f) (.ref x :: vs)) Q E s₃) E (St s h tk'))
    (hm : eval (.Call (.Attribute o name apos) (e :: es) [] pos) env = (do
      let ov ← eval o env
      standAt apos.atName
      let (f, first) ← holding [ov] (getMethod ov name pl)
      callWith pos f first (backTo pos (starEach (e :: es) env)) (backToKw pos (keywordEach [] env))) := by rfl)
    (he : starEach (e :: es) env = (false, eval e env) :: starEach es env := by rfl) (hplain : (backTo pos (starEach es env)).any (·.1) = false := by rfl) :
    wpAny (model prog w) A (eval (.Call (.Attribute o name apos) (e :: es) [] pos) env) Q E (St s h tk) :=
  e_meth m.k (po.eq fun tk' => get_meth H hx hd m hn ⟨x, rfl, q tk'⟩) hm he hplain

theorem unp {ta : Addr} {vs : List Value} {n : Nat} {Q : List Value → Shared → Prop} (hh : A.handled = none) (H : HS K P ms h) (x : PTup P ta vs) (hn : n = vs.length) (q : ∀ h', HS K P ms h' → Q vs (St s h' tk)) :
    wpAny (model prog w) A (unpackItems (.ref ta) n none) Q E (St s h tk) := by
  subst hn
  exact unpackItems_tuple (s := St s h tk) (items := vs.toArray) hh (x.isTup H) fun h' e => q h' (H.extN e)
theorem x_swap2 {a b : Str} {pa pb tp vp pos : Pos} {k k' : Nat} {e₁ e₂ : Expr} {R₁ R₂ : Value → Prop} {Q : Flow → Shared → Prop} (hh : A.handled = none) (H : HS K P ((env.locals, .frame kn) :: ms) h) (p₁ : Ev prog w A s env h e₁ R₁) (p₂ : Ev prog w A s env h e₂ R₂)
    (q : ∀ v₁ v₂ h' tk', R₁ v₁ → R₂ v₂ → HS K P ((env.locals, .frame ((a, v₁) :: (b, v₂) :: kn)) :: ms) h' → Q .next (St s h' tk'))
    (h1 : starEach (e₁ :: [e₂]) env = (false, eval e₁ env) :: starEach [e₂] env := by rfl) (h2 : starEach (e₂ :: []) env = (false, eval e₂ env) :: starEach [] env := by rfl)
    (hs : swapsWithSole [.Tuple [.Name a pa, .Name b pb] k tp] (.Tuple [e₁, e₂] k' vp) pos.line env = pure false := by rfl)
    (hw : swappedStores [.Tuple [.Name a pa, .Name b pb] k tp] (.Tuple [e₁, e₂] k' vp) env = pure (some [a, b]) := by rfl)
    (hk : env.scope.kind = .function := by rfl) (ha : env.kindOf a = some .local := by rfl) (hb : env.kindOf b = some .local := by rfl) :
    wpAny (model prog w) A (exec (.Assign [.Tuple [.Name a pa, .Name b pb] k tp] (.Tuple [e₁, e₂] k' vp) pos) env) Q E (St s h tk) := by
  refine Assign_Tuple_swapped (v_tup H (Nat.le_of_ble_eq_true rfl) (l_cons p₁ (l_cons p₂ l_nil h2) h1) (fun vs r => r.length) fun vs ta h' P' tk' r le pt H' => ?_) hs hw
  obtain ⟨v₁, v₂, rfl⟩ : ∃ v₁ v₂, vs = [v₁, v₂] := by
    rcases vs with _ | ⟨v₁, _ | ⟨v₂, _ | ⟨v₃, us⟩⟩⟩ <;> first | exact ⟨_, _, rfl⟩ | simp [Rl] at r
  refine unp hh H' pt rfl fun h₂ H₂ => ?_
  have H₂ := H₂.unle le H.st
  show wpAny _ _ (do holding [v₁] (bindName env b v₂); assignInOrder [fun v => bindName env a v] [v₁]) _ _ _
  refine wpAny_bind (wpAny_holding (wpAny_bindName (sto H₂ (fun h₃ tk₃ H₃ => ?_) hk hb)))
  show wpAny _ _ (do holding [] (bindName env a v₁); assignInOrder [] []) _ _ _
  refine wpAny_bind (wpAny_holding (wpAny_bindName (sto H₃ (fun h₄ tk₄ H₄ => wpAny_pure (q v₁ v₂ h₄ tk₄ r.1 r.2.1 H₄)) hk ha)))

theorem v_tup2 {e₁ e₂ : Expr} {k : Nat} {pos : Pos} {a b : Int} {Q : Value → Shared → Prop} (H : HS K P ms h) (p₁ : Ev prog w A s env h e₁ (IsI a)) (p₂ : Ev prog w A s env h e₂ (IsI b))
    (q : ∀ v h' P' tk', Le P P' → T2 P' v (a, b) → HS K P' ms h' → Q v (St s h' tk'))
    (h1 : starEach (e₁ :: [e₂]) env = (false, eval e₁ env) :: starEach [e₂] env := by rfl) (h2 : starEach (e₂ :: []) env = (false, eval e₂ env) :: starEach [] env := by rfl) :
    wpAny (model prog w) A (eval (.Tuple [e₁, e₂] k pos) env) Q E (St s h tk) := by
  refine v_tup H (Nat.le_of_ble_eq_true rfl) (l_cons p₁ (l_cons p₂ l_nil h2) h1) (fun vs r => r.length) fun vs ta h' P' tk' r le pt H' => ?_
  obtain ⟨v₁, v₂, rfl⟩ : ∃ v₁ v₂, vs = [v₁, v₂] := by
    rcases vs with _ | ⟨v₁, _ | ⟨v₂, _ | ⟨v₃, us⟩⟩⟩ <;> first | exact ⟨_, _, rfl⟩ | simp [Rl] at r
  obtain ⟨⟨t1, rfl⟩, ⟨t2, rfl⟩, _⟩ := r
  exact q _ _ _ _ le ⟨ta, t1, t2, rfl, pt⟩ H'
theorem v_iitem {value i : Expr} {pos : Pos} {l : Addr} {vs : List Value} {ns : List Int} {k : Nat} {n : Int} (x : LIn h l vs) (hi : IntsAre vs ns) (p : Ev prog w A s env h value ((.ref l : Value) = ·)) (q : Ev prog w A s env h i (IsI k)) (hz : ns.length ≤ 2 ^ 20) (hx : ns[k]? = some n)
    (hs : ∀ t, subscripted i false (.ref l) (.int k t) = operate [.ref l, .int k t] (getItem (.ref l) (.int k t)) := by intro _; with_unfolding_all rfl) : Ev prog w A s env h (.Subscript value i pos) (IsI n) := by
  obtain ⟨t, e⟩ := hi.get k n hx
  have : k < ns.length := (List.getElem?_eq_some_iff.mp hx).1
  exact (v_item x p q (by omega) (by omega) (by simpa using e) hs).i
theorem t_in {l r : Expr} {pos : Pos} {q : Addr} {vs : List Value} {ns : List Int} {k : Int} (x : LIn h q vs) (i : IntsAre vs ns) (p : Ev prog w A s env h l (IsI k)) (p' : Ev prog w A s env h r ((.ref q : Value) = ·)) (hm : behindInMarks .In r = false := by with_unfolding_all rfl) :
    Ts prog w A s env h (.Compare l [.In] [r] pos) (ns.any (· == k)) := fun _ _ _ z => wpAny_isTrue_Compare1 (p.int fun _ _ => p'.eq fun _ => in_ints x i (wpAny_truthy_bool (z _))) hm
theorem x_attr2 {o e₁ e₂ : Expr} {name : Str} {k : Nat} {tp pos' pos : Pos} {Q : Flow → Shared → Prop} {a C dx : Addr} {attrs : List (Str × Value)} {x y : Int} {L : Addr} {kf : List (Str × Value)} (i : Nat) (H : HS K P ((L, .frame kf) :: ms) h) (hx : PIns P a C dx) (hi : ((L, Cel.frame kf) :: ms)[i]? = some (dx, .inst attrs)) (oo : SetA K C name) (hz : attrs.length ≤ 900)
    (p₁ : Ev prog w A s env h e₁ (IsI x)) (p₂ : Ev prog w A s env h e₂ (IsI y)) (po : ∀ h' P', Le P P' → HS K P' ((L, .frame kf) :: ms) h' → Ev prog w A s env h' o ((.ref a : Value) = ·))
    (q : ∀ v h' P' tk', Le P P' → T2 P' v (x, y) → HS K P' (((L, Cel.frame kf) :: ms).set i (dx, .inst (putA name v attrs))) h' → Q .next (St s h' tk'))
    (hs : swapsWith (.Tuple [e₁, e₂] k tp) (some (.Attribute o name pos')) pos.line env = pure false := by rfl)
    (h1 : starEach (e₁ :: [e₂]) env = (false, eval e₁ env) :: starEach [e₂] env := by rfl) (h2 : starEach (e₂ :: []) env = (false, eval e₂ env) :: starEach [] env := by rfl) :
    wpAny (model prog w) A (exec (.Assign [.Attribute o name pos'] (.Tuple [e₁, e₂] k tp) pos) env) Q E (St s h tk) :=
  plainObj_wpAny_Assign_Attribute (v_tup2 H p₁ p₂ (fun v h' P' tk' le T H' => (po h' P' le H').eq fun _ => set_attr H' (hx.le le) hi oo hz fun h'' tk'' H'' => q v h'' P' tk'' le T H'') h1 h2) hs
theorem m_tup2 {e₁ e₂ : Expr} {k : Nat} {tp pos : Pos} {x y : Int} {Q : List Value → Shared → Prop} (H : HS K P ms h) (p₁ : Ev prog w A s env h e₁ (IsI x)) (p₂ : Ev prog w A s env h e₂ (IsI y))
    (q : ∀ v h' P' tk', Le P P' → T2 P' v (x, y) → HS K P' ms h' → Q [v] (St s h' tk'))
    (hs : starEach [.Tuple [e₁, e₂] k tp] env = (false, eval (.Tuple [e₁, e₂] k tp) env) :: starEach [] env := by rfl)
    (h1 : starEach (e₁ :: [e₂]) env = (false, eval e₁ env) :: starEach [e₂] env := by rfl) (h2 : starEach (e₂ :: []) env = (false, eval e₂ env) :: starEach [] env := by rfl) :
    wpAny (model prog w) A (spliced (backTo pos (starEach [.Tuple [e₁, e₂] k tp] env))) Q E (St s h tk) :=
  wpAny_items_cons (v_tup2 H p₁ p₂ (fun v h' P' tk' le T H' => wpAny_items_nil (q v h' P' tk' le T H')) h1 h2) hs
end

set_option maxRecDepth 100000 in
set_option maxHeartbeats 8000000 in
open_top hd for PySem.Challenge.rw_np0025_01

theorem fill0 : PySem.Challenge.rw_np0025_01 = PySem.Challenge.rw_np0025_01 ∧ hd.heap_39 = hd.heap_39 := by k_fill; exact ⟨rfl, rfl⟩
section
variable (P : Params)
theorem g_CODE : nsIn (hd.heap_39 P) mainGlobals "CODE" = some (some (.int 0 196)) := by k_is
theorem g_STRING : nsIn (hd.heap_39 P) mainGlobals "STRING" = some (some (.int 1 198)) := by k_is
theorem g_COMMENT : nsIn (hd.heap_39 P) mainGlobals "COMMENT" = some (some (.int 2 200)) := by k_is
theorem g_Signs : nsIn (hd.heap_39 P) mainGlobals "Signs" = some (some (.ref 38)) := by k_is
theorem g_stands_at : nsIn (hd.heap_39 P) mainGlobals "stands_at" = some (some (.ref 49)) := by k_is
theorem g_is_line_comment : nsIn (hd.heap_39 P) mainGlobals "is_line_comment" = some (some (.ref 56)) := by k_is
theorem g_Scan : nsIn (hd.heap_39 P) mainGlobals "Scan" = some (some (.ref 115)) := by k_is
theorem g_scanned : nsIn (hd.heap_39 P) mainGlobals "scanned" = some (some (.ref 126)) := by k_is
theorem g_LineStates : nsIn (hd.heap_39 P) mainGlobals "LineStates" = some (some (.ref 157)) := by k_is
theorem g_draw : nsIn (hd.heap_39 P) mainGlobals "_law_draw" = some (some (.ref 168)) := by k_is
theorem g_line : nsIn (hd.heap_39 P) mainGlobals "_law_line" = some (some (.ref 175)) := by k_is
theorem g_walk : nsIn (hd.heap_39 P) mainGlobals "_law_walk" = some (some (.ref 182)) := by k_is
theorem g_right : nsIn (hd.heap_39 P) mainGlobals "_law_right" = some (some (.ref 189)) := by k_is
theorem b_len : nsIn (hd.heap_39 P) mainGlobals "len" = some none ∧ bootBuiltins "len" = some (.builtin "len") ∧ ("len" : Str) ≠ "__name__" := ⟨by k_is, by boot_by_name, by decide⟩
theorem b_range : nsIn (hd.heap_39 P) mainGlobals "range" = some none ∧ bootBuiltins "range" = some (.type "range") ∧ ("range" : Str) ≠ "__name__" := ⟨by k_is, by boot_by_name, by decide⟩
theorem b_list : nsIn (hd.heap_39 P) mainGlobals "list" = some none ∧ bootBuiltins "list" = some (.type "list") ∧ ("list" : Str) ≠ "__name__" := ⟨by k_is, by boot_by_name, by decide⟩
theorem b_abs : nsIn (hd.heap_39 P) mainGlobals "abs" = some none ∧ bootBuiltins "abs" = some (.builtin "abs") ∧ ("abs" : Str) ≠ "__name__" := ⟨by k_is, by boot_by_name, by decide⟩
end

theorem ia_drop : ∀ {vs : List Value} {ns : List Int} (k : Nat), IntsAre vs ns → IntsAre (vs.drop k) (ns.drop k)
  | _, _, 0, h => h
  | _, _, _ + 1, .nil => by simpa using IntsAre.nil
  | _, _, k + 1, .cons _ _ r => by simpa using ia_drop k r
theorem ia_take : ∀ {vs : List Value} {ns : List Int} (k : Nat), IntsAre vs ns → IntsAre (vs.take k) (ns.take k)
  | _, _, 0, _ => by simpa using IntsAre.nil
  | _, _, _ + 1, .nil => by simpa using IntsAre.nil
  | _, _, k + 1, .cons n t r => by simpa using IntsAre.cons n t (ia_take k r)
theorem kms_pick_nat (vs : List Value) (a b : Nat) : kms_pick vs (some (a : Int)) (some (b : Int)) = (vs.drop a).take (b - a) := by
  have h1 : kms_lo (some (a : Int)) vs.length = min a vs.length := by simp [kms_lo, show ¬ ((a : Int) < 0) by omega]
  have h2 : kms_hi (some (b : Int)) vs.length = min b vs.length := by simp [kms_hi, show ¬ ((b : Int) < 0) by omega]
  unfold kms_pick
  rw [h1, h2]
  by_cases h : a ≤ vs.length
  · rw [Nat.min_eq_left h]
    by_cases g : b ≤ vs.length
    · rw [Nat.min_eq_left g]
    · rw [Nat.min_eq_right (by omega), List.take_of_length_le (by rw [List.length_drop]; omega), List.take_of_length_le (by rw [List.length_drop]; omega)]
  · have e1 : vs.drop a = [] := List.drop_eq_nil_of_le (by omega)
    have e2 : vs.drop (min a vs.length) = [] := List.drop_eq_nil_of_le (by omega)
    rw [e1, e2]; simp
theorem ia_pick {vs : List Value} {ns : List Int} (i : IntsAre vs ns) (k m : Nat) : IntsAre (kms_pick vs (some (k : Int)) (some ((k : Int) + (m : Int)))) ((ns.drop k).take m) := by
  rw [show (k : Int) + (m : Int) = ((k + m : Nat) : Int) from rfl, kms_pick_nat, Nat.add_sub_cancel_left]
  exact ia_take m (ia_drop k i)

section
variable (P : Params)
theorem sg_quotes : OwnA (hd.heap_39 P) 38 "quotes" := ⟨by k_is, by k_is, by k_is⟩
theorem sg_escape : OwnA (hd.heap_39 P) 38 "escape" := ⟨by k_is, by k_is, by k_is⟩
theorem sg_line_starts : OwnA (hd.heap_39 P) 38 "line_starts" := ⟨by k_is, by k_is, by k_is⟩
theorem sg_start : OwnA (hd.heap_39 P) 38 "start" := ⟨by k_is, by k_is, by k_is⟩
theorem sg_end : OwnA (hd.heap_39 P) 38 "end" := ⟨by k_is, by k_is, by k_is⟩
theorem sg_nests : OwnA (hd.heap_39 P) 38 "nests" := ⟨by k_is, by k_is, by k_is⟩
theorem sc_signs : OwnA (hd.heap_39 P) 115 "signs" := ⟨by k_is, by k_is, by k_is⟩
theorem sc_codes : OwnA (hd.heap_39 P) 115 "codes" := ⟨by k_is, by k_is, by k_is⟩
theorem sc_state : OwnA (hd.heap_39 P) 115 "state" := ⟨by k_is, by k_is, by k_is⟩
theorem sc_at : OwnA (hd.heap_39 P) 115 "at" := ⟨by k_is, by k_is, by k_is⟩
theorem sc_begun : OwnA (hd.heap_39 P) 115 "begun" := ⟨by k_is, by k_is, by k_is⟩
theorem sc_spans : OwnA (hd.heap_39 P) 115 "spans" := ⟨by k_is, by k_is, by k_is⟩
theorem ls_signs : OwnA (hd.heap_39 P) 157 "signs" := ⟨by k_is, by k_is, by k_is⟩
theorem ls_states : OwnA (hd.heap_39 P) 157 "states" := ⟨by k_is, by k_is, by k_is⟩
theorem zsg_quotes : SetA (hd.heap_39 P) 38 "quotes" := ⟨by k_is, by k_is, by k_is, by k_is⟩
theorem zsg_escape : SetA (hd.heap_39 P) 38 "escape" := ⟨by k_is, by k_is, by k_is, by k_is⟩
theorem zsg_line_starts : SetA (hd.heap_39 P) 38 "line_starts" := ⟨by k_is, by k_is, by k_is, by k_is⟩
theorem zsg_start : SetA (hd.heap_39 P) 38 "start" := ⟨by k_is, by k_is, by k_is, by k_is⟩
theorem zsg_end : SetA (hd.heap_39 P) 38 "end" := ⟨by k_is, by k_is, by k_is, by k_is⟩
theorem zsg_nests : SetA (hd.heap_39 P) 38 "nests" := ⟨by k_is, by k_is, by k_is, by k_is⟩
theorem zsc_signs : SetA (hd.heap_39 P) 115 "signs" := ⟨by k_is, by k_is, by k_is, by k_is⟩
theorem zsc_codes : SetA (hd.heap_39 P) 115 "codes" := ⟨by k_is, by k_is, by k_is, by k_is⟩
theorem zsc_state : SetA (hd.heap_39 P) 115 "state" := ⟨by k_is, by k_is, by k_is, by k_is⟩
theorem zsc_at : SetA (hd.heap_39 P) 115 "at" := ⟨by k_is, by k_is, by k_is, by k_is⟩
theorem zsc_begun : SetA (hd.heap_39 P) 115 "begun" := ⟨by k_is, by k_is, by k_is, by k_is⟩
theorem zsc_spans : SetA (hd.heap_39 P) 115 "spans" := ⟨by k_is, by k_is, by k_is, by k_is⟩
theorem zls_signs : SetA (hd.heap_39 P) 157 "signs" := ⟨by k_is, by k_is, by k_is, by k_is⟩
theorem zls_states : SetA (hd.heap_39 P) 157 "states" := ⟨by k_is, by k_is, by k_is, by k_is⟩
theorem me_leave : MetA (hd.heap_39 P) 115 "leave" 77 := ⟨by k_is, by k_is, by k_is, by k_is⟩
theorem me_enter : MetA (hd.heap_39 P) 115 "enter" 84 := ⟨by k_is, by k_is, by k_is, by k_is⟩
theorem me_in_code : MetA (hd.heap_39 P) 115 "in_code" 91 := ⟨by k_is, by k_is, by k_is, by k_is⟩
theorem me_in_string : MetA (hd.heap_39 P) 115 "in_string" 98 := ⟨by k_is, by k_is, by k_is, by k_is⟩
theorem me_in_comment : MetA (hd.heap_39 P) 115 "in_comment" 105 := ⟨by k_is, by k_is, by k_is, by k_is⟩
theorem me_go : MetA (hd.heap_39 P) 115 "go" 112 := ⟨by k_is, by k_is, by k_is, by k_is⟩
theorem me_changed : MetA (hd.heap_39 P) 157 "changed" 147 := ⟨by k_is, by k_is, by k_is, by k_is⟩
theorem mk_Signs : MakA (hd.heap_39 P) 38 35 := ⟨by k_is, by k_is, by k_is, by k_is⟩
theorem mk_Scan : MakA (hd.heap_39 P) 115 70 := ⟨by k_is, by k_is, by k_is, by k_is⟩
theorem mk_LineStates : MakA (hd.heap_39 P) 157 140 := ⟨by k_is, by k_is, by k_is, by k_is⟩
theorem kf_stands_at : keepIn (hd.heap_39 P) (.ref 49) = true := by k_is
theorem kf_is_line : keepIn (hd.heap_39 P) (.ref 56) = true := by k_is
theorem kf_scanned : keepIn (hd.heap_39 P) (.ref 126) = true := by k_is
theorem kf_draw : keepIn (hd.heap_39 P) (.ref 168) = true := by k_is
theorem kf_line : keepIn (hd.heap_39 P) (.ref 175) = true := by k_is
theorem kf_walk : keepIn (hd.heap_39 P) (.ref 182) = true := by k_is
theorem kf_right : keepIn (hd.heap_39 P) (.ref 189) = true := by k_is
end

local macro_rules | `(tactic| walk_at "m enter") => `(tactic| (refine' call_fn (by assumption) ?ho ?hcd ?hA ?hbind ?hloc ?hcell ?hgo ?hco ?hgen ?hk; (case ho => k_is); (case hcd => k_is); (case hA => assumption); (case hbind => exact rfl); (case hloc => exact locs rfl); (case hcell => decide); (case hco => exact rfl); (case hgen => exact rfl); (case hk => exact rfl)))

section
variable {prog : Program} {w : World} {A : Around} {E : Value → Shared → Prop} {s : Shared} {h : Heap} {tk : Nat} {P : Part} {ms rest : List (Addr × Cel)} {Q : Value → Shared → Prop}


def SignsAt (P : Part) (nests : Bool) (sv : Value) : Prop := ∃ a dx qv t ls l1 stv env, sv = .ref a ∧ PIns P a 38 dx ∧
  PDict P dx [("quotes", qv), ("escape", .int 92 t), ("line_starts", .ref ls), ("start", stv), ("end", env), ("nests", .bool nests)] ∧ IL P qv [34, 39] ∧ PLst P ls [l1] ∧ IL P l1 [59] ∧ IL P stv [47, 42] ∧ IL P env [42, 47]
theorem SignsAt.le {P P' : Part} {nests : Bool} {sv : Value} (x : SignsAt P nests sv) (e : Le P P') : SignsAt P' nests sv := by
  obtain ⟨a, dx, qv, t, ls, l1, stv, env, rfl, h1, h2, h3, h4, h5, h6, h7⟩ := x
  exact ⟨a, dx, qv, t, ls, l1, stv, env, rfl, h1.le e, h2.le e, h3.le e, h4.le e, h5.le e, h6.le e, h7.le e⟩

theorem stands_at_spec {cv wv : Value} {codes wanted : List Int} {k : Nat} {t : Tok}
    (H : HS (hd.heap_39 w.params) P ms h) (hA : AOk 2 A) (hc : IL P cv codes) (hcz : codes.length ≤ 2 ^ 16) (hw : IL P wv wanted) (hwz : wanted.length ≤ 2 ^ 16)
    (q : ∀ h' tk', HS (hd.heap_39 w.params) P ms h' → Q (.bool (standsAt codes wanted k)) (St s h' tk')) :
    wpAny (model prog w) A (call (.ref 49) [cv, wv, .int k t]) Q E (St s h tk) := by
  obtain ⟨cl, cs, rfl, hc, hci⟩ := hc
  obtain ⟨wl, ws, rfl, hw, hwi⟩ := hw
  have hcz : cs.length ≤ sizeLine := line_of hci.length hcz
  have hwz : ws.length ≤ sizeLine := line_of hwi.length hwz
  walk_at "m enter"
  intro L h₁ tk₁ A' hA' H₁
  replace H₁ := H₁.names (l := [("codes", .ref cl), ("wanted", .ref wl), ("at", .int k t)]) ⟨rfl, rfl, rfl, trivial⟩
  refine wpAny_execs_cons (wpAny_Return_some (wpAny_And2 (wpAny_Compare1 (n_loc H₁ rfl (List_ (wpAny_items_nil (new_list H₁ (Nat.zero_le _) fun a h₂ H₂ => ne_ints (hw.lin H₂) (LIn.mem H₂ (.tail _ (.head _))) hwi .nil hA'.units ?_)))))))
  refine wpAny_truthy_bool (ite_cases (fun hb => ?_) (fun hb => ?_))
  · refine wpAny_Compare1 (cut_list (n_loc H₂ rfl (n_loc H₂ rfl ((v_add (v_loc H₂ rfl).i (v_len (v_blt H₂ (b_len _)) (v_loc H₂ rfl) (hw.lin H₂) hwz)).int fun _ _ => ⟨_, _, _, _, _, _, _, _, _, _, rfl, rfl, H₂, hc.lin H₂, hcz, .int _ _, .int _ _, fun a₃ h₃ H₃ => ?_⟩))))
    refine n_loc H₃ rfl (eq_ints (LIn.mem H₃ (.tail _ (.head _))) (hw.lin H₃) (ia_pick hci k ws.length) hwi hA'.units ?_)
    have e : standsAt codes wanted k = decide ((codes.drop k).take ws.length = wanted) := by unfold standsAt; rw [hb, hwi.length, Bool.true_and]
    rw [← e]
    exact q _ _ H₃.drop.drop.drop
  · rw [show (!decide (wanted = [])) = standsAt codes wanted k by unfold standsAt; rw [hb, Bool.false_and]]
    exact q _ _ H₂.drop.drop

theorem is_line_spec {nests : Bool} {sv cv : Value} {codes : List Int} {k : Nat} {t : Tok}
    (H : HS (hd.heap_39 w.params) P ms h) (hA : AOk 3 A) (hs : SignsAt P nests sv) (hc : IL P cv codes) (hcz : codes.length ≤ 2 ^ 16)
    (q : ∀ h' tk', HS (hd.heap_39 w.params) P ms h' → Q (.bool (standsAt codes [59] k)) (St s h' tk')) :
    wpAny (model prog w) A (call (.ref 56) [sv, cv, .int k t]) Q E (St s h tk) := by
  obtain ⟨a, dx, qv, t', ls, l1, stv, env, rfl, h1, h2, h3, h4, h5, h6, h7⟩ := hs
  walk_at "m enter"
  intro L h₁ tk₁ A' hA' H₁
  replace H₁ := H₁.names (l := [("signs", .ref a), ("codes", cv), ("at", .int k t)]) ⟨rfl, rfl, rfl, trivial⟩
  refine wpAny_execs_cons (x_for (rest := ms) (ex := []) (fun i P' kn ex => ex = [] ∧ Knows kn [("signs", .ref a), ("codes", cv), ("at", .int k t)] ∧ (i = 1 → standsAt codes [59] k = false)) hA'.hd H₁ h4
    (v_attr H₁ h1 (h2.has H₁) (sg_line_starts _) rfl rfl (v_loc H₁ rfl)) ⟨rfl, ⟨rfl, rfl, rfl, trivial⟩, nofun⟩ ?_ ?_)
  · rintro i v P' kn' _ rest' h' tk' E' QT fin hv le ⟨rfl, kn, -⟩ H'
    obtain ⟨rfl, rfl⟩ : i = 0 ∧ v = l1 := by
      rcases i with _ | i
      · exact ⟨rfl, by simpa using hv.symm⟩
      · simp at hv
    replace H' := H'.names (l := [("wanted", v), ("signs", .ref a), ("codes", cv), ("at", .int k t)]) ⟨rfl, kn.1, kn.2.1, kn.2.2.1, trivial⟩
    refine wpAny_execs_cons (wpAny_If (wpAny_isTrue_value (e_callM (kf_stands_at _) H' (v_glob H' (g_stands_at _)) (m_cons (v_loc H' rfl) (m_cons (v_loc H' rfl) (m_cons (v_loc H' rfl) m_nil))) fun tk₂ => stands_at_spec H' hA' (hc.le le) hcz (h5.le le) (by decide) fun h₂ tk₂ H₂ => wpAny_truthy_bool (ite_cases (fun b => ?_) (fun b => ?_)))))
    · refine wpAny_execs_cons (x_ret v_bool ?_)
      rintro _ tk₃ rfl
      refine fin.ret _ P' _ [] _ _ .rfl' H₂ fun H₃ => ?_
      have := q h₂ tk₃ (H₃.drop.unle le H.st)
      rwa [b] at this
    · exact wpAny_execs_nil (wpAny_execs_nil (fin.next P' _ [] _ _ .rfl' H₂ ⟨rfl, ⟨rfl, rfl, rfl, trivial⟩, fun _ => b⟩))
  · rintro P' kn' _ h' tk' le ⟨rfl, kn, f⟩ H'
    refine wpAny_execs_cons (x_ret v_bool ?_)
    rintro _ tk₃ rfl
    have := q h' tk₃ (H'.drop.unle le H.st)
    rwa [f rfl] at this
abbrev scA (sv cv stv : Value) (a : Int) (t : Tok) (b : Int) (u : Tok) (sl : Addr) : List (Str × Value) := [("signs", sv), ("codes", cv), ("state", stv), ("at", .int a t), ("begun", .int b u), ("spans", .ref sl)]
structure ScanIs (P : Part) (codes : List Int) (x dx sl : Addr) (sv cv : Value) (c : Sc) (attrs : List (Str × Value)) (sps : List Value) : Prop where
  i : PIns P x 115 dx
  a : ∃ stv t u, attrs = scA sv cv stv c.at_ t c.begun u sl ∧ T2 P stv c.st
  p : All2 (T3 P) sps c.sp
theorem ScanIs.le {P P' : Part} {codes : List Int} {x dx sl : Addr} {sv cv : Value} {c : Sc} {attrs : List (Str × Value)} {sps : List Value} (I : ScanIs P codes x dx sl sv cv c attrs sps) (e : Le P P') : ScanIs P' codes x dx sl sv cv c attrs sps :=
  ⟨I.i.le e, let ⟨a, t, u, h, q⟩ := I.a; ⟨a, t, u, h, q.le e⟩, I.p.imp fun _ _ q => q.le e⟩

abbrev ScanPost (w : World) (P : Part) (codes : List Int) (x dx sl : Addr) (sv cv : Value) (c : Sc) (rest : List (Addr × Cel)) (s : Shared) (Q : Value → Shared → Prop) : Prop :=
  ∀ P' h' tk' attrs' sps', Le P P' → HS (hd.heap_39 w.params) P' ((dx, .inst attrs') :: (sl, .list sps') :: rest) h' → ScanIs P' codes x dx sl sv cv c attrs' sps' → Q .none (St s h' tk')

variable {codes : List Int} {x dx sl : Addr} {sv cv : Value} {c : Sc} {attrs : List (Str × Value)} {sps : List Value}

theorem leave_spec (H : HS (hd.heap_39 w.params) P ((dx, .inst attrs) :: (sl, .list sps) :: rest) h) (hA : AOk 1 A) (I : ScanIs P codes x dx sl sv cv c attrs sps) (hz : sps.length ≤ 2 ^ 16)
    (q : ScanPost w P codes x dx sl sv cv (leaveP c) rest s Q) : wpAny (model prog w) A (call (.ref 77) [.ref x]) Q E (St s h tk) := by
  have q' : ∀ c', leaveP c = c' → ScanPost w P codes x dx sl sv cv c' rest s Q := fun _ e => e ▸ q
  clear q
  walk_at "m enter"
  intro L h₁ tk₁ A' hA' H₁
  replace H₁ := H₁.names (l := [("self", .ref x)]) ⟨rfl, trivial⟩
  obtain ⟨hi, ⟨stv, t, u, rfl, sa, t1, t2, rfl, hst⟩, hp⟩ := I
  have D := DHas.at H₁ (.tail _ (.head _))
  have hst' : T2 P (.ref sa) c.st := ⟨sa, t1, t2, rfl, hst⟩
  refine wpAny_execs_cons (x_if (t_and (t_ne (v_pair0 H₁ hst' (v_attr H₁ hi D (sc_state _) rfl rfl (v_loc H₁ rfl))) (v_glob H₁ (g_CODE _)).i) fun _ => t_gt (v_attr H₁ hi D (sc_at _) rfl rfl (v_loc H₁ rfl)).i (v_attr H₁ hi D (sc_begun _) rfl rfl (v_loc H₁ rfl)).i) (fun b tk₂ => ?_) (fun b tk₂ => ?_))
  · refine wpAny_execs_cons (x_app3 2 H₁ rfl (by omega) (v_attr H₁ hi D (sc_spans _) rfl rfl (v_loc H₁ rfl)) (v_attr H₁ hi D (sc_begun _) rfl rfl (v_loc H₁ rfl)).i (v_attr H₁ hi D (sc_at _) rfl rfl (v_loc H₁ rfl)).i (v_pair0 H₁ hst' (v_attr H₁ hi D (sc_state _) rfl rfl (v_loc H₁ rfl))) fun v h₂ P' tk₃ le pt H₂ => ?_)
    refine wpAny_execs_nil (wpAny_execs_nil ?_)
    have e : leaveP c = { c with sp := c.sp ++ [((c.begun : Int), (c.at_ : Int), c.st.1)] } := by
      unfold leaveP; rw [if_pos]; simpa using b
    have q := q' _ e
    exact q _ _ _ _ _ le H₂.drop ⟨hi.le le, ⟨_, _, _, rfl, hst'.le le⟩, (hp.imp fun _ _ z => z.le le).snoc pt⟩
  · refine wpAny_execs_nil (wpAny_execs_nil ?_)
    have e : leaveP c = c := by
      unfold leaveP; rw [if_neg]; intro z; simp at b; have := b z.1; omega
    have q := q' _ e
    exact q _ _ _ _ _ .rfl' H₁.drop ⟨hi, ⟨_, _, _, rfl, hst'⟩, hp⟩

theorem enter_spec {stv : Value} {st : St2} (H : HS (hd.heap_39 w.params) P ((dx, .inst attrs) :: (sl, .list sps) :: rest) h) (hA : AOk 1 A) (I : ScanIs P codes x dx sl sv cv c attrs sps) (ht : T2 P stv st)
    (q : ScanPost w P codes x dx sl sv cv (enterP c st) rest s Q) : wpAny (model prog w) A (call (.ref 84) [.ref x, stv]) Q E (St s h tk) := by
  walk_at "m enter"
  intro L h₁ tk₁ A' hA' H₁
  replace H₁ := H₁.names (l := [("self", .ref x), ("state", stv)]) ⟨rfl, rfl, trivial⟩
  obtain ⟨hi, ⟨stv', t, u, rfl, hst⟩, hp⟩ := I
  have D := DHas.at H₁ (.tail _ (.head _))
  refine wpAny_execs_cons (x_attr 1 H₁ hi rfl (zsc_begun _) (Nat.le_of_ble_eq_true rfl) (v_attr H₁ hi D (sc_at _) rfl rfl (v_loc H₁ rfl)) (v_loc H₁ rfl) ?_)
  rintro _ h₂ tk₂ rfl H₂
  replace H₂ : HS (hd.heap_39 w.params) P ((L, .frame [("self", .ref x), ("state", stv)]) :: (dx, .inst (scA sv cv stv' c.at_ t c.at_ t sl)) :: (sl, .list sps) :: rest) h₂ := H₂
  refine wpAny_execs_cons (x_attr 1 H₂ hi rfl (zsc_state _) (Nat.le_of_ble_eq_true rfl) (v_loc H₂ rfl) (v_loc H₂ rfl) ?_)
  rintro _ h₃ tk₃ rfl H₃
  replace H₃ : HS (hd.heap_39 w.params) P ((L, .frame [("self", .ref x), ("state", stv)]) :: (dx, .inst (scA sv cv stv c.at_ t c.at_ t sl)) :: (sl, .list sps) :: rest) h₃ := H₃
  exact wpAny_execs_nil (q _ _ _ _ _ .rfl' H₃.drop ⟨hi, ⟨stv, t, t, rfl, ht⟩, hp⟩)
end

section
variable {prog : Program} {w : World} {A : Around} {E : Value → Shared → Prop} {s : Shared} {h : Heap} {tk : Nat} {P : Part} {ms rest : List (Addr × Cel)} {Q : Value → Shared → Prop}
variable {codes : List Int} {x dx sl : Addr} {sv cv : Value} {c : Sc} {attrs : List (Str × Value)} {sps : List Value}

theorem getD_of {ns : List Int} {k : Nat} {n : Int} (h : ns[k]? = some n) : ns.getD k 0 = n := by simp [List.getD, h]

theorem in_string_spec (H : HS (hd.heap_39 w.params) P ((dx, .inst attrs) :: (sl, .list sps) :: rest) h) (hA : AOk 3 A) (I : ScanIs P codes x dx sl sv cv c attrs sps) {nests : Bool} (hs : SignsAt P nests sv) (hc : IL P cv codes) (hcz : codes.length ≤ 2 ^ 16) (hz : sps.length ≤ 2 ^ 16) (hat : c.at_ < codes.length)
    (q : ScanPost w P codes x dx sl sv cv (inStringP codes c) rest s Q) : wpAny (model prog w) A (call (.ref 98) [.ref x]) Q E (St s h tk) := by
  have q' : ∀ c', inStringP codes c = c' → ScanPost w P codes x dx sl sv cv c' rest s Q := fun _ e => e ▸ q
  clear q
  walk_at "m enter"
  intro L h₁ tk₁ A' hA' H₁
  replace H₁ := H₁.names (l := [("self", .ref x)]) ⟨rfl, trivial⟩
  obtain ⟨hi, ⟨stv, t, u, rfl, hst'⟩, hp⟩ := I
  obtain ⟨sa, st1, st2, rfl, hst0⟩ := hst'
  have hst : T2 P (.ref sa) c.st := ⟨sa, st1, st2, rfl, hst0⟩
  obtain ⟨cl, cs, rfl, hcl, hci⟩ := hc
  obtain ⟨a, sdx, qv, t', ls, l1, stv', env', rfl, h1, h2, h3, h4, h5, h6, h7⟩ := hs
  have D := DHas.at H₁ (.tail _ (.head _))
  obtain ⟨n, hn⟩ : ∃ n, codes[c.at_]? = some n := ⟨_, List.getElem?_eq_getElem hat⟩
  refine wpAny_execs_cons (x_set H₁ (v_iitem (hcl.lin H₁) hci (v_attr H₁ hi D (sc_codes _) rfl rfl (v_loc H₁ rfl)) (v_attr H₁ hi D (sc_at _) rfl rfl (v_loc H₁ rfl)).i (by omega) hn) ?_)
  rintro _ h₂ tk₂ ⟨t₂, rfl⟩ H₂
  have D₂ := DHas.at H₂ (.tail _ (.head _))
  refine wpAny_execs_cons (x_if (t_eq (v_loc H₂ rfl).i (v_attr H₂ h1 (h2.has H₂) (sg_escape _) rfl rfl (v_attr H₂ hi D₂ (sc_signs _) rfl rfl (v_loc H₂ rfl))).i) (fun b tk₃ => ?_) (fun b tk₃ => ?_))
  · refine wpAny_execs_cons (x_attr 1 H₂ hi rfl (zsc_at _) (Nat.le_of_ble_eq_true rfl) (v_add (v_attr H₂ hi D₂ (sc_at _) rfl rfl (v_loc H₂ rfl)).i v_int) (v_loc H₂ rfl) ?_)
    rintro _ h₃ tk₄ ⟨t₃, rfl⟩ H₃
    refine wpAny_execs_cons (wpAny_Return_none ?_)
    have e : inStringP codes c = { c with at_ := c.at_ + 2 } := by unfold inStringP; rw [if_pos (by rw [getD_of hn]; simpa using b)]
    have q := q' _ e
    exact q _ _ _ _ _ .rfl' H₃.drop ⟨hi, ⟨_, t₃, u, rfl, hst⟩, hp⟩
  · refine wpAny_execs_nil ?_
    refine wpAny_execs_cons (x_attr 1 H₂ hi rfl (zsc_at _) (Nat.le_of_ble_eq_true rfl) (v_add (v_attr H₂ hi D₂ (sc_at _) rfl rfl (v_loc H₂ rfl)).i v_int) (v_loc H₂ rfl) ?_)
    rintro _ h₃ tk₄ ⟨t₃, rfl⟩ H₃
    replace H₃ : HS (hd.heap_39 w.params) P ((L, .frame [("code", .int n t₂), ("self", .ref x)]) :: (dx,   .inst (scA (.ref a) (.ref cl) (.ref sa) ((c.at_ + 1 : Nat) : Int) t₃ c.begun u sl)) :: (sl, .list sps) :: rest) h₃ := H₃
    have D₃ := DHas.at H₃ (.tail _ (.head _))
    refine wpAny_execs_cons (x_if (t_eq (v_loc H₃ rfl).i (v_pair1 H₃ hst (v_attr H₃ hi D₃ (sc_state _) rfl rfl (v_loc H₃ rfl)))) (fun b' tk₅ => ?_) (fun b' tk₅ => ?_))
    · refine wpAny_execs_cons (wpAny_Expr_any (e_methL0 H₃ hi D₃ (me_leave _) rfl (v_loc H₃ rfl) fun tk₆ => leave_spec (codes := codes) (c := { c with at_ := c.at_ + 1 }) H₃.tor3 (hA'.le (by decide)) ⟨hi, ⟨_, t₃, u, rfl, hst⟩, hp⟩ hz fun P' h₄ tk₇ attrs' sps' le H₄ I₄ => ?_))
      obtain ⟨hi₄, ⟨stv₄, t₄, u₄, rfl, hst₄⟩, hp₄⟩ := I₄
      have H₅ := H₄.rot3
      refine wpAny_execs_cons (x_attr2 1 H₅ hi₄ rfl (zsc_state _) (Nat.le_of_ble_eq_true rfl) (v_glob H₅ (g_CODE _)).i v_int (fun _ _ _ H' => v_loc H' rfl) ?_)
      intro v h₆ P₆ tk₈ le₆ T H₆
      have e : inStringP codes c = { (leaveP { c with at_ := c.at_ + 1 }) with st := (0, 0) } := by
        unfold inStringP; rw [if_neg (by rw [getD_of hn]; simpa using b), if_pos (by rw [getD_of hn]; simpa using b')]
      have q := q' _ e
      refine wpAny_execs_nil (wpAny_execs_nil (q _ _ _ _ _ (le.trans le₆) H₆.drop ⟨hi₄.le le₆, ⟨_, t₄, u₄, rfl, T⟩, hp₄.imp fun _ _ z => z.le le₆⟩))
    · refine wpAny_execs_nil (wpAny_execs_nil ?_)
      have e : inStringP codes c = { c with at_ := c.at_ + 1 } := by
        unfold inStringP; rw [if_neg (by rw [getD_of hn]; simpa using b), if_neg (by rw [getD_of hn]; simpa using b')]
      have q := q' _ e
      exact q _ _ _ _ _ .rfl' H₃.drop ⟨hi, ⟨_, t₃, u, rfl, hst⟩, hp⟩
end

theorem pick_to (vs : List Value) (b : Nat) : kms_pick vs none (some (b : Int)) = vs.take b := by
  have := kms_pick_nat vs 0 b
  simpa [kms_pick, kms_lo] using this
theorem pick_from (vs : List Value) (a : Nat) : kms_pick vs (some (a : Int)) none = vs.drop a := by
  have h1 : kms_lo (some (a : Int)) vs.length = min a vs.length := by simp [kms_lo, show ¬ ((a : Int) < 0) by omega]
  unfold kms_pick
  rw [h1]
  simp only [kms_hi]
  by_cases h : a ≤ vs.length
  · rw [Nat.min_eq_left h, List.take_of_length_le (by rw [List.length_drop]; omega)]
  · have e1 : vs.drop a = [] := List.drop_eq_nil_of_le (by omega)
    have e2 : vs.drop (min a vs.length) = [] := List.drop_eq_nil_of_le (by omega)
    rw [e1, e2]; simp

section
variable {prog : Program} {w : World} {A : Around} {s : Shared} {env : Env} {h : Heap} {tk : Nat} {E : Value → Shared → Prop} {K : Frag} {P : Part} {ms ex rest : List (Addr × Cel)} {kn : List (Str × Value)}

theorem Ev.ci {e : Expr} {i j : Int} (x : Ev prog w A s env h e (IsI i)) (q : i = j) : Ev prog w A s env h e (IsI j) := q ▸ x
theorem Ts.cb {e : Expr} {i j : Bool} (x : Ts prog w A s env h e i) (q : i = j) : Ts prog w A s env h e j := q ▸ x

def EvP (prog : Program) (w : World) (A : Around) (s : Shared) (env : Env) (h : Heap) (e : Option Expr) (o : Option Int) : Prop :=
  ∀ (E : Value → Shared → Prop) (tk : Nat) (Q : Value → Shared → Prop), (∀ v tk', IsPart v o → Q v (St s h tk')) → wpAny (model prog w) A (evalPart e env) Q E (St s h tk)
theorem p_none : EvP prog w A s env h none none := fun _ _ _ q => wpAny_pure (q _ _ .none)
theorem p_some {e : Expr} {i : Int} (x : Ev prog w A s env h e (IsI i)) : EvP prog w A s env h (some e) (some i) := fun E tk Q q => by
  show wpAny (model prog w) A (eval e env) Q E (St s h tk)
  exact x.int fun t tk' => q _ _ (.int i t)
theorem t_eqT {l r : Expr} {pos : Pos} {u v : Value} {p q : Int × Int} (H : HS K P ms h) (x : T2 P u p) (y : T2 P v q) (hu : A.units + 64 < cLine) (pl : Ev prog w A s env h l (u = ·)) (pr : Ev prog w A s env h r (v = ·)) (hm : behindInMarks .Eq r = false := by with_unfolding_all rfl) :
    Ts prog w A s env h (.Compare l [.Eq] [r] pos) (decide (p = q)) := fun _ _ _ z => wpAny_isTrue_Compare1 (pl.eq fun _ => pr.eq fun _ => eq_T2 H x y hu (wpAny_truthy_bool (z _))) hm
theorem t_neT {l r : Expr} {pos : Pos} {u v : Value} {p q : Int × Int} (H : HS K P ms h) (x : T2 P u p) (y : T2 P v q) (hu : A.units + 64 < cLine) (pl : Ev prog w A s env h l (u = ·)) (pr : Ev prog w A s env h r (v = ·)) (hm : behindInMarks .NotEq r = false := by with_unfolding_all rfl) :
    Ts prog w A s env h (.Compare l [.NotEq] [r] pos) (!decide (p = q)) := fun _ _ _ z => wpAny_isTrue_Compare1 (pl.eq fun _ => pr.eq fun _ => ne_T2 H x y hu (wpAny_truthy_bool (z _))) hm
theorem t_neTs {l r : Expr} {pos : Pos} {a b : Addr} {vs us : List Value} {ps qs : List (Int × Int)} (H : HS K P ms h) (la : LIn h a vs) (lb : LIn h b us) (x : All2 (T2 P) vs ps) (y : All2 (T2 P) us qs) (hu : A.units + 64 < cLine) (pl : Ev prog w A s env h l ((.ref a : Value) = ·)) (pr : Ev prog w A s env h r ((.ref b : Value) = ·)) (hm : behindInMarks .NotEq r = false := by with_unfolding_all rfl) :
    Ts prog w A s env h (.Compare l [.NotEq] [r] pos) (!decide (ps = qs)) := fun _ _ _ z => wpAny_isTrue_Compare1 (pl.eq fun _ => pr.eq fun _ => ne_T2s H la lb x y hu (wpAny_truthy_bool (z _))) hm
theorem t_neIs {l r : Expr} {pos : Pos} {a b : Addr} {vs us : List Value} {ps qs : List Int} (la : LIn h a vs) (lb : LIn h b us) (x : IntsAre vs ps) (y : IntsAre us qs) (hu : A.units + 64 < cLine) (pl : Ev prog w A s env h l ((.ref a : Value) = ·)) (pr : Ev prog w A s env h r ((.ref b : Value) = ·)) (hm : behindInMarks .NotEq r = false := by with_unfolding_all rfl) :
    Ts prog w A s env h (.Compare l [.NotEq] [r] pos) (!decide (ps = qs)) := fun _ _ _ z => wpAny_isTrue_Compare1 (pl.eq fun _ => pr.eq fun _ => ne_ints la lb x y hu (wpAny_truthy_bool (z _))) hm

theorem x_swap3 {a b c : Str} {pa pb pc tp vp pos : Pos} {k k' : Nat} {e₁ e₂ e₃ : Expr} {Q : Flow → Shared → Prop} (hh : A.handled = none)
    (p : wpAny (model prog w) A (spliced (backTo vp (starEach [e₁, e₂, e₃] env))) (fun vs s₁ => ∃ K P ms kn v₁ v₂ v₃ h₁ tk₁, vs = [v₁, v₂, v₃] ∧ s₁ = St s h₁ tk₁ ∧ HS K P ((env.locals, .frame kn) :: ms) h₁ ∧
      ∀ h' tk', HS K P ((env.locals, .frame ((a, v₁) :: (b, v₂) :: (c, v₃) :: kn)) :: ms) h' → Q .next (St s h' tk')) E (St s h tk))
    (hs : swapsWithSole [.Tuple [.Name a pa, .Name b pb, .Name c pc] k tp] (.Tuple [e₁, e₂, e₃] k' vp) pos.line env = pure false := by rfl)
    (hw : swappedStores [.Tuple [.Name a pa, .Name b pb, .Name c pc] k tp] (.Tuple [e₁, e₂, e₃] k' vp) env = pure (some [a, b, c]) := by rfl)
    (hk : env.scope.kind = .function := by rfl) (ha : env.kindOf a = some .local := by rfl) (hb : env.kindOf b = some .local := by rfl) (hc : env.kindOf c = some .local := by rfl) :
    wpAny (model prog w) A (exec (.Assign [.Tuple [.Name a pa, .Name b pb, .Name c pc] k tp] (.Tuple [e₁, e₂, e₃] k' vp) pos) env) Q E (St s h tk) := by
  refine Assign_Tuple_swapped (Tuple_ (wpAny_mono p (fun vs s₁ z => ?_) fun _ _ e => e)) hs hw
  obtain ⟨K, P, ms, kn, v₁, v₂, v₃, h₁, tk₁, rfl, rfl, H, q⟩ := z
  refine new_tup H (by rw [sizeLine_eq]; exact Nat.le_of_ble_eq_true rfl) fun ta h₂ P₂ le pt H₂ => unp hh H₂ pt rfl fun h₃ H₃ => ?_
  have H₃ := H₃.unle le H.st
  show wpAny _ _ (do holding [v₂, v₁] (bindName env c v₃); assignInOrder [fun v => bindName env b v, fun v => bindName env a v] [v₂, v₁]) _ _ _
  refine wpAny_bind (wpAny_holding (wpAny_bindName (sto H₃ (fun h₄ tk₄ H₄ => ?_) hk hc)))
  show wpAny _ _ (do holding [v₁] (bindName env b v₂); assignInOrder [fun v => bindName env a v] [v₁]) _ _ _
  refine wpAny_bind (wpAny_holding (wpAny_bindName (sto H₄ (fun h₅ tk₅ H₅ => ?_) hk hb)))
  show wpAny _ _ (do holding [] (bindName env a v₁); assignInOrder [] []) _ _ _
  exact wpAny_bind (wpAny_holding (wpAny_bindName (sto H₅ (fun h₆ tk₆ H₆ => wpAny_pure (q h₆ tk₆ H₆)) hk ha)))
theorem x_swap2' {a b : Str} {pa pb tp vp pos : Pos} {k k' : Nat} {e₁ e₂ : Expr} {Q : Flow → Shared → Prop} (hh : A.handled = none)
    (p : wpAny (model prog w) A (spliced (backTo vp (starEach [e₁, e₂] env))) (fun vs s₁ => ∃ K P ms kn v₁ v₂ h₁ tk₁, vs = [v₁, v₂] ∧ s₁ = St s h₁ tk₁ ∧ HS K P ((env.locals, .frame kn) :: ms) h₁ ∧
      ∀ h' tk', HS K P ((env.locals, .frame ((a, v₁) :: (b, v₂) :: kn)) :: ms) h' → Q .next (St s h' tk')) E (St s h tk))
    (hs : swapsWithSole [.Tuple [.Name a pa, .Name b pb] k tp] (.Tuple [e₁, e₂] k' vp) pos.line env = pure false := by rfl)
    (hw : swappedStores [.Tuple [.Name a pa, .Name b pb] k tp] (.Tuple [e₁, e₂] k' vp) env = pure (some [a, b]) := by rfl)
    (hk : env.scope.kind = .function := by rfl) (ha : env.kindOf a = some .local := by rfl) (hb : env.kindOf b = some .local := by rfl) :
    wpAny (model prog w) A (exec (.Assign [.Tuple [.Name a pa, .Name b pb] k tp] (.Tuple [e₁, e₂] k' vp) pos) env) Q E (St s h tk) := by
  refine Assign_Tuple_swapped (Tuple_ (wpAny_mono p (fun vs s₁ z => ?_) fun _ _ e => e)) hs hw
  obtain ⟨K, P, ms, kn, v₁, v₂, h₁, tk₁, rfl, rfl, H, q⟩ := z
  refine new_tup H (by rw [sizeLine_eq]; exact Nat.le_of_ble_eq_true rfl) fun ta h₂ P₂ le pt H₂ => unp hh H₂ pt rfl fun h₃ H₃ => ?_
  have H₃ := H₃.unle le H.st
  show wpAny _ _ (do holding [v₁] (bindName env b v₂); assignInOrder [fun v => bindName env a v] [v₁]) _ _ _
  refine wpAny_bind (wpAny_holding (wpAny_bindName (sto H₃ (fun h₅ tk₅ H₅ => ?_) hk hb)))
  show wpAny _ _ (do holding [] (bindName env a v₁); assignInOrder [] []) _ _ _
  exact wpAny_bind (wpAny_holding (wpAny_bindName (sto H₅ (fun h₆ tk₆ H₆ => wpAny_pure (q h₆ tk₆ H₆)) hk ha)))
theorem i_cons {e : Expr} {es : List Expr} {pos : Pos} {Q : List Value → Shared → Prop} (q : wpAny (model prog w) A (eval e env) (fun v s₁ => wpAny (model prog w) A (spliced (backTo pos (starEach es env))) (fun vs s₂ => Q (v :: vs) s₂) E s₁) E (St s h tk))
    (hs : starEach (e :: es) env = (false, eval e env) :: starEach es env := by rfl) : wpAny (model prog w) A (spliced (backTo pos (starEach (e :: es) env))) Q E (St s h tk) := wpAny_items_cons q hs
theorem x_assign {x : Str} {pos' pos : Pos} {e : Expr} {Q : Flow → Shared → Prop}
    (q : wpAny (model prog w) A (eval e env) (fun v s₁ => ∃ K P ms kn h₁ tk₁, s₁ = St s h₁ tk₁ ∧ HS K P ((env.locals, .frame kn) :: ms) h₁ ∧ ∀ h' tk', HS K P ((env.locals, .frame ((x, v) :: kn)) :: ms) h' → Q .next (St s h' tk')) E (St s h tk))
    (hk : env.scope.kind = .function := by rfl) (hl : env.kindOf x = some .local := by rfl) (hs : swapsWith e (some (.Name x pos')) pos.line env = pure false := by rfl) : wpAny (model prog w) A (exec (.Assign [.Name x pos'] e pos) env) Q E (St s h tk) := by
  refine wpAny_Assign_Name (wpAny_mono q (fun v s₁ z => ?_) fun _ _ e => e) hs
  obtain ⟨K, P, ms, kn, h₁, tk₁, rfl, H, q⟩ := z
  exact sto H q hk hl
end
theorem last_at {α : Type} {l : List α} (h : l ≠ []) : ∃ v, l[l.length - 1]? = some v := ⟨_, List.getElem?_eq_getElem (by have := List.length_pos_iff.mpr h; omega)⟩
theorem lastD_of {α : Type} {l : List α} {v d : α} (h : l[l.length - 1]? = some v) : l.getLastD d = v := by
  have : l.getLast? = some v := by rw [List.getLast?_eq_getElem?]; exact h
  rw [List.getLastD_eq_getLast?, this]; rfl

section
variable {prog : Program} {w : World} {A : Around} {E : Value → Shared → Prop} {s : Shared} {h : Heap} {tk : Nat} {P : Part} {ms rest : List (Addr × Cel)} {Q : Value → Shared → Prop}
variable {codes : List Int} {x dx sl : Addr} {sv cv : Value} {c : Sc} {attrs : List (Str × Value)} {sps : List Value}

theorem at_plus {env : Env} {k : Nat} {e : Expr} {pos' pos : Pos} {a cl sa : Addr} {kn : List (Str × Value)} {sc : Sc} {t u : Tok} {Q : Flow → Shared → Prop} {np : Pos}
    (H : HS (hd.heap_39 w.params) P ((env.locals, .frame kn) :: (dx, .inst (scA (.ref a) (.ref cl) (.ref sa) sc.at_ t sc.begun u sl)) :: rest) h) (hi : PIns P x 115 dx) (hx : kn.lookup ("self" : Str) = some (.ref x)) (p : Ev prog w A s env h e (IsI ((sc.at_ : Int) + (k : Int))))
    (q : ∀ h' tk' t', HS (hd.heap_39 w.params) P ((env.locals, .frame kn) :: (dx, .inst (scA (.ref a) (.ref cl) (.ref sa) ((sc.at_ + k : Nat) : Int) t' sc.begun u sl)) :: rest) h' → Q .next (St s h' tk'))
    (hk : env.scope.kind = .function := by rfl) (hl : env.kindOf "self" = some .local := by rfl)
    (hs : swapsWith e (some (.Attribute (.Name "self" np) "at" pos')) pos.line env = pure false := by rfl) : wpAny (model prog w) A (exec (.Assign [.Attribute (.Name "self" np) "at" pos'] e pos) env) Q E (St s h tk) := by
  refine x_attr 1 H hi rfl (zsc_at _) (Nat.le_of_ble_eq_true rfl) p (v_loc H hx hk hl) ?_ hs
  rintro _ h' tk' ⟨t', rfl⟩ H'
  exact q h' tk' t' H'

theorem in_comment_spec (H : HS (hd.heap_39 w.params) P ((dx, .inst attrs) :: (sl, .list sps) :: rest) h) (hA : AOk 3 A) (I : ScanIs P codes x dx sl sv cv c attrs sps) {nests : Bool} (hs : SignsAt P nests sv) (hc : IL P cv codes) (hcz : codes.length ≤ 2 ^ 16) (hz : sps.length ≤ 2 ^ 16)
    (q : ScanPost w P codes x dx sl sv cv (inCommentP nests codes c) rest s Q) : wpAny (model prog w) A (call (.ref 105) [.ref x]) Q E (St s h tk) := by
  have q' : ∀ c', inCommentP nests codes c = c' → ScanPost w P codes x dx sl sv cv c' rest s Q := fun _ e => e ▸ q
  clear q
  walk_at "m enter"
  intro L h₁ tk₁ A' hA' H₁
  replace H₁ := H₁.names (l := [("self", .ref x)]) ⟨rfl, trivial⟩
  obtain ⟨hi, ⟨stv, t, u, rfl, hst'⟩, hp⟩ := I
  obtain ⟨sa, st1, st2, rfl, hst0⟩ := hst'
  have hst : T2 P (.ref sa) c.st := ⟨sa, st1, st2, rfl, hst0⟩
  have hc' := hc
  obtain ⟨cl, cs, rfl, hcl, hci⟩ := hc
  obtain ⟨a, sdx, qv, t', ls, l1, stv', env', rfl, h1, h2, h3, h4, h5, h6, h7⟩ := hs
  have h6' := h6; have h7' := h7
  obtain ⟨bl, bs, rfl, hbl, hbi⟩ := h6
  obtain ⟨el, es, rfl, hel, hei⟩ := h7
  have hbn : bs.length = 2 := hbi.length
  have hen : es.length = 2 := hei.length
  have D := DHas.at H₁ (.tail _ (.head _))
  refine wpAny_execs_cons (x_swap2 hA'.hd H₁ (v_attr H₁ hi D (sc_signs _) rfl rfl (v_loc H₁ rfl)) (v_pair1 H₁ hst (v_attr H₁ hi D (sc_state _) rfl rfl (v_loc H₁ rfl))) ?_)
  rintro _ _ h₂ tk₂ rfl ⟨t₂, rfl⟩ H₂
  have D₂ := DHas.at H₂ (.tail _ (.head _))
  refine wpAny_execs_cons (wpAny_If (wpAny_isTrue_value (e_callM (kf_stands_at _) H₂ (v_glob H₂ (g_stands_at _)) (m_cons (v_attr H₂ hi D₂ (sc_codes _) rfl rfl (v_loc H₂ rfl)) (m_cons (v_attr H₂ h1 (h2.has H₂) (sg_end _) rfl rfl (v_loc H₂ rfl)) (m_cons (v_attr H₂ hi D₂ (sc_at _) rfl rfl (v_loc H₂ rfl)) m_nil)))
    fun tk₂ => stands_at_spec H₂ (hA'.le (by decide)) hc' hcz h7' (by decide) fun h₃ tk₃ H₃ => wpAny_truthy_bool (ite_cases (fun b => ?_) (fun b => ?_)))))
  · have D₃ := DHas.at H₃ (.tail _ (.head _))
    refine wpAny_execs_cons (at_plus (k := 2) H₃ hi rfl ((v_add (v_attr H₃ hi D₃ (sc_at _) rfl rfl (v_loc H₃ rfl)).i (v_len (v_blt H₃ (b_len _)) (v_attr H₃ h1 (h2.has H₃) (sg_end _) rfl rfl (v_loc H₃ rfl)) (hel.lin H₃) (by rw [hen, sizeLine_eq]; decide))).ci (by rw [hen])) fun h₄ tk₄ t₄ H₄ => ?_)
    refine wpAny_execs_cons (x_if (t_gt (v_loc H₄ rfl).i v_int) (fun b' tk₅ => ?_) (fun b' tk₅ => ?_))
    · refine wpAny_execs_cons (x_attr2 1 H₄ hi rfl (zsc_state _) (Nat.le_of_ble_eq_true rfl) (v_glob H₄ (g_COMMENT _)).i (v_sub (v_loc H₄ rfl).i v_int) (fun _ _ _ H' => v_loc H' rfl) ?_)
      intro v h₅ P₅ tk₆ le T H₅
      have e : inCommentP nests codes c = { c with at_ := c.at_ + 2, st := (2, c.st.2 - 1) } := by
        unfold inCommentP; rw [if_pos b, if_pos (by simpa using b')]
      have q := q' _ e
      exact wpAny_execs_nil (wpAny_execs_nil (wpAny_execs_nil (q _ _ _ _ _ le H₅.drop ⟨hi.le le, ⟨_, _, _, rfl, T⟩, hp.imp fun _ _ z => z.le le⟩)))
    · have D₄ := DHas.at H₄ (.tail _ (.head _))
      refine wpAny_execs_cons (wpAny_Expr_any (e_methL0 H₄ hi D₄ (me_leave _) rfl (v_loc H₄ rfl) fun tk₆ => leave_spec (codes := codes) (c := { c with at_ := c.at_ + 2 }) H₄.tor3 (hA'.le (by decide)) ⟨hi, ⟨_, _, u, rfl, hst⟩, hp⟩ hz fun P' h₅ tk₇ attrs' sps' le H₅ I₅ => ?_))
      obtain ⟨hi₅, ⟨stv₅, t₅, u₅, rfl, hst₅⟩, hp₅⟩ := I₅
      have H₆ := H₅.rot3
      refine wpAny_execs_cons (x_attr2 1 H₆ hi₅ rfl (zsc_state _) (Nat.le_of_ble_eq_true rfl) (v_glob H₆ (g_CODE _)).i v_int (fun _ _ _ H' => v_loc H' rfl) ?_)
      intro v h₇ P₇ tk₈ le₇ T H₇
      have e : inCommentP nests codes c = { (leaveP { c with at_ := c.at_ + 2 }) with st := (0, 0) } := by
        unfold inCommentP; rw [if_pos b, if_neg (by simpa using b')]
      have q := q' _ e
      exact wpAny_execs_nil (wpAny_execs_nil (wpAny_execs_nil (q _ _ _ _ _ (le.trans le₇) H₇.drop ⟨hi₅.le le₇, ⟨_, _, _, rfl, T⟩, hp₅.imp fun _ _ z => z.le le₇⟩)))
  · have D₃ := DHas.at H₃ (.tail _ (.head _))
    refine wpAny_execs_cons (wpAny_If (wpAny_isTrue_BoolOp (wpAny_allTrue_And_cons ((t_val (v_attr H₃ h1 (h2.has H₃) (sg_nests _) rfl rfl (v_loc H₃ rfl))).use fun tk₄ => ite_cases (fun n => ?_) (fun n => ?_)))))
    · refine wpAny_allTrue_And_cons (wpAny_isTrue_value (e_callM (kf_stands_at _) H₃ (v_glob H₃ (g_stands_at _)) (m_cons (v_attr H₃ hi D₃ (sc_codes _) rfl rfl (v_loc H₃ rfl)) (m_cons (v_attr H₃ h1 (h2.has H₃) (sg_start _) rfl rfl (v_loc H₃ rfl)) (m_cons (v_attr H₃ hi D₃ (sc_at _) rfl rfl (v_loc H₃ rfl)) m_nil)))
        fun tk₂ => stands_at_spec H₃ (hA'.le (by decide)) hc' hcz h6' (by decide) fun h₄ tk₄ H₄ => wpAny_truthy_bool (ite_cases (fun b' => wpAny_allTrue_And_nil (ite_t ?_)) (fun b' => ite_f ?_))))
      · have D₄ := DHas.at H₄ (.tail _ (.head _))
        refine wpAny_execs_cons (at_plus (k := 2) H₄ hi rfl ((v_add (v_attr H₄ hi D₄ (sc_at _) rfl rfl (v_loc H₄ rfl)).i (v_len (v_blt H₄ (b_len _)) (v_attr H₄ h1 (h2.has H₄) (sg_start _) rfl rfl (v_loc H₄ rfl)) (hbl.lin H₄) (by rw [hbn, sizeLine_eq]; decide))).ci (by rw [hbn])) fun h₅ tk₅ t₅ H₅ => ?_)
        refine wpAny_execs_cons (x_attr2 1 H₅ hi rfl (zsc_state _) (Nat.le_of_ble_eq_true rfl) (v_glob H₅ (g_COMMENT _)).i (v_add (v_loc H₅ rfl).i v_int) (fun _ _ _ H' => v_loc H' rfl) ?_)
        intro v h₆ P₆ tk₆ le T H₆
        have e : inCommentP nests codes c = { c with at_ := c.at_ + 2, st := (2, c.st.2 + 1) } := by
          unfold inCommentP; rw [if_neg (by rw [b]; decide), if_pos (by rw [n, b']; rfl)]
        have q := q' _ e
        exact wpAny_execs_nil (wpAny_execs_nil (wpAny_execs_nil (q _ _ _ _ _ le H₆.drop ⟨hi.le le, ⟨_, _, _, rfl, T⟩, hp.imp fun _ _ z => z.le le⟩)))
      · have D₄ := DHas.at H₄ (.tail _ (.head _))
        refine wpAny_execs_cons (at_plus (k := 1) H₄ hi rfl (v_add (v_attr H₄ hi D₄ (sc_at _) rfl rfl (v_loc H₄ rfl)).i v_int) fun h₅ tk₅ t₅ H₅ => ?_)
        have e : inCommentP nests codes c = { c with at_ := c.at_ + 1 } := by
          unfold inCommentP; rw [if_neg (by rw [b]; decide), if_neg (by rw [b']; simp)]
        have q := q' _ e
        exact wpAny_execs_nil (wpAny_execs_nil (wpAny_execs_nil (q _ _ _ _ _ .rfl' H₅.drop ⟨hi, ⟨_, _, _, rfl, hst⟩, hp⟩)))
    · refine ite_f ?_
      refine wpAny_execs_cons (at_plus (k := 1) H₃ hi rfl (v_add (v_attr H₃ hi D₃ (sc_at _) rfl rfl (v_loc H₃ rfl)).i v_int) fun h₅ tk₅ t₅ H₅ => ?_)
      have e : inCommentP nests codes c = { c with at_ := c.at_ + 1 } := by
        unfold inCommentP; rw [if_neg (by rw [b]; decide), if_neg (by rw [n]; simp)]
      have q := q' _ e
      exact wpAny_execs_nil (wpAny_execs_nil (wpAny_execs_nil (q _ _ _ _ _ .rfl' H₅.drop ⟨hi, ⟨_, _, _, rfl, hst⟩, hp⟩)))
end

section
variable {prog : Program} {w : World} {A : Around} {E : Value → Shared → Prop} {s : Shared} {h : Heap} {tk : Nat} {P : Part} {ms rest : List (Addr × Cel)} {Q : Value → Shared → Prop}
variable {codes : List Int} {x dx sl : Addr} {sv cv : Value} {c : Sc} {attrs : List (Str × Value)} {sps : List Value}

theorem in_code_spec (H : HS (hd.heap_39 w.params) P ((dx, .inst attrs) :: (sl, .list sps) :: rest) h) (hA : AOk 4 A) (I : ScanIs P codes x dx sl sv cv c attrs sps) {nests : Bool} (hs : SignsAt P nests sv) (hc : IL P cv codes) (hcz : codes.length ≤ 2 ^ 16) (hz : sps.length ≤ 2 ^ 16) (hat : c.at_ < codes.length)
    (q : ScanPost w P codes x dx sl sv cv (inCodeP codes c) rest s Q) : wpAny (model prog w) A (call (.ref 91) [.ref x]) Q E (St s h tk) := by
  have q' : ∀ c', inCodeP codes c = c' → ScanPost w P codes x dx sl sv cv c' rest s Q := fun _ e => e ▸ q
  clear q
  walk_at "m enter"
  intro L h₁ tk₁ A' hA' H₁
  replace H₁ := H₁.names (l := [("self", .ref x)]) ⟨rfl, trivial⟩
  obtain ⟨hi, ⟨stv, t, u, rfl, hst'⟩, hp⟩ := I
  obtain ⟨sa, st1, st2, rfl, hst0⟩ := hst'
  have hst : T2 P (.ref sa) c.st := ⟨sa, st1, st2, rfl, hst0⟩
  have hc' := hc
  have hs' := hs
  obtain ⟨cl, cs, rfl, hcl, hci⟩ := hc
  obtain ⟨a, sdx, qv, t', ls, l1, stv', env', rfl, h1, h2, h3, h4, h5, h6, h7⟩ := hs
  have h6' := h6
  obtain ⟨bl, bs, rfl, hbl, hbi⟩ := h6
  obtain ⟨ql, qs, rfl, hql, hqi⟩ := h3
  have hbn : bs.length = 2 := hbi.length
  obtain ⟨n, hn⟩ : ∃ n, codes[c.at_]? = some n := ⟨_, List.getElem?_eq_getElem hat⟩
  have hcn : cs.length = codes.length := hci.length
  have D := DHas.at H₁ (.tail _ (.head _))
  refine wpAny_execs_cons (x_swap2 hA'.hd H₁ (v_attr H₁ hi D (sc_signs _) rfl rfl (v_loc H₁ rfl)) (v_attr H₁ hi D (sc_codes _) rfl rfl (v_loc H₁ rfl)) ?_)
  rintro _ _ h₂ tk₂ rfl rfl H₂
  have D₂ := DHas.at H₂ (.tail _ (.head _))
  refine wpAny_execs_cons (x_if (t_eq (v_iitem (hcl.lin H₂) hci (v_loc H₂ rfl) (v_attr H₂ hi D₂ (sc_at _) rfl rfl (v_loc H₂ rfl)).i (by omega) hn) (v_attr H₂ h1 (h2.has H₂) (sg_escape _) rfl rfl (v_loc H₂ rfl)).i) (fun b tk₃ => ?_) (fun b tk₃ => ?_))
  · refine wpAny_execs_cons (at_plus (k := 2) H₂ hi rfl (v_add (v_attr H₂ hi D₂ (sc_at _) rfl rfl (v_loc H₂ rfl)).i v_int) fun h₃ tk₃ t₃ H₃ => ?_)
    have e : inCodeP codes c = { c with at_ := c.at_ + 2 } := by unfold inCodeP; rw [if_pos (by rw [getD_of hn]; simpa using b)]
    have q := q' _ e
    exact wpAny_execs_nil (wpAny_execs_nil (q _ _ _ _ _ .rfl' H₃.drop ⟨hi, ⟨_, _, _, rfl, hst⟩, hp⟩))
  · have n1 : ¬ codes.getD c.at_ 0 = 92 := by rw [getD_of hn]; simpa using b
    refine wpAny_execs_cons (wpAny_If (wpAny_isTrue_value (e_callM (kf_is_line _) H₂ (v_glob H₂ (g_is_line_comment _)) (m_cons (v_loc H₂ rfl) (m_cons (v_loc H₂ rfl) (m_cons (v_attr H₂ hi D₂ (sc_at _) rfl rfl (v_loc H₂ rfl)) m_nil)))
      fun tk₄ => is_line_spec H₂ (hA'.le (by decide)) hs' hc' hcz fun h₃ tk₃ H₃ => wpAny_truthy_bool (ite_cases (fun b2 => ?_) (fun b2 => ?_)))))
    · have D₃ := DHas.at H₃ (.tail _ (.head _))
      refine wpAny_execs_cons (x_app3 2 H₃ rfl (by omega) (v_attr H₃ hi D₃ (sc_spans _) rfl rfl (v_loc H₃ rfl)) (v_attr H₃ hi D₃ (sc_at _) rfl rfl (v_loc H₃ rfl)).i ((v_len (v_blt H₃ (b_len _)) (v_loc H₃ rfl) (hcl.lin H₃) (line_of hcn hcz)).ci (by rw [hcn])) (v_glob H₃ (g_COMMENT _)).i fun v h₄ P' tk₄ le pt H₄ => ?_)
      replace H₄ : HS (hd.heap_39 w.params) P' ((L, .frame [("signs", .ref a), ("codes", .ref cl), ("self", .ref x)]) :: (dx, .inst (scA (.ref a) (.ref cl) (.ref sa) (c.at_ : Int) t c.begun u sl)) :: (sl, .list (sps ++ [v])) :: rest) h₄ := H₄
      refine wpAny_execs_cons (x_attr 1 H₄ (hi.le le) rfl (zsc_at _) (Nat.le_of_ble_eq_true rfl) ((v_len (v_blt H₄ (b_len _)) (v_loc H₄ rfl) ((hcl.le le).lin H₄) (line_of hcn hcz)).ci (by rw [hcn])) (v_loc H₄ rfl) ?_)
      rintro _ h₅ tk₅ ⟨t₅, rfl⟩ H₅
      have e : inCodeP codes c = { c with sp := c.sp ++ [((c.at_ : Int), (codes.length : Int), 2)], at_ := codes.length } := by unfold inCodeP; rw [if_neg n1, if_pos b2]
      have q := q' _ e
      exact wpAny_execs_nil (wpAny_execs_nil (wpAny_execs_nil (q _ _ _ _ _ le H₅.drop ⟨hi.le le, ⟨_, _, _, rfl, hst.le le⟩, (hp.imp fun _ _ z => z.le le).snoc pt⟩)))
    · have D₃ := DHas.at H₃ (.tail _ (.head _))
      refine wpAny_execs_cons (wpAny_If (wpAny_isTrue_value (e_callM (kf_stands_at _) H₃ (v_glob H₃ (g_stands_at _)) (m_cons (v_loc H₃ rfl) (m_cons (v_attr H₃ h1 (h2.has H₃) (sg_start _) rfl rfl (v_loc H₃ rfl)) (m_cons (v_attr H₃ hi D₃ (sc_at _) rfl rfl (v_loc H₃ rfl)) m_nil)))
        fun tk₄ => stands_at_spec H₃ (hA'.le (by decide)) hc' hcz h6' (by decide) fun h₄ tk₄ H₄ => wpAny_truthy_bool (ite_cases (fun b3 => ?_) (fun b3 => ?_)))))
      · have D₄ := DHas.at H₄ (.tail _ (.head _))
        refine wpAny_execs_cons (wpAny_Expr_any (e_methL H₄ hi D₄ (me_enter _) rfl (v_loc H₄ rfl) fun tk₅ => m_tup2 H₄ (v_glob H₄ (g_COMMENT _)).i v_int fun v h₅ P' tk₅ le T H₅ => ⟨H₅.kin, enter_spec (codes := codes) (c := c) H₅.tor3 (hA'.le (by decide)) ⟨hi.le le, ⟨_, t, u, rfl, hst.le le⟩, hp.imp fun _ _ z => z.le le⟩ T fun P₆ h₆ tk₆ attrs' sps' le₆ H₆ I₆ => ?_⟩))
        obtain ⟨hi₆, ⟨stv₆, t₆, u₆, rfl, hst₆⟩, hp₆⟩ := I₆
        obtain ⟨sa₆, st1₆, st2₆, rfl, hst₆'⟩ := hst₆
        have H₇ := H₆.rot3
        have D₇ := DHas.at H₇ (.tail _ (.head _))
        have l7 := le.trans le₆
        refine wpAny_execs_cons (at_plus (sc := enterP c (2, 1)) (k := 2) H₇ hi₆ rfl ((v_add (v_attr H₇ hi₆ D₇ (sc_at _) rfl rfl (v_loc H₇ rfl)).i (v_len (v_blt H₇ (b_len _)) (v_attr H₇ (h1.le l7) ((h2.le l7).has H₇) (sg_start _) rfl rfl (v_loc H₇ rfl)) ((hbl.le l7).lin H₇) (by rw [hbn, sizeLine_eq]; decide))).ci (by rw [hbn])) fun h₈ tk₈ t₈ H₈ => ?_)
        have e : inCodeP codes c = { (enterP c (2, 1)) with at_ := c.at_ + 2 } := by unfold inCodeP; rw [if_neg n1, if_neg (by rw [b2]; decide), if_pos b3]
        have q := q' _ e
        exact wpAny_execs_nil (wpAny_execs_nil (wpAny_execs_nil (wpAny_execs_nil (q _ _ _ _ _ l7 H₈.drop ⟨hi₆, ⟨_, _, _, rfl, ⟨_, _, _, rfl, hst₆'⟩⟩, hp₆⟩))))
      · have D₄ := DHas.at H₄ (.tail _ (.head _))
        have it {pos pos' : Pos} {env : Env} : True := trivial
        refine wpAny_execs_cons (x_if (t_in (hql.lin H₄) hqi (v_iitem (hcl.lin H₄) hci (v_loc H₄ rfl) (v_attr H₄ hi D₄ (sc_at _) rfl rfl (v_loc H₄ rfl)).i (by omega) hn) (v_attr H₄ h1 (h2.has H₄) (sg_quotes _) rfl rfl (v_loc H₄ rfl))) (fun b4 tk₅ => ?_) (fun b4 tk₅ => ?_))
        · refine wpAny_execs_cons (wpAny_Expr_any (e_methL H₄ hi D₄ (me_enter _) rfl (v_loc H₄ rfl) fun tk₅ => m_tup2 H₄ (v_glob H₄ (g_STRING _)).i (v_iitem (hcl.lin H₄) hci (v_loc H₄ rfl) (v_attr H₄ hi D₄ (sc_at _) rfl rfl (v_loc H₄ rfl)).i (by omega) hn) fun v h₅ P' tk₅ le T H₅ => ⟨H₅.kin, enter_spec (codes := codes) (c := c) H₅.tor3 (hA'.le (by decide)) ⟨hi.le le, ⟨_, t, u, rfl, hst.le le⟩, hp.imp fun _ _ z => z.le le⟩ T fun P₆ h₆ tk₆ attrs' sps' le₆ H₆ I₆ => ?_⟩))
          obtain ⟨hi₆, ⟨stv₆, t₆, u₆, rfl, hst₆⟩, hp₆⟩ := I₆
          obtain ⟨sa₆, st1₆, st2₆, rfl, hst₆'⟩ := hst₆
          have H₇ := H₆.rot3
          have D₇ := DHas.at H₇ (.tail _ (.head _))
          have l7 := le.trans le₆
          refine wpAny_execs_cons (at_plus (sc := enterP c (1, n)) (k := 1) H₇ hi₆ rfl (v_add (v_attr H₇ hi₆ D₇ (sc_at _) rfl rfl (v_loc H₇ rfl)).i v_int) fun h₈ tk₈ t₈ H₈ => ?_)
          have e : inCodeP codes c = { (enterP c (1, n)) with at_ := c.at_ + 1 } := by unfold inCodeP; rw [if_neg n1, if_neg (by rw [b2]; decide), if_neg (by rw [b3]; decide), getD_of hn, if_pos b4]
          have q := q' _ e
          exact wpAny_execs_nil (wpAny_execs_nil (wpAny_execs_nil (wpAny_execs_nil (wpAny_execs_nil (q _ _ _ _ _ l7 H₈.drop ⟨hi₆, ⟨_, _, _, rfl, ⟨_, _, _, rfl, hst₆'⟩⟩, hp₆⟩)))))
        · refine wpAny_execs_cons (at_plus (k := 1) H₄ hi rfl (v_add (v_attr H₄ hi D₄ (sc_at _) rfl rfl (v_loc H₄ rfl)).i v_int) fun h₅ tk₅ t₅ H₅ => ?_)
          have e : inCodeP codes c = { c with at_ := c.at_ + 1 } := by unfold inCodeP; rw [if_neg n1, if_neg (by rw [b2]; decide), if_neg (by rw [b3]; decide), getD_of hn, if_neg (by rw [b4]; decide)]
          have q := q' _ e
          exact wpAny_execs_nil (wpAny_execs_nil (wpAny_execs_nil (wpAny_execs_nil (wpAny_execs_nil (q _ _ _ _ _ .rfl' H₅.drop ⟨hi, ⟨_, _, _, rfl, hst⟩, hp⟩)))))
end

theorem leave_sp (c : Sc) : (leaveP c).sp.length ≤ c.sp.length + 1 := by unfold leaveP; split <;> simp
theorem leave_at (c : Sc) : (leaveP c).at_ = c.at_ := by unfold leaveP; split <;> rfl
theorem step_at {nests : Bool} {codes : List Int} {c : Sc} (h : c.at_ < codes.length) : c.at_ < (stepP nests codes c).at_ ∧ (stepP nests codes c).at_ ≤ codes.length + 1 ∧ (stepP nests codes c).sp.length ≤ c.sp.length + 1 := by
  unfold stepP
  split
  · unfold inCodeP enterP
    split
    · dsimp only; omega
    · split
      · simp; omega
      · split
        · dsimp only; omega
        · split <;> (dsimp only; omega)
  · split
    · unfold inStringP
      split
      · dsimp only; omega
      · split
        · dsimp only; have := leave_sp { c with at_ := c.at_ + 1 }; rw [leave_at]; dsimp only at this ⊢; omega
        · dsimp only; omega
    · unfold inCommentP
      split
      · split
        · dsimp only; omega
        · dsimp only; have := leave_sp { c with at_ := c.at_ + 2 }; rw [leave_at]; dsimp only at this ⊢; omega
      · split <;> (dsimp only; omega)
theorem loop_end {nests : Bool} {codes : List Int} {c : Sc} (h : ¬ c.at_ < codes.length) : ∀ k, loopP nests codes k c = c
  | 0 => rfl
  | _ + 1 => by unfold loopP; rw [if_neg h]

section
variable {prog : Program} {w : World} {A : Around} {E : Value → Shared → Prop} {s : Shared} {h : Heap} {tk : Nat} {K : Frag} {P : Part} {ms rest : List (Addr × Cel)} {Q : Value → Shared → Prop}
variable {codes : List Int} {x dx sl : Addr} {sv cv : Value} {c : Sc} {attrs : List (Str × Value)} {sps : List Value}

theorem code_fn {R : Result → Shared → Prop} {name qual : Str} {params : Arguments} {body : List Stmt} {scope : Scope} {dV kV doc pm cdv ct oc : Value} {an od : Option Addr} {osl : Array (Option Value)} {f : Addr} {args : List Value} {binds : List (Str × Value)}
    (H : HS K P ms h) (ho : K.lookup f = some ⟨oc, od, .func (fnOf name qual params body scope dV kV doc pm an cdv ct), osl⟩) (hcd : codeIn K cdv qual = true)
    {n : Nat} (hA : AOk (n + 1) A)
    (hbind : bindArgs (fnOf name qual params body scope dV kV doc pm an cdv ct) ⟨args, []⟩ = pure binds) (hloc : ∀ y ∈ binds, scope.names.lookup y.1 = some .local) (hcell : ∀ x ∈ scope.names, x.2 ≠ .cell)
    (q : ∀ L h₁ tk₁ A', AOk n A' → HS K P ((L, .frame binds.reverse) :: ms) h₁ →
      wpAny (model prog w) A' (execs body (envOf qual scope L f cdv)) (fun fl s' => R (.ok (.ret (match fl with | .ret v => v | _ => .none))) s') (fun _ _ => False) (St s h₁ tk₁))
    (hco : scope.isCoroutine = false) (hgen : scope.isGenerator = false) (hk : scope.kind = .function) :
    codeAny (model prog w) A (.call (.ref f) ⟨args, []⟩) R (St s h tk) := by
  refine codeAny_call_def (s := St s h tk) (fd := fnOf name qual params body scope dV kV doc pm an cdv ct) (body := body) (binds := binds) hA.room (H.kin _ _ ho) rfl H.nolimit (codeRec_of H.kin hcd) rfl (BindsTo.of_eq hbind) hcell hloc (fun h₁ hns hk₁ => ?_) hco hgen hk
  have H₁ : HS K P ((h.objs.size, .frame binds.reverse) :: ms) h₁ := by
    obtain ⟨o, es, ep, ho', hd, hks, hf⟩ := hns
    refine ⟨H.st, fun a o e => hk₁ a o (H.has a o e), fun p hp => ?_, by rw [List.map_cons, List.nodup_cons]; exact ⟨H.freshM, H.nd⟩⟩
    rcases List.mem_cons.mp hp with rfl | hp
    · exact ⟨H.fresh, o, ho', es, ep, hd, hks, fun x v e => (hf x).trans e⟩
    · obtain ⟨n, x, e, j⟩ := H.mu p hp; exact ⟨n, x, hk₁ _ _ e, j⟩
  exact wpAny_mono (q _ h₁ _ _ hA.deeper H₁) (fun fl s' q => q) fun _ _ e => e.elim

theorem e_list0 {f : Addr × Cel} {env : Env} {pos : Pos} {Q : Value → Shared → Prop} (H : HS K P (f :: ms) h)
    (q : ∀ a h', HS K P (f :: (a, .list []) :: ms) h' → Q (.ref a) (St s h' tk)) : wpAny (model prog w) A (eval (.List [] pos) env) Q E (St s h tk) :=
  List_ (wpAny_items_nil (new_list H (Nat.zero_le _) q))

theorem scan_init {stv : Value} (H : HS (hd.heap_39 w.params) P ((dx, .inst []) :: ms) h) (hA : AOk 1 A) (hi : PIns P x 115 dx) {R : Result → Shared → Prop}
    (q : ∀ sl h' tk' t u, HS (hd.heap_39 w.params) P ((dx, .inst (scA sv cv stv 0 t 0 u sl)) :: (sl, .list []) :: ms) h' → R (.ok (.ret .none)) (St s h' tk')) :
    codeAny (model prog w) A (.call (.ref 70) ⟨[.ref x, sv, cv, stv], []⟩) R (St s h tk) := by
  (refine' code_fn (by assumption) ?ho ?hcd ?hA ?hbind ?hloc ?hcell ?hgo ?hco ?hgen ?hk; (case ho => k_is); (case hcd => k_is); (case hA => assumption); (case hbind => exact rfl); (case hloc => exact locs rfl); (case hcell => decide); (case hco => exact rfl); (case hgen => exact rfl); (case hk => exact rfl))
  intro L h₁ tk₁ A' hA' H₁
  replace H₁ := H₁.names (l := [("self", .ref x), ("signs", sv), ("codes", cv), ("state", stv)]) ⟨rfl, rfl, rfl, rfl, trivial⟩
  refine wpAny_execs_cons (x_attr 1 H₁ hi rfl (zsc_signs _) (Nat.le_of_ble_eq_true rfl) (v_loc H₁ rfl) (v_loc H₁ rfl) ?_)
  rintro _ h₂ tk₂ rfl H₂
  refine wpAny_execs_cons (x_attr 1 H₂ hi rfl (zsc_codes _) (Nat.le_of_ble_eq_true rfl) (v_loc H₂ rfl) (v_loc H₂ rfl) ?_)
  rintro _ h₃ tk₃ rfl H₃
  refine wpAny_execs_cons (x_attr 1 H₃ hi rfl (zsc_state _) (Nat.le_of_ble_eq_true rfl) (v_loc H₃ rfl) (v_loc H₃ rfl) ?_)
  rintro _ h₄ tk₄ rfl H₄
  refine wpAny_execs_cons (x_attr 1 H₄ hi rfl (zsc_at _) (Nat.le_of_ble_eq_true rfl) v_int (v_loc H₄ rfl) ?_)
  rintro _ h₅ tk₅ ⟨t, rfl⟩ H₅
  refine wpAny_execs_cons (x_attr 1 H₅ hi rfl (zsc_begun _) (Nat.le_of_ble_eq_true rfl) v_int (v_loc H₅ rfl) ?_)
  rintro _ h₆ tk₆ ⟨u, rfl⟩ H₆
  refine wpAny_execs_cons (plainObj_wpAny_Assign_Attribute (e_list0 H₆ fun sl h₇ H₇ => ?_))
  have H₈ := H₇.rot3
  refine (v_loc H₇ rfl).eq fun tk₇ => set_attr (i := 2) H₇ hi rfl (zsc_spans _) (Nat.le_of_ble_eq_true rfl) fun h₉ tk₉ H₉ => ?_
  exact wpAny_execs_nil (q sl h₉ tk₉ t u H₉.drop.swap)

theorem go_spec {st : St2} (H : HS (hd.heap_39 w.params) P ((dx, .inst attrs) :: (sl, .list sps) :: rest) h) (hA : AOk 6 A) (I : ScanIs P codes x dx sl sv cv ⟨0, 0, st, []⟩ attrs sps) {nests : Bool} (hs : SignsAt P nests sv) (hc : IL P cv codes) (hcz : codes.length ≤ 2 ^ 15)
    (q : ScanPost w P codes x dx sl sv cv (goP nests codes ⟨0, 0, st, []⟩) rest s Q) : wpAny (model prog w) A (call (.ref 112) [.ref x]) Q E (St s h tk) := by
  walk_at "m enter"
  intro L h₁ tk₁ A' hA' H₁
  replace H₁ := H₁.names (l := [("self", .ref x)]) ⟨rfl, trivial⟩
  have hc' := hc
  obtain ⟨cl, cs, rfl, hcl, hci⟩ := hc
  have hcn : cs.length = codes.length := hci.length
  refine wpAny_execs_cons (loop_while (ex := [(dx, .inst attrs), (sl, .list sps)]) (rest := rest) (n := codes.length + 2) (fun n P' kn ex => kn = [(("self" : Str), (.ref x : Value))] ∧ ∃ c attrs' sps' k, ex = [(dx, .inst attrs'), (sl, .list sps')] ∧ Le P P' ∧ ScanIs P' codes x dx sl sv (.ref cl) c attrs' sps' ∧
      codes.length ≤ c.at_ + k ∧ c.sp.length ≤ c.at_ ∧ c.at_ ≤ codes.length + 1 ∧ n = codes.length + 2 - c.at_ ∧ loopP nests codes k c = loopP nests codes codes.length ⟨0, 0, st, []⟩)
    H₁ ⟨rfl, _, _, _, codes.length, rfl, .rfl', I, Nat.le_add_left _ _, Nat.le_refl _, Nat.zero_le _, rfl, rfl⟩ ?_)
  rintro n P' _ _ h' tk' E' QT wend le ⟨rfl, c, attrs', sps', k, rfl, -, I', hk, hsp, hat, rfl, heq⟩ H'
  have hspl : sps'.length = c.sp.length := I'.p.length
  have I₀ := I'
  obtain ⟨hi, ⟨stv, t, u, rfl, hst'⟩, hp⟩ := I'
  obtain ⟨sa, st1, st2, rfl, hst0⟩ := hst'
  have hst : T2 P' (.ref sa) c.st := ⟨sa, st1, st2, rfl, hst0⟩
  have D := DHas.at H' (.tail _ (.head _))
  refine (t_lt (v_attr H' hi D (sc_at _) rfl rfl (v_loc H' rfl)).i (v_len (v_blt H' (b_len _)) (v_attr H' hi D (sc_codes _) rfl rfl (v_loc H' rfl)) ((hcl.le le).lin H') (line_of hcn hcz))).use fun tk₂ => ite_cases (fun b => ?_) (fun b => ?_)
  · have lt : c.at_ < codes.length := by rw [hcn] at b; simpa using b
    obtain ⟨k, rfl⟩ := pred_of lt hk
    have sa1 := step_at (nests := nests) lt
    have hstep : loopP nests codes (k + 1) c = loopP nests codes k (stepP nests codes c) := by rw [loopP, if_pos lt]
    rw [hstep] at heq
    have fin : ∀ (c₁ : Sc), stepP nests codes c = c₁ → ScanPost w P' codes x dx sl sv (.ref cl) c₁ ((L, .frame [(("self" : Str), (.ref x : Value))]) :: rest) s (fun _ s₃ => QT .next s₃) := by
      rintro _ rfl P₂ h₂ tk₂ attrs₂ sps₂ le₂ H₂ I₂
      exact wend.next P₂ _ [(dx, .inst attrs₂), (sl, .list sps₂)] h₂ tk₂ _ le₂ H₂.rot3 (meas2 sa1.1 lt) ⟨rfl, _, _, _, k, rfl, le.trans le₂, I₂, by omega, by omega, sa1.2.1, rfl, heq⟩
    refine wpAny_execs_cons (x_if (t_eq (v_pair0 H' hst (v_attr H' hi D (sc_state _) rfl rfl (v_loc H' rfl))) (v_glob H' (g_CODE _)).i) (fun b1 tk₃ => ?_) (fun b1 tk₃ => ?_))
    · refine wpAny_execs_cons (wpAny_Expr_any (e_methL0 H' hi D (me_in_code _) rfl (v_loc H' rfl) fun tk₆ => in_code_spec (codes := codes) H'.tor3 (hA'.le (by decide)) I₀ (hs.le le) (hc'.le le) (by omega) (by omega) lt fun P₂ h₂ tk₂ attrs₂ sps₂ le₂ H₂ I₂ => ?_))
      exact wpAny_execs_nil (wpAny_execs_nil (fin _ (by unfold stepP; rw [if_pos (by simpa using b1)]) P₂ h₂ _ attrs₂ sps₂ le₂ H₂ I₂))
    · refine wpAny_execs_cons (x_if (t_eq (v_pair0 H' hst (v_attr H' hi D (sc_state _) rfl rfl (v_loc H' rfl))) (v_glob H' (g_STRING _)).i) (fun b2 tk₃ => ?_) (fun b2 tk₃ => ?_))
      · refine wpAny_execs_cons (wpAny_Expr_any (e_methL0 H' hi D (me_in_string _) rfl (v_loc H' rfl) fun tk₆ => in_string_spec (codes := codes) H'.tor3 (hA'.le (by decide)) I₀ (hs.le le) (hc'.le le) (by omega) (by omega) lt fun P₂ h₂ tk₂ attrs₂ sps₂ le₂ H₂ I₂ => ?_))
        exact wpAny_execs_nil (wpAny_execs_nil (wpAny_execs_nil (fin _ (by unfold stepP; rw [if_neg (by simpa using b1), if_pos (by simpa using b2)]) P₂ h₂ _ attrs₂ sps₂ le₂ H₂ I₂)))
      · refine wpAny_execs_cons (wpAny_Expr_any (e_methL0 H' hi D (me_in_comment _) rfl (v_loc H' rfl) fun tk₆ => in_comment_spec (codes := codes) H'.tor3 (hA'.le (by decide)) I₀ (hs.le le) (hc'.le le) (by omega) (by omega) fun P₂ h₂ tk₂ attrs₂ sps₂ le₂ H₂ I₂ => ?_))
        exact wpAny_execs_nil (wpAny_execs_nil (wpAny_execs_nil (fin _ (by unfold stepP; rw [if_neg (by simpa using b1), if_neg (by simpa using b2)]) P₂ h₂ _ attrs₂ sps₂ le₂ H₂ I₂)))
  · have ge : ¬ c.at_ < codes.length := by rw [hcn] at b; simpa using b
    rw [loop_end ge] at heq
    refine wpAny_execs_cons (x_attr 1 H' hi rfl (zsc_at _) (Nat.le_of_ble_eq_true rfl) ((v_len (v_blt H' (b_len _)) (v_attr H' hi D (sc_codes _) rfl rfl (v_loc H' rfl)) ((hcl.le le).lin H') (line_of hcn hcz)).ci (by rw [hcn])) (v_loc H' rfl) ?_)
    rintro _ h₃ tk₃ ⟨t₃, rfl⟩ H₃
    have D₃ := DHas.at H₃ (.tail _ (.head _))
    refine wpAny_execs_cons (wpAny_Expr_any (e_methL0 H₃ hi D₃ (me_leave _) rfl (v_loc H₃ rfl) fun tk₆ => leave_spec (codes := codes) (c := { c with at_ := codes.length }) H₃.tor3 (hA'.le (by decide)) ⟨hi, ⟨_, t₃, u, rfl, hst⟩, hp⟩ (by omega) fun P₂ h₂ tk₂ attrs₂ sps₂ le₂ H₂ I₂ => ?_))
    refine wpAny_execs_nil (q _ _ _ _ _ (le.trans le₂) H₂.rot3.drop ?_)
    unfold goP
    rw [← heq]
    exact I₂
end

def ScanRes (P : Part) (v : Value) (r : St2 × List Span) : Prop := ∃ ta stv sl sps, v = .ref ta ∧ PTup P ta [stv, .ref sl] ∧ T2 P stv r.1 ∧ PLst P sl sps ∧ All2 (T3 P) sps r.2
section
variable {prog : Program} {w : World} {A : Around} {E : Value → Shared → Prop} {s : Shared} {h : Heap} {tk : Nat} {K : Frag} {P : Part} {ms rest : List (Addr × Cel)} {Q : Value → Shared → Prop}
variable {codes : List Int} {x dx sl : Addr} {sv cv : Value} {c : Sc} {attrs : List (Str × Value)} {sps : List Value}

theorem scanned_spec {st : St2} {stv : Value} (H : HS (hd.heap_39 w.params) P ms h) (hA : AOk 7 A) {nests : Bool} (hs : SignsAt P nests sv) (hc : IL P cv codes) (hcz : codes.length ≤ 2 ^ 15) (ht : T2 P stv st)
    (q : ∀ P' h' tk' v, Le P P' → HS (hd.heap_39 w.params) P' ms h' → ScanRes P' v (scanP nests codes st) → Q v (St s h' tk')) :
    wpAny (model prog w) A (call (.ref 126) [sv, cv, stv]) Q E (St s h tk) := by
  walk_at "m enter"
  intro L h₁ tk₁ A' hA' H₁
  replace H₁ := H₁.names (l := [("signs", sv), ("codes", cv), ("state", stv)]) ⟨rfl, rfl, rfl, trivial⟩
  refine wpAny_execs_cons (wpAny_Assign_Name (e_callM (mk_Scan _).k H₁ (v_glob H₁ (g_Scan _)) (m_cons (v_loc H₁ rfl) (m_cons (v_loc H₁ rfl) (m_cons (v_loc H₁ rfl) m_nil))) fun tk₂ => make_cls H₁ (mk_Scan _) fun x dx h₂ P₂ le₂ hi₂ H₂ => ?_) rfl)
  refine scan_init H₂.swap ((hA'.le (by decide)).under (n := 1) (Nat.le_of_ble_eq_true rfl) (Nat.le_of_ble_eq_true rfl)) hi₂ fun sl h₃ tk₃ t u H₃ => ⟨rfl, ?_⟩
  have I₃ : ScanIs P₂ codes x dx sl sv cv ⟨0, 0, st, []⟩ (scA sv cv stv 0 t 0 u sl) [] := ⟨hi₂, ⟨stv, t, u, rfl, ht.le le₂⟩, .nil⟩
  refine sto H₃.rot3 fun h₄ tk₄ H₄ => ?_
  have D₄ := DHas.at H₄ (.tail _ (.head _))
  refine wpAny_execs_cons (wpAny_Expr_any (e_methL0 H₄ hi₂ D₄ (me_go _) rfl (v_loc H₄ rfl) fun tk₅ => go_spec (codes := codes) H₄.tor3 hA' I₃ (hs.le le₂) (hc.le le₂) hcz fun P₅ h₅ tk₆ attrs₅ sps₅ le₅ H₅ I₅ => ?_))
  obtain ⟨hi₅, ⟨stv₅, t₅, u₅, rfl, hst₅⟩, hp₅⟩ := I₅
  obtain ⟨sa, st1, st2, rfl, hst₅⟩ := hst₅
  obtain ⟨o, ⟨no, rfl⟩, hn, le₆, H₆⟩ := H₅.rot3.freezeAt (i := 2) rfl
  have D₆ := DHas.at H₆ (.tail _ (.head _))
  refine wpAny_execs_cons (wpAny_Return_some (v_tup H₆ (Nat.le_of_ble_eq_true rfl) (l_cons (v_attr H₆ (hi₅.le le₆) D₆ (sc_state _) rfl rfl (v_loc H₆ rfl)) (l_cons (v_attr H₆ (hi₅.le le₆) D₆ (sc_spans _) rfl rfl (v_loc H₆ rfl)) l_nil)) (fun vs r => r.length) fun vs ta h₇ P₇ tk₇ r le₇ pt H₇ => ?_))
  obtain ⟨v₁, v₂, rfl⟩ : ∃ v₁ v₂, vs = [v₁, v₂] := by
    rcases vs with _ | ⟨v₁, _ | ⟨v₂, _ | ⟨v₃, us⟩⟩⟩ <;> first | exact ⟨_, _, rfl⟩ | simp [Rl] at r
  obtain ⟨rfl, rfl, _⟩ := r
  exact q P₇ h₇ tk₇ (.ref ta) (((le₂.trans le₅).trans le₆).trans le₇) H₇.drop.drop ⟨ta, .ref sa, sl, sps₅, rfl, pt, ⟨sa, st1, st2, rfl, (hst₅.le le₆).le le₇⟩, PLst.le ⟨no, Part.put_self⟩ le₇, hp₅.imp fun _ _ z => (z.le le₆).le le₇⟩
end

theorem mcall_ex {env : Env} {o e : Expr} {name : Str} {apos pos : Pos} (he : starEach [e] env = [(false, eval e env)]) (hp : apos.endLine = pos.line)
   (hb : attributeBase o name env (eval o env) = eval o env) : ∃ pl : Sem Bool, eval (.Call (.Attribute o name apos) [e] [] pos) env = (do
      let ov ← eval o env
      standAt apos.atName
      let (f, first) ← holding [ov] (getMethod ov name pl)
      callWith pos f first (backTo pos (starEach [e] env)) (backToKw pos (keywordEach [] env))) := by
  have e0 : eval (.Call (.Attribute o name apos) [e] [] pos) env = (do
    let ov ← attributeBase o name env (eval o env)
    standAt apos.atName
    methodCall o name apos pos env ov 1 (backTo pos (starEach [e] env)) (backToKw pos (keywordEach [] env))) := rfl
  apply Exists.intro
  rw [e0, hb, he]
  have hf : methodCallForm 1 (backTo pos [(false, eval e env)]) (backToKw pos (keywordEach [] env)) = true := rfl
  unfold methodCall
  rw [hf]
  unfold methodCallPos
  simp only [hp, Bool.not_true, Bool.false_or, beq_self_eq_true, if_true]
  unfold calleeOf
  simp only [if_true]
  rfl
theorem mcall1 {env : Env} {o e : Expr} {name : Str} {apos pos : Pos} (he : starEach [e] env = [(false, eval e env)]) (hp : apos.endLine = pos.line)
   (hb : attributeBase o name env (eval o env) = eval o env) : eval (.Call (.Attribute o name apos) [e] [] pos) env = (do
      let ov ← eval o env
      standAt apos.atName
      let (f, first) ← holding [ov] (getMethod ov name (mcall_ex he hp hb).choose)
      callWith pos f first (backTo pos (starEach [e] env)) (backToKw pos (keywordEach [] env))) := (mcall_ex he hp hb).choose_spec
section
variable {prog : Program} {w : World} {A : Around} {s : Shared} {env : Env} {h : Heap} {tk : Nat} {E : Value → Shared → Prop} {K : Frag} {P : Part} {ms ex rest : List (Addr × Cel)} {kn : List (Str × Value)}

theorem e_pop0 {o e : Expr} {apos pos : Pos} {Q : Value → Shared → Prop} {pl : Sem Bool} {l : Addr} {v : Value} {vs : List Value} (i : Nat) (H : HS K P ms h) (hi : ms[i]? = some (l, .list (v :: vs))) (hz : vs.length ≤ 2 ^ 16)
    (po : Ev prog w A s env h o ((.ref l : Value) = ·)) (pe : Ev prog w A s env h e (IsI 0))
    (q : ∀ h' tk', HS K P (ms.set i (l, .list vs)) h' → Q v (St s h' tk'))
    (hm : eval (.Call (.Attribute o "pop" apos) [e] [] pos) env = (do
      let ov ← eval o env
      standAt apos.atName
      let (f, first) ← holding [ov] (getMethod ov "pop" pl)
      callWith pos f first (backTo pos (starEach [e] env)) (backToKw pos (keywordEach [] env))) := by rfl)
    (he : starEach [e] env = [(false, eval e env)] := by rfl) :
    wpAny (model prog w) A (eval (.Call (.Attribute o "pop" apos) [e] [] pos) env) Q E (St s h tk) := by
  have x : LIn h l (v :: vs) := LIn.mem H (List.mem_of_getElem? hi)
  refine methodCall_KW (po.eq fun tk₁ => ?_) hm
  refine getMethod_list_of PySem.F.slot_list_pop PySem.F.type_list_pop x.isList x.noDict ?_
  dsimp only
  rw [he]
  refine PySem.P.pop_at_list (pe.int fun u tk₂ => ?_)
  obtain ⟨n, hl⟩ := H.listAt hi
  refine ⟨(v :: vs).toArray, n, 0, u, 0, v, by rw [sizeLine_eq]; simp; omega, rfl, hl, rfl, by unfold seqIndex?; simp, rfl, q _ _ (H.updAt hi _ fun o ho j => ?_)⟩
  obtain ⟨n', rfl⟩ := j
  exact mapSeq_is (by apply Array.ext'; simp [Array.eraseIdxIfInBounds])

theorem e_extend {o e : Expr} {apos pos : Pos} {Q : Value → Shared → Prop} {pl : Sem Bool}
    (q : wpAny (model prog w) A (eval o env) (fun ov s₁ => ∃ l vs₀, ov = .ref l ∧ LIn s₁.heap l vs₀ ∧ wpAny (model prog w) A (eval e env) (fun v s₂ => ∃ K h₂ tk₂ P ms i vs b us, s₂ = St s h₂ tk₂ ∧ HS K P ms h₂ ∧ ms[i]? = some (l, .list vs) ∧ v = .ref b ∧ LIn h₂ b us ∧ vs.length + us.length ≤ 2 ^ 16 ∧
      ∀ h', HS K P (ms.set i (l, .list (vs ++ us))) h' → Q .none (St s h' tk₂)) E s₁) E (St s h tk))
    (hm : eval (.Call (.Attribute o "extend" apos) [e] [] pos) env = (do
      let ov ← eval o env
      standAt apos.atName
      let (f, first) ← holding [ov] (getMethod ov "extend" pl)
      callWith pos f first (backTo pos (starEach [e] env)) (backToKw pos (keywordEach [] env))) := by rfl)
    (he : starEach [e] env = [(false, eval e env)] := by rfl) :
    wpAny (model prog w) A (eval (.Call (.Attribute o "extend" apos) [e] [] pos) env) Q E (St s h tk) := by
  refine methodCall_KW (wpAny_mono q (fun ov s₁ h₁ => ?_) fun _ _ e => e) hm
  obtain ⟨l, vs₀, rfl, x, q⟩ := h₁
  refine getMethod_list_of PySem.F.slot_list_extend PySem.F.type_list_extend x.isList x.noDict ?_
  dsimp only
  rw [he]
  refine PySem.P.extend_list (wpAny_mono q (fun v s₂ h₂ => ?_) fun _ _ e => e)
  obtain ⟨K, h₂, tk₂, P, ms, i, vs, b, us, rfl, H, hi, rfl, ⟨nb, hb⟩, hz, q⟩ := h₂
  obtain ⟨n, hl⟩ := H.listAt hi
  refine ⟨b, vs.toArray, us.toArray, n, nb, by rw [sizeLine_eq]; simp; omega, by rw [sizeLine_eq]; simp; omega, by simp [Builtin.List.listTooLong, sizeLine_eq]; omega, rfl, hl, hb, q _ (H.updAt hi _ fun o ho j => ?_)⟩
  obtain ⟨n', rfl⟩ := j
  exact mapSeq_is (by simp)

theorem li_nil : EvL prog w A s env h [] (IntsAre · []) := fun _ _ _ _ q => wpAny_items_nil (q _ _ .nil)
theorem li_cons {e : Expr} {es : List Expr} {n : Int} {ns : List Int} (x : Ev prog w A s env h e (IsI n)) (y : EvL prog w A s env h es (IntsAre · ns)) (hs : starEach (e :: es) env = (false, eval e env) :: starEach es env := by rfl) : EvL prog w A s env h (e :: es) (IntsAre · (n :: ns)) :=
  fun pos _ _ _ q => wpAny_items_cons (x.int fun t _ => y pos _ _ _ fun vs tk' rs => q (.int n t :: vs) tk' (.cons n t rs)) hs
theorem e_ints {f : Addr × Cel} {es : List Expr} {ns : List Int} {pos : Pos} {Q : Value → Shared → Prop} (H : HS K P (f :: ms) h) (p : EvL prog w A s env h es (IntsAre · ns)) (hz : ns.length ≤ 2 ^ 16)
    (q : ∀ v h' P' tk', Le P P' → IL P' v ns → HS K P' (f :: ms) h' → Q v (St s h' tk')) : wpAny (model prog w) A (eval (.List es pos) env) Q E (St s h tk) := by
  refine List_ (p.use fun vs tk' r => new_list H (by rw [sizeLine_eq, r.length]; omega) fun a h' H' => ?_)
  obtain ⟨o, ⟨n, rfl⟩, le, H''⟩ := H'.swap.freeze
  exact q _ _ _ _ le ⟨a, vs, rfl, ⟨n, Part.put_self⟩, r⟩ H''
theorem e_intsM {f : Addr × Cel} {es : List Expr} {ns : List Int} {pos : Pos} {Q : Value → Shared → Prop} (H : HS K P (f :: ms) h) (p : EvL prog w A s env h es (IntsAre · ns)) (hz : ns.length ≤ 2 ^ 16)
    (q : ∀ a vs h' tk', IntsAre vs ns → HS K P (f :: (a, .list vs) :: ms) h' → Q (.ref a) (St s h' tk')) : wpAny (model prog w) A (eval (.List es pos) env) Q E (St s h tk) :=
  List_ (p.use fun vs tk' r => new_list H (by rw [sizeLine_eq, r.length]; omega) fun a h' H' => q a vs h' tk' r H')
theorem se_list {es e : List Expr} {ep : Pos} : starEach (.List e ep :: es) env = (false, eval (.List e ep) env) :: starEach es env := rfl
theorem se_sub {es : List Expr} {a b : Expr} {ep : Pos} : starEach (.Subscript a b ep :: es) env = (false, eval (.Subscript a b ep) env) :: starEach es env := rfl
theorem se_if {es : List Expr} {a b c : Expr} {ep : Pos} : starEach (.IfExp a b c ep :: es) env = (false, eval (.IfExp a b c ep) env) :: starEach es env := rfl
theorem se_tup {es e : List Expr} {k : Nat} {ep : Pos} : starEach (.Tuple e k ep :: es) env = (false, eval (.Tuple e k ep) env) :: starEach es env := rfl
theorem se_const {es : List Expr} {c : Const} {k : Nat} {ep : Pos} : starEach (.Constant c k ep :: es) env = (false, eval (.Constant c k ep) env) :: starEach es env := rfl
theorem se_name {es : List Expr} {x : Str} {ep : Pos} : starEach (.Name x ep :: es) env = (false, eval (.Name x ep) env) :: starEach es env := rfl
theorem se_bin {es : List Expr} {a b : Expr} {o : Operator} {ep : Pos} : starEach (.BinOp a o b ep :: es) env = (false, eval (.BinOp a o b ep) env) :: starEach es env := rfl
theorem se_call {es a : List Expr} {f : Expr} {k : List Keyword} {ep : Pos} : starEach (.Call f a k ep :: es) env = (false, eval (.Call f a k ep) env) :: starEach es env := rfl
theorem se_lc {es : List Expr} {f : Expr} {k : List Comprehension} {sc : Scope} {ep : Pos} : starEach (.ListComp f k sc ep :: es) env = (false, eval (.ListComp f k sc ep) env) :: starEach es env := rfl
def LineV (P : Part) (n : Nat) (v : Value) : Prop := ∃ codes, codes.length ≤ n ∧ IL P v codes
theorem LineV.le {P P' : Part} {n : Nat} {v : Value} (x : LineV P n v) (e : Le P P') : LineV P' n v := let ⟨c, z, i⟩ := x; ⟨c, z, i.le e⟩
def EvG (prog : Program) (w : World) (A : Around) (s : Shared) (env : Env) (n : Nat) (es : List Expr) : Prop :=
  ∀ (K : Frag) (P : Part) (f : Addr × Cel) (ms : List (Addr × Cel)) (h : Heap) (tk : Nat) (pos : Pos) (E : Value → Shared → Prop) (Q : List Value → Shared → Prop), HS K P (f :: ms) h →
    (∀ vs P' h' tk', Le P P' → HS K P' (f :: ms) h' → vs.length = es.length → (∀ v ∈ vs, LineV P' n v) → Q vs (St s h' tk')) → wpAny (model prog w) A (spliced (backTo pos (starEach es env))) Q E (St s h tk)
theorem EvG.use {n : Nat} {f : Addr × Cel} {es : List Expr} {pos : Pos} {Q : List Value → Shared → Prop} (H : HS K P (f :: ms) h) (x : EvG prog w A s env n es)
    (q : ∀ vs P' h' tk', Le P P' → HS K P' (f :: ms) h' → vs.length = es.length → (∀ v ∈ vs, LineV P' n v) → Q vs (St s h' tk')) : wpAny (model prog w) A (spliced (backTo pos (starEach es env))) Q E (St s h tk) := x K P f ms h tk pos E Q H q
theorem eg_nil {n : Nat} : EvG prog w A s env n [] := fun _ _ _ _ _ _ _ _ _ H q => wpAny_items_nil (q _ _ _ _ .rfl' H rfl (by simp))
theorem eg_cons {n : Nat} {es : List Expr} {e : List Expr} {ns : List Int} {ep : Pos} (p : ∀ h, EvL prog w A s env h e (IntsAre · ns)) (hz : ns.length ≤ n) (hn : n ≤ 2 ^ 16) (y : EvG prog w A s env n es) : EvG prog w A s env n (.List e ep :: es) :=
  fun K P f ms h tk pos E Q H q => i_cons (e_ints H (p h) (by omega) fun v h₁ P₁ tk₁ le₁ il H₁ => y K P₁ f ms h₁ tk₁ pos _ _ H₁ fun vs P₂ h₂ tk₂ le₂ H₂ hl hv =>
    q (v :: vs) P₂ h₂ tk₂ (le₁.trans le₂) H₂ (by simp [hl]) (by
      intro u hu
      rcases List.mem_cons.mp hu with rfl | hu
      · exact ⟨ns, hz, il.le le₂⟩
      · exact hv u hu)) se_list

theorem set_same : ∀ {l : List (Addr × Cel)} {i : Nat} {x : Addr × Cel}, l[i]? = some x → l.set i x = l
  | [], i, _, h => by simp at h
  | y :: r, 0, x, h => by simp at h; subst h; rfl
  | y :: r, i + 1, x, h => by
    have := set_same (l := r) (i := i) (x := x) (by simpa using h)
    rw [List.set_cons_succ, this]
theorem idx_set {α : Type} {ms r : List α} {i : Nat} {x y : α} (h : ms[i]? = some x) : (ms.set i y ++ r)[i]? = some y := by
  have : i < ms.length := (List.getElem?_eq_some_iff.mp h).1
  rw [List.getElem?_append_left (by simpa using this), List.getElem?_set_self this]
theorem set_set_app {α : Type} {ms r : List α} {i : Nat} {x y z : α} (h : ms[i]? = some x) : (ms.set i y ++ r).set i z = ms.set i z ++ r := by
  have : i < ms.length := (List.getElem?_eq_some_iff.mp h).1
  rw [List.set_append_left _ _ (by simpa using this), List.set_set]
theorem ia_app : ∀ {a b : List Value} {x y : List Int}, IntsAre a x → IntsAre b y → IntsAre (a ++ b) (x ++ y)
  | _, _, _, _, .nil, q => q
  | _, _, _, _, .cons n t r, q => .cons n t (ia_app r q)
theorem e_nil {f : Addr × Cel} {pos : Pos} {Q : Value → Shared → Prop} (H : HS K P (f :: ms) h)
    (q : ∀ a h', HS K P (f :: (a, .list []) :: ms) h' → Q (.ref a) (St s h' tk)) : wpAny (model prog w) A (eval (.List [] pos) env) Q E (St s h tk) :=
  List_ (wpAny_items_nil (new_list H (Nat.zero_le _) q))

abbrev ForK (prog : Program) (w : World) (A : Around) (E : Value → Shared → Prop) (env : Env) (target : Expr) (body : List Stmt) (Q : Flow → Shared → Prop) (xv : Value) (s₁ : Shared) : Prop :=
  wpAny (model prog w) A (pyIter xv) (fun it s₂ => codeAny (model prog w) A (.forLoop target it body [] env) (fun r s' => match r with | .ok f => Q f s' | .error e => cameBackBy (model prog w) A env E e s') s₂) E s₁
theorem x_forC {x nm : Str} {px np pos pos' : Pos} {e : Expr} {body : List Stmt} {Q : Flow → Shared → Prop} (f : Ev prog w A s env h (.Name nm np) ((.type "range" : Value) = ·))
    (p : ∀ tk', wpAny (model prog w) A (eval e env) (fun v s₁ => wpAny (model prog w) A (call (.type "range") [v]) (ForK prog w A E env (.Name x px) body Q) E s₁) E (St s h tk'))
    (hs : ∀ x, foldedSetIterable (.Call (.Name nm np) [e] [] pos') env x = pure x := by intro _; rfl) (h1 : starEach [e] env = [(false, eval e env)] := by rfl) :
    wpAny (model prog w) A (exec (.For (.Name x px) (.Call (.Name nm np) [e] [] pos') body [] pos) env) Q E (St s h tk) :=
  wpAny_For (e_call1t (f.eq fun _ => ⟨rfl, p _⟩) h1) hs
theorem loopR {x : Str} {px : Pos} {body : List Stmt} {Q : Flow → Shared → Prop} {c : Nat} {t : Tok} (J : Nat → Jt) (hh : A.handled = none)
    (H : HS K P ((env.locals, .frame kn) :: (ex ++ rest)) h) (hc : c < 2 ^ 60) (j : J 0 P kn ex)
    (turn : ∀ i t P' kn' ex' rest' h' tk' E' QT, TEnd K P' s env.locals rest' rest Q (J (i + 1)) QT → i < c → Le P P' → J i P' kn' ex' → HS K P' ((env.locals, .frame ((x, .int i t) :: kn')) :: (ex' ++ rest')) h' →
      wpAny (model prog w) A (execs body env) QT E' (St s h' tk'))
    (done : ∀ P' kn' ex' h' tk', Le P P' → J c P' kn' ex' → HS K P' ((env.locals, .frame kn') :: (ex' ++ rest)) h' → Q .next (St s h' tk'))
    (hk : env.scope.kind = .function := by rfl) (hx : env.kindOf x = some .local := by rfl) :
    wpAny (model prog w) A (call (.type "range") [.int c t]) (ForK prog w A E env (.Name x px) body Q) E (St s h tk) :=
  call_range H fun r h' tk' t u v H' hr => loop_range (a := 0) J hh H' hr (Nat.zero_le _) hc j (fun i t P' kn' ex' rest' h' tk' E' QT fin _ hi le j' H' => asg_name H' (fun h'' tk'' H'' => turn i t P' kn' ex' rest' h'' tk'' E' QT fin hi le j' H'') hk hx) done

theorem e_cutA {f : Addr × Cel} {value : Expr} {lower upper : Option Expr} {p pos : Pos} {l : Addr} {vs : List Value} {lo hi : Option Int} {Q : Value → Shared → Prop} (H : HS K P (f :: ms) h) (x : LIn h l vs) (hz : vs.length ≤ 2 ^ 16)
    (pv : Ev prog w A s env h value ((.ref l : Value) = ·)) (pl : EvP prog w A s env h lower lo) (pu : EvP prog w A s env h upper hi)
    (q : ∀ a h' tk', HS K P (f :: (a, .list (kms_pick vs lo hi)) :: ms) h' → Q (.ref a) (St s h' tk')) :
    wpAny (model prog w) A (eval (.Subscript value (.Slice lower upper none p) pos) env) Q E (St s h tk) := by
  refine Subscript_ (pv.eq fun _ => wpAny_Slice (pl _ _ _ fun vl _ il => pu _ _ _ fun vu tk' iu => ?_))
  rw [evalPart_none]
  refine wpAny_pure (tail_any (x.isList.push _).typeIs slot_list_getitem.lookup (wpAny_getItem_list_slice (x.isList.push _) (Heap.IsSliceOf.new ..) il iu .none (by simp) ?_ (by rw [sizeLine_eq]; simp; omega)) rfl)
  have := (H.push { cls := .type "slice", data := .fields #[vl, vu, .none] }).makeMut (.list (kms_pick vs lo hi)) (listOf (kms_pick vs lo hi).toArray 0) ⟨0, rfl⟩
  rw [Heap.size_push] at this
  rw [kms_pick_eq, Heap.size_push]
  exact q _ _ _ this.swap
theorem t_neNil {f : Addr × Cel} {l : Expr} {lp pos : Pos} {a : Addr} {vs : List Value} {ns : List Int} {Q : Bool → Shared → Prop} (H : HS K P (f :: ms) h) (x : LIn h a vs) (hk : (a, Cel.list vs) ∈ f :: ms) (i : IntsAre vs ns) (hu : A.units + 64 < cLine) (pl : Ev prog w A s env h l ((.ref a : Value) = ·))
    (q : ∀ h' tk', HS K P (f :: ms) h' → Q (!decide (ns = [])) (St s h' tk')) (hm : behindInMarks .NotEq (.List [] lp) = false := by with_unfolding_all rfl) :
    wpAny (model prog w) A (PySem.isTrue (.Compare l [.NotEq] [.List [] lp] pos) env (eval (.Compare l [.NotEq] [.List [] lp] pos) env)) Q E (St s h tk) :=
  wpAny_isTrue_Compare1 (pl.eq fun _ => List_ (wpAny_items_nil (new_list H (Nat.zero_le _) fun b h' H' => ne_ints (LIn.mem H'.swap (.tail _ hk)) (LIn.mem H' (.tail _ (.head _))) i .nil hu (wpAny_truthy_bool (q _ _ H'.swap.drop))))) hm

theorem x_item {o ie e : Expr} {pos' pos : Pos} {R : Value → Prop} {Q : Flow → Shared → Prop} {l : Addr} {vs : List Value} {k : Nat} (i : Nat) (H : HS K P ms h) (hi : ms[i]? = some (l, .list vs)) (hk : k < vs.length) (hz : vs.length ≤ 2 ^ 20)
    (p : Ev prog w A s env h e R) (po : Ev prog w A s env h o ((.ref l : Value) = ·)) (pi : Ev prog w A s env h ie (IsI k))
    (q : ∀ v h' tk', R v → HS K P (ms.set i (l, .list (vs.set k v))) h' → Q .next (St s h' tk'))
    (hs : swapsWith e (some (.Subscript o ie pos')) pos.line env = pure false := by rfl) : wpAny (model prog w) A (exec (.Assign [.Subscript o ie pos'] e pos) env) Q E (St s h tk) :=
  wpAny_Assign_Subscript (p.use fun v _ r => po.eq fun _ => pi.int fun _ tk' => set_item H hi hk hz fun h' H' => q v h' tk' r H') hs
theorem x_cut {o e : Expr} {lower upper : Option Expr} {sp pos' pos : Pos} {Q : Flow → Shared → Prop}
    (p : wpAny (model prog w) A (eval e env) (fun v s₁ => ∃ K P f ms i h₁ tk₁ l b vs new lo hi, s₁ = St s h₁ tk₁ ∧ HS K P (f :: ms) h₁ ∧ (f :: ms)[i]? = some (l, .list vs) ∧ v = .ref b ∧ LIn h₁ b new ∧ vs.length + new.length ≤ 2 ^ 20 ∧
      Ev prog w A s env h₁ o ((.ref l : Value) = ·) ∧ EvP prog w A s env h₁ lower lo ∧ EvP prog w A s env h₁ upper hi ∧
      ∀ h' tk', HS K P ((f :: ms).set i (l, .list (cutPut vs new (kms_lo lo vs.length) (kms_hi hi vs.length)))) h' → Q .next (St s h' tk')) E (St s h tk))
    (hs : swapsWith e (some (.Subscript o (.Slice lower upper none sp) pos')) pos.line env = pure false := by rfl) :
    wpAny (model prog w) A (exec (.Assign [.Subscript o (.Slice lower upper none sp) pos'] e pos) env) Q E (St s h tk) := by
  refine wpAny_Assign_Subscript (wpAny_mono p (fun v s₁ z => ?_) fun _ _ e => e) hs
  obtain ⟨K, P, f, ms, i, h₁, tk₁, l, b, vs, new, lo, hi, rfl, H, hi', rfl, ⟨nb, hb⟩, hz, po, pl, pu, q⟩ := z
  refine po.eq fun tk₂ => ?_
  refine wpAny_Slice (pl _ _ _ fun vl tk₃ il => pu _ _ _ fun vu tk₄ iu => ?_)
  rw [evalPart_none]
  exact wpAny_pure (set_cut (H.push _) hi' ⟨nb, Heap.get?_push_of_some _ hb⟩ (Heap.IsSliceOf.new ..) il iu hz fun h' H' => q h' _ H')
end

section
variable {prog : Program} {w : World} {A : Around} {E : Value → Shared → Prop} {s : Shared} {h : Heap} {tk : Nat} {P : Part} {ms rest : List (Addr × Cel)} {Q : Value → Shared → Prop}

def Dk (vs : List Value) : Prop := vs.length ≤ 2 ^ 10 ∧ ∃ ns, IntsAre vs ns

theorem draw_spec {l : Addr} {vs : List Value} {m : Int} {t : Tok} (i : Nat) (H : HS (hd.heap_39 w.params) P ms h) (hA : AOk 1 A) (hi : ms[i]? = some (l, .list vs)) (d : Dk vs) (hm : 0 < m)
    (q : ∀ k t' vs' h' tk', 0 ≤ k → k < m → Dk vs' → HS (hd.heap_39 w.params) P (ms.set i (l, .list vs')) h' → Q (.int k t') (St s h' tk')) :
    wpAny (model prog w) A (call (.ref 168) [.ref l, .int m t]) Q E (St s h tk) := by
  obtain ⟨hz, ns, ia⟩ := d
  walk_at "m enter"
  intro L h₁ tk₁ A' hA' H₁
  replace H₁ := H₁.names (l := [("deck", .ref l), ("many", .int m t)]) ⟨rfl, rfl, trivial⟩
  have hi' : ((L, Cel.frame [("deck", .ref l), ("many", .int m t)]) :: ms)[i + 1]? = some (l, .list vs) := hi
  refine wpAny_execs_cons (wpAny_Return_some (wpAny_IfExp (t_neNil H₁ (LIn.mem H₁ (List.mem_of_getElem? hi')) (List.mem_of_getElem? hi') ia hA'.units (v_loc H₁ rfl) fun h₂ tk₂ H₂ => ite_cases (fun b => ?_) (fun b => ?_))))
  · rcases ia with _ | ⟨n, t', r⟩
    · simp at b
    rename_i vs ns
    refine wpAny_BinOp (e_pop0 (i + 1) H₂ hi' (by simp at hz; omega) (v_loc H₂ rfl) v_int fun h₃ tk₃ H₃ => ?_)
    replace H₃ : HS (hd.heap_39 w.params) P ((L, Cel.frame [("deck", .ref l), ("many", .int m t)]) :: ms.set i (l, .list vs)) h₃ := H₃
    refine (v_loc H₃ rfl).eq fun tk₄ => i_mod (by omega) fun t₅ tk₅ => ?_
    refine q _ _ vs _ _ ?_ ?_ ⟨by simp at hz; omega, ns, r⟩ H₃.drop
    · exact Int.fmod_nonneg_of_pos _ hm
    · exact Int.fmod_lt_of_pos _ hm
  · refine v_int.int fun t₂ tk₂ => ?_
    refine q 0 _ vs _ _ (Int.le_refl _) hm ⟨hz, ns, ia⟩ ?_
    have : ms.set i (l, Cel.list vs) = ms := set_same hi
    rw [this]
    exact H₂.drop

set_option maxHeartbeats 400000 in
theorem line_spec {l : Addr} {vs : List Value} (i : Nat) (H : HS (hd.heap_39 w.params) P ms h) (hA : AOk 2 A) (hi : ms[i]? = some (l, .list vs)) (d : Dk vs)
    (q : ∀ v codes vs' P' h' tk', Le P P' → codes.length ≤ 10 → IL P' v codes → Dk vs' → HS (hd.heap_39 w.params) P' (ms.set i (l, .list vs')) h' → Q v (St s h' tk')) :
    wpAny (model prog w) A (call (.ref 175) [.ref l]) Q E (St s h tk) := by
  walk_at "m enter"
  intro L h₁ tk₁ A' hA' H₁
  replace H₁ := H₁.names (l := [("deck", .ref l)]) ⟨rfl, trivial⟩
  refine wpAny_execs_cons (x_assign (e_nil H₁ fun fa h₂ H₂ => ⟨_, _, _, _, _, _, rfl, H₂, fun h₃ tk₃ H₃ => ?_⟩))
  have hi₃ : ((L, Cel.frame [("found", .ref fa), ("deck", .ref l)]) :: (fa, Cel.list []) :: ms)[i + 2]? = some (l, .list vs) := hi
  refine wpAny_execs_cons (x_forC (v_blt H₃ (b_range _)) fun tk₄ => e_callL (kf_draw _) H₃ (v_glob H₃ (g_draw _)) (l_cons (v_loc H₃ rfl) (l_cons v_int l_nil)) fun us tk₅ r => ?_)
  obtain ⟨v₁, v₂, rfl⟩ : ∃ v₁ v₂, us = [v₁, v₂] := by
    rcases us with _ | ⟨v₁, _ | ⟨v₂, _ | ⟨v₃, us⟩⟩⟩ <;> first | exact ⟨_, _, rfl⟩ | simp [Rl] at r
  obtain ⟨rfl, ⟨t₂, rfl⟩, _⟩ := r
  refine draw_spec (i + 2) H₃ (hA'.le (by decide)) hi₃ d (by decide) fun k t' vs' h₅ tk₆ k0 k6 d' H₅ => ?_
  obtain ⟨k, rfl⟩ : ∃ c : Nat, k = c := ⟨k.toNat, by omega⟩
  replace H₅ : HS (hd.heap_39 w.params) P ((L, Cel.frame [("found", .ref fa), ("deck", .ref l)]) :: ((fa, Cel.list []) :: ms.set i (l, .list vs') ++ [])) h₅ := by rw [List.append_nil]; exact H₅
  refine loopR (rest := []) (ex := (fa, Cel.list []) :: ms.set i (l, .list vs')) (fun j P' kn ex => Knows kn [("found", .ref fa), ("deck", .ref l)] ∧ ∃ fs codes vs', ex = (fa, .list fs) :: ms.set i (l, .list vs') ∧ IntsAre fs codes ∧ codes.length ≤ 2 * j ∧ Dk vs') hA'.hd H₅ (by omega)
    ⟨⟨rfl, rfl, trivial⟩, [], [], vs', rfl, .nil, Nat.zero_le _, d'⟩ ?_ ?_
  · rintro j t P' kn _ rest' h₆ tk₆ E' QT fin hj le ⟨kn, fs, codes, vs₂, rfl, ia, hc, d₂⟩ H₆
    replace H₆ := H₆.names (l := [("found", .ref fa), ("deck", .ref l)]) ⟨kn.1, kn.2.1, trivial⟩
    replace H₆ : HS (hd.heap_39 w.params) P' ((L, Cel.frame [("found", .ref fa), ("deck", .ref l)]) :: (fa, Cel.list fs) :: (ms.set i (l, .list vs₂) ++ rest')) h₆ := H₆
    have x₆ : LIn h₆ fa fs := LIn.mem H₆ (.tail _ (.head _))
    refine wpAny_execs_cons ?_
    refine wpAny_Expr_any ?_ rfl rfl
    refine e_extend ?_ (mcall1 se_sub rfl rfl) se_sub
    refine (v_loc H₆ rfl).eq fun tk₇ => ?_
    refine ⟨fa, fs, rfl, x₆, ?_⟩
    refine Subscript_ ?_
    refine List_ ?_
    refine EvG.use (n := 2) (h := h₆) (K := hd.heap_39 w.params) (P := P') (f := (L, Cel.frame [("found", .ref fa), ("deck", .ref l)])) (ms := (fa, Cel.list fs) :: (ms.set i (l, .list vs₂) ++ rest')) ?H ?g ?q
    case H => exact H₆
    case g =>
      refine eg_cons (ns := [97]) ?_ ?_ ?_ ?_
      · intro h; refine li_cons v_int li_nil se_const
      · decide
      · decide
      refine eg_cons (ns := [34]) ?_ ?_ ?_ ?_
      · intro h; refine li_cons v_int li_nil se_const
      · decide
      · decide
      refine eg_cons (ns := [39]) ?_ ?_ ?_ ?_
      · intro h; refine li_cons v_int li_nil se_const
      · decide
      · decide
      refine eg_cons (ns := [92]) ?_ ?_ ?_ ?_
      · intro h; refine li_cons v_int li_nil se_const
      · decide
      · decide
      refine eg_cons (ns := [59]) ?_ ?_ ?_ ?_
      · intro h; refine li_cons v_int li_nil se_const
      · decide
      · decide
      refine eg_cons (ns := [47, 42]) ?_ ?_ ?_ ?_
      · intro h; refine li_cons v_int (li_cons v_int li_nil se_const) se_const
      · decide
      · decide
      refine eg_cons (ns := [42, 47]) ?_ ?_ ?_ ?_
      · intro h; refine li_cons v_int (li_cons v_int li_nil se_const) se_const
      · decide
      · decide
      refine eg_cons (ns := [98]) ?_ ?_ ?_ ?_
      · intro h; refine li_cons v_int li_nil se_const
      · decide
      · decide
      exact eg_nil
    intro vs₇ P₇ h₇ tk₇ le₇ H₇ hl₇ hv₇
    refine new_list H₇ (by rw [hl₇, sizeLine_eq]; decide) fun oa h₈ H₈ => ?_
    refine e_callL (kf_draw _) H₈ (v_glob H₈ (g_draw _)) (l_cons (v_loc H₈ rfl) (l_cons v_int l_nil)) fun us tk₈ r => ?_
    obtain ⟨v₁, v₂, rfl⟩ : ∃ v₁ v₂, us = [v₁, v₂] := by
      rcases us with _ | ⟨v₁, _ | ⟨v₂, _ | ⟨v₃, us⟩⟩⟩ <;> first | exact ⟨_, _, rfl⟩ | simp [Rl] at r
    obtain ⟨rfl, ⟨t₈, rfl⟩, _⟩ := r
    refine draw_spec (i + 3) H₈ (hA'.le (by decide)) (idx_set hi) d₂ (by decide) fun c t₉ vs₉ h₉ tk₉ c0 c8 d₉ H₉ => ?_
    replace H₉ : HS (hd.heap_39 w.params) P₇ ((L, Cel.frame [("found", .ref fa), ("deck", .ref l)]) :: (oa, Cel.list vs₇) :: (fa, Cel.list fs) :: (ms.set i (l, .list vs₂) ++ rest').set i (l, .list vs₉)) h₉ := H₉
    rw [set_set_app hi] at H₉
    obtain ⟨c, rfl⟩ : ∃ c' : Nat, c = c' := ⟨c.toNat, by omega⟩
    obtain ⟨v₉, hv⟩ : ∃ v, vs₇[c]? = some v := ⟨_, List.getElem?_eq_getElem (by rw [hl₇]; show c < 8; omega)⟩
    obtain ⟨codes₂, hz₂, b, us, rfl, pb, ib⟩ := hv₇ v₉ (List.mem_of_getElem? hv)
    refine item_list (LIn.mem H₉ (.tail _ (.head _))) c0 (by omega) (by simpa using hv) ⟨_, _, _, _, _, 1, fs, b, us, rfl, H₉.swap.drop, rfl, rfl, pb.lin H₉, ?_, fun h₁₀ H₁₀ => ?_⟩
    · rw [ia.length, ib.length]; omega
    · exact wpAny_execs_nil (fin.next P₇ [("found", .ref fa), ("deck", .ref l)] ((fa, .list (fs ++ us)) :: ms.set i (l, .list vs₉)) _ _ le₇ H₁₀ ⟨⟨rfl, rfl, trivial⟩, _, _, vs₉, rfl, ia_app ia ib, by rw [List.length_append]; omega, d₉⟩)
  · rintro P' kn _ h₆ tk₆ le ⟨kn, fs, codes, vs₂, rfl, ia, hc, d₂⟩ H₆
    replace H₆ := H₆.names (l := [("found", .ref fa), ("deck", .ref l)]) ⟨kn.1, kn.2.1, trivial⟩
    refine wpAny_execs_cons (x_ret (v_loc H₆ rfl) ?_)
    rintro _ tk₇ rfl
    obtain ⟨o, ⟨n, rfl⟩, hn, le₂, H₇⟩ := H₆.freezeAt (i := 1) rfl
    exact q _ codes vs₂ _ _ _ (le.trans le₂) (by omega) ⟨fa, fs, rfl, ⟨n, Part.put_self⟩, ia⟩ d₂ (by simpa using H₇.drop)
end

local macro_rules | `(tactic| walk_at "m code") => `(tactic| (refine' code_fn (by assumption) ?ho ?hcd ?hA ?hbind ?hloc ?hcell ?hgo ?hco ?hgen ?hk; (case ho => k_is); (case hcd => k_is); (case hA => assumption); (case hbind => exact rfl); (case hloc => exact locs rfl); (case hcell => decide); (case hco => exact rfl); (case hgen => exact rfl); (case hk => exact rfl)))
section
variable {prog : Program} {w : World} {A : Around} {E : Value → Shared → Prop} {s : Shared} {h : Heap} {tk : Nat} {P : Part} {ms rest : List (Addr × Cel)} {Q : Value → Shared → Prop} {env : Env}

theorem e_scan0 {nests : Bool} {sv cv stv : Value} {codes : List Int} {st : St2} {x : Str} {np cp ip pos : Pos} {e₁ : Expr} {es : List Expr} {k : Nat} (H : HS (hd.heap_39 w.params) P ms h) (hA : AOk 7 A) (hs : SignsAt P nests sv) (hc : IL P cv codes) (hcz : codes.length ≤ 2 ^ 15) (ht : T2 P stv st)
    (pf : Ev prog w A s env h (.Name x np) ((.ref 126 : Value) = ·)) (p : EvL prog w A s env h (e₁ :: es) ([sv, cv, stv] = ·))
    (q : ∀ P' h' tk' v, Le P P' → HS (hd.heap_39 w.params) P' ms h' → T2 P' v (scanP nests codes st).1 → Q v (St s h' tk'))
    (he : starEach (e₁ :: es) env = (false, eval e₁ env) :: starEach es env) (hplain : (backTo cp (starEach es env)).any (·.1) = false) :
    wpAny (model prog w) A (eval (.Subscript (.Call (.Name x np) (e₁ :: es) [] cp) (.Constant (.int 0) k ip) pos) env) Q E (St s h tk) := by
  refine Subscript_ (e_callM (kf_scanned _) H pf p (fun tk₁ => ?_) he hplain)
  refine scanned_spec H hA hs hc hcz ht fun P' h' tk' v le H' r => ?_
  obtain ⟨ta, stv', sl, sps, rfl, pt, t2, pl, sp⟩ := r
  exact c_int fun t tk₂ => item_tup (pt.isTup H') (by decide) (by decide) rfl rfl (q P' h' tk₂ stv' le H' t2)
theorem e_scan1 {nests : Bool} {sv cv stv : Value} {codes : List Int} {st : St2} {x : Str} {np cp ip pos : Pos} {e₁ : Expr} {es : List Expr} {k : Nat} (H : HS (hd.heap_39 w.params) P ms h) (hA : AOk 7 A) (hs : SignsAt P nests sv) (hc : IL P cv codes) (hcz : codes.length ≤ 2 ^ 15) (ht : T2 P stv st)
    (pf : Ev prog w A s env h (.Name x np) ((.ref 126 : Value) = ·)) (p : EvL prog w A s env h (e₁ :: es) ([sv, cv, stv] = ·))
    (q : ∀ P' h' tk' l sps, Le P P' → HS (hd.heap_39 w.params) P' ms h' → PLst P' l sps → All2 (T3 P') sps (scanP nests codes st).2 → Q (.ref l) (St s h' tk'))
    (he : starEach (e₁ :: es) env = (false, eval e₁ env) :: starEach es env) (hplain : (backTo cp (starEach es env)).any (·.1) = false) :
    wpAny (model prog w) A (eval (.Subscript (.Call (.Name x np) (e₁ :: es) [] cp) (.Constant (.int 1) k ip) pos) env) Q E (St s h tk) := by
  refine Subscript_ (e_callM (kf_scanned _) H pf p (fun tk₁ => ?_) he hplain)
  refine scanned_spec H hA hs hc hcz ht fun P' h' tk' v le H' r => ?_
  obtain ⟨ta, stv', sl, sps, rfl, pt, t2, pl, sp⟩ := r
  exact c_int fun t tk₂ => item_tup (pt.isTup H') (by decide) (by decide) rfl rfl (q P' h' tk₂ sl sps le H' pl sp)

def Lns (P : Part) (vs : List Value) (lines : List (List Int)) : Prop := All2 (IL P) vs lines ∧ (∀ c ∈ lines, c.length ≤ 2 ^ 12) ∧ lines.length ≤ 2 ^ 10
theorem Lns.le {P P' : Part} {vs : List Value} {lines : List (List Int)} (x : Lns P vs lines) (e : Le P P') : Lns P' vs lines := ⟨x.1.imp fun _ _ i => i.le e, x.2.1, x.2.2⟩
theorem Lns.at {P : Part} {vs : List Value} {lines : List (List Int)} (x : Lns P vs lines) {k : Nat} {v : Value} (h : vs[k]? = some v) : ∃ c, lines[k]? = some c ∧ lines.getD k [] = c ∧ IL P v c ∧ c.length ≤ 2 ^ 12 := by
  obtain ⟨c, hc, i⟩ := x.1.get' h
  exact ⟨c, hc, by simp [List.getD, hc], i, x.2.1 _ (List.mem_of_getElem? hc)⟩
theorem Lns.len {P : Part} {vs : List Value} {lines : List (List Int)} (x : Lns P vs lines) : vs.length = lines.length := x.1.length

theorem states_init {nests : Bool} {x dx ll : Addr} {sv : Value} {vs : List Value} {lines : List (List Int)} (H : HS (hd.heap_39 w.params) P ((dx, .inst []) :: ms) h) (hA : AOk 8 A) (hi : PIns P x 157 dx) (hs : SignsAt P nests sv) (hl : PLst P ll vs) (L : Lns P vs lines) {R : Result → Shared → Prop}
    (q : ∀ sl sts P' h' tk', Le P P' → PLst P' sl sts → All2 (T2 P') sts (stL nests lines) → HS (hd.heap_39 w.params) P' ((dx, .inst [("signs", sv), ("states", .ref sl)]) :: ms) h' → R (.ok (.ret .none)) (St s h' tk')) :
    codeAny (model prog w) A (.call (.ref 140) ⟨[.ref x, sv, .ref ll], []⟩) R (St s h tk) := by
  walk_at "m code"
  intro F h₁ tk₁ A' hA' H₁
  replace H₁ := H₁.names (l := [("self", .ref x), ("signs", sv), ("lines", .ref ll)]) ⟨rfl, rfl, rfl, trivial⟩
  refine wpAny_execs_cons (x_attr 1 H₁ hi rfl (zls_signs _) (Nat.le_of_ble_eq_true rfl) (v_loc H₁ rfl) (v_loc H₁ rfl) ?_)
  rintro _ h₂ tk₂ rfl H₂
  refine wpAny_execs_cons (plainObj_wpAny_Assign_Attribute (List_ (wpAny_items_cons (v_tup2 H₂ (v_glob H₂ (g_CODE _)).i v_int fun v h₃ P₃ tk₃ le₃ T₃ H₃ => wpAny_items_nil (new_list H₃ (by rw [sizeLine_eq]; exact Nat.le_of_ble_eq_true rfl) fun sl h₄ H₄ => (v_loc H₄ rfl).eq fun tk₄ => ?_)))))
  refine set_attr (i := 2) H₄ (hi.le le₃) rfl (zls_states _) (Nat.le_of_ble_eq_true rfl) fun h₅ tk₅ H₅ => ?_
  replace H₅ : HS (hd.heap_39 w.params) P₃ ((F, Cel.frame [("self", .ref x), ("signs", sv), ("lines", .ref ll)]) :: ([(sl, .list [v]), (dx, .inst [("signs", sv), ("states", .ref sl)])] ++ ms)) h₅ := H₅
  refine wpAny_execs_cons (x_for (rest := ms) (ex := [(sl, .list [v]), (dx, .inst [("signs", sv), ("states", .ref sl)])])
    (fun i P' kn ex => Knows kn [("self", .ref x), ("signs", sv), ("lines", .ref ll)] ∧ ∃ sts, ex = [(sl, .list sts), (dx, .inst [("signs", sv), ("states", .ref sl)])] ∧ All2 (T2 P') sts (stK nests lines (i + 1))) hA'.hd H₅ (hl.le le₃) (v_loc H₅ rfl)
    ⟨⟨rfl, rfl, rfl, trivial⟩, [v], rfl, .cons T₃ .nil⟩ ?_ ?_)
  · rintro i cv P' kn' _ rest' h' tk' E' QT fin hv le ⟨kn, sts, rfl, hst⟩ H'
    replace H' := H'.names (l := [("codes", cv), ("self", .ref x), ("signs", sv), ("lines", .ref ll)]) ⟨rfl, kn.1, kn.2.1, kn.2.2.1, trivial⟩
    replace H' : HS (hd.heap_39 w.params) P' ((F, Cel.frame [("codes", cv), ("self", .ref x), ("signs", sv), ("lines", .ref ll)]) :: (sl, .list sts) :: (dx, .inst [("signs", sv), ("states", .ref sl)]) :: rest') h' := H'
    have l' := le₃.trans le
    have D := DHas.at H' (.tail _ (.tail _ (.head _)))
    have xs : LIn h' sl sts := LIn.mem H' (.tail _ (.head _))
    obtain ⟨c, hc, hgd, ic, zc⟩ := L.at hv
    have il : i < lines.length := (List.getElem?_eq_some_iff.mp hc).1
    have sl1 : sts.length = i + 1 := by rw [hst.length, stK_len]
    obtain ⟨stv, hsv, tsv⟩ := hst.get (k := i) (stK_get (by omega))
    have z10 := L.2.2
    refine wpAny_execs_cons ?_
    refine wpAny_Expr_any ?_ rfl rfl
    refine e_append ?_ (mcall1 se_sub rfl rfl) se_sub
    refine (v_attr H' (hi.le l') D (ls_states _) rfl rfl (v_loc H' rfl)).eq fun tk₆ => ⟨sl, sts, rfl, xs, ?_⟩
    refine e_scan0 H' hA' (hs.le l') (ic.le l') (by omega) tsv (v_glob H' (g_scanned _)) (m_cons (v_loc H' rfl) (m_cons (v_loc H' rfl) (m_cons (v_last xs (v_attr H' (hi.le l') D (ls_states _) rfl rfl (v_loc H' rfl)) (v_neg v_int) (by decide) (by rw [sl1]; omega) (by decide) (by rw [sl1, show ((-1 : Int) + ((i + 1 : Nat) : Int)).toNat = i by omega]; exact hsv)) m_nil se_sub) se_name) se_name) (fun P₇ h₇ tk₇ v₇ le₇ H₇ T₇ => ?_) se_name rfl
    refine ⟨_, h₇, tk₇, P₇, _, 1, sts, rfl, H₇, rfl, by rw [sl1, sizeLine_eq]; omega, fun h₈ H₈ => ?_⟩
    refine wpAny_execs_nil (fin.next P₇ [("codes", cv), ("self", .ref x), ("signs", sv), ("lines", .ref ll)] [(sl, .list (sts ++ [v₇])), (dx, .inst [("signs", sv), ("states", .ref sl)])] _ _ le₇ H₈ ⟨⟨rfl, rfl, rfl, trivial⟩, _, rfl, ?_⟩)
    rw [stK_succ]
    refine (hst.imp fun _ _ z => z.le le₇).snoc ?_
    rw [stAt, hgd]
    exact T₇
  · rintro P' kn' _ h' tk' le ⟨kn, sts, rfl, hst⟩ H'
    obtain ⟨o, ⟨n, rfl⟩, hn, le₂, H₇⟩ := H'.freezeAt (i := 1) rfl
    refine wpAny_execs_nil (q sl sts _ _ _ ((le₃.trans le).trans le₂) ⟨n, Part.put_self⟩ ?_ H₇.drop)
    rw [L.len] at hst
    exact hst.imp fun _ _ z => z.le le₂

structure Chg (nests : Bool) (l₀ l₁ : List (List Int)) (f n e : Nat) : Prop where
  lo : f + n ≤ e
  hi : e ≤ l₁.length
  eq : ∀ p, e ≤ p → p < l₁.length → (stL nests l₁)[p]? = (stL nests l₀)[l₀.length - (l₁.length - p)]?

abbrev CJ (nests : Bool) (l₁ : List (List Int)) (f : Nat) (fa dx : Addr) (sv : Value) (sl : Addr) (KN : Int → Tok → Addr → List (Str × Value)) (P : Part) : Nat → Jt := fun m P' kn ex => ∃ (a : Nat) (t : Tok) (fs : List Value), m = l₁.length + 1 - a ∧ f ≤ a ∧ a ≤ l₁.length + 1 ∧ Knows kn (KN (a : Nat) t fa) ∧ ex = [(fa, .list fs), (dx, .inst [("signs", sv), ("states", .ref sl)])] ∧ Le P P' ∧ All2 (T2 P') fs (stK nests l₁ (min a l₁.length + 1))
theorem changed_spec {nests : Bool} {x dx ll sl : Addr} {sv : Value} {vs sts : List Value} {l₀ l₁ : List (List Int)} {f o n : Nat} {tf to tn : Tok} (H : HS (hd.heap_39 w.params) P ((dx, .inst [("signs", sv), ("states", .ref sl)]) :: ms) h) (hA : AOk 8 A) (hi : PIns P x 157 dx) (hs : SignsAt P nests sv)
    (hl : PLst P ll vs) (L : Lns P vs l₁) (hsl : PLst P sl sts) (S : All2 (T2 P) sts (stL nests l₀)) (ed : Edit l₀ l₁ f o n) (hz : l₀.length ≤ 2 ^ 10)
    (q : ∀ e t sl' sts' P' h' tk', Chg nests l₀ l₁ f n e → Le P P' → PLst P' sl' sts' → All2 (T2 P') sts' (stL nests l₁) → HS (hd.heap_39 w.params) P' ((dx, .inst [("signs", sv), ("states", .ref sl')]) :: ms) h' → Q (.int (e : Nat) t) (St s h' tk')) :
    wpAny (model prog w) A (call (.ref 147) [.ref x, .ref ll, .int f tf, .int o to, .int n tn]) Q E (St s h tk) := by
  walk_at "m enter"
  intro F h₁ tk₁ A' hA' H₁
  replace H₁ := H₁.names (l := [("self", .ref x), ("lines", .ref ll), ("first", .int f tf), ("old_many", .int o to), ("new_many", .int n tn)]) ⟨rfl, rfl, rfl, rfl, rfl, trivial⟩
  have fo := ed.fo; have ln := ed.ln; have z1 := L.2.2; have vl := L.len
  have sl0 : sts.length = l₀.length + 1 := by rw [S.length, stL_len]
  have hsv : handedIn sv = true := by
    obtain ⟨_, _, _, _, _, _, _, _, rfl, _⟩ := hs
    rfl
  have D := DHas.at H₁ (.tail _ (.head _))
  have hse : stK nests l₀ (f + 1) = stK nests l₁ (f + 1) := stK_congr fun j hj => (ed.hd j (by omega)).symm
  refine wpAny_execs_cons (x_swap3 hA'.hd ?_)
  refine i_cons ((v_attr H₁ hi D (ls_states _) rfl rfl (v_loc H₁ rfl)).eq fun tk₂ => i_cons (e_cutA H₁ (hsl.lin H₁) (by omega) (v_attr H₁ hi D (ls_states _) rfl rfl (v_loc H₁ rfl)) p_none (p_some (v_add (v_loc H₁ rfl).i v_int)) fun fa h₂ tk₂ H₂ => i_cons ((v_loc H₂ rfl).eq fun tk₃ => wpAny_items_nil ?_)))
  refine ⟨_, _, _, _, _, _, _, _, _, rfl, rfl, H₂, fun h₃ tk₄ H₃ => ?_⟩
  rw [show ((f : Int) + 1) = ((f + 1 : Nat) : Int) from rfl, pick_to] at H₃
  have S₃ : All2 (T2 P) (sts.take (f + 1)) (stK nests l₁ (f + 1)) := by
    have := S.take (f + 1)
    unfold stL at this
    rwa [stK_take (by omega), hse] at this
  let KN (a : Int) (t : Tok) (fa : Addr) : List (Str × Value) := [("self", .ref x), ("lines", .ref ll), ("first", .int f tf), ("old_many", .int o to), ("new_many", .int n tn), ("old", .ref sl), ("found", .ref fa), ("at", .int a t)]
  replace H₃ := H₃.names (l := KN f tf fa) ⟨rfl, rfl, rfl, rfl, rfl, rfl, rfl, rfl, trivial⟩
  refine wpAny_execs_cons (loop_while (ex := [(fa, .list (sts.take (f + 1))), (dx, .inst [("signs", sv), ("states", .ref sl)])]) (rest := ms) (n := l₁.length + 1 - f)
    (CJ nests l₁ f fa dx sv sl KN P)
    H₃ ⟨f, tf, _, rfl, Nat.le_refl _, by omega, ⟨rfl, rfl, rfl, rfl, rfl, rfl, rfl, rfl, trivial⟩, rfl, .rfl', by rw [Nat.min_eq_left (by omega)]; exact S₃⟩ ?_)
  rintro m P' kn _ h' tk' E' QT fin le ⟨a, t, fs, rfl, fa1, fa2, kn, rfl, -, hfs⟩ H'
  replace H' := H'.names (l := KN a t fa) kn
  replace H' : HS (hd.heap_39 w.params) P' ((F, Cel.frame (KN a t fa)) :: (fa, .list fs) :: (dx, .inst [("signs", sv), ("states", .ref sl)]) :: ms) h' := H'
  refine (t_le (v_loc H' rfl).i (v_len (v_blt H' (b_len _)) (v_loc H' rfl) ((hl.le le).lin H') (line_of vl z1))).use fun tk₅ => ite_cases (fun b => ?_) (fun b => ?_)
  · have al : a ≤ l₁.length := by rw [vl] at b; simpa using b
    rw [Nat.min_eq_left al] at hfs
    have fl : fs.length = a + 1 := by rw [hfs.length, stK_len]
    refine wpAny_execs_cons (x_set H' (v_sub (v_sub (v_loc H' rfl).i (v_loc H' rfl).i) (v_loc H' rfl).i) ?_)
    rintro _ h₅ tk₆ ⟨t₅, rfl⟩ H₅
    replace H₅ : HS (hd.heap_39 w.params) P' ((F, Cel.frame (("behind", .int (a - f - n) t₅) :: KN a t fa)) :: (fa, .list fs) :: (dx, .inst [("signs", sv), ("states", .ref sl)]) :: ms) h₅ := H₅
    have x₅ : LIn h₅ fa fs := LIn.mem H₅ (.tail _ (.head _))
    obtain ⟨u, hu, tu⟩ := hfs.get (k := a) (stK_get (by omega))
    obtain ⟨v, hv⟩ : ∃ v, f + n ≤ a → sts[a + o - n]? = some v ∧ T2 P v (stAt nests l₀ (a + o - n)) := by
      by_cases c : f + n ≤ a
      · obtain ⟨v, hv⟩ := S.get (k := a + o - n) (stL_get (ao_le ln c al))
        exact ⟨v, fun _ => hv⟩
      · exact ⟨.none, fun c' => absurd c' c⟩
    refine wpAny_execs_cons (x_if (b := decide (f + n ≤ a) && decide (stAt nests l₁ a = stAt nests l₀ (a + o - n))) (t_and (Ts.cb (t_ge (v_loc H₅ rfl).i v_int) (by simp only [decide_eq_decide]; omega)) fun c => ?_) (fun c tk₇ => ?_) (fun c tk₇ => ?_))
    · have c : f + n ≤ a := by simpa using c
      refine t_eqT H₅ tu ((hv c).2.le le) hA'.units (v_last x₅ (v_loc H₅ rfl) (v_neg v_int) (by decide) (by rw [fl]; omega) (by decide) (by rw [fl, show ((-1 : Int) + ((a + 1 : Nat) : Int)).toNat = a by omega]; exact hu))
        (v_item ((hsl.le le).lin H₅) (v_loc H₅ rfl) (v_add (v_add (v_loc H₅ rfl).i (v_loc H₅ rfl).i) (v_loc H₅ rfl).i) (by rw [idx_c c]; exact int_ge0) (by rw [idx_c c]; exact int_lt63 (Nat.le_trans (ao_le ln c al) (Nat.le_trans hz (by decide)))) (by rw [idx_c c]; exact (hv c).1))
    · obtain ⟨c, m⟩ : f + n ≤ a ∧ stAt nests l₁ a = stAt nests l₀ (a + o - n) := by simpa using c
      refine wpAny_execs_cons (plainObj_wpAny_Assign_Attribute ?_)
      refine wpAny_BinOp ((v_loc H₅ rfl).eq fun tk₈ => ?_)
      refine e_cutA (lo := some ((a + o - n + 1 : Nat) : Int)) (hi := none) H₅ ((hsl.le le).lin H₅) (by omega) (v_loc H₅ rfl) (p_some (Ev.ci (v_add (v_add (v_add (v_loc H₅ rfl).i (v_loc H₅ rfl).i) (v_loc H₅ rfl).i) v_int) (by rw [idx_c c]; rfl))) p_none fun ca h₆ tk₉ H₆ => ?_
      rw [pick_from] at H₆
      refine add_lists H₆ (LIn.mem H₆ (.tail _ (.tail _ (.head _)))) (LIn.mem H₆ (.tail _ (.head _))) (by rw [List.length_drop, fl, sl0, sizeLine_eq]; exact Nat.le_trans (Nat.add_le_add (Nat.succ_le_succ (Nat.le_trans al z1)) (Nat.le_trans (Nat.sub_le ..) (Nat.succ_le_succ hz))) (by decide)) fun sa h₇ H₇ => ?_
      refine (v_loc H₇ rfl).eq fun tk₁₀ => set_attr (i := 4) H₇ (hi.le le) rfl (zls_states _) (Nat.le_of_ble_eq_true rfl) fun h₈ tk₁₁ H₈ => ?_
      obtain ⟨oo, ⟨no, rfl⟩, hn, le₂, H₉⟩ := H₈.freezeAt (i := 1) rfl
      refine wpAny_execs_cons (x_ret (v_loc H₉ rfl) ?_)
      rintro _ tk₁₂ rfl
      refine fin.ret _ _ ?_
      refine q a t sa _ _ _ _ ⟨c, al, fun p hp hl => ed.met_eq c m hp hl⟩ (le.trans le₂) ⟨no, Part.put_self⟩ ?_ H₉.drop.drop.drop
      rw [← ed.met c al m]
      exact (hfs.imp fun _ _ z => z.le le₂).append ((S.drop _).imp fun _ _ z => (z.le le).le le₂)
    · refine wpAny_execs_nil ?_
      refine wpAny_execs_cons (x_if (t_lt (v_loc H₅ rfl).i (v_len (v_blt H₅ (b_len _)) (v_loc H₅ rfl) ((hl.le le).lin H₅) (line_of vl z1))) (fun c₂ tk₈ => ?_) (fun c₂ tk₈ => ?_))
      · have al' : a < l₁.length := by rw [vl] at c₂; simpa using c₂
        obtain ⟨cv, hcv⟩ : ∃ cv, vs[a]? = some cv := ⟨_, List.getElem?_eq_getElem (by omega)⟩
        obtain ⟨cc, hc, hgd, ic, zc⟩ := L.at hcv
        have D₅ := DHas.at H₅ (.tail _ (.tail _ (.head _)))
        refine wpAny_execs_cons ?_
        refine wpAny_Expr_any ?_ rfl rfl
        refine e_append ?_ (mcall1 se_sub rfl rfl) se_sub
        refine (v_loc H₅ rfl).eq fun tk₉ => ⟨fa, fs, rfl, x₅, ?_⟩
        refine e_scan0 H₅ hA' (hs.le le) (ic.le le) (by omega) tu (v_glob H₅ (g_scanned _)) (m_cons (v_attr H₅ (hi.le le) D₅ (ls_signs _) rfl hsv (v_loc H₅ rfl)) (m_cons (v_item ((hl.le le).lin H₅) (v_loc H₅ rfl) (v_loc H₅ rfl).i (by omega) (by omega) (by simpa using hcv))
          (m_cons (v_last x₅ (v_loc H₅ rfl) (v_neg v_int) (by decide) (by rw [fl]; omega) (by decide) (by rw [fl, show ((-1 : Int) + ((a + 1 : Nat) : Int)).toNat = a by omega]; exact hu)) m_nil se_sub) se_sub)) (fun P₇ h₇ tk₇ v₇ le₇ H₇ T₇ => ?_) rfl rfl
        refine ⟨_, h₇, tk₇, P₇, _, 1, fs, rfl, H₇, rfl, by rw [fl, sizeLine_eq]; omega, fun h₈ H₈ => ?_⟩
        replace H₈ : HS (hd.heap_39 w.params) P₇ ((F, Cel.frame (("behind", .int (a - f - n) t₅) :: KN a t fa)) :: (fa, .list (fs ++ [v₇])) :: (dx, .inst [("signs", sv), ("states", .ref sl)]) :: ms) h₈ := H₈
        refine wpAny_execs_nil (wpAny_execs_cons (x_set H₈ (v_add (v_loc H₈ rfl).i v_int) ?_))
        rintro _ h₉ tk₁₀ ⟨t₉, rfl⟩ H₉
        refine wpAny_execs_nil (fin.next P₇ _ [(fa, .list (fs ++ [v₇])), (dx, .inst [("signs", sv), ("states", .ref sl)])] _ _ _ le₇ H₉ ?_ ⟨a + 1, t₉, _, rfl, by omega, by omega, ⟨rfl, rfl, rfl, rfl, rfl, rfl, rfl, rfl, trivial⟩, rfl, le.trans le₇, ?_⟩)
        · exact meas1 al'
        · rw [Nat.min_eq_left (by omega), stK_succ]
          refine (hfs.imp fun _ _ z => z.le le₇).snoc ?_
          rw [stAt, hgd]
          exact T₇
      · have al' : a = l₁.length := by rw [vl] at c₂; simp at c₂; omega
        refine wpAny_execs_nil (wpAny_execs_cons (x_set H₅ (v_add (v_loc H₅ rfl).i v_int) ?_))
        rintro _ h₉ tk₁₀ ⟨t₉, rfl⟩ H₉
        refine wpAny_execs_nil (fin.next P' _ [(fa, .list fs), (dx, .inst [("signs", sv), ("states", .ref sl)])] _ _ _ .rfl' H₉ ?_ ⟨a + 1, t₉, _, rfl, by omega, by omega, ⟨rfl, rfl, rfl, rfl, rfl, rfl, rfl, rfl, trivial⟩, rfl, le, ?_⟩)
        · exact meas1e al'
        · rw [Nat.min_eq_right (by omega), ← al']; exact hfs
  · have al : a = l₁.length + 1 := by rw [vl] at b; simp at b; omega
    rw [Nat.min_eq_right (by omega)] at hfs
    refine wpAny_execs_cons (x_attr 2 H' (hi.le le) rfl (zls_states _) (Nat.le_of_ble_eq_true rfl) (v_loc H' rfl) (v_loc H' rfl) ?_)
    rintro _ h₅ tk₆ rfl H₅
    obtain ⟨oo, ⟨no, rfl⟩, hn, le₂, H₉⟩ := H₅.freezeAt (i := 1) rfl
    refine wpAny_execs_cons (x_ret (v_len (v_blt H₉ (b_len _)) (v_loc H₉ rfl) (((hl.le le).le le₂).lin H₉) (line_of vl z1)) ?_)
    rintro _ tk₁₂ ⟨t₁₂, rfl⟩
    rw [vl]
    exact q l₁.length t₁₂ fa _ _ _ _ ⟨by omega, Nat.le_refl _, fun p hp hl => by omega⟩ (le.trans le₂) ⟨no, Part.put_self⟩ (hfs.imp fun _ _ z => z.le le₂) H₉.drop
end

section
variable {prog : Program} {w : World} {A : Around} {s : Shared} {env : Env} {h : Heap} {tk : Nat} {E : Value → Shared → Prop} {K : Frag} {P : Part} {f : Addr × Cel} {ms ex rest : List (Addr × Cel)} {kn : List (Str × Value)}

def Tc (prog : Program) (w : World) (A : Around) (s : Shared) (env : Env) (K : Frag) (P : Part) (ms : List (Addr × Cel)) (e : Expr) (b : Bool) : Prop :=
  ∀ (E : Value → Shared → Prop) (h : Heap) (tk : Nat) (Q : Bool → Shared → Prop), HS K P ms h → (∀ h' tk', HS K P ms h' → Q b (St s h' tk')) → wpAny (model prog w) A (PySem.isTrue e env (eval e env)) Q E (St s h tk)
theorem Tc.use {e : Expr} {b : Bool} {Q : Bool → Shared → Prop} (x : Tc prog w A s env K P ms e b) (H : HS K P ms h) (q : ∀ h' tk', HS K P ms h' → Q b (St s h' tk')) : wpAny (model prog w) A (PySem.isTrue e env (eval e env)) Q E (St s h tk) := x E h tk Q H q
theorem Tc.of {e : Expr} {b : Bool} (x : ∀ h, HS K P ms h → Ts prog w A s env h e b) : Tc prog w A s env K P ms e b := fun _ h _ _ H q => (x h H).use fun tk' => q h tk' H
theorem Tc.cb {e : Expr} {i j : Bool} (x : Tc prog w A s env K P ms e i) (q : i = j) : Tc prog w A s env K P ms e j := q ▸ x
theorem tc_or {x y : Expr} {a b : Bool} {pos : Pos} (p : Tc prog w A s env K P ms x a) (q : a = false → Tc prog w A s env K P ms y b) : Tc prog w A s env K P ms (.BoolOp .Or [x, y] pos) (a || b) := fun E h tk Q H z =>
  wpAny_isTrue_BoolOp (wpAny_allTrue_Or_cons (p.use H fun h₁ tk₁ H₁ => ite_cases (fun e => by have := z h₁ tk₁ H₁; rwa [e, Bool.true_or] at this) fun e => wpAny_allTrue_Or_cons ((q e).use H₁ fun h₂ tk₂ H₂ => ite_cases (fun e' => by have := z h₂ tk₂ H₂; rwa [e, e'] at this) fun e' => wpAny_allTrue_Or_nil (by have := z h₂ tk₂ H₂; rwa [e, e'] at this))))
theorem tc_and {x y : Expr} {a b : Bool} {pos : Pos} (p : Tc prog w A s env K P ms x a) (q : a = true → Tc prog w A s env K P ms y b) : Tc prog w A s env K P ms (.BoolOp .And [x, y] pos) (a && b) := fun E h tk Q H z =>
  wpAny_isTrue_BoolOp (wpAny_allTrue_And_cons (p.use H fun h₁ tk₁ H₁ => ite_cases (fun e => wpAny_allTrue_And_cons ((q e).use H₁ fun h₂ tk₂ H₂ => ite_cases (fun e' => wpAny_allTrue_And_nil (by have := z h₂ tk₂ H₂; rwa [e, e'] at this)) fun e' => by have := z h₂ tk₂ H₂; rwa [e, e'] at this)) fun e => by have := z h₁ tk₁ H₁; rwa [e, Bool.false_and] at this))
theorem x_ifc {test : Expr} {body orelse : List Stmt} {pos : Pos} {b : Bool} {Q : Flow → Shared → Prop} (p : Tc prog w A s env K P ms test b) (H : HS K P ms h)
    (q : b = true → ∀ h' tk', HS K P ms h' → wpAny (model prog w) A (execs body env) Q E (St s h' tk')) (r : b = false → ∀ h' tk', HS K P ms h' → wpAny (model prog w) A (execs orelse env) Q E (St s h' tk')) :
    wpAny (model prog w) A (exec (.If test body orelse pos) env) Q E (St s h tk) := wpAny_If (p.use H fun h' tk' H' => ite_cases (fun e => q e h' tk' H') fun e => r e h' tk' H')
theorem tc_eqL {l : Expr} {es : List Expr} {lp pos : Pos} {a : Addr} {vs : List Value} {ns ks : List Int} (hk : (a, Cel.list vs) ∈ f :: ms) (i : IntsAre vs ns) (hu : A.units + 64 < cLine) (hz : ks.length ≤ 2 ^ 16)
    (pl : ∀ h, HS K P (f :: ms) h → Ev prog w A s env h l ((.ref a : Value) = ·)) (p : ∀ h, EvL prog w A s env h es (IntsAre · ks)) (hm : behindInMarks .Eq (.List es lp) = false := by with_unfolding_all rfl) :
    Tc prog w A s env K P (f :: ms) (.Compare l [.Eq] [.List es lp] pos) (decide (ns = ks)) := fun E h tk Q H q =>
  wpAny_isTrue_Compare1 ((pl h H).eq fun _ => e_intsM H (p h) hz fun b us h' tk' r H' => eq_ints (LIn.mem H'.swap (.tail _ hk)) (LIn.mem H' (.tail _ (.head _))) i r hu (wpAny_truthy_bool (q _ _ H'.swap.drop))) hm
theorem in_tup {Q : Value → Shared → Prop} {l : Addr} {vs : List Value} {ns : List Int} {k : Int} {t : Tok} (H : HS K P ms h) (x : PTup P l vs) (i : IntsAre vs ns) (q : Q (.bool (ns.any (· == k))) (St s h tk)) :
    wpAny (model prog w) A (compareOp .In (.int k t) (.ref l)) Q E (St s h tk) := by
  obtain ⟨n, x⟩ := x
  refine PySem.SeqAt.in_tupleAt (s := St s h tk) (items := vs.toArray) (isInt k) ⟨_, H.has _ _ x, rfl, n, rfl⟩ (fun y hy => (eq_isInt k t i y (by simpa using hy)).at _ _) ?_
  rw [← Array.any_toList, show vs.toArray.toList = vs from rfl, any_isInt k i]; exact q
theorem tc_inT {l : Expr} {es : List Expr} {kk : Nat} {lp pos : Pos} {n : Int} {ks : List Int} (hz : ks.length ≤ 2 ^ 16)
    (pl : ∀ h, HS K P ms h → Ev prog w A s env h l (IsI n)) (p : ∀ h, EvL prog w A s env h es (IntsAre · ks)) (hm : behindInMarks .In (.Tuple es kk lp) = false := by with_unfolding_all rfl) :
    Tc prog w A s env K P ms (.Compare l [.In] [.Tuple es kk lp] pos) (ks.any (· == n)) := fun E h tk Q H q =>
  wpAny_isTrue_Compare1 ((pl h H).int fun _ _ => Tuple_ ((p h).use fun vs tk' r => new_tup H (by rw [sizeLine_eq, r.length]; omega) fun a h' P' le pt H' => in_tup H' pt r (wpAny_truthy_bool (q _ _ (H'.unle le H.st))))) hm

theorem wa_sub {M : Model} {s : Shared} {o i : Expr} {pos : Pos} {v : Value} {Q : Unit → Shared → Prop} (q : wpAny M A (eval o env) (fun ov s₂ => wpAny M A (eval i env) (fun iv s₃ => wpAny M A (setItem ov iv v) Q E s₃) E s₂) E s) :
    wpAny M A (assign (.Subscript o i pos) env v) Q E s := fun Γ p hΓ => by
  simp only [assign_Subscript, Sem.wp_bind', Sem.wp_holding, Sem.wp_cmd_standAt, Sem.wp_release, Sem.wp_pure']
  exact Sem.wp_mono M Γ _ (fun ov p₂ s₂ h₂ => Sem.wp_mono M Γ _ (fun iv _ s₃ h₃ => h₃ Γ _ hΓ)
    (fun _ _ _ h' => h') _ _ (h₂ Γ p₂ hΓ)) (fun _ _ _ h' => h') _ _ (q Γ p hΓ)
theorem x_itemName {o ie e₁ e₂ : Expr} {x : Str} {sp xp tp vp pos : Pos} {kk kk' : Nat} {R₁ R₂ : Value → Prop} {Q : Flow → Shared → Prop} {l : Addr} {vs : List Value} {k : Nat} (i : Nat) (hh : A.handled = none) (H : HS K P ((env.locals, .frame kn) :: ms) h) (hi : ms[i]? = some (l, .list vs)) (hk : k < vs.length) (hz : vs.length ≤ 2 ^ 20)
    (p₁ : Ev prog w A s env h e₁ R₁) (p₂ : Ev prog w A s env h e₂ R₂)
    (po : ∀ h, HS K P ((env.locals, .frame kn) :: ms) h → Ev prog w A s env h o ((.ref l : Value) = ·)) (pi : ∀ h, HS K P ((env.locals, .frame kn) :: ms) h → Ev prog w A s env h ie (IsI k))
    (q : ∀ v₁ v₂ h' tk', R₁ v₁ → R₂ v₂ → HS K P ((env.locals, .frame ((x, v₂) :: kn)) :: ms.set i (l, .list (vs.set k v₁))) h' → Q .next (St s h' tk'))
    (h1 : starEach (e₁ :: [e₂]) env = (false, eval e₁ env) :: starEach [e₂] env) (h2 : starEach (e₂ :: []) env = (false, eval e₂ env) :: starEach [] env)
    (hs : swapsWithSole [.Tuple [.Subscript o ie sp, .Name x xp] kk tp] (.Tuple [e₁, e₂] kk' vp) pos.line env = pure false := by rfl)
    (hw : swappedStores [.Tuple [.Subscript o ie sp, .Name x xp] kk tp] (.Tuple [e₁, e₂] kk' vp) env = pure none := by rfl)
    (hk' : env.scope.kind = .function := by rfl) (hx : env.kindOf x = some .local := by rfl) :
    wpAny (model prog w) A (exec (.Assign [.Tuple [.Subscript o ie sp, .Name x xp] kk tp] (.Tuple [e₁, e₂] kk' vp) pos) env) Q E (St s h tk) := by
  refine Assign_Tuple (v_tup H (Nat.le_of_ble_eq_true rfl) (l_cons p₁ (l_cons p₂ l_nil h2) h1) (fun vs r => r.length) fun us ta h' P' tk' r le pt H' => ?_) hs hw
  obtain ⟨v₁, v₂, rfl⟩ : ∃ v₁ v₂, us = [v₁, v₂] := by
    rcases us with _ | ⟨v₁, _ | ⟨v₂, _ | ⟨v₃, us⟩⟩⟩ <;> first | exact ⟨_, _, rfl⟩ | simp [Rl] at r
  refine assign_Tuple_tuple (s := St s h' tk') (items := [v₁, v₂].toArray) hh (pt.isTup H') rfl rfl fun h₂ e₂ => ?_
  have H₂ := (H'.extN e₂).unle le H.st
  show wpAny _ _ (do holding [v₂] (assign (.Subscript o ie sp) env v₁); assignInOrder [assign (.Name x xp) env] [v₂]) _ _ (St s h₂ tk')
  refine wpAny_bind (wpAny_holding (wa_sub ((po h₂ H₂).eq fun tk₃ => (pi h₂ H₂).int fun t tk₄ => set_item (i := i + 1) H₂ hi hk hz fun h₃ H₃ => ?_)))
  show wpAny _ _ (do holding [] (assign (.Name x xp) env v₂); assignInOrder [] []) _ _ _
  exact wpAny_bind (wpAny_holding (asg_name (ms := ms.set i (l, .list (vs.set k v₁))) H₃ (fun h₄ tk₅ H₄ => wpAny_pure (q v₁ v₂ h₄ tk₅ r.1 r.2.1 H₄)) hk' hx))
theorem x_asg4 {a b c d : Str} {pa pb pc pd tp vp pos : Pos} {k k' : Nat} {e₁ e₂ e₃ e₄ : Expr} {Q : Flow → Shared → Prop} (hh : A.handled = none)
    (p : wpAny (model prog w) A (spliced (backTo vp (starEach [e₁, e₂, e₃, e₄] env))) (fun vs s₁ => ∃ K P ms kn v₁ v₂ v₃ v₄ h₁ tk₁, vs = [v₁, v₂, v₃, v₄] ∧ s₁ = St s h₁ tk₁ ∧ HS K P ((env.locals, .frame kn) :: ms) h₁ ∧
      ∀ h' tk', HS K P ((env.locals, .frame ((d, v₄) :: (c, v₃) :: (b, v₂) :: (a, v₁) :: kn)) :: ms) h' → Q .next (St s h' tk')) E (St s h tk))
    (hs : swapsWithSole [.Tuple [.Name a pa, .Name b pb, .Name c pc, .Name d pd] k tp] (.Tuple [e₁, e₂, e₃, e₄] k' vp) pos.line env = pure false := by rfl)
    (hw : swappedStores [.Tuple [.Name a pa, .Name b pb, .Name c pc, .Name d pd] k tp] (.Tuple [e₁, e₂, e₃, e₄] k' vp) env = pure none := by rfl)
    (hk : env.scope.kind = .function := by rfl) (ha : env.kindOf a = some .local := by rfl) (hb : env.kindOf b = some .local := by rfl) (hc : env.kindOf c = some .local := by rfl) (hd : env.kindOf d = some .local := by rfl) :
    wpAny (model prog w) A (exec (.Assign [.Tuple [.Name a pa, .Name b pb, .Name c pc, .Name d pd] k tp] (.Tuple [e₁, e₂, e₃, e₄] k' vp) pos) env) Q E (St s h tk) := by
  refine Assign_Tuple (Tuple_ (wpAny_mono p (fun vs s₁ z => ?_) fun _ _ e => e)) hs hw
  obtain ⟨K, P, ms, kn, v₁, v₂, v₃, v₄, h₁, tk₁, rfl, rfl, H, q⟩ := z
  refine new_tup H (by rw [sizeLine_eq]; exact Nat.le_of_ble_eq_true rfl) fun ta h₂ P₂ le pt H₂ => ?_
  refine assign_Tuple_tuple (s := St s h₂ tk₁) (items := [v₁, v₂, v₃, v₄].toArray) hh (pt.isTup H₂) rfl rfl fun h₃ e₃ => ?_
  have H₃ := (H₂.extN e₃).unle le H.st
  show wpAny _ _ (do holding [v₂, v₃, v₄] (assign (.Name a pa) env v₁); assignInOrder [assign (.Name b pb) env, assign (.Name c pc) env, assign (.Name d pd) env] [v₂, v₃, v₄]) _ _ (St s h₃ tk₁)
  refine wpAny_bind (wpAny_holding (asg_name H₃ (fun h₄ tk₄ H₄ => ?_) hk ha))
  show wpAny _ _ (do holding [v₃, v₄] (assign (.Name b pb) env v₂); assignInOrder [assign (.Name c pc) env, assign (.Name d pd) env] [v₃, v₄]) _ _ _
  refine wpAny_bind (wpAny_holding (asg_name H₄ (fun h₅ tk₅ H₅ => ?_) hk hb))
  show wpAny _ _ (do holding [v₄] (assign (.Name c pc) env v₃); assignInOrder [assign (.Name d pd) env] [v₄]) _ _ _
  refine wpAny_bind (wpAny_holding (asg_name H₅ (fun h₆ tk₆ H₆ => ?_) hk hc))
  show wpAny _ _ (do holding [] (assign (.Name d pd) env v₄); assignInOrder [] []) _ _ _
  exact wpAny_bind (wpAny_holding (asg_name H₆ (fun h₇ tk₇ H₇ => wpAny_pure (q h₇ tk₇ H₇)) hk hd))

theorem ia_rep {n : Int} {t : Tok} : ∀ k, IntsAre (List.replicate k (.int n t)) (List.replicate k n)
  | 0 => .nil
  | k + 1 => by rw [List.replicate_succ, List.replicate_succ]; exact .cons n t (ia_rep k)
theorem e_rep {e r : Expr} {lp pos : Pos} {n : Int} {k : Nat} {L : Addr} {kx : List (Str × Value)} {Q : Value → Shared → Prop} (H : HS K P ((L, .frame kx) :: ms) h) (p : Ev prog w A s env h e (IsI n)) (pr : ∀ h, HS K P ((L, .frame kx) :: ms) h → Ev prog w A s env h r (IsI k)) (hz : k ≤ 2 ^ 16)
    (q : ∀ a vs h' tk', IntsAre vs (List.replicate k n) → vs.length = k → HS K P ((L, .frame kx) :: (a, .list vs) :: ms) h' → Q (.ref a) (St s h' tk')) (he : starEach [e] env = (false, eval e env) :: starEach [] env) :
    wpAny (model prog w) A (eval (.BinOp (.List [e] lp) .Mult r pos) env) Q E (St s h tk) := by
  refine wpAny_BinOp (e_intsM H (li_cons p li_nil he) (by simp) fun a vs h₁ tk₁ ia H₁ => ?_)
  obtain ⟨t, rfl⟩ : ∃ t, vs = [.int n t] := by
    rcases ia with _ | ⟨_, t, r⟩
    rcases r
    exact ⟨t, rfl⟩
  refine (pr h₁ H₁.swap.drop).int fun t₂ tk₂ => mul_one H₁ (LIn.mem H₁ (.tail _ (.head _))) (by omega) fun b h₂ H₂ => ?_
  exact q b _ h₂ tk₂ (ia_rep k) (by simp) H₂.rot3.drop
theorem ia_set {n : Int} {t : Tok} : ∀ {vs : List Value} {ns : List Int} {k : Nat}, IntsAre vs ns → IntsAre (vs.set k (.int n t)) (ns.set k n)
  | _, _, _, .nil => by simpa using IntsAre.nil
  | _, _, 0, .cons _ _ r => by simpa using IntsAre.cons n t r
  | _, _, k + 1, .cons m u r => by simpa using IntsAre.cons m u (ia_set (k := k) r)
theorem ia_fill1 {n : Int} {t : Tok} {vs : List Value} {ns : List Int} {k : Nat} (i : IntsAre vs ns) (hk : k < ns.length) : IntsAre (vs.set k (.int n t)) (fillF ns k (k + 1) n) := by
  rw [← set_fillF hk]; exact ia_set i
theorem ia_cut {vs new : List Value} {ns : List Int} {lo hi : Nat} {n : Int} (i : IntsAre vs ns) (j : IntsAre new (List.replicate (hi - lo) n)) (h1 : lo ≤ hi) (h2 : hi ≤ ns.length) : IntsAre (cutPut vs new lo hi) (fillF ns lo hi n) := by
  rw [← cut_fillF h1 h2]
  exact ia_app (ia_app (ia_take lo i) j) (ia_drop _ i)
theorem lo_nat {k n : Nat} : kms_lo (some (k : Int)) n = min k n := by simp [kms_lo, show ¬ ((k : Int) < 0) by omega]
theorem hi_nat {k n : Nat} : kms_hi (some (k : Int)) n = min k n := by simp [kms_hi, show ¬ ((k : Int) < 0) by omega]
theorem ia_cutN {ovs rvs : List Value} {own : List Int} {a b : Nat} {n : Int} (ia : IntsAre ovs own) (j : IntsAre rvs (List.replicate (min b own.length - a) n)) (ha : a ≤ own.length) (hab : a ≤ b) :
    IntsAre (cutPut ovs rvs (kms_lo (some (a : Int)) ovs.length) (kms_hi (some (b : Int)) ovs.length)) (fillF own a b n) := by
  rw [lo_nat, hi_nat, ia.length, Nat.min_eq_left ha, fillF_bound (e' := min b own.length) (by omega)]
  exact ia_cut ia j (by omega) (by omega)
theorem ia_cutE {ovs rvs : List Value} {own : List Int} {a : Nat} {n : Int} (ia : IntsAre ovs own) (j : IntsAre rvs (List.replicate (own.length - a) n)) (ha : a ≤ own.length) :
    IntsAre (cutPut ovs rvs (kms_lo (some (a : Int)) ovs.length) (kms_hi none ovs.length)) (fillF own a own.length n) := by
  rw [lo_nat, show kms_hi none ovs.length = ovs.length from rfl, ia.length, Nat.min_eq_left ha]
  exact ia_cut ia j ha (Nat.le_refl _)
end

section
variable {prog : Program} {w : World} {A : Around} {E : Value → Shared → Prop} {s : Shared} {h : Heap} {tk : Nat} {K : Frag} {P : Part} {ms rest : List (Addr × Cel)} {Q : Value → Shared → Prop} {env : Env} {kn : List (Str × Value)}

theorem e_abs {q d : Int} {t u : Tok} {p1 p2 p3 p4 p5 p6 p7 p8 p9 p10 p11 p12 p13 p14 p15 p16 : Pos} {k1 k2 k3 k4 k5 k6 k7 k8 k9 : Nat} (H : HS K P ((env.locals, .frame kn) :: ms) h) (hq : kn.lookup ("quote_here" : Str) = some (.int q t)) (hd : kn.lookup ("depth" : Str) = some (.int d u))
    (z : ∀ v h' P' tk', Le P P' → T2 P' v (absS q d) → HS K P' ((env.locals, .frame kn) :: ms) h' → Q v (St s h' tk')) (hk : env.scope.kind = .function) (h1 : env.kindOf "quote_here" = some .local) (h2 : env.kindOf "depth" = some .local) :
    wpAny (model prog w) A (eval (.IfExp (.Compare (.Name "quote_here" p1) [.Gt] [.Constant (.int 0) k1 p2] p3) (.Tuple [.Constant (.int 1) k2 p4, .Name "quote_here" p5] k3 p6)
      (.IfExp (.Compare (.Name "depth" p7) [.Gt] [.Constant (.int 0) k4 p8] p9) (.Tuple [.Constant (.int 2) k5 p10, .Name "depth" p11] k6 p12) (.Tuple [.Constant (.int 0) k7 p13, .Constant (.int 0) k8 p14] k9 p15) p16) pos) env) Q E (St s h tk) := by
  have eq : Ev prog w A s env h (.Name "quote_here" p1) (IsI q) := (v_loc H hq hk h1).i
  have eq' : Ev prog w A s env h (.Name "quote_here" p5) (IsI q) := (v_loc H hq hk h1).i
  have ed : Ev prog w A s env h (.Name "depth" p7) (IsI d) := (v_loc H hd hk h2).i
  have ed' : Ev prog w A s env h (.Name "depth" p11) (IsI d) := (v_loc H hd hk h2).i
  refine wpAny_IfExp ((t_gt eq v_int).use fun tk₁ => ite_cases (fun b => ?_) (fun b => ?_))
  · have b : 0 < q := by simpa using b
    refine v_tup2 H v_int eq' (fun v h' P' tk' le T H' => z v h' P' tk' le ?_ H') se_const se_name
    rw [absS, if_pos b]; exact T
  · have b : ¬ 0 < q := by simpa using b
    refine wpAny_IfExp ((t_gt ed v_int).use fun tk₁ => ite_cases (fun c => ?_) (fun c => ?_))
    · have c : 0 < d := by simpa using c
      refine v_tup2 H v_int ed' (fun v h' P' tk' le T H' => z v h' P' tk' le ?_ H') se_const se_name
      rw [absS, if_neg b, if_pos c]; exact T
    · have c : ¬ 0 < d := by simpa using c
      refine v_tup2 H v_int v_int (fun v h' P' tk' le T H' => z v h' P' tk' le ?_ H') se_const se_const
      rw [absS, if_neg b, if_neg c]; exact T

abbrev WJ1 (nests : Bool) (lines : List (List Int)) (ol sl : Addr) (KN : Int → Int → Tok → Tok → List (Str × Value)) : Nat → Jt := fun i P' kn ex => ∃ t u sts ows, Knows kn (KN (qAt nests lines i).1 (qAt nests lines i).2 t u) ∧ ex = [(ol, .list ows), (sl, .list sts)] ∧ All2 (T2 P') sts (stK nests lines i) ∧ All2 (IL P') ows ((List.range i).map (ownAt nests lines))
abbrev WJ2 (P₅ : Part) (nests : Bool) (c : List Int) (q d : Int) (oa ol sl : Addr) (ows stv : List Value) (KW : Nat → Int → Int → Tok → Tok → Tok → List (Str × Value)) : Nat → Jt := fun n P₂ kn ex => P₅ = P₂ ∧ ∃ (k : Nat) (x : Wk) (t u v' : Tok) (ovs : List Value), Knows kn (KW x.at_ x.q x.d t u v') ∧ ex = [(oa, .list ovs), (ol, .list ows), (sl, .list stv)] ∧ IntsAre ovs x.own ∧ x.own.length = c.length ∧ n = c.length + 2 - x.at_ ∧ x.at_ ≤ c.length + 1 ∧ c.length ≤ x.at_ + k ∧ wloop nests c k x = wline nests c q d
def WMid (w : World) (s : Shared) (P : Part) (L : Addr) (nests : Bool) (c : List Int) (x : Wk) (KW : Nat → Int → Int → Tok → Tok → Tok → List (Str × Value)) (pa oa : Addr) (pvs : List Value) (r : List (Addr × Cel)) (f : Flow) (s' : Shared) : Prop :=
  f = .next ∧ ∃ (a' : Nat) (q' d' : Int) (own' : List Int) (ovs' : List Value) (ta tb tc : Tok) (h' : Heap) (tk' : Nat), s' = St s h' tk' ∧ wstep nests c x = ⟨a' + 1, q', d', own'⟩ ∧ IntsAre ovs' own' ∧ HS (hd.heap_39 w.params) P ((L, .frame (KW a' q' d' ta tb tc)) :: (pa, .list pvs) :: (oa, .list ovs') :: r) h'

set_option maxHeartbeats 4000000 in
theorem walk_spec {nests : Bool} {ll : Addr} {vs : List Value} {lines : List (List Int)} (H : HS (hd.heap_39 w.params) P ms h) (hA : AOk 1 A) (hl : PLst P ll vs) (Lk : Lns P vs lines)
    (qq : ∀ ta sl sts ol ows P' h' tk', Le P P' → PTup P' ta [.ref sl, .ref ol] → PLst P' sl sts → All2 (T2 P') sts (stL nests lines) → PLst P' ol ows → All2 (IL P') ows ((List.range lines.length).map (ownAt nests lines)) → HS (hd.heap_39 w.params) P' ms h' → Q (.ref ta) (St s h' tk')) :
    wpAny (model prog w) A (call (.ref 182) [.ref ll, .bool nests]) Q E (St s h tk) := by
  walk_at "m enter"
  intro L h₁ tk₁ A' hA' H₁
  replace H₁ := H₁.names (l := [("lines", .ref ll), ("nests", .bool nests)]) ⟨rfl, rfl, trivial⟩
  have vl := Lk.len
  have z10 := Lk.2.2
  refine wpAny_execs_cons (x_asg4 hA'.hd ?_)
  refine i_cons (c_int fun t₁ tk₂ => i_cons (c_int fun t₂ tk₃ => i_cons (e_nil H₁ fun sl h₂ H₂ => i_cons (e_nil H₂ fun ol h₃ H₃ => wpAny_items_nil ?_) rfl) rfl) rfl) rfl
  refine ⟨_, _, _, _, _, _, _, _, _, _, rfl, rfl, H₃, fun h₄ tk₄ H₄ => ?_⟩
  let KN (q d : Int) (t u : Tok) : List (Str × Value) := [("lines", .ref ll), ("nests", .bool nests), ("quote_here", .int q t), ("depth", .int d u), ("states", .ref sl), ("sorts", .ref ol)]
  replace H₄ : HS (hd.heap_39 w.params) P ((L, Cel.frame (KN 0 0 t₁ t₂)) :: ([(ol, .list []), (sl, .list [])] ++ ms)) h₄ := H₄.names ⟨rfl, rfl, rfl, rfl, rfl, rfl, trivial⟩
  refine wpAny_execs_cons (x_for (rest := ms) (ex := [(ol, .list []), (sl, .list [])])
    (WJ1 nests lines ol sl KN)
    hA'.hd H₄ hl (v_loc H₄ rfl) ⟨t₁, t₂, [], [], ⟨rfl, rfl, rfl, rfl, rfl, rfl, trivial⟩, rfl, .nil, .nil⟩ ?_ ?_)
  · rintro i cv P' kn' _ rest' h' tk' E' QT tend hv le ⟨t, u, sts, ows, kn, rfl, hst, how⟩ H'
    obtain ⟨q, d, hqd⟩ : ∃ q d, qAt nests lines i = (q, d) := ⟨_, _, rfl⟩
    rw [hqd] at kn
    have sl1 : sts.length = i := by rw [hst.length, stK_len]
    have ol1 : ows.length = i := by rw [how.length]; simp
    obtain ⟨c, hc, hgd, ic, zc⟩ := Lk.at hv
    have il : i < lines.length := (List.getElem?_eq_some_iff.mp hc).1
    obtain ⟨cl, cs, rfl, hcl, hci⟩ := ic
    have cn : cs.length = c.length := hci.length
    replace hcl := hcl.le le
    replace H' : HS (hd.heap_39 w.params) P' ((L, Cel.frame (("codes", .ref cl) :: KN q d t u)) :: (ol, .list ows) :: (sl, .list sts) :: rest') h' := H'.names ⟨rfl, kn⟩
    -- states.append(..)
    refine wpAny_execs_cons ?_
    refine wpAny_Expr_any ?_ rfl rfl
    refine e_append ?_ (mcall1 se_if rfl rfl) se_if
    have xs : LIn h' sl sts := LIn.mem H' (.tail _ (.tail _ (.head _)))
    refine (v_loc H' rfl).eq fun tk₅ => ⟨sl, sts, rfl, xs, ?_⟩
    refine e_abs H' rfl rfl (fun v h₅ P₅ tk₆ le₅ T₅ H₅ => ?_) rfl rfl rfl
    refine ⟨_, h₅, tk₆, P₅, _, 2, sts, rfl, H₅, rfl, by rw [sl1, sizeLine_eq]; omega, fun h₆ H₆ => ?_⟩
    replace H₆ : HS (hd.heap_39 w.params) P₅ ((L, Cel.frame (("codes", .ref cl) :: KN q d t u)) :: (ol, .list ows) :: (sl, .list (sts ++ [v])) :: rest') h₆ := H₆
    replace hcl := hcl.le le₅
    have hst₆ : All2 (T2 P₅) (sts ++ [v]) (stK nests lines (i + 1)) := by
      rw [stK_succ, (qAt_ok i).1, hqd]
      exact (hst.imp fun _ _ z => z.le le₅).snoc T₅
    -- own, at = ([0] * len(codes), 0)
    refine wpAny_execs_cons (x_swap2' hA'.hd (i_cons (e_rep (k := c.length) H₆ v_int (fun h H => (v_len (v_blt H (b_len _)) (v_loc H rfl) (hcl.lin H) (line_of cn zc)).ci (by rw [cn])) (by omega) (fun oa ovs h₇ tk₇ ia₇ ln₇ H₇ => i_cons (c_int fun t₈ tk₈ => wpAny_items_nil ?_) se_const) se_const) se_bin))
    refine ⟨_, _, _, _, _, _, _, _, rfl, rfl, H₇, fun h₈ tk₉ H₈ => ?_⟩
    let KW (a : Nat) (q d : Int) (t u v : Tok) : List (Str × Value) := [("own", .ref oa), ("at", .int a v), ("codes", .ref cl), ("lines", .ref ll), ("nests", .bool nests), ("quote_here", .int q t), ("depth", .int d u), ("states", .ref sl), ("sorts", .ref ol)]
    replace H₈ : HS (hd.heap_39 w.params) P₅ ((L, Cel.frame (KW 0 q d t u t₈)) :: ([(oa, .list ovs), (ol, .list ows), (sl, .list (sts ++ [v]))] ++ rest')) h₈ := H₈
    refine wpAny_execs_cons (loop_while (ex := [(oa, .list ovs), (ol, .list ows), (sl, .list (sts ++ [v]))]) (rest := rest') (n := c.length + 2)
      (WJ2 P₅ nests c q d oa ol sl ows (sts ++ [v]) KW)
      H₈ ⟨rfl, c.length, ⟨0, q, d, List.replicate c.length 0⟩, t, u, t₈, ovs, ⟨rfl, rfl, rfl, rfl, rfl, rfl, rfl, rfl, rfl, trivial⟩, rfl, ia₇, by simp, rfl, Nat.zero_le _, Nat.le_add_left _ _, rfl⟩ ?_)
    rintro n _ kn₂ _ h₉ tk₁₀ E₉ QW wend - ⟨rfl, k, x, t, u, v', ovs, kn₂, rfl, ia, ol₂, rfl, hat, hfu, heq⟩ H₉
    replace H₉ : HS (hd.heap_39 w.params) P₅ ((L, Cel.frame (KW x.at_ x.q x.d t u v')) :: (oa, .list ovs) :: (ol, .list ows) :: (sl, .list (sts ++ [v])) :: rest') h₉ := H₉.names kn₂
    refine (t_lt (v_loc H₉ rfl).i (v_len (v_blt H₉ (b_len _)) (v_loc H₉ rfl) (hcl.lin H₉) (line_of cn zc))).use fun tk₁₁ => ite_cases (fun b => ?_) (fun b => ?_)
    · have lt : x.at_ < c.length := by rw [cn] at b; simpa using b
      have wa := wstep_at (nests := nests) lt
      obtain ⟨a, q₁, d₁, own⟩ := x
      dsimp only at ia ol₂ hat hfu heq H₉ lt wa
      obtain ⟨n₀, hn₀⟩ : ∃ n, c[a]? = some n := ⟨_, List.getElem?_eq_getElem lt⟩
      have hgd₀ : c.getD a 0 = n₀ := getD_of hn₀
      refine wpAny_execs_cons (x_assign (e_cutA (lo := some (a : Int)) (hi := some ((a : Int) + 2)) H₉ (hcl.lin H₉) (by omega) (v_loc H₉ rfl) (p_some (v_loc H₉ rfl).i) (p_some (v_add (v_loc H₉ rfl).i v_int)) fun pa h₁₀ tk₁₂ H₁₀ => ⟨_, _, _, _, _, _, rfl, H₁₀, fun h₁₁ tk₁₃ H₁₁ => ?_⟩))
      have ipv : IntsAre (kms_pick cs (some (a : Int)) (some ((a : Int) + 2))) (pairP c a) := ia_pick hci a 2
      revert H₁₁ ipv
      generalize kms_pick cs (some (a : Int)) (some ((a : Int) + 2)) = pvs
      intro H₁₁ ipv
      have pl2 : pvs.length = (pairP c a).length := ipv.length
      have pl3 : (pairP c a).length = min (a + 2) c.length - a := pairP_len
      have pl4 : (pairP c a).length ≤ 2 := by rw [pl3]; exact min_sub_le
      let KP : List (Str × Value) := ("pair", .ref pa) :: KW a q₁ d₁ t u v'
      replace H₁₁ : HS (hd.heap_39 w.params) P₅ ((L, Cel.frame KP) :: (pa, .list pvs) :: (oa, .list ovs) :: (ol, .list ows) :: (sl, .list (sts ++ [v])) :: rest') h₁₁ := H₁₁
      have oz : ovs.length = c.length := by rw [ia.length, ol₂]
      have al : a < own.length := ol₂ ▸ lt
      have zc20 : c.length ≤ 2 ^ 20 := Nat.le_trans zc (by decide)
      have av : a < ovs.length := oz ▸ lt
      have zv : ovs.length ≤ 2 ^ 12 := oz ▸ zc
      have zv20 : ovs.length ≤ 2 ^ 20 := Nat.le_trans zv (by decide)
      obtain ⟨Qm, hQm⟩ : ∃ Qm, Qm = WMid w s P₅ L nests c ⟨a, q₁, d₁, own⟩ KW pa oa pvs ((ol, .list ows) :: (sl, .list (sts ++ [v])) :: rest') := ⟨_, rfl⟩
      refine wpAny_execs_cons (wpAny_mono (Q := Qm) ?mid ?after fun _ _ e => e)
      case after =>
        rw [hQm]
        rintro _ _ ⟨rfl, a', q', d', own', ovs', t', u', v'', h₁₂, tk₁₄, rfl, ew, ia', H₁₂⟩
        rw [ew] at wa
        dsimp only at wa
        refine wpAny_execs_cons (x_set H₁₂ (v_add (v_loc H₁₂ rfl).i v_int) ?_)
        rintro _ h₁₃ tk₁₅ ⟨t₁₃, rfl⟩ H₁₃
        obtain ⟨k, rfl⟩ := pred_of lt hfu
        refine wpAny_execs_nil (wend.next P₅ (("at", .int ((a' : Int) + 1) t₁₃) :: KW a' q' d' t' u' v'') [(oa, .list ovs'), (ol, .list ows), (sl, .list (sts ++ [v]))] _ _ (c.length + 2 - (a' + 1)) .rfl' H₁₃.swap.drop (meas2 wa.1 lt) ⟨rfl, k, ⟨a' + 1, q', d', own'⟩, t', u', t₁₃, ovs', ⟨rfl, rfl, rfl, rfl, rfl, rfl, rfl, rfl, rfl, trivial⟩, rfl, ia', wa.2.2.trans ol₂, rfl, wa.2.1, Nat.le_trans hfu (by rw [Nat.add_comm k 1, ← Nat.add_assoc]; exact Nat.add_le_add_right wa.1 k), ?_⟩)
        rw [← heq, wloop, if_pos lt, ew]
      case mid =>
        have fin : ∀ (a' : Nat) (q' d' : Int) (ta tb tc : Tok) {own' : List Int} {ovs' : List Value} {fr : List (Str × Value)} {h' : Heap} {tk' : Nat}, wstep nests c ⟨a, q₁, d₁, own⟩ = ⟨a' + 1, q', d', own'⟩ → IntsAre ovs' own' →
            HS (hd.heap_39 w.params) P₅ ((L, .frame fr) :: (pa, .list pvs) :: (oa, .list ovs') :: (ol, .list ows) :: (sl, .list (sts ++ [v])) :: rest') h' → Knows fr (KW a' q' d' ta tb tc) → Qm .next (St s h' tk') := by
          intro a' q' d' ta tb tc own' ovs' fr h' tk' e1 e2 e3 e4
          rw [hQm]
          exact ⟨rfl, a', q', d', own', ovs', ta, tb, tc, h', tk', rfl, e1, e2, e3.names e4⟩
        clear hQm
        refine x_if (b := decide (0 < d₁)) (t_gt (v_loc H₁₁ rfl).i v_int) (fun hdd tk₁₄ => ?_) (fun hdd tk₁₄ => ?_)
        · have hdd : 0 < d₁ := by simpa using hdd
          refine wpAny_execs_cons (x_item 2 H₁₁ rfl av zv20 v_int (v_loc H₁₁ rfl) (v_loc H₁₁ rfl).i ?_)
          rintro _ h₁₂ tk₁₅ ⟨t₁₂, rfl⟩ H₁₂
          replace H₁₂ : HS (hd.heap_39 w.params) P₅ ((L, Cel.frame KP) :: (pa, .list pvs) :: (oa, .list (ovs.set a (.int 2 t₁₂))) :: (ol, .list ows) :: (sl, .list (sts ++ [v])) :: rest') h₁₂ := H₁₂
          have ia₁₂ := ia_fill1 (n := 2) (t := t₁₂) (k := a) ia al
          refine wpAny_execs_cons (x_ifc (tc_or (tc_eqL (ks := [42, 47]) (.tail _ (.head _)) ipv hA'.units (Nat.le_of_ble_eq_true rfl) (fun h H => v_loc H rfl) (fun _ => li_cons v_int (li_cons v_int li_nil se_const) se_const))
            fun _ => tc_and (Tc.of fun h H => t_val (v_loc H rfl)) fun _ => tc_eqL (ks := [47, 42]) (.tail _ (.head _)) ipv hA'.units (Nat.le_of_ble_eq_true rfl) (fun h H => v_loc H rfl) (fun _ => li_cons v_int (li_cons v_int li_nil se_const) se_const)) H₁₂ (fun b h₁₃ tk₁₆ H₁₃ => ?_) (fun b h₁₃ tk₁₆ H₁₃ => ?_))
          · have hb : pairP c a = [42, 47] ∨ nests = true ∧ pairP c a = [47, 42] := by simpa using b
            have plen : a + 2 ≤ c.length := by rcases hb with e | ⟨_, e⟩ <;> exact pair_len e
            obtain ⟨n₁, hp0, hp1⟩ : ∃ n, (pairP c a)[0]? = some n ∧ (pairP c a).getD 0 0 = n := by rcases hb with e | ⟨_, e⟩ <;> rw [e] <;> exact ⟨_, rfl, rfl⟩
            refine wpAny_execs_cons (x_item (k := a + 1) 2 H₁₃ rfl (by rw [List.length_set, oz]; exact plen) (by rw [List.length_set]; exact zv20) v_int (v_loc H₁₃ rfl) (Ev.ci (v_add (v_loc H₁₃ rfl).i v_int) rfl) ?_)
            rintro _ h₁₄ tk₁₇ ⟨t₁₄, rfl⟩ H₁₄
            replace H₁₄ : HS (hd.heap_39 w.params) P₅ ((L, Cel.frame KP) :: (pa, .list pvs) :: (oa, .list ((ovs.set a (.int 2 t₁₂)).set (a + 1) (.int 2 t₁₄))) :: (ol, .list ows) :: (sl, .list (sts ++ [v])) :: rest') h₁₄ := H₁₄
            have ia₁₄ := ia_fill1 (n := 2) (t := t₁₄) (k := a + 1) ia₁₂ (by rw [fillF_len, ol₂]; exact plen)
            refine wpAny_execs_cons (x_swap2 hA'.hd H₁₄ (v_add (v_loc H₁₄ rfl).i (v_if (R := IsI (if (pairP c a).getD 0 0 = 47 then 1 else -1)) (t_eq (v_iitem (k := 0) (LIn.mem H₁₄ (.tail _ (.head _))) ipv (v_loc H₁₄ rfl) v_int (by omega) hp0) v_int)
              (fun e => Ev.ci v_int (by rw [hp1, if_pos (by simpa using e)])) (fun e => Ev.ci (v_neg v_int) (by rw [hp1, if_neg (by simpa using e)])))) (v_add (v_loc H₁₄ rfl).i v_int) ?_)
            rintro _ _ h₁₅ tk₁₈ ⟨t₁₅, rfl⟩ ⟨t₁₆, rfl⟩ H₁₅
            refine wpAny_execs_nil (wpAny_execs_nil (fin (a + 1) (q₁) (_) t t₁₅ t₁₆ ?_ (ia₁₄) H₁₅ ⟨rfl, rfl, rfl, rfl, rfl, rfl, rfl, rfl, rfl, trivial⟩))
            unfold wstep
            dsimp only
            rw [if_pos hdd, if_pos hb]
          · have hb : ¬ (pairP c a = [42, 47] ∨ nests = true ∧ pairP c a = [47, 42]) := by simpa using b
            refine wpAny_execs_nil (wpAny_execs_nil (fin (a) (q₁) (_) t u v' ?_ (ia₁₂) H₁₃ ⟨rfl, rfl, rfl, rfl, rfl, rfl, rfl, rfl, rfl, trivial⟩))
            unfold wstep
            dsimp only
            rw [if_pos hdd, if_neg hb]
        have hdd : ¬ 0 < d₁ := by simpa using hdd
        have cit : ∀ {h : Heap} (_ : HS (hd.heap_39 w.params) P₅ ((L, Cel.frame KP) :: (pa, .list pvs) :: (oa, .list ovs) :: (ol, .list ows) :: (sl, .list (sts ++ [v])) :: rest') h), True := fun _ => trivial
        refine wpAny_execs_cons (x_if (b := decide (n₀ = 92)) (t_eq (v_iitem (hcl.lin H₁₁) hci (v_loc H₁₁ rfl) (v_loc H₁₁ rfl).i zc20 hn₀) v_int) (fun h92 tk₁₅ => ?_) (fun h92 tk₁₅ => ?_))
        · have h92 : c.getD a 0 = 92 := by rw [hgd₀]; simpa using h92
          refine wpAny_execs_cons (x_cut (e_rep (k := (pairP c a).length) H₁₁ (v_if (R := IsI (if 0 < q₁ then 1 else 0)) (t_gt (v_loc H₁₁ rfl).i v_int) (fun e => Ev.ci v_int (by rw [if_pos (by simpa using e)])) (fun e => Ev.ci v_int (by rw [if_neg (by simpa using e)])))
            (fun h H => (v_len (v_blt H (b_len _)) (v_loc H rfl) (LIn.mem H (.tail _ (.head _))) (line_of pl2 pl4)).ci (by rw [pl2])) (Nat.le_trans pl4 (by decide)) (fun ra rvs h₁₂ tk₁₆ iar lnr H₁₂ => ?_) se_if))
          refine ⟨_, _, _, _, 3, _, _, oa, ra, ovs, rvs, some (a : Int), some ((a + 2 : Nat) : Int), rfl, H₁₂, rfl, rfl, LIn.mem H₁₂ (.tail _ (.head _)), add20 zv (lnr ▸ Nat.le_trans pl4 (by decide)), v_loc H₁₂ rfl, p_some (v_loc H₁₂ rfl).i, p_some (Ev.ci (v_add (v_loc H₁₂ rfl).i v_int) rfl), fun h₁₃ tk₁₇ H₁₃ => ?_⟩
          replace H₁₃ := H₁₃.swap.drop
          refine wpAny_execs_cons (x_set H₁₃ (v_add (v_loc H₁₃ rfl).i v_int) ?_)
          rintro _ h₁₄ tk₁₈ ⟨t₁₄, rfl⟩ H₁₄
          refine wpAny_execs_nil (wpAny_execs_nil (fin (a + 1) (q₁) (d₁) t u t₁₄ ?_ (ia_cutN ia (by rw [ol₂, ← pl3]; exact iar) (Nat.le_of_lt al) (Nat.le_add_right _ _)) H₁₄ ⟨rfl, rfl, rfl, rfl, rfl, rfl, rfl, rfl, rfl, trivial⟩))
          unfold wstep
          dsimp only
          rw [if_neg hdd, if_pos h92]
        have h92 : ¬ c.getD a 0 = 92 := by rw [hgd₀]; simpa using h92
        refine wpAny_execs_cons (x_if (b := decide (0 < q₁)) (t_gt (v_loc H₁₁ rfl).i v_int) (fun hq tk₁₆ => ?_) (fun hq tk₁₆ => ?_))
        · have hq : 0 < q₁ := by simpa using hq
          refine wpAny_execs_cons (x_itemName (k := a) 1 hA'.hd H₁₁ rfl av zv20 v_int (v_if (R := IsI (if c.getD a 0 = q₁ then 0 else q₁)) (t_eq (v_iitem (hcl.lin H₁₁) hci (v_loc H₁₁ rfl) (v_loc H₁₁ rfl).i zc20 hn₀) (v_loc H₁₁ rfl).i)
            (fun e => Ev.ci v_int (by rw [hgd₀, if_pos (by simpa using e)])) (fun e => Ev.ci (v_loc H₁₁ rfl).i (by rw [hgd₀, if_neg (by simpa using e)]))) (fun h H => v_loc H rfl) (fun h H => (v_loc H rfl).i) ?_ se_const se_if)
          rintro _ _ h₁₂ tk₁₇ ⟨t₁₂, rfl⟩ ⟨t₁₃, rfl⟩ H₁₂
          refine wpAny_execs_nil (wpAny_execs_nil (wpAny_execs_nil (fin (a) (_) (d₁) t₁₃ u v' ?_ (ia_fill1 (n := 1) (t := t₁₂) (k := a) ia al) H₁₂ ⟨rfl, rfl, rfl, rfl, rfl, rfl, rfl, rfl, rfl, trivial⟩)))
          unfold wstep
          dsimp only
          rw [if_neg hdd, if_neg h92, if_pos hq]
        have hq : ¬ 0 < q₁ := by simpa using hq
        refine wpAny_execs_cons (x_if (b := decide (n₀ = 59)) (t_eq (v_iitem (hcl.lin H₁₁) hci (v_loc H₁₁ rfl) (v_loc H₁₁ rfl).i zc20 hn₀) v_int) (fun h59 tk₁₇ => ?_) (fun h59 tk₁₇ => ?_))
        · have h59 : c.getD a 0 = 59 := by rw [hgd₀]; simpa using h59
          refine wpAny_execs_cons (x_cut (e_rep (k := c.length - a) H₁₁ v_int
            (fun h H => Ev.ci (v_sub (v_len (v_blt H (b_len _)) (v_loc H rfl) (hcl.lin H) (line_of cn zc)) (v_loc H rfl).i) (by rw [cn]; exact (Int.ofNat_sub (Nat.le_of_lt lt)).symm)) (Nat.le_trans (Nat.sub_le ..) (Nat.le_trans zc (by decide))) (fun ra rvs h₁₂ tk₁₆ iar lnr H₁₂ => ?_) se_const))
          refine ⟨_, _, _, _, 3, _, _, oa, ra, ovs, rvs, some (a : Int), none, rfl, H₁₂, rfl, rfl, LIn.mem H₁₂ (.tail _ (.head _)), add20 zv (lnr ▸ Nat.le_trans (Nat.sub_le ..) zc), v_loc H₁₂ rfl, p_some (v_loc H₁₂ rfl).i, p_none, fun h₁₃ tk₁₇ H₁₃ => ?_⟩
          replace H₁₃ := H₁₃.swap.drop
          refine wpAny_execs_cons (x_set H₁₃ ((v_len (v_blt H₁₃ (b_len _)) (v_loc H₁₃ rfl) (hcl.lin H₁₃) (line_of cn zc)).ci (by rw [cn])) ?_)
          rintro _ h₁₄ tk₁₈ ⟨t₁₄, rfl⟩ H₁₄
          refine wpAny_execs_nil (wpAny_execs_nil (wpAny_execs_nil (wpAny_execs_nil (fin (c.length) (q₁) (d₁) t u t₁₄ ?_ (ia_cutE ia (by rw [ol₂]; exact iar) (Nat.le_of_lt al)) H₁₄ ⟨rfl, rfl, rfl, rfl, rfl, rfl, rfl, rfl, rfl, trivial⟩))))
          unfold wstep
          dsimp only
          rw [if_neg hdd, if_neg h92, if_neg hq, if_pos h59, ol₂]
        have h59 : ¬ c.getD a 0 = 59 := by rw [hgd₀]; simpa using h59
        refine wpAny_execs_cons (x_ifc (tc_eqL (ks := [47, 42]) (.tail _ (.head _)) ipv hA'.units (Nat.le_of_ble_eq_true rfl) (fun h H => v_loc H rfl) (fun _ => li_cons v_int (li_cons v_int li_nil se_const) se_const)) H₁₁ (fun hp h₁₂ tk₁₈ H₁₂ => ?_) (fun hp h₁₂ tk₁₈ H₁₂ => ?_))
        · have hp : pairP c a = [47, 42] := by simpa using hp
          have plen := pair_len hp
          refine wpAny_execs_cons (x_cut (e_intsM (ns := [2, 2]) H₁₂ (li_cons v_int (li_cons v_int li_nil se_const) se_const) (Nat.le_of_ble_eq_true rfl) (fun ra rvs h₁₃ tk₁₉ iar H₁₃ => ?_)))
          refine ⟨_, _, _, _, 3, _, _, oa, ra, ovs, rvs, some (a : Int), some ((a + 2 : Nat) : Int), rfl, H₁₃, rfl, rfl, LIn.mem H₁₃ (.tail _ (.head _)), add20 zv (by rw [iar.length]; exact Nat.le_of_ble_eq_true rfl), v_loc H₁₃ rfl, p_some (v_loc H₁₃ rfl).i, p_some (Ev.ci (v_add (v_loc H₁₃ rfl).i v_int) rfl), fun h₁₄ tk₂₀ H₁₄ => ?_⟩
          replace H₁₄ := H₁₄.swap.drop
          refine wpAny_execs_cons (x_swap2 hA'.hd H₁₄ v_int (v_add (v_loc H₁₄ rfl).i v_int) ?_)
          rintro _ _ h₁₅ tk₂₁ ⟨t₁₅, rfl⟩ ⟨t₁₆, rfl⟩ H₁₅
          refine wpAny_execs_nil (wpAny_execs_nil (wpAny_execs_nil (wpAny_execs_nil (wpAny_execs_nil (fin (a + 1) (q₁) (1) t t₁₅ t₁₆ ?_ (ia_cutN ia (by rw [ol₂, min_two plen]; exact iar) (Nat.le_of_lt al) (Nat.le_add_right _ _)) H₁₅ ⟨rfl, rfl, rfl, rfl, rfl, rfl, rfl, rfl, rfl, trivial⟩)))))
          unfold wstep
          dsimp only
          rw [if_neg hdd, if_neg h92, if_neg hq, if_neg h59, if_pos hp]
        have hp : ¬ pairP c a = [47, 42] := by simpa using hp
        refine wpAny_execs_cons (x_ifc (tc_inT (n := n₀) (ks := [34, 39]) (Nat.le_of_ble_eq_true rfl) (fun h H => v_iitem (hcl.lin H) hci (v_loc H rfl) (v_loc H rfl).i zc20 hn₀) (fun _ => li_cons v_int (li_cons v_int li_nil se_const) se_const)) H₁₂ (fun hs h₁₃ tk₁₉ H₁₃ => ?_) (fun hs h₁₃ tk₁₉ H₁₃ => ?_))
        · have hs : c.getD a 0 = 34 ∨ c.getD a 0 = 39 := by rw [hgd₀]; simp at hs; omega
          refine wpAny_execs_cons (x_itemName (k := a) 1 hA'.hd H₁₃ rfl av zv20 v_int (v_iitem (hcl.lin H₁₃) hci (v_loc H₁₃ rfl) (v_loc H₁₃ rfl).i zc20 hn₀) (fun h H => v_loc H rfl) (fun h H => (v_loc H rfl).i) ?_ se_const se_sub)
          rintro _ _ h₁₄ tk₂₀ ⟨t₁₂, rfl⟩ ⟨t₁₃, rfl⟩ H₁₄
          refine wpAny_execs_nil (wpAny_execs_nil (wpAny_execs_nil (wpAny_execs_nil (wpAny_execs_nil (wpAny_execs_nil (fin (a) (n₀) (d₁) t₁₃ u v' ?_ (ia_fill1 (n := 1) (t := t₁₂) (k := a) ia al) H₁₄ ⟨rfl, rfl, rfl, rfl, rfl, rfl, rfl, rfl, rfl, trivial⟩))))))
          unfold wstep
          dsimp only
          rw [if_neg hdd, if_neg h92, if_neg hq, if_neg h59, if_neg hp, if_pos hs, hgd₀]
        · have hs : ¬ (c.getD a 0 = 34 ∨ c.getD a 0 = 39) := by rw [hgd₀]; simp at hs; omega
          refine wpAny_execs_nil (wpAny_execs_nil (wpAny_execs_nil (wpAny_execs_nil (wpAny_execs_nil (wpAny_execs_nil (fin (a) (q₁) (d₁) t u v' ?_ (ia) H₁₃ ⟨rfl, rfl, rfl, rfl, rfl, rfl, rfl, rfl, rfl, trivial⟩))))))
          unfold wstep
          dsimp only
          rw [if_neg hdd, if_neg h92, if_neg hq, if_neg h59, if_neg hp, if_neg hs]
    · have ge : ¬ x.at_ < c.length := by rw [cn] at b; simpa using b
      rw [wloop_end ge] at heq
      obtain ⟨o, ⟨no, rfl⟩, hn, le₂, H₁₀⟩ := H₉.freezeAt (i := 1) rfl
      refine wpAny_execs_cons ?_
      refine wpAny_Expr_any ?_ rfl rfl
      refine e_append ?_ (mcall1 se_name rfl rfl) se_name
      have xo : LIn h₉ ol ows := LIn.mem H₁₀ (.tail _ (.head _))
      refine (v_loc H₁₀ rfl).eq fun tk₁₂ => ⟨ol, ows, rfl, xo, ?_⟩
      refine (v_loc H₁₀ rfl).eq fun tk₁₃ => ?_
      refine ⟨_, _, _, _, _, 1, ows, rfl, H₁₀, rfl, by rw [ol1, sizeLine_eq]; omega, fun h₁₁ H₁₁ => ?_⟩
      replace H₁₁ : HS (hd.heap_39 w.params) (P₅.put oa (listOf ovs.toArray no)) ((L, Cel.frame (KW x.at_ x.q x.d t u v')) :: (ol, .list (ows ++ [.ref oa])) :: (sl, .list (sts ++ [v])) :: rest') h₁₁ := H₁₁
      have eq1 : qAt nests lines (i + 1) = (x.q, x.d) := by rw [qAt, hgd, hqd, heq]
      refine wpAny_execs_nil (tend.next _ (KW x.at_ x.q x.d t u v') [(ol, .list (ows ++ [Value.ref oa])), (sl, .list (sts ++ [v]))] _ _ (le₅.trans le₂) H₁₁ ⟨t, u, _, _, ?_, rfl, hst₆.imp fun _ _ z => z.le le₂, ?_⟩)
      · rw [eq1]; exact ⟨rfl, rfl, rfl, rfl, rfl, rfl, trivial⟩
      · rw [List.range_succ, List.map_append]
        refine (how.imp fun _ _ z => z.le (le₅.trans le₂)).snoc ?_
        refine ⟨oa, ovs, rfl, ⟨no, Part.put_self⟩, ?_⟩
        show IntsAre ovs (ownAt nests lines i)
        rw [ownAt, hgd, hqd, ← heq]
        exact ia
  · rintro P' kn' _ h' tk' le ⟨t, u, sts, ows, kn, rfl, hst, how⟩ H'
    rw [vl] at kn hst how
    obtain ⟨q, d, hqd⟩ : ∃ q d, qAt nests lines lines.length = (q, d) := ⟨_, _, rfl⟩
    rw [hqd] at kn
    replace H' : HS (hd.heap_39 w.params) P' ((L, Cel.frame (KN q d t u)) :: (ol, .list ows) :: (sl, .list sts) :: ms) h' := H'.names kn
    have sl1 : sts.length = lines.length := by rw [hst.length, stK_len]
    refine wpAny_execs_cons (wpAny_Return_some (Tuple_ (i_cons (wpAny_BinOp ?_) se_bin)))
    refine (v_loc H' rfl).eq fun tk₅ => List_ (i_cons (e_abs H' rfl rfl (fun v h₅ P₅ tk₆ le₅ T₅ H₅ => wpAny_items_nil (new_list H₅ (by rw [sizeLine_eq]; exact Nat.le_of_ble_eq_true rfl) fun na h₆ H₆ => ?_)) rfl rfl rfl) se_if)
    refine add_lists H₆ (LIn.mem H₆ (.tail _ (.tail _ (.tail _ (.head _))))) (LIn.mem H₆ (.tail _ (.head _))) (by rw [sl1, sizeLine_eq]; simp; omega) fun ra h₇ H₇ => ?_
    obtain ⟨o, ⟨no, rfl⟩, hn, le₇, H₈⟩ := H₇.freezeAt (i := 3) rfl
    obtain ⟨o, ⟨nr, rfl⟩, hn, le₈, H₉⟩ := H₈.freezeAt (i := 1) rfl
    refine i_cons ((v_loc H₉ rfl).eq fun tk₉ => wpAny_items_nil (new_tup H₉ (by rw [sizeLine_eq]; exact Nat.le_of_ble_eq_true rfl) fun ta h₁₀ P₁₀ le₁₀ pt H₁₀ => ?_)) se_name
    have lt := (le₇.trans le₈).trans le₁₀
    refine qq ta ra _ ol ows P₁₀ _ _ ((le.trans le₅).trans lt) pt (PLst.le ⟨nr, Part.put_self⟩ le₁₀) ?_ (PLst.le ⟨no, Part.put_self⟩ (le₈.trans le₁₀)) (how.imp fun _ _ z => z.le (le₅.trans lt)) H₁₀.drop.drop.drop
    rw [stL, stK_succ, (qAt_ok lines.length).1, hqd]
    exact (hst.imp fun _ _ z => z.le (le₅.trans lt)).snoc (T₅.le lt)
end

section
variable {prog : Program} {w : World} {A : Around} {E : Value → Shared → Prop} {s : Shared} {h : Heap} {tk : Nat} {K : Frag} {P : Part} {ms ex rest : List (Addr × Cel)} {Q : Value → Shared → Prop} {env : Env} {kn : List (Str × Value)}

theorem go_list {target : Expr} {it l : Addr} {i : Nat} {v : Value} {s : Shared} {Q : Unit → Shared → Prop} (x : s.heap.IsListIter it l i) (q : Q () s) : wpAny (model prog w) A (letOwnedTupleGo target (.ref it) v) Q E s := by
  obtain ⟨o, ho, hc, hd⟩ := x
  unfold letOwnedTupleGo
  split
  · split
    · rename_i r a e
      cases e
      refine wpAny_bind (wpAny_load ho ?_)
      rw [hc, hd]
      exact wpAny_pure q
    · exact wpAny_pure q
  · split
    · rename_i r a e
      cases e
      refine wpAny_bind (wpAny_load ho ?_)
      rw [hc, hd]
      exact wpAny_pure q
    · exact wpAny_pure q
  · exact wpAny_pure q
theorem x_unp2 {a b : Str} {pa pb tp pos : Pos} {k : Nat} {e : Expr} {Q : Flow → Shared → Prop} (hh : A.handled = none)
    (p : wpAny (model prog w) A (eval e env) (fun v s₁ => ∃ K P ms kn ta v₁ v₂ h₁ tk₁, v = .ref ta ∧ PTup P ta [v₁, v₂] ∧ s₁ = St s h₁ tk₁ ∧ HS K P ((env.locals, .frame kn) :: ms) h₁ ∧
      ∀ h' tk', HS K P ((env.locals, .frame ((b, v₂) :: (a, v₁) :: kn)) :: ms) h' → Q .next (St s h' tk')) E (St s h tk))
    (hs : swapsWithSole [.Tuple [.Name a pa, .Name b pb] k tp] e pos.line env = pure false := by rfl)
    (hw : swappedStores [.Tuple [.Name a pa, .Name b pb] k tp] e env = pure none := by rfl)
    (hk : env.scope.kind = .function := by rfl) (ha : env.kindOf a = some .local := by rfl) (hb : env.kindOf b = some .local := by rfl) :
    wpAny (model prog w) A (exec (.Assign [.Tuple [.Name a pa, .Name b pb] k tp] e pos) env) Q E (St s h tk) := by
  refine Assign_Tuple (wpAny_mono p (fun v s₁ z => ?_) fun _ _ e => e) hs hw
  obtain ⟨K, P, ms, kn, ta, v₁, v₂, h₁, tk₁, rfl, pt, rfl, H, q⟩ := z
  refine assign_Tuple_tuple (s := St s h₁ tk₁) (items := [v₁, v₂].toArray) hh (pt.isTup H) rfl rfl fun h₃ e₃ => ?_
  have H₃ := H.extN e₃
  show wpAny _ _ (do holding [v₂] (assign (.Name a pa) env v₁); assignInOrder [assign (.Name b pb) env] [v₂]) _ _ (St s h₃ tk₁)
  refine wpAny_bind (wpAny_holding (asg_name H₃ (fun h₄ tk₄ H₄ => ?_) hk ha))
  show wpAny _ _ (do holding [] (assign (.Name b pb) env v₂); assignInOrder [] []) _ _ _
  exact wpAny_bind (wpAny_holding (asg_name H₄ (fun h₇ tk₇ H₇ => wpAny_pure (q h₇ tk₇ H₇)) hk hb))
theorem asg_three {a b c : Str} {pa pb pc tp : Pos} {k : Nat} {ta : Addr} {v₁ v₂ v₃ : Value} {Q : Unit → Shared → Prop} (hh : A.handled = none) (H : HS K P ((env.locals, .frame kn) :: ms) h) (pt : PTup P ta [v₁, v₂, v₃])
    (q : ∀ h' tk', HS K P ((env.locals, .frame ((c, v₃) :: (b, v₂) :: (a, v₁) :: kn)) :: ms) h' → Q () (St s h' tk'))
    (hk : env.scope.kind = .function := by rfl) (ha : env.kindOf a = some .local := by rfl) (hb : env.kindOf b = some .local := by rfl) (hc : env.kindOf c = some .local := by rfl) :
    wpAny (model prog w) A (assign (.Tuple [.Name a pa, .Name b pb, .Name c pc] k tp) env (.ref ta)) Q E (St s h tk) := by
  refine assign_Tuple_tuple (s := St s h tk) (items := [v₁, v₂, v₃].toArray) hh (pt.isTup H) rfl rfl fun h₃ e₃ => ?_
  have H₃ := H.extN e₃
  show wpAny _ _ (do holding [v₂, v₃] (assign (.Name a pa) env v₁); assignInOrder [assign (.Name b pb) env, assign (.Name c pc) env] [v₂, v₃]) _ _ (St s h₃ tk)
  refine wpAny_bind (wpAny_holding (asg_name H₃ (fun h₄ tk₄ H₄ => ?_) hk ha))
  show wpAny _ _ (do holding [v₃] (assign (.Name b pb) env v₂); assignInOrder [assign (.Name c pc) env] [v₃]) _ _ _
  refine wpAny_bind (wpAny_holding (asg_name H₄ (fun h₅ tk₅ H₅ => ?_) hk hb))
  show wpAny _ _ (do holding [] (assign (.Name c pc) env v₃); assignInOrder [] []) _ _ _
  exact wpAny_bind (wpAny_holding (asg_name H₅ (fun h₇ tk₇ H₇ => wpAny_pure (q h₇ tk₇ H₇)) hk hc))
theorem paint_take {own : List Int} {sp : List Span} {j : Nat} {p : Span} (h : sp[j]? = some p) : paint own (sp.take (j + 1)) = fillF (paint own (sp.take j)) p.1.toNat p.2.1.toNat p.2.2 := by
  rw [List.take_succ, h]
  exact paint_snoc

abbrev PJ (K6 : List (Str × Value)) (cells : List (Addr × Cel)) : Nat → Jt := fun _ _ kn ex => Knows kn K6 ∧ ex = cells
set_option maxHeartbeats 4000000 in
theorem right_spec {nests : Bool} {x dx ll sl : Addr} {sv : Value} {vs sts : List Value} {lines : List (List Int)} (H : HS (hd.heap_39 w.params) P ms h) (hm : (dx, Cel.inst [("signs", sv), ("states", .ref sl)]) ∈ ms) (hA : AOk 8 A) (hi : PIns P x 157 dx) (hs : SignsAt P nests sv)
    (hl : PLst P ll vs) (Lk : Lns P vs lines) (hsl : PLst P sl sts) (S : All2 (T2 P) sts (stL nests lines))
    (qq : ∀ P' h' tk', Le P P' → HS (hd.heap_39 w.params) P' ms h' → Q (.bool true) (St s h' tk')) :
    wpAny (model prog w) A (call (.ref 189) [.ref x, sv, .ref ll, .bool nests]) Q E (St s h tk) := by
  walk_at "m enter"
  intro L h₁ tk₁ A' hA' H₁
  replace H₁ := H₁.names (l := [("kept", .ref x), ("signs", sv), ("lines", .ref ll), ("nests", .bool nests)]) ⟨rfl, rfl, rfl, rfl, trivial⟩
  have vl := Lk.len
  have z10 := Lk.2.2
  refine wpAny_execs_cons (x_unp2 hA'.hd ?_)
  refine e_callM (kf_walk _) H₁ (v_glob H₁ (g_walk _)) (m_cons (v_loc H₁ rfl) (m_cons (v_loc H₁ rfl) m_nil se_name) se_name) (fun tk₂ => ?_) se_name rfl
  refine walk_spec H₁ (hA'.le (by decide)) hl Lk fun ta wl wsts ol ows P₂ h₂ tk₃ le₂ pt pw hw po ho H₂ => ?_
  refine ⟨_, _, _, _, _, _, _, _, _, rfl, pt, rfl, H₂, fun h₃ tk₄ H₃ => ?_⟩
  let KN : List (Str × Value) := [("kept", .ref x), ("signs", sv), ("lines", .ref ll), ("nests", .bool nests), ("states", .ref wl), ("sorts", .ref ol)]
  replace H₃ : HS (hd.heap_39 w.params) P₂ ((L, Cel.frame KN) :: ms) h₃ := H₃.names ⟨rfl, rfl, rfl, rfl, rfl, rfl, trivial⟩
  have D₃ := DHas.at H₃ (.tail _ hm)
  refine wpAny_execs_cons (x_if (t_neTs H₃ ((hsl.le le₂).lin H₃) (pw.lin H₃) (S.imp fun _ _ z => z.le le₂) hw hA'.units (v_attr H₃ (hi.le le₂) D₃ (ls_states _) rfl rfl (v_loc H₃ rfl)) (v_loc H₃ rfl)) (fun b tk₅ => ?_) (fun b tk₅ => ?_))
  · simp at b
  refine wpAny_execs_nil ?_
  replace H₃ : HS (hd.heap_39 w.params) P₂ ((L, Cel.frame KN) :: ([] ++ ms)) h₃ := H₃
  refine wpAny_execs_cons (x_forC (v_blt H₃ (b_range _)) (fun tk₆ => (Ev.ci (v_len (v_blt H₃ (b_len _)) (v_loc H₃ rfl) ((hl.le le₂).lin H₃) (line_of vl z10)) (by rw [vl])).int fun tc tk₇ => ?_) ?fs0 se_call)
  case fs0 => intro _; rfl
  refine loopR (rest := ms) (ex := []) (c := lines.length) (PJ KN []) hA'.hd H₃ (by omega) ⟨⟨rfl, rfl, rfl, rfl, rfl, rfl, trivial⟩, rfl⟩ ?_ ?_
  · rintro i ti P' kn _ rest' h' tk' E' QT tend il le ⟨kn, rfl⟩ H'
    replace H' : HS (hd.heap_39 w.params) P' ((L, Cel.frame (("place", .int i ti) :: KN)) :: rest') h' := H'.names ⟨rfl, kn⟩
    have l3 := le₂.trans le
    obtain ⟨cv, hcv⟩ : ∃ cv, vs[i]? = some cv := ⟨_, List.getElem?_eq_getElem (by omega)⟩
    obtain ⟨c, hc, hgd, ic, zc⟩ := Lk.at hcv
    have ic' := ic.le l3
    obtain ⟨cl, cs, rfl, hcl, hci⟩ := ic
    have cn : cs.length = c.length := hci.length
    obtain ⟨stv, hstv, tst⟩ := hw.get (k := i) (stL_get (by omega))
    have ow := ownAt_ok (nests := nests) (lines := lines) i
    rw [hgd] at ow
    obtain ⟨own, sok⟩ := ow
    -- own = [0] * len(lines[place])
    refine wpAny_execs_cons (x_assign (e_rep (k := c.length) H' v_int (fun h H => Ev.ci (v_len (v_blt H (b_len _)) (v_item ((hl.le l3).lin H) (v_loc H rfl) (v_loc H rfl).i (by omega) (by omega) (by simpa using hcv)) ((hcl.le l3).lin H) (line_of cn zc)) (by rw [cn])) (by omega) (fun oa ovs h₄ tk₅ ia lno H₄ => ⟨_, _, _, _, _, _, rfl, H₄, fun h₅ tk₆ H₅ => ?_⟩) se_const))
    let KO : List (Str × Value) := ("own", .ref oa) :: ("place", .int i ti) :: KN
    replace H₅ : HS (hd.heap_39 w.params) P' ((L, Cel.frame KO) :: (oa, .list ovs) :: rest') h₅ := H₅
    -- for start, end, sort in scanned(..)[1]
    refine wpAny_execs_cons (wpAny_For ?_ ?fs)
    case fs => intro _; rfl
    refine e_scan1 H₅ (hA'.le (by decide)) (hs.le l3) ic' (by omega) (tst.le le) (v_glob H₅ (g_scanned _)) (m_cons (v_loc H₅ rfl) (m_cons (v_item ((hl.le l3).lin H₅) (v_loc H₅ rfl) (v_loc H₅ rfl).i (by omega) (by omega) (by simpa using hcv))
      (m_cons (v_item ((pw.le le).lin H₅) (v_loc H₅ rfl) (v_loc H₅ rfl).i (by omega) (by omega) (by simpa using hstv)) m_nil se_sub) se_sub) se_name) (fun P₆ h₆ tk₇ spl sps le₆ H₆ psp hsp => ?_) se_name rfl
    have l6 := l3.trans le₆
    replace H₆ : HS (hd.heap_39 w.params) P₆ ((L, Cel.frame KO) :: ([(oa, .list ovs)] ++ rest')) h₆ := H₆
    refine loop_list (rest := rest') (ex := [(oa, .list ovs)]) (fun j P' kn ex => Knows kn KO ∧ ∃ ovs, ex = [(oa, .list ovs)] ∧ IntsAre ovs (paint (List.replicate c.length 0) ((scanP nests c (stAt nests lines i)).2.take j))) hA'.hd H₆ psp ⟨⟨rfl, rfl, rfl, rfl, rfl, rfl, rfl, rfl, trivial⟩, ovs, rfl, ia⟩
      (fun it i s' Q' E' hit v q => go_list hit q) ?_ ?_
    · rintro j v P₇ kn₇ _ rest₇ h₇ tk₈ E₇ QT₂ tend₂ hv le₇ ⟨kn₇, ovs, rfl, ia⟩ H₇
      obtain ⟨⟨sx, ex, so⟩, hb, tb⟩ := hsp.get' hv
      obtain ⟨ta₇, t1, t2, t3, rfl, pt₇⟩ := tb
      obtain ⟨sp0, sp1, sp2⟩ : SpOk c.length (sx, ex, so) := sok _ (List.mem_of_getElem? hb)
      dsimp only at sp0 sp1 sp2 pt₇
      obtain ⟨sn, rfl⟩ : ∃ n : Nat, sx = n := ⟨sx.toNat, by omega⟩
      obtain ⟨en, rfl⟩ : ∃ n : Nat, ex = n := ⟨ex.toNat, by omega⟩
      refine asg_three hA'.hd H₇ (pt₇.le le₇) fun h₈ tk₉ H₈ => ?_
      replace H₈ : HS (hd.heap_39 w.params) P₇ ((L, Cel.frame (("sort", .int so t3) :: ("end", .int en t2) :: ("start", .int sn t1) :: KO)) :: (oa, .list ovs) :: rest₇) h₈ := H₈.names ⟨rfl, rfl, rfl, kn₇⟩
      have ol : ovs.length = c.length := by rw [ia.length, paint_len]; simp
      have ze : en - sn ≤ 2 ^ 12 := Nat.le_trans (Nat.sub_le ..) (Nat.le_trans (Int.ofNat_le.mp sp2) zc)
      refine wpAny_execs_cons (x_cut (e_rep (k := en - sn) H₈ (v_loc H₈ rfl).i (fun h H => Ev.ci (v_sub (v_loc H rfl).i (v_loc H rfl).i) (Int.ofNat_sub (Int.ofNat_le.mp sp1)).symm) (Nat.le_trans ze (by decide)) (fun ra rvs h₉ tk₁₀ iar lnr H₉ => ?_) se_name))
      refine ⟨_, _, _, _, 2, _, _, oa, ra, ovs, rvs, some (sn : Int), some (en : Int), rfl, H₉, rfl, rfl, LIn.mem H₉ (.tail _ (.head _)), add20 (ol ▸ zc) (lnr ▸ ze), v_loc H₉ rfl, p_some (v_loc H₉ rfl).i, p_some (v_loc H₉ rfl).i, fun h₁₀ tk₁₁ H₁₀ => ?_⟩
      refine wpAny_execs_nil (tend₂.next P₇ _ [(oa, .list (cutPut ovs rvs (kms_lo (some (sn : Int)) ovs.length) (kms_hi (some (en : Int)) ovs.length)))] _ _ .rfl' H₁₀.swap.drop ⟨⟨rfl, rfl, rfl, rfl, rfl, rfl, rfl, rfl, trivial⟩, _, rfl, ?_⟩)
      rw [paint_take hb]
      have pl : (paint (List.replicate c.length 0) ((scanP nests c (stAt nests lines i)).2.take j)).length = c.length := by rw [paint_len]; simp
      exact ia_cutN ia (by rw [pl, Nat.min_eq_left (by omega)]; exact iar) (by rw [pl]; omega) (by omega)
    · rintro P₇ kn₇ _ h₇ tk₈ le₇ ⟨kn₇, ovs, rfl, ia⟩ H₇
      rw [hsp.length, List.take_length, ← own] at ia
      replace H₇ : HS (hd.heap_39 w.params) P₇ ((L, Cel.frame KO) :: (oa, .list ovs) :: rest') h₇ := H₇.names kn₇
      have l7 := l6.trans le₇
      obtain ⟨srt, hsr, isr⟩ := ho.get (k := i) (b := ownAt nests lines i) (by simp [il])
      obtain ⟨sra, srs, rfl, psr, isr⟩ := isr
      have lw := (le.trans le₆).trans le₇
      refine wpAny_execs_cons (x_if (t_neIs (LIn.mem H₇ (.tail _ (.head _))) ((psr.le lw).lin H₇) ia isr hA'.units (v_loc H₇ rfl) (v_item ((po.le lw).lin H₇) (v_loc H₇ rfl) (v_loc H₇ rfl).i (by omega) (by omega) (by simpa using hsr))) (fun b tk₉ => ?_) (fun b tk₉ => ?_))
      · simp at b
      · exact wpAny_execs_nil (wpAny_execs_nil (tend.next P₇ KO [] _ _ (le₆.trans le₇) H₇.swap.drop ⟨⟨rfl, rfl, rfl, rfl, rfl, rfl, trivial⟩, rfl⟩))
  · rintro P' kn _ h' tk' le ⟨kn, rfl⟩ H'
    refine wpAny_execs_cons (x_ret v_bool ?_)
    rintro _ tk₅ rfl
    exact qq _ _ _ (le₂.trans le) H'.drop
end

section
variable {prog : Program} {w : World} {A : Around} {s : Shared} {env : Env} {h : Heap} {tk : Nat} {E : Value → Shared → Prop} {K : Frag} {P : Part} {f : Addr × Cel} {ms ex rest : List (Addr × Cel)} {kn : List (Str × Value)}

theorem HS.two {x y z : Addr × Cel} (H : HS K P (x :: y :: z :: (ex ++ rest)) h) : HS K P (x :: (ex ++ y :: z :: rest)) h :=
  H.perm (List.Perm.cons x ((List.perm_middle.trans (List.Perm.cons _ List.perm_middle)).symm))
theorem HS.untwo {x y z : Addr × Cel} (H : HS K P (x :: (ex ++ y :: z :: rest)) h) : HS K P (x :: y :: z :: (ex ++ rest)) h :=
  H.perm (List.Perm.cons x (List.perm_middle.trans (List.Perm.cons _ List.perm_middle)))

theorem comp_block {elt iter : Expr} {x : Str} {px : Pos} {scope : Scope} {cl : List (Str × Addr)} {pos : Pos} {RR : Value → Addr → Result → Shared → Prop} {I : Addr} {n : Nat} {V : Nat → Value → Prop} {it : Nat → Cel} {Src : Part → Prop} (J : Nat → Part → List Value → List (Addr × Cel) → Prop)
    (W : ItR prog w A K I n V it Src) (hsz : n ≤ 2 ^ 20) (hcell : ∀ y ∈ scope.names, y.2 ≠ .cell) (hkind : scope.kind = .function) (hx : scope.names.lookup x = some .local)
    (H : HS K P ((I, it 0) :: (ex ++ rest)) h) (hs : Src P) (j : J 0 P [] ex)
    (turn : ∀ i v P' ys ex' rest' C h' tk' E', V i v → i < n → Le P P' → J i P' ys ex' → HS K P' ((C, .frame [(x, v)]) :: (ex' ++ rest')) h' →
      wpAny (model prog w) A (eval elt (compEnvC scope cl C env)) (fun y s₂ => ∃ P₂ ex₂ h₂ tk₂, s₂ = St s h₂ tk₂ ∧ Le P' P₂ ∧ HS K P₂ ((C, .frame [(x, v)]) :: (ex₂ ++ rest')) h₂ ∧ J (i + 1) P₂ (ys ++ [y]) ex₂) E' (St s h' tk'))
    (done : ∀ P' ys ex' D C kn h' tk', Le P P' → ys.length = n → J n P' ys ex' → HS K P' ((C, .frame kn) :: (D, .list ys) :: (ex' ++ rest)) h' → RR (.ref D) C (.ok .next) (St s h' tk')) :
    wpAny (model prog w) A (newList []) (fun acc s₃ => wpAny (model prog w) A (newFunctionEnv scope env.globals cl [] env.qual none .none (some env)) (fun cenv s₄ =>
      codeAny (model prog w) A (.compStart (.ListComp elt [⟨.Name x px, iter, [], 0⟩] scope pos) 0 (.ref I) acc { cenv with scope := relabel scope env }) (RR acc cenv.locals) s₄) E s₃) E (St s h tk) := by
  refine wpAny_newObj_type (s := St s h tk) (wpAny_newFunctionEnv hcell (by intro y hy; simp at hy) (fun h₁ hns₁ hsb₁ => ?_) hkind)
  dsimp only [St] at hns₁ hsb₁ ⊢
  have H₀ := H.makeMut (.list []) (listOf #[] 0) ⟨0, rfl⟩
  have H₁ := H₀.makeMut (.raw fun _ => True) { cls := .type "dict", data := .dict #[] } ⟨trivial, rfl⟩
  have H₂ : HS K P ((((h.push (listOf #[] 0)).objs.size : Addr), Cel.frame []) :: ((h.objs.size : Addr), Cel.list []) :: (I, it 0) :: (ex ++ rest)) h₁ := HS.ofNs H₁ hsb₁ hns₁ (by intro y v e; cases e)
  generalize hC : (h.push (listOf #[] 0)).objs.size = C at H₂
  generalize hD : h.objs.size = D at H₂
  have loop : ∀ tk, codeAny (model prog w) A (.compLoop (.ListComp elt [⟨.Name x px, iter, [], 0⟩] scope pos) 0 (.ref I) (.ref D) (compEnvC scope cl C env))
        (RR (.ref D) C) (St s h₁ tk) := by
    intro tk
    refine codeAny_compLoop_tests (fun k s' => ∃ h' tk' i ys P' kn ex', s' = St s h' tk' ∧ i ≤ n ∧ k = n + 1 - i ∧ ys.length = i ∧ Le P P' ∧ HS K P' ((C, .frame kn) :: (D, .list ys) :: (I, it i) :: (ex' ++ rest)) h' ∧ J i P' ys ex') ?_ (n + 1)
      ⟨h₁, tk, 0, [], P, [], ex, rfl, Nat.zero_le _, rfl, rfl, .rfl', H₂, j⟩
    rintro k _ ⟨h', tk', i, ys, P', kn, ex', rfl, hi, rfl, hyl, le, H', j'⟩
    by_cases lt : i < n
    · refine W.next i P' _ s h' tk' _ _ (W.mono _ _ le hs) H'.rot3 lt fun v h₂ tk₂ hv H₃ => ?_
      have H₄ := H₃.tor3
      obtain ⟨m, hn, _⟩ := H₄.ns
      refine wpAny_assign_Name (wpAny_storeName_local (lookup_relabel_local hx) hn (fun h₃ hn₃ hs₃ => ?_) (by simp [compEnvC, relabel, hkind]))
      refine wpAny_tests_nil ?_
      simp only [if_true]
      have H₅ : HS K P' ((C, .frame [(x, v)]) :: (D, .list ys) :: (I, it (i + 1)) :: (ex' ++ rest)) h₃ := H₄.ofNs hs₃ hn₃ (by
        intro y u e
        rw [List.lookup_cons] at e
        by_cases q : y = x
        · subst q; simpa using e
        · rw [beq_eq_false_iff_ne.mpr q] at e; cases e)
      refine wpAny_mono (turn i v P' ys ex' _ C h₃ (tk₂ + 1) _ hv lt le j' H₅.two) (fun y s₄ z => ?_) fun _ _ e => e
      obtain ⟨P₂, ex₂, h₄, tk₄, rfl, le₂, H₆, j₂⟩ := z
      have H₇ := H₆.untwo
      obtain ⟨nn, hl⟩ := H₇.listAt (i := 1) rfl
      refine append_at (s := St s h₄ tk₄) hl (fun h₅ hs₅ hD₅ => ?_) (by rw [List.size_toArray, hyl, sizeLine_eq]; exact Nat.le_trans hi (Nat.le_trans hsz (by decide)))
      refine ⟨n + 1 - (i + 1), meas1 lt, h₅, tk₄, i + 1, ys ++ [y], P₂, [(x, v)], ex₂, rfl, lt, rfl, by simp [hyl], le.trans le₂, ?_, j₂⟩
      exact (H₇.swap.turn (c' := .list (ys ++ [y])) hs₅ _ hD₅ ⟨nn + 1, by simp⟩).swap
    · obtain rfl : i = n := Nat.le_antisymm hi (Nat.not_lt.mp lt)
      refine W.stop P' _ s h' tk' _ _ (W.mono _ _ le hs) H'.rot3 fun h₂ H₃ => ?_
      exact done P' ys ex' D C kn h₂ tk' le hyl j' H₃
  subst hC hD
  exact codeAny_compStart_list (loop _) (W.self 0 P _ s h₁ _ _ _ H₂.rot3 (loop _))

abbrev CompK (prog : Program) (w : World) (A : Around) (E : Value → Shared → Prop) (env : Env) (elt : Expr) (x : Str) (px : Pos) (iter : Expr) (scope : Scope) (cl : List (Str × Addr)) (pos : Pos) (RR : Value → Addr → Result → Shared → Prop) (xv : Value) (s₁ : Shared) : Prop :=
  wpAny (model prog w) A (pyIter xv) (fun it s₂ => wpAny (model prog w) A (newList []) (fun acc s₃ => wpAny (model prog w) A (newFunctionEnv scope env.globals cl [] env.qual none .none (some env)) (fun cenv s₄ =>
      codeAny (model prog w) A (.compStart (.ListComp elt [⟨.Name x px, iter, [], 0⟩] scope pos) 0 it acc { cenv with scope := relabel scope env }) (RR acc cenv.locals) s₄) E s₃) E s₂) E s₁
section
variable {elt iter : Expr} {x : Str} {px : Pos} {scope : Scope} {cl : List (Str × Addr)} {pos : Pos} {RR : Value → Addr → Result → Shared → Prop}
theorem compL {l : Addr} {vs : List Value} (J : Nat → Part → List Value → List (Addr × Cel) → Prop) (hh : A.handled = none) (hsz : vs.length ≤ 2 ^ 20) (H : HS K P (ex ++ rest) h) (hl : PLst P l vs) (j : J 0 P [] ex)
    (turn : ∀ i v P' ys ex' rest' C h' tk' E', vs[i]? = some v → i < vs.length → Le P P' → J i P' ys ex' → HS K P' ((C, .frame [(x, v)]) :: (ex' ++ rest')) h' →
      wpAny (model prog w) A (eval elt (compEnvC scope cl C env)) (fun y s₂ => ∃ P₂ ex₂ h₂ tk₂, s₂ = St s h₂ tk₂ ∧ Le P' P₂ ∧ HS K P₂ ((C, .frame [(x, v)]) :: (ex₂ ++ rest')) h₂ ∧ J (i + 1) P₂ (ys ++ [y]) ex₂) E' (St s h' tk'))
    (done : ∀ P' ys ex' D C kn h' tk', Le P P' → ys.length = vs.length → J vs.length P' ys ex' → HS K P' ((C, .frame kn) :: (D, .list ys) :: (ex' ++ rest)) h' → RR (.ref D) C (.ok .next) (St s h' tk'))
    (hcell : ∀ y ∈ scope.names, y.2 ≠ .cell) (hkind : scope.kind = .function) (hx : scope.names.lookup x = some .local) :
    CompK prog w A E env elt x px iter scope cl pos RR (.ref l) (St s h tk) := by
  refine wpAny_pyIter_list (s := St s h tk) (hl.lin H).isList ?_
  have HI : HS K P ((h.objs.size, isIter l 0) :: (ex ++ rest)) (h.push { cls := .type "list_iterator", data := .fields #[.ref l, .int 0 0] }) := H.makeMut (isIter l 0) _ ⟨⟨rfl, rfl⟩, rfl⟩
  exact comp_block J (itr_list hh) hsz hcell hkind hx HI hl j turn done
theorem compR {c : Nat} {t : Tok} (J : Nat → Part → List Value → List (Addr × Cel) → Prop) (hh : A.handled = none) (hsz : c ≤ 2 ^ 20) (H : HS K P (ex ++ rest) h) (j : J 0 P [] ex)
    (turn : ∀ i v P' ys ex' rest' C h' tk' E', (∃ t, v = .int (i : Nat) t) → i < c → Le P P' → J i P' ys ex' → HS K P' ((C, .frame [(x, v)]) :: (ex' ++ rest')) h' →
      wpAny (model prog w) A (eval elt (compEnvC scope cl C env)) (fun y s₂ => ∃ P₂ ex₂ h₂ tk₂, s₂ = St s h₂ tk₂ ∧ Le P' P₂ ∧ HS K P₂ ((C, .frame [(x, v)]) :: (ex₂ ++ rest')) h₂ ∧ J (i + 1) P₂ (ys ++ [y]) ex₂) E' (St s h' tk'))
    (done : ∀ P' ys ex' D C kn h' tk', Le P P' → ys.length = c → J c P' ys ex' → HS K P' ((C, .frame kn) :: (D, .list ys) :: (ex' ++ rest)) h' → RR (.ref D) C (.ok .next) (St s h' tk'))
    (hcell : ∀ y ∈ scope.names, y.2 ≠ .cell) (hkind : scope.kind = .function) (hx : scope.names.lookup x = some .local) :
    wpAny (model prog w) A (call (.type "range") [.int c t]) (CompK prog w A E env elt x px iter scope cl pos RR) E (St s h tk) := by
  refine call_range H fun r h₁ tk₁ t u v H₁ hr => ?_
  have hz : Builtin.Range.rangeSize 0 (c : Int) 1 = c := by rw [rangeSize_one]; split <;> omega
  refine wpAny_pyIter_range (s := St s h₁ tk₁) hr (small_one (by omega) (by omega) (by omega) (by omega)) ?_
  rw [hz]
  have HI := H₁.makeMut (isRIter 0 c 1) { cls := .type "range_iterator", dict := none, data := .fields #[rawInt 0, rawInt c, rawInt 1], slots := #[] } ⟨rfl, rfl⟩
  exact comp_block J (itr_range hh) hsz hcell hkind hx (by rw [show ((0 : Nat) : Int) = 0 from rfl, Int.sub_zero]; exact HI) trivial j turn done

theorem e_comp {Q : Value → Shared → Prop} {s : Shared} (p : wpAny (model prog w) A (eval iter env) (CompK prog w A E env elt x px iter scope cl pos (fun acc C r s' => compPost (model prog w) A E none Q acc C r s')) E s)
    (hclos : closureFor scope env = pure cl) (hkind : scope.kind = .function) (hnames : ∀ y ∈ scope.names, y.2 = .local → scope.names.lookup y.1 = some .local)
    (hs : ∀ x, foldedSetIterable iter env x = pure x) : wpAny (model prog w) A (eval (.ListComp elt [⟨.Name x px, iter, [], 0⟩] scope pos) env) Q E s := by
  rw [eval_ListComp]
  exact wpAny_comprehension_free (use := none) rfl hs hclos hkind hnames p
theorem x_comp {y : Str} {py spos : Pos} {Q : Flow → Shared → Prop} {s : Shared} (p : wpAny (model prog w) A (eval iter env) (CompK prog w A E env elt x px iter scope cl pos (fun acc C r s' => compPost (model prog w) A E (some (assign (.Name y py) env)) (fun _ s' => Q .next s') acc C r s')) E s)
    (hsw : swapsWith (.ListComp elt [⟨.Name x px, iter, [], 0⟩] scope pos) (some (.Name y py)) spos.line env = pure true)
    (hclos : closureFor scope env = pure cl) (hkind : scope.kind = .function) (hnames : ∀ y ∈ scope.names, y.2 = .local → scope.names.lookup y.1 = some .local)
    (hs : ∀ x, foldedSetIterable iter env x = pure x) : wpAny (model prog w) A (exec (.Assign [.Name y py] (.ListComp elt [⟨.Name x px, iter, [], 0⟩] scope pos) spos) env) Q E s := by
  rw [exec_Assign_Name_used _ _ _ _ hsw]
  refine wpAny_bind (wpAny_standAt (wpAny_bind ?_))
  show wpAny _ A (do let _ ← comprehension (.ListComp elt [⟨.Name x px, iter, [], 0⟩] scope pos) scope env _ (newList []) false (eval iter env) (some (assign (.Name y py) env))) _ _ s
  exact wpAny_bind (wpAny_mono (wpAny_comprehension_free (use := some (assign (.Name y py) env)) (Q := fun _ s' => Q .next s') rfl hs hclos hkind hnames p) (fun _ s' hq => wpAny_pure (wpAny_pure hq)) fun _ _ e => e)
theorem post_val {vs : List Value} {Q : Value → Shared → Prop} {D C : Addr} {kc : List (Str × Value)} (H : HS K P ((C, .frame kc) :: (D, .list vs) :: rest) h) (q : ∀ h', HS K P ((D, .list vs) :: rest) h' → Q (.ref D) (St s h' tk)) :
    compPost (model prog w) A E none Q (.ref D) C (.ok .next) (St s h tk) := by
  obtain ⟨m, hn, _⟩ := H.ns
  exact ⟨m, hn, fun h₃ hs₃ => q h₃ (H.ext hs₃.extBut)⟩
theorem post_name {vs : List Value} {Q : Shared → Prop} {D C : Addr} {kc : List (Str × Value)} {y : Str} {py : Pos} (H : HS K P ((C, .frame kc) :: (D, .list vs) :: (env.locals, .frame kn) :: rest) h)
    (q : ∀ h' tk', HS K P ((env.locals, .frame ((y, .ref D) :: kn)) :: (D, .list vs) :: rest) h' → Q (St s h' tk')) (hk : env.scope.kind = .function) (hy : env.kindOf y = some .local) :
    compPost (model prog w) A E (some (assign (.Name y py) env)) (fun _ s' => Q s') (.ref D) C (.ok .next) (St s h tk) := by
  refine asg_name H.rot3 (fun h₁ tk₁ H₁ => ?_) hk hy
  have H₂ := H₁.swap
  obtain ⟨m, hn, _⟩ := H₂.ns
  exact ⟨m, hn, fun h₃ hs₃ => q h₃ tk₁ (H₂.ext hs₃.extBut)⟩
end
end

theorem aok_law (env : Env) : AOk 40 (callerA.deeper env) := ⟨rfl, by show callerA.depth + 1 + 40 < recursionLimit; decide, by show callerA.units + 3 + 4 * 40 + 64 < cLine; decide⟩
abbrev anyCell : Cel := .raw fun o => ∃ v, o.data = .cell v
abbrev isCell (v : Value) : Cel := .raw fun o => o.data = .cell (some v)
def PCell (P : Part) (c : Addr) (v : Value) : Prop := ∃ o, P c = some o ∧ o.data = .cell (some v)
theorem PCell.le {P P' : Part} {c : Addr} {v : Value} (x : PCell P c v) (e : Le P P') : PCell P' c v := let ⟨o, q, d⟩ := x; ⟨o, e _ _ q, d⟩
section
variable {prog : Program} {w : World} {A : Around} {s : Shared} {env : Env} {h : Heap} {tk : Nat} {E : Value → Shared → Prop} {K : Frag} {P : Part} {f : Addr × Cel} {ms ex rest : List (Addr × Cel)} {kn : List (Str × Value)}
theorem sto_cell {x : Str} {c : Addr} {v : Value} {Q : Unit → Shared → Prop} (H : HS K P ((c, anyCell) :: ms) h) (q : ∀ h', HS K P ((c, isCell v) :: ms) h' → Q () (St s h' tk))
    (hk : env.scope.kind = .function) (hl : env.kindOf x = some .cell) (hc : env.cells.lookup x = some c) : wpAny (model prog w) A (storeName env x v) Q E (St s h tk) := by
  obtain ⟨o, ho, ⟨v₀, hd⟩, _⟩ := H.get
  refine wpAny_storeName_cell (s := St s h tk) hk hl hc ⟨o, ho, hd⟩ fun h' ⟨o', ho', hd'⟩ hs => q h' (H.turn hs o' ho' ⟨hd', ?_⟩)
  obtain ⟨c, d, dt, sl⟩ := o'; dsimp only at hd'; subst hd'; rfl
theorem v_cell {x : Str} {c : Addr} {v : Value} {pos : Pos} (H : HS K P ms h) (pc : PCell P c v) (hc : env.cells.lookup x = some c)
    (hk : env.scope.kind = .function := by rfl) (hl : env.kindOf x = some .cell := by rfl) (hd : (x == ("__debug__" : Str)) = false := by decide) : Ev prog w A s env h (.Name x pos) (v = ·) := fun E tk Q q => by
  obtain ⟨o, ho, e⟩ := pc
  exact wpAny_Name (wpAny_loadName_cell (s := St s h tk) hk hl hc ⟨o, H.has _ _ ho, e⟩ (q _ _ rfl)) hd
theorem x_asgC {a b : Str} {pa pb tp vp pos : Pos} {k k' : Nat} {e₁ e₂ : Expr} {c : Addr} {Q : Flow → Shared → Prop} (hh : A.handled = none)
    (p : wpAny (model prog w) A (spliced (backTo vp (starEach [e₁, e₂] env))) (fun vs s₁ => ∃ K P ms kn v₁ v₂ h₁ tk₁, vs = [v₁, v₂] ∧ s₁ = St s h₁ tk₁ ∧ HS K P ((env.locals, .frame kn) :: (c, anyCell) :: ms) h₁ ∧
      ∀ h' tk', HS K P ((env.locals, .frame ((b, v₂) :: kn)) :: (c, isCell v₁) :: ms) h' → Q .next (St s h' tk')) E (St s h tk))
    (hc : env.cells.lookup a = some c)
    (hs : swapsWithSole [.Tuple [.Name a pa, .Name b pb] k tp] (.Tuple [e₁, e₂] k' vp) pos.line env = pure false := by rfl)
    (hw : swappedStores [.Tuple [.Name a pa, .Name b pb] k tp] (.Tuple [e₁, e₂] k' vp) env = pure none := by rfl)
    (hk : env.scope.kind = .function := by rfl) (ha : env.kindOf a = some .cell := by rfl) (hb : env.kindOf b = some .local := by rfl) :
    wpAny (model prog w) A (exec (.Assign [.Tuple [.Name a pa, .Name b pb] k tp] (.Tuple [e₁, e₂] k' vp) pos) env) Q E (St s h tk) := by
  refine Assign_Tuple (Tuple_ (wpAny_mono p (fun vs s₁ z => ?_) fun _ _ e => e)) hs hw
  obtain ⟨K, P, ms, kn, v₁, v₂, h₁, tk₁, rfl, rfl, H, q⟩ := z
  refine new_tup H (by rw [sizeLine_eq]; exact Nat.le_of_ble_eq_true rfl) fun ta h₂ P₂ le pt H₂ => ?_
  refine assign_Tuple_tuple (s := St s h₂ tk₁) (items := [v₁, v₂].toArray) hh (pt.isTup H₂) rfl rfl fun h₃ e₃ => ?_
  have H₃ := (H₂.extN e₃).unle le H.st
  show wpAny _ _ (do holding [v₂] (assign (.Name a pa) env v₁); assignInOrder [assign (.Name b pb) env] [v₂]) _ _ (St s h₃ tk₁)
  refine wpAny_bind (wpAny_holding (wpAny_assign_Name (sto_cell H₃.swap (fun h₄ H₄ => ?_) hk ha hc)))
  show wpAny _ _ (do holding [] (assign (.Name b pb) env v₂); assignInOrder [] []) _ _ _
  exact wpAny_bind (wpAny_holding (asg_name H₄.swap (fun h₇ tk₇ H₇ => wpAny_pure (q h₇ tk₇ H₇)) hk hb))
theorem e_cutI {f : Addr × Cel} {value : Expr} {lower upper : Option Expr} {p pos : Pos} {l : Addr} {vs : List Value} {lo hi : Option Int} {Q : Value → Shared → Prop} (H : HS K P (f :: ms) h) (x : h.IsList l vs.toArray) (hz : vs.length ≤ 2 ^ 16)
    (pv : Ev prog w A s env h value ((.ref l : Value) = ·)) (pl : EvP prog w A s env h lower lo) (pu : EvP prog w A s env h upper hi)
    (q : ∀ a h' tk', HS K P (f :: (a, .list (kms_pick vs lo hi)) :: ms) h' → Q (.ref a) (St s h' tk')) :
    wpAny (model prog w) A (eval (.Subscript value (.Slice lower upper none p) pos) env) Q E (St s h tk) := by
  refine Subscript_ (pv.eq fun _ => wpAny_Slice (pl _ _ _ fun vl _ il => pu _ _ _ fun vu tk' iu => ?_))
  rw [evalPart_none]
  refine wpAny_pure (tail_any (x.push _).typeIs slot_list_getitem.lookup (wpAny_getItem_list_slice (x.push _) (Heap.IsSliceOf.new ..) il iu .none (by simp) ?_ (by rw [sizeLine_eq]; simp; omega)) rfl)
  have := (H.push { cls := .type "slice", data := .fields #[vl, vu, .none] }).makeMut (.list (kms_pick vs lo hi)) (listOf (kms_pick vs lo hi).toArray 0) ⟨0, rfl⟩
  rw [Heap.size_push] at this
  rw [kms_pick_eq, Heap.size_push]
  exact q _ _ _ this.swap
theorem v_abs {x : Str} {np pos : Pos} {e : Expr} {n : Int} (fb : Ev prog w A s env h (.Name x np) ((.builtin "abs" : Value) = ·)) (p : Ev prog w A s env h e (IsI n)) (hs : starEach [e] env = [(false, eval e env)] := by rfl) :
    Ev prog w A s env h (.Call (.Name x np) [e] [] pos) (IsI (if n < 0 then -n else n)) := fun _ _ _ z => e_call1b (fb.eq fun _ => ⟨rfl, p.int fun _ _ => call_abs fun t tk' => z _ tk' ⟨t, rfl⟩⟩) hs
theorem se_attr {es : List Expr} {o : Expr} {nm : Str} {ep : Pos} : starEach (.Attribute o nm ep :: es) env = (false, eval (.Attribute o nm ep) env) :: starEach es env := rfl
theorem mcall_exN {o : Expr} {es : List Expr} {name : Str} {apos pos : Pos} (he : (backTo pos (starEach es env)).all (!·.1) = true) (hn : es.length < 30) (hp : apos.endLine = pos.line)
   (hb : attributeBase o name env (eval o env) = eval o env) : ∃ pl : Sem Bool, eval (.Call (.Attribute o name apos) es [] pos) env = (do
      let ov ← eval o env
      standAt apos.atName
      let (f, first) ← holding [ov] (getMethod ov name pl)
      callWith pos f first (backTo pos (starEach es env)) (backToKw pos (keywordEach [] env))) := by
  have e0 : eval (.Call (.Attribute o name apos) es [] pos) env = (do
    let ov ← attributeBase o name env (eval o env)
    standAt apos.atName
    methodCall o name apos pos env ov (es.length + 0) (backTo pos (starEach es env)) (backToKw pos (keywordEach [] env))) := rfl
  have hf : methodCallForm (es.length + 0) (backTo pos (starEach es env)) (backToKw pos (keywordEach [] env)) = true := by
    unfold methodCallForm
    rw [he]
    have h0 : backToKw pos (keywordEach [] env) = [] := rfl
    rw [h0]
    simp
    exact hn
  apply Exists.intro
  rw [e0, hb]
  unfold methodCall
  rw [hf]
  unfold methodCallPos
  simp only [hp, Bool.not_true, Bool.false_or, beq_self_eq_true, if_true]
  unfold calleeOf
  simp only [if_true]
  rfl
theorem mcallN {o : Expr} {es : List Expr} {name : Str} {apos pos : Pos} (he : (backTo pos (starEach es env)).all (!·.1) = true) (hn : es.length < 30) (hp : apos.endLine = pos.line)
   (hb : attributeBase o name env (eval o env) = eval o env) : eval (.Call (.Attribute o name apos) es [] pos) env = (do
      let ov ← eval o env
      standAt apos.atName
      let (f, first) ← holding [ov] (getMethod ov name (mcall_exN he hn hp hb).choose)
      callWith pos f first (backTo pos (starEach es env)) (backToKw pos (keywordEach [] env))) := (mcall_exN he hn hp hb).choose_spec
theorem ia_at : ∀ {vs : List Value} {ns : List Int} {i : Nat} {v : Value}, IntsAre vs ns → vs[i]? = some v → ∃ n t, v = .int n t
  | _, _, _, _, .nil, e => by simp at e
  | _, _, 0, _, .cons n t r, e => ⟨n, t, by simpa using e.symm⟩
  | _, _, i + 1, _, .cons n t r, e => ia_at (i := i) r (by simpa using e)
theorem loopR2 {x : Str} {px : Pos} {body : List Stmt} {Q : Flow → Shared → Prop} {a c : Nat} {t u : Tok} (J : Nat → Jt) (hh : A.handled = none)
    (H : HS K P ((env.locals, .frame kn) :: (ex ++ rest)) h) (hac : a ≤ c) (hc : c < 2 ^ 60) (j : J a P kn ex)
    (turn : ∀ i t P' kn' ex' rest' h' tk' E' QT, TEnd K P' s env.locals rest' rest Q (J (i + 1)) QT → a ≤ i → i < c → Le P P' → J i P' kn' ex' → HS K P' ((env.locals, .frame ((x, .int (i : Nat) t) :: kn')) :: (ex' ++ rest')) h' →
      wpAny (model prog w) A (execs body env) QT E' (St s h' tk'))
    (done : ∀ P' kn' ex' h' tk', Le P P' → J c P' kn' ex' → HS K P' ((env.locals, .frame kn') :: (ex' ++ rest)) h' → Q .next (St s h' tk'))
    (hk : env.scope.kind = .function := by rfl) (hx : env.kindOf x = some .local := by rfl) :
    wpAny (model prog w) A (call (.type "range") [.int a t, .int c u]) (ForK prog w A E env (.Name x px) body Q) E (St s h tk) := by
  refine call_range_2 (s := St s h tk) ?_
  have hr := IsRange.new h a c 1 t u tk
  have H₁ := H.push { cls := .type "range", data := .fields #[.int a t, .int c u, .int 1 tk] }
  exact loop_range (s := s) J hh H₁ hr hac hc j (fun i t P' kn' ex' rest' h' tk' E' QT fin ai hi le j' H' => asg_name H' (fun h'' tk'' H'' => turn i t P' kn' ex' rest' h'' tk'' E' QT fin ai hi le j' H'') hk hx) done
theorem x_forC2 {x nm : Str} {px np pos pos' : Pos} {e₁ e₂ : Expr} {body : List Stmt} {Q : Flow → Shared → Prop} {a c : Int} (f : Ev prog w A s env h (.Name nm np) ((.type "range" : Value) = ·)) (p₁ : Ev prog w A s env h e₁ (IsI a)) (p₂ : Ev prog w A s env h e₂ (IsI c))
    (q : ∀ t u tk', wpAny (model prog w) A (call (.type "range") [.int a t, .int c u]) (ForK prog w A E env (.Name x px) body Q) E (St s h tk'))
    (hs : ∀ x, foldedSetIterable (.Call (.Name nm np) [e₁, e₂] [] pos') env x = pure x) (h1 : starEach (e₁ :: [e₂]) env = (false, eval e₁ env) :: starEach [e₂] env) (h2 : starEach (e₂ :: []) env = (false, eval e₂ env) :: starEach [] env) :
    wpAny (model prog w) A (exec (.For (.Name x px) (.Call (.Name nm np) [e₁, e₂] [] pos') body [] pos) env) Q E (St s h tk) := by
  refine wpAny_For ?_ hs
  refine Call_Name rfl (f.eq fun tk₁ => ?_)
  refine Pv.callWith_type1 (wpAny_items_cons (p₁.int fun t tk₂ => wpAny_items_cons (p₂.int fun u tk₃ => wpAny_items_nil (q t u tk₃)) h2) h1) h1 (by rw [h2]; rfl)
end
section
variable {prog : Program} {w : World} {A : Around} {s : Shared} {env : Env} {h : Heap} {tk : Nat} {E : Value → Shared → Prop} {P : Part} {ms : List (Addr × Cel)} {R : Result → Shared → Prop}
theorem signs_init {x dx : Addr} {v₁ v₂ v₃ v₄ v₅ v₆ : Value} (H : HS (hd.heap_39 w.params) P ((dx, .inst []) :: ms) h) (hA : AOk 1 A) (hi : PIns P x 38 dx)
    (q : ∀ h' tk', HS (hd.heap_39 w.params) P ((dx, .inst [("quotes", v₁), ("escape", v₂), ("line_starts", v₃), ("start", v₄), ("end", v₅), ("nests", v₆)]) :: ms) h' → R (.ok (.ret .none)) (St s h' tk')) :
    codeAny (model prog w) A (.call (.ref 35) ⟨[.ref x, v₁, v₂, v₃, v₄, v₅, v₆], []⟩) R (St s h tk) := by
  (refine' code_fn (by assumption) ?ho ?hcd ?hA ?hbind ?hloc ?hcell ?hgo ?hco ?hgen ?hk; (case ho => k_is); (case hcd => k_is); (case hA => assumption); (case hbind => exact rfl); (case hloc => exact locs rfl); (case hcell => decide); (case hco => exact rfl); (case hgen => exact rfl); (case hk => exact rfl))
  intro L h₁ tk₁ A' hA' H₁
  replace H₁ := H₁.names (l := [("self", .ref x), ("quotes", v₁), ("escape", v₂), ("line_starts", v₃), ("start", v₄), ("end", v₅), ("nests", v₆)]) ⟨rfl, rfl, rfl, rfl, rfl, rfl, rfl, trivial⟩
  refine wpAny_execs_cons (x_attr 1 H₁ hi rfl (zsg_quotes _) (Nat.le_of_ble_eq_true rfl) (v_loc H₁ rfl) (v_loc H₁ rfl) ?_)
  rintro _ h₂ tk₂ rfl H₂
  refine wpAny_execs_cons (x_attr 1 H₂ hi rfl (zsg_escape _) (Nat.le_of_ble_eq_true rfl) (v_loc H₂ rfl) (v_loc H₂ rfl) ?_)
  rintro _ h₃ tk₃ rfl H₃
  refine wpAny_execs_cons (x_attr 1 H₃ hi rfl (zsg_line_starts _) (Nat.le_of_ble_eq_true rfl) (v_loc H₃ rfl) (v_loc H₃ rfl) ?_)
  rintro _ h₄ tk₄ rfl H₄
  refine wpAny_execs_cons (x_attr 1 H₄ hi rfl (zsg_start _) (Nat.le_of_ble_eq_true rfl) (v_loc H₄ rfl) (v_loc H₄ rfl) ?_)
  rintro _ h₅ tk₅ rfl H₅
  refine wpAny_execs_cons (x_attr 1 H₅ hi rfl (zsg_end _) (Nat.le_of_ble_eq_true rfl) (v_loc H₅ rfl) (v_loc H₅ rfl) ?_)
  rintro _ h₆ tk₆ rfl H₆
  refine wpAny_execs_cons (x_attr 1 H₆ hi rfl (zsg_nests _) (Nat.le_of_ble_eq_true rfl) (v_loc H₆ rfl) (v_loc H₆ rfl) ?_)
  rintro _ h₇ tk₇ rfl H₇
  exact wpAny_execs_nil (q _ _ H₇.drop)
end

abbrev LJ (L D : Addr) (fr : List (Str × Value)) (ck : List (Addr × Cel)) : Nat → Part → List Value → List (Addr × Cel) → Prop := fun _ P ys ex => ∃ dv lns, ex = (L, .frame fr) :: (ck ++ [(D, .list dv)]) ∧ Dk dv ∧ All2 (IL P) ys lns ∧ ∀ c ∈ lns, c.length ≤ 10
abbrev TJ (nests : Bool) (D : Addr) (KN : Addr → List (Str × Value)) (CK : Addr → Addr × Cel) : Nat → Jt := fun i P kn ex => ∃ ll vs lines sl sts dv, Knows kn (KN ll) ∧ ex = [CK sl, (D, .list dv)] ∧ Dk dv ∧ PLst P ll vs ∧ Lns P vs lines ∧ lines.length ≤ 6 + 2 * i ∧ PLst P sl sts ∧ All2 (T2 P) sts (stL nests lines)
set_option maxHeartbeats 4000000 in
theorem law_holds : PySem.Challenge.rw_np0025_01.Holds := hd (by
  k_go0
  rename_i w s₀ s₁ mg mb G Y fa o pm doc ho hg KX X V GL T B TE TW w10 w9 M w8 w7 hcd w6 hs hlay0 hL1 hr1 hl2 w5 w4 ax vals w1l hL ra wl r0 hI hr hcond hcond' K0 hD h₁ tk₁ F oc ocd N0 X0
  generalize hLL : s₁.heap.objs.size = L at *
  have lenv : w6.length ≤ 63 := by omega
  have HL0 : s₁.heap.get? L = none := Heap.get?_none_of_le (by rw [hLL]; exact Nat.le_refl _)
  obtain ⟨n1, n2, n3⟩ := N0 (L + 1, oc) (.head _)
  have H₁ : HS (hd.heap_39 w.params) (fun a => s₁.heap.get? a) [(L, .frame [("script", .ref ax)]), (L + 1, .raw fun o => ∃ v, o.data = .cell v)] h₁ := by
    refine ⟨⟨KX, s₁.heap, fun _ _ e => e, T.nolimit, ⟨mb, T.b, T.builtins⟩, mg, T.g⟩, F.keep, ?_, ?_⟩
    · intro p hp
      rcases List.mem_cons.mp hp with rfl | hp
      · obtain ⟨o, es, ep, e1, e2, e3, e4⟩ := F.ns
        refine ⟨HL0, o, e1, es, ep, e2, e3, fun x v e => ?_⟩
        rw [e4]
        rw [List.lookup_cons] at e
        by_cases q : x = "script"
        · subst q
          simp only [beq_self_eq_true, Option.some.injEq] at e
          subst e
          rfl
        · rw [beq_eq_false_iff_ne.mpr q] at e; cases e
      · rw [List.mem_singleton.mp hp]
        refine ⟨n3, oc, n1, ⟨_, ocd⟩, ?_⟩
        obtain ⟨c, d, dt, sl⟩ := oc
        dsimp only at ocd
        subst ocd
        rfl
    · simp only [List.map_cons, List.map_nil, List.nodup_cons, List.mem_singleton, List.not_mem_nil, not_false_eq_true, List.nodup_nil, and_true]
      exact fun e => n2 e.symm
  generalize hAe : callerA.deeper _ = A'
  have hA : AOk 40 A' := hAe ▸ aok_law _
  have hlst : h₁.IsList ax vals.toArray := let ⟨o, e, r⟩ := hL; ⟨o, F.keep _ _ e, r⟩
  have vl : vals.length = w6.length := hI.length
  have H₁ : HS (hd.heap_39 w.params) (fun a => s₁.heap.get? a) ((L, .frame [("script", .ref ax)]) :: [(L + 1, anyCell)]) h₁ := H₁
  replace H₁ : HS (hd.heap_39 w.params) (fun a => s₁.heap.get? a) ((L, .frame [("script", .ref ax)]) :: [(L + 1, anyCell)]) h₁ := H₁
  obtain ⟨Q, hQ, hq⟩ : ∃ Q : Flow → Shared → Prop, (∀ f s', Q f s' → f = .ret (.bool true) ∧ ∃ h tk, s' = St s₁ h tk ∧ ∀ a o, s₁.heap.get? a = some o → h.get? a = some o) ∧
      (∀ h tk, (∀ a o, s₁.heap.get? a = some o → h.get? a = some o) → Q (.ret (.bool true)) (St s₁ h tk)) := ⟨fun f s' => f = .ret (.bool true) ∧ ∃ h tk, s' = St s₁ h tk ∧ ∀ a o, s₁.heap.get? a = some o → h.get? a = some o, fun _ _ z => z, fun h tk k => ⟨rfl, h, tk, rfl, k⟩⟩
  refine wpAny_mono (Q := Q) (E := fun _ _ => False) ?body ?ok (fun _ _ e => e.elim)
  case ok =>
    intro f s' z
    obtain ⟨rfl, h', tk', rfl, keep⟩ := hQ _ _ z
    exact ⟨.inl ⟨_, _, [], rfl, fun _ => rfl, ReadsW.bool true, by wrow_post, fun _ => ⟨List.nodup_nil, fun _ hm => (nomatch hm)⟩⟩, keep, rfl, hg⟩
  case body =>
  clear hQ hAe G Y ho hg KX X V GL T B TE TW M hcd hs hlay0 hL1 hr1 hl2 ra wl r0 hr hcond hcond' K0 hD X0
  generalize PySem.Challenge.rw_np0025_01.row.prog = prog
  dsimp only
  -- deck, nests = ([abs(cell) for cell in script[:60]], False)
  refine wpAny_execs_cons (x_asgC (c := L + 1) hA.hd (i_cons (e_comp (cl := []) ?_ rfl rfl ?_ ?_) se_lc) rfl)
  · refine e_cutI (lo := none) (hi := some ((60 : Nat) : Int)) H₁ hlst (by omega) (v_loc H₁ rfl) p_none (p_some (Ev.ci v_int rfl)) fun sa h₂ tk₂ H₂ => ?_
    rw [pick_to] at H₂
    obtain ⟨o₂, ⟨n₂, rfl⟩, hn₂, le₂, H₃⟩ := H₂.freezeAt (i := 1) rfl
    have ia : IntsAre (vals.take 60) (w6.take 60) := ia_take 60 hI
    refine compL (ex := [(L, .frame [("script", .ref ax)]), (L + 1, anyCell)]) (rest := []) (fun i P ys ex => ex = [(L, .frame [("script", .ref ax)]), (L + 1, anyCell)] ∧ ∃ ns, IntsAre ys ns) hA.hd (by simp; omega) H₃ ⟨n₂, Part.put_self⟩ ⟨rfl, [], .nil⟩ ?_ ?_ (by decide) rfl rfl
    · rintro i v P' ys _ rest' C h' tk' E' hv hi le ⟨rfl, ns, iy⟩ H'
      obtain ⟨n, t, rfl⟩ := ia_at ia hv
      refine (v_abs (v_blt H' (b_abs _)) (v_loc H' rfl).i se_name).int fun t' tk'' => ?_
      exact ⟨P', _, h', tk'', rfl, .rfl', H', rfl, _, ia_app iy (.cons _ t' .nil)⟩
    · rintro P' ys _ D C kn h' tk' le hl ⟨rfl, ns, iy⟩ H'
      refine post_val H' fun h₄ H₄ => ?_
      refine i_cons (c_bool (wpAny_items_nil ?_)) se_const
      refine ⟨_, P', [(D, .list ys)], _, .ref D, .bool false, h₄, _, rfl, rfl, H₄.tor3, fun h₅ tk₅ H₅ => ?_⟩
      have dk₀ : Dk ys := ⟨by rw [hl]; simp; omega, ns, iy⟩
      obtain ⟨oc₅, ⟨oc₅d, _⟩, hn₅, le₅, H₆⟩ := H₅.freezeAt (i := 1) rfl
      have l₀ : Le (fun a => s₁.heap.get? a) (P'.put (L + 1) oc₅) := (le₂.trans le).trans le₅
      have pc : PCell (P'.put (L + 1) oc₅) (L + 1) (.ref D) := ⟨oc₅, Part.put_self, oc₅d⟩
      revert l₀ pc H₆
      generalize P'.put (L + 1) oc₅ = P
      intro H₆ l₀ pc
      -- if draw(deck, 2) == 1: nests = True
      refine wpAny_execs_cons (wpAny_mono (Q := fun f s' => f = Flow.next ∧ ∃ (nests : Bool) (dv : List Value) (h' : Heap) (tk' : Nat), s' = St s₁ h' tk' ∧ Dk dv ∧ HS (hd.heap_39 w.params) P [(L, .frame [("nests", .bool nests)]), (D, .list dv)] h') ?mid ?after fun _ _ e => e)
      case mid =>
        refine wpAny_If (wpAny_isTrue_Compare1 (e_callL (kf_draw _) H₆ (v_glob H₆ (g_draw _)) (l_cons (v_cell H₆ pc rfl) (l_cons v_int l_nil se_const) se_name) (fun us tk₆ r => ?_) se_name rfl))
        obtain ⟨v₁, v₂, rfl⟩ : ∃ v₁ v₂, us = [v₁, v₂] := by
          rcases us with _ | ⟨v₁, _ | ⟨v₂, _ | ⟨v₃, us⟩⟩⟩ <;> first | exact ⟨_, _, rfl⟩ | simp [Rl] at r
        obtain ⟨rfl, ⟨t₂, rfl⟩, _⟩ := r
        refine draw_spec 1 H₆ (hA.le (by decide)) rfl dk₀ (by decide) fun k t' dv h₇ tk₇ k0 k2 dk H₇ => v_int.int fun _ _ => i_eq (wpAny_truthy_bool (ite_cases (fun b => ?_) (fun b => ?_)))
        · refine wpAny_execs_cons (x_set H₇ v_bool ?_)
          rintro _ h₈ tk₈ rfl H₈
          exact wpAny_execs_nil ⟨rfl, true, dv, _, _, rfl, dk, H₈.names ⟨rfl, trivial⟩⟩
        · exact wpAny_execs_nil ⟨rfl, false, dv, _, _, rfl, dk, H₇.names ⟨rfl, trivial⟩⟩
      case after =>
        rintro _ _ ⟨rfl, nests, dv, h₇, tk₇, rfl, dk, H₇⟩
        -- signs = Signs(..)
        refine wpAny_execs_cons ?_
        refine x_assign ?_
        refine e_call (K := hd.heap_39 w.params) (f := .ref 38) (mk_Signs _).k ?_ se_list rfl
        refine (v_glob H₇ (g_Signs _)).eq fun tk₈ => ⟨rfl, ?_⟩
        refine i_cons ?_ ?_
        rotate_left
        exact se_list
        refine e_ints (ns := [34, 39]) H₇ (li_cons v_int (li_cons v_int li_nil se_const) se_const) (Nat.le_of_ble_eq_true rfl) fun qv h₈ P₈ tk₈ le₈ il₈ H₈ => ?_
        refine i_cons ?_ ?_
        rotate_left
        exact se_const
        refine c_int fun te tk₉ => ?_
        refine i_cons ?_ ?_
        rotate_left
        exact se_list
        refine List_ ?_
        refine i_cons ?_ ?_
        rotate_left
        exact se_list
        refine e_ints (ns := [59]) H₈ (li_cons v_int li_nil se_const) (Nat.le_of_ble_eq_true rfl) fun l1 h₉ P₉ tk₁₀ le₉ il₉ H₉ => ?_
        refine wpAny_items_nil (new_list H₉ (by rw [sizeLine_eq]; exact Nat.le_of_ble_eq_true rfl) fun ls h₁₀ H₁₀ => ?_)
        obtain ⟨o₁₀, ⟨n₁₀, rfl⟩, hn₁₀, le₁₀, H₁₁⟩ := H₁₀.freezeAt (i := 1) rfl
        refine i_cons ?_ ?_
        rotate_left
        exact se_list
        refine e_ints (ns := [47, 42]) H₁₁ (li_cons v_int (li_cons v_int li_nil se_const) se_const) (Nat.le_of_ble_eq_true rfl) fun stv h₁₂ P₁₂ tk₁₂ le₁₂ il₁₂ H₁₂ => ?_
        refine i_cons ?_ ?_
        rotate_left
        exact se_list
        refine e_ints (ns := [42, 47]) H₁₂ (li_cons v_int (li_cons v_int li_nil se_const) se_const) (Nat.le_of_ble_eq_true rfl) fun env h₁₃ P₁₃ tk₁₃ le₁₃ il₁₃ H₁₃ => ?_
        refine i_cons ?_ ?_
        rotate_left
        exact se_name
        refine (v_loc H₁₃ rfl).eq fun tk₁₄ => wpAny_items_nil ⟨H₁₃.kin, ?_⟩
        refine make_cls H₁₃ (mk_Signs _) fun x dx h₁₄ P₁₄ le₁₄ hi₁₄ H₁₄ => ?_
        refine signs_init H₁₄.swap ((hA.le (by decide)).under (n := 1) (Nat.le_of_ble_eq_true rfl) (Nat.le_of_ble_eq_true rfl)) hi₁₄ fun h₁₅ tk₁₅ H₁₅ => ⟨rfl, ?_⟩
        obtain ⟨o₁₅, ⟨es₁₅, n₁₅, rfl, at₁₅⟩, hn₁₅, le₁₅, H₁₆⟩ := H₁₅.freezeAt (i := 0) rfl
        have sg : SignsAt (P₁₄.put dx (dictOf es₁₅ n₁₅)) nests (.ref x) :=
          ⟨x, dx, qv, te, ls, l1, stv, env, rfl, hi₁₄.le le₁₅, ⟨_, _, Part.put_self, at₁₅⟩, (((((il₈.le le₉).le le₁₀).le le₁₂).le le₁₃).le le₁₄).le le₁₅, PLst.le ⟨n₁₀, Part.put_self⟩ (((le₁₂.trans le₁₃).trans le₁₄).trans le₁₅), ((((il₉.le le₁₀).le le₁₂).le le₁₃).le le₁₄).le le₁₅, ((il₁₂.le le₁₃).le le₁₄).le le₁₅, (il₁₃.le le₁₄).le le₁₅⟩
        have l₁ : Le P (P₁₄.put dx (dictOf es₁₅ n₁₅)) := ((((((le₈.trans le₉).trans le₁₀).trans le₁₂).trans le₁₃).trans le₁₄).trans le₁₅)
        refine ⟨_, _, [(D, .list dv)], _, h₁₅, _, rfl, H₁₆, fun h₁₇ tk₁₇ H₁₇ => ?_⟩
        revert l₁ sg H₁₇
        generalize P₁₄.put dx (dictOf es₁₅ n₁₅) = P₁
        intro sg l₁ H₁₇
        replace H₁₇ : HS (hd.heap_39 w.params) P₁ ([(L, .frame [("signs", .ref x), ("nests", .bool nests)]), (D, .list dv)] ++ []) h₁₇ := H₁₇
        replace pc := pc.le l₁
        replace l₀ := l₀.trans l₁
        -- lines = [_law_line(deck) for turn in range(1 + draw(deck, 6))]
        refine wpAny_execs_cons ?_
        refine x_comp (cl := [("deck", L + 1)]) ?it1 rfl rfl rfl ?nm1 ?fs1
        case nm1 => decide
        case fs1 => intro _; rfl
        case it1 =>
        refine e_call1t (T := "range") ?_ ?_
        rotate_left
        exact se_bin
        refine (v_blt H₁₇ (b_range _)).eq fun tk₁₈ => ⟨rfl, ?_⟩
        refine wpAny_BinOp (c_int fun t₁ tk₁₉ => ?_)
        refine e_callL (kf_draw _) H₁₇ (v_glob H₁₇ (g_draw _)) (l_cons (v_cell H₁₇ pc rfl) (l_cons v_int l_nil se_const) se_name) (fun us tk₂₀ r => ?_) se_name rfl
        obtain ⟨v₁, v₂, rfl⟩ : ∃ v₁ v₂, us = [v₁, v₂] := by
          rcases us with _ | ⟨v₁, _ | ⟨v₂, _ | ⟨v₃, us⟩⟩⟩ <;> first | exact ⟨_, _, rfl⟩ | simp [Rl] at r
        obtain ⟨rfl, ⟨t₂, rfl⟩, _⟩ := r
        refine draw_spec 1 H₁₇ (hA.le (by decide)) rfl dk (by decide) fun k t' dv₁ h₁₈ tk₂₁ k0 k6 dk₁ H₁₈ => i_add fun t'' tk₂₂ => ?_
        obtain ⟨k, rfl⟩ : ∃ c : Nat, k = c := ⟨k.toNat, by omega⟩
        rw [show (1 : Int) + (k : Int) = ((1 + k : Nat) : Int) by omega]
        refine compR (c := 1 + k) (ex := [(L, .frame [("signs", .ref x), ("nests", .bool nests)]), (D, .list dv₁)]) (rest := [])
          (LJ L D [("signs", .ref x), ("nests", .bool nests)] []) hA.hd (by omega) H₁₈ ⟨dv₁, [], rfl, dk₁, .nil, by simp⟩ ?_ ?_ (by decide) rfl rfl
        · rintro i v P' ys _ rest' C h' tk' E' - hi le ⟨dv, lns, rfl, dk, hl, hz⟩ H'
          refine e_callM (kf_line _) H' (v_glob H' (g_line _)) (m_cons (v_cell H' (pc.le le) rfl) m_nil se_name) (fun tk₂₃ => ?_) se_name rfl
          refine line_spec 2 H' (hA.le (by decide)) rfl dk fun lv codes dv₂ P₂ h₂ tk₂ le₂ hc il dk₂ H₂ => ?_
          refine ⟨P₂, [(L, .frame [("signs", .ref x), ("nests", .bool nests)]), (D, .list dv₂)], h₂, tk₂, rfl, le₂, H₂, dv₂, lns ++ [codes], rfl, dk₂, (hl.imp fun _ _ z => z.le le₂).snoc il, ?_⟩
          intro c hc'
          rcases List.mem_append.mp hc' with hc' | hc'
          · exact hz c hc'
          · rw [List.mem_singleton.mp hc']; exact hc
        rintro P' vs _ ll C kn h₁₉ tk₂₃ le₁₉ hlen ⟨dv, lines, rfl, dk, hl, hz⟩ H₁₉
        show compPost _ _ _ _ _ _ _ _ _
        refine post_name (kn := [("signs", .ref x), ("nests", .bool nests)]) (rest := [(D, .list dv)]) H₁₉ (fun h₂₀ tk₂₄ H₂₀ => ?_) ?ph2 ?ph3
        case ph2 => rfl
        case ph3 => rfl
        obtain ⟨o₂₀, ⟨n₂₀, rfl⟩, hn₂₀, le₂₀, H₂₁⟩ := H₂₀.freezeAt (i := 1) rfl
        have l₂ := le₁₉.trans le₂₀
        have pll : PLst (P'.put ll (listOf vs.toArray n₂₀)) ll vs := ⟨n₂₀, Part.put_self⟩
        have Lk : Lns (P'.put ll (listOf vs.toArray n₂₀)) vs lines := ⟨hl.imp fun _ _ z => z.le le₂₀, fun c hc => Nat.le_trans (hz c hc) (by decide), by rw [← hl.length, hlen]; omega⟩
        have ln6 : lines.length ≤ 6 := by rw [← hl.length, hlen]; omega
        revert l₂ pll Lk H₂₁
        generalize P'.put ll (listOf vs.toArray n₂₀) = P₂
        intro H₂₁ l₂ pll Lk
        replace H₂₁ : HS (hd.heap_39 w.params) P₂ ((L, .frame [("lines", .ref ll), ("signs", .ref x), ("nests", .bool nests)]) :: [(D, .list dv)]) h₂₀ := H₂₁
        replace pc := pc.le l₂
        replace l₀ := l₀.trans l₂
        replace sg := sg.le l₂
        -- kept = LineStates(signs, lines)
        refine wpAny_execs_cons (wpAny_Assign_Name (e_callM (mk_LineStates _).k H₂₁ (v_glob H₂₁ (g_LineStates _)) (m_cons (v_loc H₂₁ rfl) (m_cons (v_loc H₂₁ rfl) m_nil se_name) se_name) (fun tk₂₅ => ?_) se_name rfl) rfl)
        refine make_cls H₂₁ (mk_LineStates _) fun kx kdx h₂₂ P₂₂ le₂₂ hi₂₂ H₂₂ => ?_
        refine states_init H₂₂.swap ((hA.le (by decide)).under (n := 8) (Nat.le_of_ble_eq_true rfl) (Nat.le_of_ble_eq_true rfl)) hi₂₂ (sg.le le₂₂) (pll.le le₂₂) (Lk.le le₂₂) fun sl sts P₃ h₂₃ tk₂₆ le₂₃ psl hst H₂₃ => ⟨rfl, ?_⟩
        refine sto H₂₃.swap fun h₂₄ tk₂₇ H₂₄ => ?_
        have l₃ := le₂₂.trans le₂₃
        have hik := hi₂₂.le le₂₃
        replace pc := pc.le l₃
        replace l₀ := l₀.trans l₃
        replace sg := sg.le l₃
        replace pll := pll.le l₃
        replace Lk := Lk.le l₃
        let KN (ll : Addr) : List (Str × Value) := [("kept", .ref kx), ("lines", .ref ll), ("signs", .ref x), ("nests", .bool nests)]
        let CK (sl : Addr) : Addr × Cel := (kdx, .inst [("signs", .ref x), ("states", .ref sl)])
        replace H₂₄ : HS (hd.heap_39 w.params) P₃ ((L, .frame (KN ll)) :: CK sl :: [(D, .list dv)]) h₂₄ := H₂₄
        -- if not _law_right(..)
        refine wpAny_execs_cons ?_
        refine wpAny_If (wpAny_isTrue_Not ?_)
        refine wpAny_isTrue_value ?_
        refine e_callM (kf_right _) H₂₄ (v_glob H₂₄ (g_right _)) (m_cons (v_loc H₂₄ rfl) (m_cons (v_loc H₂₄ rfl) (m_cons (v_loc H₂₄ rfl) (m_cons (v_loc H₂₄ rfl) m_nil se_name) se_name) se_name) se_name) (fun tk₂₈ => ?_) se_name rfl
        refine right_spec H₂₄ (.tail _ (.head _)) (hA.le (by decide)) hik sg pll Lk psl hst fun P₄ h₂₅ tk₂₉ le₂₅ H₂₅ => wpAny_truthy_bool (ite_f (wpAny_execs_nil ?_))
        -- the loop
        refine wpAny_execs_cons ?_
        refine x_forC (v_blt H₂₅ (b_range _)) (fun tk₃₀ => ?_) ?fs2 se_bin
        case fs2 => intro _; rfl
        refine wpAny_BinOp (c_int fun t₁ tk₁₉ => ?_)
        replace pc := pc.le le₂₅
        replace l₀ := l₀.trans le₂₅
        replace sg := sg.le le₂₅
        replace pll := pll.le le₂₅
        replace Lk := Lk.le le₂₅
        replace hik := hik.le le₂₅
        replace psl := psl.le le₂₅
        replace hst : All2 (T2 P₄) sts (stL nests lines) := hst.imp fun _ _ z => z.le le₂₅
        refine e_callL (kf_draw _) H₂₅ (v_glob H₂₅ (g_draw _)) (l_cons (v_cell H₂₅ pc rfl) (l_cons v_int l_nil se_const) se_name) (fun us tk₂₀ r => ?_) se_name rfl
        obtain ⟨v₁, v₂, rfl⟩ : ∃ v₁ v₂, us = [v₁, v₂] := by
          rcases us with _ | ⟨v₁, _ | ⟨v₂, _ | ⟨v₃, us⟩⟩⟩ <;> first | exact ⟨_, _, rfl⟩ | simp [Rl] at r
        obtain ⟨rfl, ⟨t₂, rfl⟩, _⟩ := r
        refine draw_spec 2 H₂₅ (hA.le (by decide)) rfl dk (by decide) fun k t' dv₁ h₁₈ tk₂₁ k0 k6 dk₁ H₁₈ => i_add fun t'' tk₂₂ => ?_
        obtain ⟨k, rfl⟩ : ∃ c : Nat, k = c := ⟨k.toNat, by omega⟩
        rw [show (1 : Int) + (k : Int) = ((1 + k : Nat) : Int) by omega]
        refine loopR (c := 1 + k) (rest := []) (ex := [CK sl, (D, .list dv₁)]) (TJ nests D KN CK)
          hA.hd H₁₈ (by omega) ⟨ll, vs, lines, sl, sts, dv₁, ⟨rfl, rfl, rfl, rfl, trivial⟩, rfl, dk₁, pll, Lk, by omega, psl, hst⟩ ?_ ?_
        rotate_left
        · rintro P' kn _ h' tk' le ⟨ll, vs, lines, sl, sts, dv, kn, rfl, dk, pll, Lk, zl, psl, hst⟩ H'
          refine wpAny_execs_cons (x_ret v_bool ?_)
          rintro _ tk₃₁ rfl
          exact hq h' tk₃₁ fun a o e => H'.has _ _ (le _ _ (l₀ _ _ e))
        rintro i ti P' kn _ rest' h' tk' E' QT tend hi4 le ⟨ll, vs, lines, sl, sts, dv, kn, rfl, dk, pll, Lk, zl0, psl, hst⟩ H'
        replace H' : HS (hd.heap_39 w.params) P' ((L, .frame (KN ll)) :: CK sl :: (D, .list dv) :: rest') h' := H'.names kn
        have pc' := pc.le le
        have sg' := sg.le le
        have hik' := hik.le le
        have vl := Lk.len
        have sl0 : sts.length = lines.length + 1 := by rw [hst.length, stL_len]
        have z14 : lines.length ≤ 12 := by omega
        -- first
        refine wpAny_execs_cons ?_
        refine x_assign ?_
        refine e_callL (kf_draw _) H' (v_glob H' (g_draw _)) (l_cons (v_cell H' pc' rfl) (l_cons (v_add (v_len (v_blt H' (b_len _)) (v_loc H' rfl) (pll.lin H') (line_of vl z14)) v_int) l_nil se_bin) se_name) (fun us tk₁ r => ?_) se_name rfl
        obtain ⟨v₁, v₂, rfl⟩ : ∃ v₁ v₂, us = [v₁, v₂] := by
          rcases us with _ | ⟨v₁, _ | ⟨v₂, _ | ⟨v₃, us⟩⟩⟩ <;> first | exact ⟨_, _, rfl⟩ | simp [Rl] at r
        obtain ⟨rfl, ⟨t₂, rfl⟩, _⟩ := r
        refine draw_spec 2 H' (hA.le (by decide)) rfl dk (by omega) fun f tf dv₁ h₁ tk₁ f0 f1 dk₁ H₁ => ?_
        obtain ⟨f, rfl⟩ : ∃ c : Nat, f = c := ⟨f.toNat, by omega⟩
        refine ⟨_, P', CK sl :: (D, .list dv₁) :: rest', KN ll, h₁, _, rfl, H₁, fun h₂ tk₂ H₂ => ?_⟩
        -- old_many
        refine wpAny_execs_cons ?_
        refine x_assign ?_
        refine e_callL (kf_draw _) H₂ (v_glob H₂ (g_draw _)) (l_cons (v_cell H₂ pc' rfl) (l_cons (v_add (v_sub (v_len (v_blt H₂ (b_len _)) (v_loc H₂ rfl) (pll.lin H₂) (line_of vl z14)) (v_loc H₂ rfl).i) v_int) l_nil se_bin) se_name) (fun us tk₁ r => ?_) se_name rfl
        obtain ⟨v₁, v₂, rfl⟩ : ∃ v₁ v₂, us = [v₁, v₂] := by
          rcases us with _ | ⟨v₁, _ | ⟨v₂, _ | ⟨v₃, us⟩⟩⟩ <;> first | exact ⟨_, _, rfl⟩ | simp [Rl] at r
        obtain ⟨rfl, ⟨t₂, rfl⟩, _⟩ := r
        refine draw_spec 2 H₂ (hA.le (by decide)) rfl dk₁ (by omega) fun o to dv₂ h₃ tk₃ o0 o1 dk₂ H₃ => ?_
        obtain ⟨o, rfl⟩ : ∃ c : Nat, o = c := ⟨o.toNat, by omega⟩
        have fo : f + o ≤ lines.length := by omega
        refine ⟨_, P', CK sl :: (D, .list dv₂) :: rest', ("first", .int f tf) :: KN ll, h₃, _, rfl, H₃, fun h₄ tk₄ H₄ => ?_⟩
        let K2 : List (Str × Value) := ("old_many", .int o to) :: ("first", .int f tf) :: KN ll
        replace H₄ : HS (hd.heap_39 w.params) P' ((L, .frame K2) :: CK sl :: (D, .list dv₂) :: rest') h₄ := H₄
        -- new
        refine wpAny_execs_cons ?_
        refine x_comp (cl := [("deck", L + 1)]) ?it3 rfl rfl rfl ?nm3 ?fs3
        case nm3 => decide
        case fs3 => intro _; rfl
        case it3 =>
        refine e_call1t (T := "range") ?_ ?_
        rotate_left
        exact se_call
        refine (v_blt H₄ (b_range _)).eq fun tk₁₈ => ⟨rfl, ?_⟩
        refine e_callL (kf_draw _) H₄ (v_glob H₄ (g_draw _)) (l_cons (v_cell H₄ pc' rfl) (l_cons v_int l_nil se_const) se_name) (fun us tk₂₀ r => ?_) se_name rfl
        obtain ⟨v₁, v₂, rfl⟩ : ∃ v₁ v₂, us = [v₁, v₂] := by
          rcases us with _ | ⟨v₁, _ | ⟨v₂, _ | ⟨v₃, us⟩⟩⟩ <;> first | exact ⟨_, _, rfl⟩ | simp [Rl] at r
        obtain ⟨rfl, ⟨t₂, rfl⟩, _⟩ := r
        refine draw_spec 2 H₄ (hA.le (by decide)) rfl dk₂ (by decide) fun nk t' dv₃ h₅ tk₅ n0 n3 dk₃ H₅ => ?_
        obtain ⟨nk, rfl⟩ : ∃ c : Nat, nk = c := ⟨nk.toNat, by omega⟩
        refine compR (c := nk) (ex := [(L, .frame K2), CK sl, (D, .list dv₃)]) (rest := rest')
          (LJ L D K2 [CK sl]) hA.hd (by omega) H₅ ⟨dv₃, [], rfl, dk₃, .nil, by simp⟩ ?_ ?_ (by decide) rfl rfl
        · rintro i v P'' ys _ rest'' C h' tk' E' - hi le' ⟨dv, lns, rfl, dk, hl, hz⟩ H'
          refine e_callM (kf_line _) H' (v_glob H' (g_line _)) (m_cons (v_cell H' (pc'.le le') rfl) m_nil se_name) (fun tk₂₃ => ?_) se_name rfl
          refine line_spec 3 H' (hA.le (by decide)) rfl dk fun lv codes dv₂ P₂ h₂ tk₂ le₂ hc il dk₂ H₂ => ?_
          refine ⟨P₂, [(L, .frame K2), CK sl, (D, .list dv₂)], h₂, tk₂, rfl, le₂, H₂, dv₂, lns ++ [codes], rfl, dk₂, (hl.imp fun _ _ z => z.le le₂).snoc il, ?_⟩
          intro c hc'
          rcases List.mem_append.mp hc' with hc' | hc'
          · exact hz c hc'
          · rw [List.mem_singleton.mp hc']; exact hc
        rintro P₆ nvs _ na C knc h₆ tk₆ le₆ hlen ⟨dv, news, rfl, dk, hnl, hnz⟩ H₆
        show compPost _ _ _ _ _ _ _ _ _
        refine post_name (kn := K2) (rest := CK sl :: (D, .list dv) :: rest') H₆ (fun h₇ tk₇ H₇ => ?_) ?ph4 ?ph5
        case ph4 => rfl
        case ph5 => rfl
        obtain ⟨o₂₀, ⟨n₂₀, rfl⟩, hn₂₀, le₂₀, H₈⟩ := H₇.freezeAt (i := 1) rfl
        have pn : PLst (P₆.put na (listOf nvs.toArray n₂₀)) na nvs := ⟨n₂₀, Part.put_self⟩
        replace hnl := hnl.imp fun _ _ z => IL.le z le₂₀
        have l₈ := le₆.trans le₂₀
        revert pn hnl l₈ H₈
        generalize P₆.put na (listOf nvs.toArray n₂₀) = P₈
        intro H₈ pn hnl l₈
        have nln : nvs.length = news.length := hnl.length
        have nl3 : news.length ≤ 2 := by omega
        let K3 : List (Str × Value) := ("new", .ref na) :: K2
        replace H₈ : HS (hd.heap_39 w.params) P₈ ((L, .frame K3) :: CK sl :: (D, .list dv) :: rest') h₇ := H₈
        have D₈ := DHas.at H₈ (.tail _ (.head _))
        replace pll := pll.le l₈
        replace psl := psl.le l₈
        replace Lk := Lk.le l₈
        replace hst : All2 (T2 P₈) sts (stL nests lines) := hst.imp fun _ _ z => z.le l₈
        replace sg' := sg'.le l₈
        replace hik' := hik'.le l₈
        replace pc' := pc'.le l₈
        -- before, behind
        refine wpAny_execs_cons ?_
        refine x_swap2' hA.hd ?_
        refine i_cons ?_ ?_
        rotate_left
        exact se_call
        refine e_call1t (T := "list") ?_ ?_
        rotate_left
        exact se_attr
        refine (v_blt H₈ (b_list _)).eq fun tk₈ => ⟨rfl, ?_⟩
        refine (v_attr H₈ hik' D₈ (ls_states _) rfl rfl (v_loc H₈ rfl)).eq fun tk₉ => ?_
        refine call_list H₈ (psl.lin H₈) (line_of sl0 (Nat.succ_le_succ z14)) fun ba h₉ H₉ => ?_
        refine i_cons ?_ ?_
        rotate_left
        exact se_bin
        refine (v_sub (v_sub (v_len (v_blt H₉ (b_len _)) (v_loc H₉ rfl) (pll.lin H₉) (line_of vl z14)) (v_loc H₉ rfl).i) (v_loc H₉ rfl).i).int fun tb tk₁₀ => wpAny_items_nil ?_
        refine ⟨_, P₈, (ba, .list sts) :: CK sl :: (D, .list dv) :: rest', K3, _, _, h₉, _, rfl, rfl, H₉, fun h₁₀ tk₁₁ H₁₀ => ?_⟩
        obtain ⟨o₁₀, ⟨n₁₀, rfl⟩, hn₁₀, le₁₀, H₁₁⟩ := H₁₀.freezeAt (i := 1) rfl
        have pb : PLst (P₈.put ba (listOf sts.toArray n₁₀)) ba sts := ⟨n₁₀, Part.put_self⟩
        revert pb le₁₀ H₁₁
        generalize P₈.put ba (listOf sts.toArray n₁₀) = P₉
        intro le₁₀ H₁₁ pb
        let K4 : List (Str × Value) := ("before", .ref ba) :: ("behind", .int ((vs.length : Int) - f - o) tb) :: K3
        replace H₁₁ : HS (hd.heap_39 w.params) P₉ ((L, .frame K4) :: CK sl :: (D, .list dv) :: rest') h₁₀ := H₁₁
        replace pll := pll.le le₁₀
        replace psl := psl.le le₁₀
        replace pn := pn.le le₁₀
        replace Lk := Lk.le le₁₀
        replace hnl : All2 (IL P₉) nvs news := hnl.imp fun _ _ z => z.le le₁₀
        replace hst : All2 (T2 P₉) sts (stL nests lines) := hst.imp fun _ _ z => z.le le₁₀
        replace sg' := sg'.le le₁₀
        replace hik' := hik'.le le₁₀
        replace pc' := pc'.le le₁₀
        -- lines = lines[:first] + new + lines[first + old_many:]
        have fo' : f + o ≤ vs.length := vl ▸ fo
        have zz : vs.length + nvs.length ≤ 14 := by rw [vl, nln]; exact Nat.add_le_add z14 nl3
        have zl : lines.length + news.length ≤ lines.length + 2 := Nat.add_le_add_left nl3 _
        refine wpAny_execs_cons ?_
        refine x_assign ?_
        refine wpAny_BinOp ?_
        refine wpAny_BinOp ?_
        refine e_cutA (lo := none) (hi := some (f : Int)) H₁₁ (pll.lin H₁₁) (by omega) (v_loc H₁₁ rfl) p_none (p_some (v_loc H₁₁ rfl).i) fun c1 h₁₂ tk₁₂ H₁₂ => ?_
        rw [pick_to] at H₁₂
        refine (v_loc H₁₂ rfl).eq fun tk₁₃ => ?_
        refine add_lists H₁₂ (LIn.mem H₁₂ (.tail _ (.head _))) (pn.lin H₁₂) (by rw [List.length_take, sizeLine_eq]; exact Nat.le_trans (Nat.add_le_add_right (Nat.min_le_right ..) _) (Nat.le_trans zz (by decide))) fun c2 h₁₃ H₁₃ => ?_
        refine e_cutA (lo := some ((f + o : Nat) : Int)) (hi := none) H₁₃ (pll.lin H₁₃) (by omega) (v_loc H₁₃ rfl) (p_some (Ev.ci (v_add (v_loc H₁₃ rfl).i (v_loc H₁₃ rfl).i) (by omega))) p_none fun c3 h₁₄ tk₁₄ H₁₄ => ?_
        rw [pick_from] at H₁₄
        refine add_lists H₁₄ (LIn.mem H₁₄ (.tail _ (.tail _ (.head _)))) (LIn.mem H₁₄ (.tail _ (.head _))) (by rw [List.length_append, List.length_take, List.length_drop, sizeLine_eq]; exact Nat.le_trans (edit_len fo') (Nat.le_trans zz (by decide))) fun c4 h₁₅ H₁₅ => ?_
        obtain ⟨o₁₅, ⟨n₁₅, rfl⟩, hn₁₅, le₁₅, H₁₆⟩ := H₁₅.freezeAt (i := 1) rfl
        replace H₁₆ := H₁₆.swap.drop.swap.drop.swap.drop
        refine ⟨_, _, CK sl :: (D, .list dv) :: rest', K4, h₁₅, _, rfl, H₁₆, fun h₁₇ tk₁₇ H₁₇ => ?_⟩
        have pl' : PLst (P₉.put c4 (listOf (vs.take f ++ nvs ++ vs.drop (f + o)).toArray n₁₅)) c4 (vs.take f ++ nvs ++ vs.drop (f + o)) := ⟨n₁₅, Part.put_self⟩
        revert pl' le₁₅ H₁₇
        clear H₁₆
        generalize P₉.put c4 (listOf (vs.take f ++ nvs ++ vs.drop (f + o)).toArray n₁₅) = P₁₀
        intro le₁₅ H₁₇ pl'
        have ed : Edit lines (lines.take f ++ news ++ lines.drop (f + o)) f o news.length := edit_of fo
        have Lk' : Lns P₁₀ (vs.take f ++ nvs ++ vs.drop (f + o)) (lines.take f ++ news ++ lines.drop (f + o)) := by
          refine ⟨?_, ?_, ?_⟩
          · have a1 : All2 (IL P₁₀) vs lines := Lk.1.imp fun _ _ z => z.le le₁₅
            have a2 : All2 (IL P₁₀) nvs news := hnl.imp fun _ _ z => z.le le₁₅
            exact ((a1.take f).append a2).append (a1.drop _)
          · intro c hc
            rcases List.mem_append.mp hc with hc | hc
            · rcases List.mem_append.mp hc with hc | hc
              · exact Lk.2.1 c (List.mem_of_mem_take hc)
              · exact Nat.le_trans (hnz c hc) (by decide)
            · exact Lk.2.1 c (List.mem_of_mem_drop hc)
          · simp only [List.length_append, List.length_take, List.length_drop]; exact Nat.le_trans (edit_len fo) (Nat.le_trans (Nat.add_le_add z14 nl3) (by decide))
        have ln' : (lines.take f ++ news ++ lines.drop (f + o)).length ≤ 6 + 2 * (i + 1) := by
          simp only [List.length_append, List.length_take, List.length_drop]; exact Nat.le_trans (edit_len fo) (Nat.le_trans (Nat.add_le_add zl0 nl3) (by rw [Nat.mul_add]; exact Nat.le_refl _))
        have eln := ed.ln
        revert pl' Lk' ed ln' eln
        generalize vs.take f ++ nvs ++ vs.drop (f + o) = vs'
        generalize lines.take f ++ news ++ lines.drop (f + o) = lines'
        intro pl' ed Lk' ln' eln
        have vl' := Lk'.len
        have z16 : lines'.length ≤ 14 := by omega
        let K5 : List (Str × Value) := ("lines", .ref c4) :: K4
        replace H₁₇ : HS (hd.heap_39 w.params) P₁₀ ((L, .frame K5) :: CK sl :: (D, .list dv) :: rest') h₁₇ := H₁₇
        replace psl := psl.le le₁₅
        replace pn := pn.le le₁₅
        replace pb := pb.le le₁₅
        replace hst : All2 (T2 P₁₀) sts (stL nests lines) := hst.imp fun _ _ z => z.le le₁₅
        replace sg' := sg'.le le₁₅
        replace hik' := hik'.le le₁₅
        replace pc' := pc'.le le₁₅
        have D₁₇ := DHas.at H₁₇ (.tail _ (.head _))
        -- end = kept.changed(..)
        refine wpAny_execs_cons ?_
        refine x_assign ?_
        refine e_methL H₁₇ hik' D₁₇ (me_changed _) rfl (v_loc H₁₇ rfl) (fun tk₁₈ => ?_) (mcallN ?m1 ?m2 rfl rfl) se_name ?hp6
        case m1 => rfl
        case m2 => decide
        case hp6 => rfl
        refine EvL.use (l_cons (v_loc H₁₇ rfl) (l_cons (v_loc H₁₇ rfl) (l_cons (v_loc H₁₇ rfl) (l_cons (v_len (v_blt H₁₇ (b_len _)) (v_loc H₁₇ rfl) (pn.lin H₁₇) (line_of nln nl3)) l_nil se_call) se_name) se_name) se_name) fun us tk₁₉ r => ?_
        obtain ⟨v₁, v₂, v₃, v₄, rfl⟩ : ∃ v₁ v₂ v₃ v₄, us = [v₁, v₂, v₃, v₄] := by
          rcases us with _ | ⟨v₁, _ | ⟨v₂, _ | ⟨v₃, _ | ⟨v₄, _ | ⟨v₅, us⟩⟩⟩⟩⟩ <;> first | exact ⟨_, _, _, _, rfl⟩ | simp [Rl] at r
        obtain ⟨rfl, rfl, rfl, ⟨tn, rfl⟩, _⟩ := r
        rw [nln]
        refine ⟨H₁₇.kin, changed_spec H₁₇.swap (hA.le (by decide)) hik' sg' pl' Lk' psl hst ed (Nat.le_trans z14 (by decide)) fun e te sl' sts' P₁₁ h₁₈ tk₂₀ chg le₁₈ psl' hst' H₁₈ => ?_⟩
        refine ⟨_, P₁₁, CK sl' :: (D, .list dv) :: rest', K5, h₁₈, _, rfl, H₁₈.swap, fun h₁₉ tk₂₁ H₁₉ => ?_⟩
        let K6 : List (Str × Value) := [("end", .int e te), ("lines", .ref c4), ("before", .ref ba), ("behind", .int ((vs.length : Int) - f - o) tb), ("new", .ref na), ("old_many", .int o to), ("first", .int f tf), ("kept", .ref kx), ("signs", .ref x), ("nests", .bool nests)]
        replace H₁₉ : HS (hd.heap_39 w.params) P₁₁ ((L, .frame K6) :: CK sl' :: (D, .list dv) :: rest') h₁₉ := H₁₉.names ⟨rfl, rfl, rfl, rfl, rfl, rfl, rfl, rfl, rfl, rfl, trivial⟩
        replace pn := pn.le le₁₈
        replace pb := pb.le le₁₈
        replace pl' := pl'.le le₁₈
        replace Lk' := Lk'.le le₁₈
        replace hst : All2 (T2 P₁₁) sts (stL nests lines) := hst.imp fun _ _ z => z.le le₁₈
        replace sg' := sg'.le le₁₈
        replace hik' := hik'.le le₁₈
        replace pc' := pc'.le le₁₈
        have sl1 : sts'.length = lines'.length + 1 := by rw [hst'.length, stL_len]
        obtain ⟨clo, chi, ceq⟩ := chg
        -- if not _law_right(..) or end < first
        refine wpAny_execs_cons ?_
        refine x_ifc (tc_or (a := false) (b := decide ((e : Int) < (f : Int))) ?tr ?tl) H₁₉ (fun b h₂₀ tk₂₂ H₂₀ => ?_) (fun b h₂₀ tk₂₂ H₂₀ => ?_)
        case tl => exact fun _ => Tc.of fun h H => t_lt (v_loc H rfl).i (v_loc H rfl).i
        case tr =>
          intro E₇ h₇ tk₇ Q₇ H₇ q₇
          refine wpAny_isTrue_Not ?_
          refine wpAny_isTrue_value ?_
          refine e_callM (kf_right _) H₇ (v_glob H₇ (g_right _)) (m_cons (v_loc H₇ rfl) (m_cons (v_loc H₇ rfl) (m_cons (v_loc H₇ rfl) (m_cons (v_loc H₇ rfl) m_nil se_name) se_name) se_name) se_name) (fun tk₂₈ => ?_) se_name rfl
          exact right_spec H₇ (.tail _ (.head _)) (hA.le (by decide)) hik' sg' pl' Lk' psl' hst' fun P₄ h₂₅ tk₂₉ le₂₅ H₂₅ => wpAny_truthy_bool (q₇ _ _ (H₂₅.unle le₂₅ H₇.st))
        · exact absurd (Int.ofNat_lt.mp (by simpa using b)) (Nat.not_lt.mpr (Nat.le_trans (Nat.le_add_right ..) clo))
        refine wpAny_execs_nil ?_
        replace H₂₀ : HS (hd.heap_39 w.params) P₁₁ ((L, .frame K6) :: ([CK sl', (D, .list dv)] ++ rest')) h₂₀ := H₂₀
        -- for place in range(first + len(new), len(lines))
        refine wpAny_execs_cons ?_
        refine x_forC2 (a := ((f + news.length : Nat) : Int)) (c := ((lines'.length : Nat) : Int)) (v_blt H₂₀ (b_range _)) (Ev.ci (v_add (v_loc H₂₀ rfl).i (v_len (v_blt H₂₀ (b_len _)) (v_loc H₂₀ rfl) (pn.lin H₂₀) (line_of nln nl3))) (by rw [nln]; omega))
          (Ev.ci (v_len (v_blt H₂₀ (b_len _)) (v_loc H₂₀ rfl) (pl'.lin H₂₀) (line_of vl' z16)) (by rw [vl'])) (fun t₈ u₈ tk₂₃ => ?_) ?fs8 se_bin se_call
        case fs8 => intro _; rfl
        refine loopR2 (rest := rest') (ex := [CK sl', (D, .list dv)]) (PJ K6 [CK sl', (D, .list dv)]) hA.hd H₂₀ (Nat.le_trans clo chi) (Nat.lt_of_le_of_lt z16 (by decide)) ⟨⟨rfl, rfl, rfl, rfl, rfl, rfl, rfl, rfl, rfl, rfl, trivial⟩, rfl⟩ ?_ ?_
        · rintro j tj P₁₂ kn₉ _ rest₉ h₉ tk₉ E₉ QT₂ tend₂ aj jc le₉ ⟨kn₉, rfl⟩ H₉
          replace H₉ : HS (hd.heap_39 w.params) P₁₂ ((L, .frame (("place", .int j tj) :: K6)) :: CK sl' :: (D, .list dv) :: rest₉) h₉ := H₉.names ⟨rfl, kn₉⟩
          have D₉ := DHas.at H₉ (.tail _ (.head _))
          obtain ⟨u, hu, tu⟩ := hst'.get (k := j) (stL_get (Nat.le_of_lt jc))
          obtain ⟨v, hv, tv⟩ := hst.get (k := lines.length - (lines'.length - j)) (stL_get (Nat.sub_le ..))
          have ix := idx3 sl0 vl' (behind_le eln fo aj) (Nat.le_of_lt jc) (Nat.le_trans z14 (by decide))
          have j63 := int_lt63 (Nat.le_trans (Nat.le_of_lt jc) (Nat.le_trans z16 (by decide)))
          refine wpAny_execs_cons (x_if (t_and (t_neT H₉ (tu.le le₉) (tv.le le₉) hA.units (v_item ((psl'.le le₉).lin H₉) (v_attr H₉ (hik'.le le₉) D₉ (ls_states _) rfl rfl (v_loc H₉ rfl)) (v_loc H₉ rfl).i int_ge0 j63 (by simpa using hu))
            (v_item ((pb.le le₉).lin H₉) (v_loc H₉ rfl) (v_sub (v_sub (v_len (v_blt H₉ (b_len _)) (v_loc H₉ rfl) ((pb.le le₉).lin H₉) (line_of sl0 (Nat.succ_le_succ z14))) v_int) (v_sub (v_len (v_blt H₉ (b_len _)) (v_loc H₉ rfl) ((pl'.le le₉).lin H₉) (line_of vl' z16)) (v_loc H₉ rfl).i))
              ix.1 ix.2.1 (by rw [ix.2.2]; exact hv))) fun _ => t_ge (v_loc H₉ rfl).i (v_loc H₉ rfl).i) (fun b tk₁ => ?_) (fun b tk₁ => ?_))
          · simp only [Bool.and_eq_true, Bool.not_eq_true', decide_eq_false_iff_not, decide_eq_true_eq] at b
            have := ceq j (by omega) jc
            rw [stL_get (Nat.le_of_lt jc), stL_get (Nat.sub_le ..)] at this
            exact absurd (Option.some.inj this) b.1
          · exact wpAny_execs_nil (wpAny_execs_nil (tend₂.next P₁₂ (("place", .int j tj) :: K6) [CK sl', (D, .list dv)] _ _ .rfl' H₉ ⟨⟨rfl, rfl, rfl, rfl, rfl, rfl, rfl, rfl, rfl, rfl, trivial⟩, rfl⟩))
        rintro P₁₂ kn₉ _ h₂₁ tk₂₄ le₉ ⟨kn₉, rfl⟩ H₂₁
        replace H₂₁ : HS (hd.heap_39 w.params) P₁₂ ((L, .frame K6) :: CK sl' :: (D, .list dv) :: rest') h₂₁ := H₂₁.names kn₉
        -- if end < first + len(new) or behind < 0
        refine wpAny_execs_cons (x_if (t_or (t_lt (v_loc H₂₁ rfl).i (v_add (v_loc H₂₁ rfl).i (v_len (v_blt H₂₁ (b_len _)) (v_loc H₂₁ rfl) ((pn.le le₉).lin H₂₁) (line_of nln nl3)))) fun _ => t_lt (v_loc H₂₁ rfl).i v_int) (fun b tk₁ => ?_) (fun b tk₁ => ?_))
        · simp only [Bool.or_eq_true, decide_eq_true_eq] at b; omega
        refine wpAny_execs_nil (wpAny_execs_nil (tend.next P₁₂ K6 [CK sl', (D, .list dv)] _ _ (((l₈.trans le₁₀).trans le₁₅).trans (le₁₈.trans le₉)) H₂₁ ⟨c4, vs', lines', sl', sts', dv, ⟨rfl, rfl, rfl, rfl, trivial⟩, rfl, dk, pl'.le le₉, Lk'.le le₉, ln', psl'.le le₉, hst'.imp fun _ _ z => z.le le₉⟩))
  all_goals (first | decide | (intro _; rfl)))

end Mine

theorem PySem.Challenge.cw_np0025_01_holds : PySem.Challenge.rw_np0025_01.Holds :=
  Mine.law_holds
